/-
  No cell of these rows narrows 'for every input' (looked for: loops, veiled, ifaces, maps, wideKeys, modest, calm, conditions, laid).
  DERIVED. THE GIVEN ROWS OF THIS SEAT. 12 by the template 'for every input the law returns true; each argument reads behind the call as it read before'; 0 by the template 'total and deterministic' (their statements: YtnhleppnhaakgaaTotals.lean).
  GIVEN WITH THE SEED: the statements are not yours to turn. If you find one false, say at which input.
  Laid BY PROGRAM, IN A SANDBOX (cutbox-rows.mjs): the forced cells as the released guide's own fill.sh prints them over the translation 36766e2a53de5e1d… (all of the seat's roots in one cut). By AI agents, Wed Nov 11 2026. No macro, syntax, notation, axiom, sorry.
-/
import Derived.Test.YtnhleppnhaakgaaChecked
import GoSem.Claim
import GoSem.ClaimJoined
import GoSem.ClaimMapViews
import Derived.JoinedTies
import Derived.KernelRfl
namespace Go.Proofs.Ytnhleppnhaakgaa
/- THE CELL 'sum', in the pinned program and in every row, IS THE sha256 OF THE DUMP (.gsa) THAT YtnhleppnhaakgaaProg.lean LOADS. Nothing in Lean hashes anything: it is a label: what it is worth is what the hold of that sum in a sandbox is worth. -/
noncomputable def Try.pinned : Pinned := { name := "ytnhleppnhaakgaa", sum := "36766e2a53de5e1d68d4813ccc1322191e5dc5ea5589d2c460a73420a58e449b", checked := Try.checked }
namespace Rows
def none {H : Type} : Left H := { results := [], args := [] }

/-- 'laws.FnExactLetterOk': WHATEVER THE INPUT: true; the input reads as it did. -/
def fnExactLetterOkSpec : ChangeSpec := { name := "fnExactLetterOk", fn := fun _ => fun
  | [d] => { results := [.lit (.bool true)], args := [d] }
  | _ => none }
def fnExactLetterOkRow : OpenClaim := { program := "ytnhleppnhaakgaa", sum := "36766e2a53de5e1d68d4813ccc1322191e5dc5ea5589d2c460a73420a58e449b", func := "loop.example/g00097/laws.FnExactLetterOk", spec := "fnExactLetterOk", unfollowed := true, recurses := true, apart := false }
def FnExactLetterOkSaid : Prop := fnExactLetterOkRow.holds Try.pinned (OpenSpec.ofChange fnExactLetterOkSpec)

/-- ITS FALSE NEIGHBOUR: 'it returns false'. Refute it at one input. -/
def fnExactLetterOkWrong : ChangeSpec := { name := "fnExactLetterOk", fn := fun _ => fun
  | [d] => { results := [.lit (.bool false)], args := [d] }
  | _ => none }
def FnExactLetterOkWrongFalsely : Prop := fnExactLetterOkRow.holds Try.pinned (OpenSpec.ofChange fnExactLetterOkWrong)

/-- 'laws.FnMoves15': WHATEVER THE INPUT: true; the input reads as it did. -/
def fnMoves15Spec : ChangeSpec := { name := "fnMoves15", fn := fun _ => fun
  | [d] => { results := [.lit (.bool true)], args := [d] }
  | _ => none }
def fnMoves15Row : OpenClaim := { program := "ytnhleppnhaakgaa", sum := "36766e2a53de5e1d68d4813ccc1322191e5dc5ea5589d2c460a73420a58e449b", func := "loop.example/g00097/laws.FnMoves15", spec := "fnMoves15", unfollowed := true, recurses := true, apart := false }
def FnMoves15Said : Prop := fnMoves15Row.holds Try.pinned (OpenSpec.ofChange fnMoves15Spec)

/-- ITS FALSE NEIGHBOUR: 'it returns false'. Refute it at one input. -/
def fnMoves15Wrong : ChangeSpec := { name := "fnMoves15", fn := fun _ => fun
  | [d] => { results := [.lit (.bool false)], args := [d] }
  | _ => none }
def FnMoves15WrongFalsely : Prop := fnMoves15Row.holds Try.pinned (OpenSpec.ofChange fnMoves15Wrong)

/-- 'laws.FnBegunOnce': WHATEVER THE INPUT: true; the input reads as it did. -/
def fnBegunOnceSpec : ChangeSpec := { name := "fnBegunOnce", fn := fun _ => fun
  | [d] => { results := [.lit (.bool true)], args := [d] }
  | _ => none }
def fnBegunOnceRow : OpenClaim := { program := "ytnhleppnhaakgaa", sum := "36766e2a53de5e1d68d4813ccc1322191e5dc5ea5589d2c460a73420a58e449b", func := "loop.example/g00097/laws.FnBegunOnce", spec := "fnBegunOnce", unfollowed := true, recurses := true, apart := false }
def FnBegunOnceSaid : Prop := fnBegunOnceRow.holds Try.pinned (OpenSpec.ofChange fnBegunOnceSpec)

/-- ITS FALSE NEIGHBOUR: 'it returns false'. Refute it at one input. -/
def fnBegunOnceWrong : ChangeSpec := { name := "fnBegunOnce", fn := fun _ => fun
  | [d] => { results := [.lit (.bool false)], args := [d] }
  | _ => none }
def FnBegunOnceWrongFalsely : Prop := fnBegunOnceRow.holds Try.pinned (OpenSpec.ofChange fnBegunOnceWrong)

/-- 'laws.FnExactLockAsk': WHATEVER THE INPUT: true; the input reads as it did. -/
def fnExactLockAskSpec : ChangeSpec := { name := "fnExactLockAsk", fn := fun _ => fun
  | [d1, d2, d3, d4, d5] => { results := [.lit (.bool true)], args := [d1, d2, d3, d4, d5] }
  | _ => none }
def fnExactLockAskRow : OpenClaim := { program := "ytnhleppnhaakgaa", sum := "36766e2a53de5e1d68d4813ccc1322191e5dc5ea5589d2c460a73420a58e449b", func := "loop.example/g00097/laws.FnExactLockAsk", spec := "fnExactLockAsk", inPlace := ["slices.overlaps[int]"], unfollowed := true, recurses := true, apart := false }
def FnExactLockAskSaid : Prop := fnExactLockAskRow.holds Try.pinned (OpenSpec.ofChange fnExactLockAskSpec)

/-- ITS FALSE NEIGHBOUR: 'it returns false'. Refute it at one input. -/
def fnExactLockAskWrong : ChangeSpec := { name := "fnExactLockAsk", fn := fun _ => fun
  | [d1, d2, d3, d4, d5] => { results := [.lit (.bool false)], args := [d1, d2, d3, d4, d5] }
  | _ => none }
def FnExactLockAskWrongFalsely : Prop := fnExactLockAskRow.holds Try.pinned (OpenSpec.ofChange fnExactLockAskWrong)

/-- 'laws.FnWaits': WHATEVER THE INPUT: true; the input reads as it did. -/
def fnWaitsSpec : ChangeSpec := { name := "fnWaits", fn := fun _ => fun
  | [d] => { results := [.lit (.bool true)], args := [d] }
  | _ => none }
def fnWaitsRow : OpenClaim := { program := "ytnhleppnhaakgaa", sum := "36766e2a53de5e1d68d4813ccc1322191e5dc5ea5589d2c460a73420a58e449b", func := "loop.example/g00097/laws.FnWaits", spec := "fnWaits", inPlace := ["slices.overlaps[int]"], unfollowed := true, recurses := true, apart := false }
def FnWaitsSaid : Prop := fnWaitsRow.holds Try.pinned (OpenSpec.ofChange fnWaitsSpec)

/-- ITS FALSE NEIGHBOUR: 'it returns false'. Refute it at one input. -/
def fnWaitsWrong : ChangeSpec := { name := "fnWaits", fn := fun _ => fun
  | [d] => { results := [.lit (.bool false)], args := [d] }
  | _ => none }
def FnWaitsWrongFalsely : Prop := fnWaitsRow.holds Try.pinned (OpenSpec.ofChange fnWaitsWrong)

/-- 'laws.FnExactAtlasSplit': WHATEVER THE INPUT: true; the input reads as it did. -/
def fnExactAtlasSplitSpec : ChangeSpec := { name := "fnExactAtlasSplit", fn := fun _ => fun
  | [d1, d2] => { results := [.lit (.bool true)], args := [d1, d2] }
  | _ => none }
def fnExactAtlasSplitRow : OpenClaim := { program := "ytnhleppnhaakgaa", sum := "36766e2a53de5e1d68d4813ccc1322191e5dc5ea5589d2c460a73420a58e449b", func := "loop.example/g00097/laws.FnExactAtlasSplit", spec := "fnExactAtlasSplit", inPlace := ["slices.overlaps[loop.example/g00097/impl.Part]"], unfollowed := true, recurses := true, apart := false }
def FnExactAtlasSplitSaid : Prop := fnExactAtlasSplitRow.holds Try.pinned (OpenSpec.ofChange fnExactAtlasSplitSpec)

/-- ITS FALSE NEIGHBOUR: 'it returns false'. Refute it at one input. -/
def fnExactAtlasSplitWrong : ChangeSpec := { name := "fnExactAtlasSplit", fn := fun _ => fun
  | [d1, d2] => { results := [.lit (.bool false)], args := [d1, d2] }
  | _ => none }
def FnExactAtlasSplitWrongFalsely : Prop := fnExactAtlasSplitRow.holds Try.pinned (OpenSpec.ofChange fnExactAtlasSplitWrong)

/-- 'laws.FnNoClash': WHATEVER THE INPUT: true; the input reads as it did. -/
def fnNoClashSpec : ChangeSpec := { name := "fnNoClash", fn := fun _ => fun
  | [d] => { results := [.lit (.bool true)], args := [d] }
  | _ => none }
def fnNoClashRow : OpenClaim := { program := "ytnhleppnhaakgaa", sum := "36766e2a53de5e1d68d4813ccc1322191e5dc5ea5589d2c460a73420a58e449b", func := "loop.example/g00097/laws.FnNoClash", spec := "fnNoClash", inPlace := ["slices.overlaps[int]"], unfollowed := true, recurses := true, apart := false }
def FnNoClashSaid : Prop := fnNoClashRow.holds Try.pinned (OpenSpec.ofChange fnNoClashSpec)

/-- ITS FALSE NEIGHBOUR: 'it returns false'. Refute it at one input. -/
def fnNoClashWrong : ChangeSpec := { name := "fnNoClash", fn := fun _ => fun
  | [d] => { results := [.lit (.bool false)], args := [d] }
  | _ => none }
def FnNoClashWrongFalsely : Prop := fnNoClashRow.holds Try.pinned (OpenSpec.ofChange fnNoClashWrong)

/-- 'laws.FnExactCoordWaits': WHATEVER THE INPUT: true; the input reads as it did. -/
def fnExactCoordWaitsSpec : ChangeSpec := { name := "fnExactCoordWaits", fn := fun _ => fun
  | [d1, d2] => { results := [.lit (.bool true)], args := [d1, d2] }
  | _ => none }
def fnExactCoordWaitsRow : OpenClaim := { program := "ytnhleppnhaakgaa", sum := "36766e2a53de5e1d68d4813ccc1322191e5dc5ea5589d2c460a73420a58e449b", func := "loop.example/g00097/laws.FnExactCoordWaits", spec := "fnExactCoordWaits", unfollowed := true, recurses := true, apart := false }
def FnExactCoordWaitsSaid : Prop := fnExactCoordWaitsRow.holds Try.pinned (OpenSpec.ofChange fnExactCoordWaitsSpec)

/-- ITS FALSE NEIGHBOUR: 'it returns false'. Refute it at one input. -/
def fnExactCoordWaitsWrong : ChangeSpec := { name := "fnExactCoordWaits", fn := fun _ => fun
  | [d1, d2] => { results := [.lit (.bool false)], args := [d1, d2] }
  | _ => none }
def FnExactCoordWaitsWrongFalsely : Prop := fnExactCoordWaitsRow.holds Try.pinned (OpenSpec.ofChange fnExactCoordWaitsWrong)

/-- 'laws.FnEndsOnce': WHATEVER THE INPUT: true; the input reads as it did. -/
def fnEndsOnceSpec : ChangeSpec := { name := "fnEndsOnce", fn := fun _ => fun
  | [d] => { results := [.lit (.bool true)], args := [d] }
  | _ => none }
def fnEndsOnceRow : OpenClaim := { program := "ytnhleppnhaakgaa", sum := "36766e2a53de5e1d68d4813ccc1322191e5dc5ea5589d2c460a73420a58e449b", func := "loop.example/g00097/laws.FnEndsOnce", spec := "fnEndsOnce", unfollowed := true, recurses := true, apart := false }
def FnEndsOnceSaid : Prop := fnEndsOnceRow.holds Try.pinned (OpenSpec.ofChange fnEndsOnceSpec)

/-- ITS FALSE NEIGHBOUR: 'it returns false'. Refute it at one input. -/
def fnEndsOnceWrong : ChangeSpec := { name := "fnEndsOnce", fn := fun _ => fun
  | [d] => { results := [.lit (.bool false)], args := [d] }
  | _ => none }
def FnEndsOnceWrongFalsely : Prop := fnEndsOnceRow.holds Try.pinned (OpenSpec.ofChange fnEndsOnceWrong)

/-- 'laws.FnSplit15': WHATEVER THE INPUT: true; the input reads as it did. -/
def fnSplit15Spec : ChangeSpec := { name := "fnSplit15", fn := fun _ => fun
  | [d] => { results := [.lit (.bool true)], args := [d] }
  | _ => none }
def fnSplit15Row : OpenClaim := { program := "ytnhleppnhaakgaa", sum := "36766e2a53de5e1d68d4813ccc1322191e5dc5ea5589d2c460a73420a58e449b", func := "loop.example/g00097/laws.FnSplit15", spec := "fnSplit15", inPlace := ["slices.overlaps[loop.example/g00097/impl.Part]"], unfollowed := true, recurses := true, apart := false }
def FnSplit15Said : Prop := fnSplit15Row.holds Try.pinned (OpenSpec.ofChange fnSplit15Spec)

/-- ITS FALSE NEIGHBOUR: 'it returns false'. Refute it at one input. -/
def fnSplit15Wrong : ChangeSpec := { name := "fnSplit15", fn := fun _ => fun
  | [d] => { results := [.lit (.bool false)], args := [d] }
  | _ => none }
def FnSplit15WrongFalsely : Prop := fnSplit15Row.holds Try.pinned (OpenSpec.ofChange fnSplit15Wrong)

/-- 'laws.FnExactCoordStop': WHATEVER THE INPUT: true; the input reads as it did. -/
def fnExactCoordStopSpec : ChangeSpec := { name := "fnExactCoordStop", fn := fun _ => fun
  | [d1, d2] => { results := [.lit (.bool true)], args := [d1, d2] }
  | _ => none }
def fnExactCoordStopRow : OpenClaim := { program := "ytnhleppnhaakgaa", sum := "36766e2a53de5e1d68d4813ccc1322191e5dc5ea5589d2c460a73420a58e449b", func := "loop.example/g00097/laws.FnExactCoordStop", spec := "fnExactCoordStop", unfollowed := true, recurses := true, apart := false }
def FnExactCoordStopSaid : Prop := fnExactCoordStopRow.holds Try.pinned (OpenSpec.ofChange fnExactCoordStopSpec)

/-- ITS FALSE NEIGHBOUR: 'it returns false'. Refute it at one input. -/
def fnExactCoordStopWrong : ChangeSpec := { name := "fnExactCoordStop", fn := fun _ => fun
  | [d1, d2] => { results := [.lit (.bool false)], args := [d1, d2] }
  | _ => none }
def FnExactCoordStopWrongFalsely : Prop := fnExactCoordStopRow.holds Try.pinned (OpenSpec.ofChange fnExactCoordStopWrong)

/-- 'laws.FnExactCoordCommit': WHATEVER THE INPUT: true; the input reads as it did. -/
def fnExactCoordCommitSpec : ChangeSpec := { name := "fnExactCoordCommit", fn := fun _ => fun
  | [d1, d2, d3] => { results := [.lit (.bool true)], args := [d1, d2, d3] }
  | _ => none }
def fnExactCoordCommitRow : OpenClaim := { program := "ytnhleppnhaakgaa", sum := "36766e2a53de5e1d68d4813ccc1322191e5dc5ea5589d2c460a73420a58e449b", func := "loop.example/g00097/laws.FnExactCoordCommit", spec := "fnExactCoordCommit", unfollowed := true, recurses := true, apart := false }
def FnExactCoordCommitSaid : Prop := fnExactCoordCommitRow.holds Try.pinned (OpenSpec.ofChange fnExactCoordCommitSpec)

/-- ITS FALSE NEIGHBOUR: 'it returns false'. Refute it at one input. -/
def fnExactCoordCommitWrong : ChangeSpec := { name := "fnExactCoordCommit", fn := fun _ => fun
  | [d1, d2, d3] => { results := [.lit (.bool false)], args := [d1, d2, d3] }
  | _ => none }
def FnExactCoordCommitWrongFalsely : Prop := fnExactCoordCommitRow.holds Try.pinned (OpenSpec.ofChange fnExactCoordCommitWrong)

/- THE SECOND FORM. 'bulk': how many values and letters a reading holds, each counted each time it is reached (what is shared counts as often as it is met; a slice's spare places count too). A statement '..UptoSaid' is the law's where the arguments, and the package variables that the reading takes, are together of bulk at most 1048576: NARROWER than '..Said'. Prove '..Said' where nothing that the law and all that it calls make is longer than what came in: it says more and counts as full. Else prove '..UptoSaid'. A law counts once. -/
mutual
def uptoBulk {H : Type} : DataW H → Nat
  | .lit (.string bytes) => bytes.length + 1
  | .lit _ => 1
  | .nil => 1
  | .ptr d => uptoBulk d + 1
  | .slice elems spare => uptoBulkAll elems + uptoBulkAll spare + 1
  | .agg parts => uptoBulkAll parts + 1
  | .iface _ d => uptoBulk d + 1
  | .map entries => uptoBulkEntries entries + 1
  | .held _ => 1
def uptoBulkAll {H : Type} : List (DataW H) → Nat
  | [] => 0
  | d :: r => uptoBulk d + uptoBulkAll r
def uptoBulkEntries {H : Type} : List (Lit × DataW H) → Nat
  | [] => 0
  | x :: r => uptoBulkEntry x + uptoBulkEntries r
def uptoBulkEntry {H : Type} : Lit × DataW H → Nat
  | (.string bytes, d) => bytes.length + uptoBulk d + 1
  | (_, d) => uptoBulk d + 1
 end
def uptoSmall : (H : Type) → List (DataW H) → Bool := fun _ ds => decide (uptoBulkAll ds ≤ 1048576)
def OpenSpec.upto (s : _root_.Go.ChangeSpec) : _root_.Go.OpenSpec := { _root_.Go.OpenSpec.ofChange s with cond := some uptoSmall }

/-- 'laws.FnExactLetterOk', WHERE WHAT IT READS IS OF BULK AT MOST 1048576: true; the input reads as it did. -/
def fnExactLetterOkUptoRow : OpenClaim := { program := "ytnhleppnhaakgaa", sum := "36766e2a53de5e1d68d4813ccc1322191e5dc5ea5589d2c460a73420a58e449b", func := "loop.example/g00097/laws.FnExactLetterOk", spec := "fnExactLetterOk", unfollowed := true, recurses := true, apart := false, narrowed := true }
def FnExactLetterOkUptoSaid : Prop := fnExactLetterOkUptoRow.holds Try.pinned (OpenSpec.upto fnExactLetterOkSpec)

/-- 'laws.FnMoves15', WHERE WHAT IT READS IS OF BULK AT MOST 1048576: true; the input reads as it did. -/
def fnMoves15UptoRow : OpenClaim := { program := "ytnhleppnhaakgaa", sum := "36766e2a53de5e1d68d4813ccc1322191e5dc5ea5589d2c460a73420a58e449b", func := "loop.example/g00097/laws.FnMoves15", spec := "fnMoves15", unfollowed := true, recurses := true, apart := false, narrowed := true }
def FnMoves15UptoSaid : Prop := fnMoves15UptoRow.holds Try.pinned (OpenSpec.upto fnMoves15Spec)

/-- 'laws.FnBegunOnce', WHERE WHAT IT READS IS OF BULK AT MOST 1048576: true; the input reads as it did. -/
def fnBegunOnceUptoRow : OpenClaim := { program := "ytnhleppnhaakgaa", sum := "36766e2a53de5e1d68d4813ccc1322191e5dc5ea5589d2c460a73420a58e449b", func := "loop.example/g00097/laws.FnBegunOnce", spec := "fnBegunOnce", unfollowed := true, recurses := true, apart := false, narrowed := true }
def FnBegunOnceUptoSaid : Prop := fnBegunOnceUptoRow.holds Try.pinned (OpenSpec.upto fnBegunOnceSpec)

/-- 'laws.FnExactLockAsk', WHERE WHAT IT READS IS OF BULK AT MOST 1048576: true; the input reads as it did. -/
def fnExactLockAskUptoRow : OpenClaim := { program := "ytnhleppnhaakgaa", sum := "36766e2a53de5e1d68d4813ccc1322191e5dc5ea5589d2c460a73420a58e449b", func := "loop.example/g00097/laws.FnExactLockAsk", spec := "fnExactLockAsk", inPlace := ["slices.overlaps[int]"], unfollowed := true, recurses := true, apart := false, narrowed := true }
def FnExactLockAskUptoSaid : Prop := fnExactLockAskUptoRow.holds Try.pinned (OpenSpec.upto fnExactLockAskSpec)

/-- 'laws.FnWaits', WHERE WHAT IT READS IS OF BULK AT MOST 1048576: true; the input reads as it did. -/
def fnWaitsUptoRow : OpenClaim := { program := "ytnhleppnhaakgaa", sum := "36766e2a53de5e1d68d4813ccc1322191e5dc5ea5589d2c460a73420a58e449b", func := "loop.example/g00097/laws.FnWaits", spec := "fnWaits", inPlace := ["slices.overlaps[int]"], unfollowed := true, recurses := true, apart := false, narrowed := true }
def FnWaitsUptoSaid : Prop := fnWaitsUptoRow.holds Try.pinned (OpenSpec.upto fnWaitsSpec)

/-- 'laws.FnExactAtlasSplit', WHERE WHAT IT READS IS OF BULK AT MOST 1048576: true; the input reads as it did. -/
def fnExactAtlasSplitUptoRow : OpenClaim := { program := "ytnhleppnhaakgaa", sum := "36766e2a53de5e1d68d4813ccc1322191e5dc5ea5589d2c460a73420a58e449b", func := "loop.example/g00097/laws.FnExactAtlasSplit", spec := "fnExactAtlasSplit", inPlace := ["slices.overlaps[loop.example/g00097/impl.Part]"], unfollowed := true, recurses := true, apart := false, narrowed := true }
def FnExactAtlasSplitUptoSaid : Prop := fnExactAtlasSplitUptoRow.holds Try.pinned (OpenSpec.upto fnExactAtlasSplitSpec)

/-- 'laws.FnNoClash', WHERE WHAT IT READS IS OF BULK AT MOST 1048576: true; the input reads as it did. -/
def fnNoClashUptoRow : OpenClaim := { program := "ytnhleppnhaakgaa", sum := "36766e2a53de5e1d68d4813ccc1322191e5dc5ea5589d2c460a73420a58e449b", func := "loop.example/g00097/laws.FnNoClash", spec := "fnNoClash", inPlace := ["slices.overlaps[int]"], unfollowed := true, recurses := true, apart := false, narrowed := true }
def FnNoClashUptoSaid : Prop := fnNoClashUptoRow.holds Try.pinned (OpenSpec.upto fnNoClashSpec)

/-- 'laws.FnExactCoordWaits', WHERE WHAT IT READS IS OF BULK AT MOST 1048576: true; the input reads as it did. -/
def fnExactCoordWaitsUptoRow : OpenClaim := { program := "ytnhleppnhaakgaa", sum := "36766e2a53de5e1d68d4813ccc1322191e5dc5ea5589d2c460a73420a58e449b", func := "loop.example/g00097/laws.FnExactCoordWaits", spec := "fnExactCoordWaits", unfollowed := true, recurses := true, apart := false, narrowed := true }
def FnExactCoordWaitsUptoSaid : Prop := fnExactCoordWaitsUptoRow.holds Try.pinned (OpenSpec.upto fnExactCoordWaitsSpec)

/-- 'laws.FnEndsOnce', WHERE WHAT IT READS IS OF BULK AT MOST 1048576: true; the input reads as it did. -/
def fnEndsOnceUptoRow : OpenClaim := { program := "ytnhleppnhaakgaa", sum := "36766e2a53de5e1d68d4813ccc1322191e5dc5ea5589d2c460a73420a58e449b", func := "loop.example/g00097/laws.FnEndsOnce", spec := "fnEndsOnce", unfollowed := true, recurses := true, apart := false, narrowed := true }
def FnEndsOnceUptoSaid : Prop := fnEndsOnceUptoRow.holds Try.pinned (OpenSpec.upto fnEndsOnceSpec)

/-- 'laws.FnSplit15', WHERE WHAT IT READS IS OF BULK AT MOST 1048576: true; the input reads as it did. -/
def fnSplit15UptoRow : OpenClaim := { program := "ytnhleppnhaakgaa", sum := "36766e2a53de5e1d68d4813ccc1322191e5dc5ea5589d2c460a73420a58e449b", func := "loop.example/g00097/laws.FnSplit15", spec := "fnSplit15", inPlace := ["slices.overlaps[loop.example/g00097/impl.Part]"], unfollowed := true, recurses := true, apart := false, narrowed := true }
def FnSplit15UptoSaid : Prop := fnSplit15UptoRow.holds Try.pinned (OpenSpec.upto fnSplit15Spec)

/-- 'laws.FnExactCoordStop', WHERE WHAT IT READS IS OF BULK AT MOST 1048576: true; the input reads as it did. -/
def fnExactCoordStopUptoRow : OpenClaim := { program := "ytnhleppnhaakgaa", sum := "36766e2a53de5e1d68d4813ccc1322191e5dc5ea5589d2c460a73420a58e449b", func := "loop.example/g00097/laws.FnExactCoordStop", spec := "fnExactCoordStop", unfollowed := true, recurses := true, apart := false, narrowed := true }
def FnExactCoordStopUptoSaid : Prop := fnExactCoordStopUptoRow.holds Try.pinned (OpenSpec.upto fnExactCoordStopSpec)

/-- 'laws.FnExactCoordCommit', WHERE WHAT IT READS IS OF BULK AT MOST 1048576: true; the input reads as it did. -/
def fnExactCoordCommitUptoRow : OpenClaim := { program := "ytnhleppnhaakgaa", sum := "36766e2a53de5e1d68d4813ccc1322191e5dc5ea5589d2c460a73420a58e449b", func := "loop.example/g00097/laws.FnExactCoordCommit", spec := "fnExactCoordCommit", unfollowed := true, recurses := true, apart := false, narrowed := true }
def FnExactCoordCommitUptoSaid : Prop := fnExactCoordCommitUptoRow.holds Try.pinned (OpenSpec.upto fnExactCoordCommitSpec)

end Rows
end Go.Proofs.Ytnhleppnhaakgaa
