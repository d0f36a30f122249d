/-
  No cell of these rows narrows 'for every input' (looked for: loops, veiled, ifaces, maps, wideKeys, modest, calm, conditions, laid).
  DERIVED. THE GIVEN ROWS OF THIS SEAT. 11 by the template 'for every input the law returns true; each argument reads behind the call as it read before'; 0 by the template 'total and deterministic' (their statements: YtpnkbfanecbmgaaTotals.lean).
  GIVEN WITH THE SEED: the statements are not yours to turn. If you find one false, say at which input.
  Laid BY PROGRAM, IN A SANDBOX (cutbox-rows.mjs): the forced cells as the released guide's own fill.sh prints them over the translation f8ddf8207b201855… (all of the seat's roots in one cut). By AI agents, Wed Nov 11 2026. No macro, syntax, notation, axiom, sorry.
-/
import Derived.Test.YtpnkbfanecbmgaaChecked
import GoSem.Claim
import GoSem.ClaimJoined
import GoSem.ClaimMapViews
import Derived.JoinedTies
import Derived.KernelRfl
namespace Go.Proofs.Ytpnkbfanecbmgaa
/- THE CELL 'sum', in the pinned program and in every row, IS THE sha256 OF THE DUMP (.gsa) THAT YtpnkbfanecbmgaaProg.lean LOADS. Nothing in Lean hashes anything: it is a label: what it is worth is what the hold of that sum in a sandbox is worth. -/
noncomputable def Try.pinned : Pinned := { name := "ytpnkbfanecbmgaa", sum := "f8ddf8207b201855bacbf93580c907f89d62f404416360f1b527299d1961d55a", checked := Try.checked }
namespace Rows
def none {H : Type} : Left H := { results := [], args := [] }

/-- 'laws.FnExactSharesOk': WHATEVER THE INPUT: true; the input reads as it did. -/
def fnExactSharesOkSpec : ChangeSpec := { name := "fnExactSharesOk", fn := fun _ => fun
  | [d] => { results := [.lit (.bool true)], args := [d] }
  | _ => none }
def fnExactSharesOkRow : OpenClaim := { program := "ytpnkbfanecbmgaa", sum := "f8ddf8207b201855bacbf93580c907f89d62f404416360f1b527299d1961d55a", func := "loop.example/g00097/laws.FnExactSharesOk", spec := "fnExactSharesOk", unfollowed := true, recurses := true, apart := false }
def FnExactSharesOkSaid : Prop := fnExactSharesOkRow.holds Try.pinned (OpenSpec.ofChange fnExactSharesOkSpec)

/-- ITS FALSE NEIGHBOUR: 'it returns false'. Refute it at one input. -/
def fnExactSharesOkWrong : ChangeSpec := { name := "fnExactSharesOk", fn := fun _ => fun
  | [d] => { results := [.lit (.bool false)], args := [d] }
  | _ => none }
def FnExactSharesOkWrongFalsely : Prop := fnExactSharesOkRow.holds Try.pinned (OpenSpec.ofChange fnExactSharesOkWrong)

/-- 'laws.FnExactAtlasOk': WHATEVER THE INPUT: true; the input reads as it did. -/
def fnExactAtlasOkSpec : ChangeSpec := { name := "fnExactAtlasOk", fn := fun _ => fun
  | [d] => { results := [.lit (.bool true)], args := [d] }
  | _ => none }
def fnExactAtlasOkRow : OpenClaim := { program := "ytpnkbfanecbmgaa", sum := "f8ddf8207b201855bacbf93580c907f89d62f404416360f1b527299d1961d55a", func := "loop.example/g00097/laws.FnExactAtlasOk", spec := "fnExactAtlasOk", unfollowed := true, recurses := true, apart := false }
def FnExactAtlasOkSaid : Prop := fnExactAtlasOkRow.holds Try.pinned (OpenSpec.ofChange fnExactAtlasOkSpec)

/-- ITS FALSE NEIGHBOUR: 'it returns false'. Refute it at one input. -/
def fnExactAtlasOkWrong : ChangeSpec := { name := "fnExactAtlasOk", fn := fun _ => fun
  | [d] => { results := [.lit (.bool false)], args := [d] }
  | _ => none }
def FnExactAtlasOkWrongFalsely : Prop := fnExactAtlasOkRow.holds Try.pinned (OpenSpec.ofChange fnExactAtlasOkWrong)

/-- 'laws.FnExactAtlasOwner': WHATEVER THE INPUT: true; the input reads as it did. -/
def fnExactAtlasOwnerSpec : ChangeSpec := { name := "fnExactAtlasOwner", fn := fun _ => fun
  | [d1, d2] => { results := [.lit (.bool true)], args := [d1, d2] }
  | _ => none }
def fnExactAtlasOwnerRow : OpenClaim := { program := "ytpnkbfanecbmgaa", sum := "f8ddf8207b201855bacbf93580c907f89d62f404416360f1b527299d1961d55a", func := "loop.example/g00097/laws.FnExactAtlasOwner", spec := "fnExactAtlasOwner", unfollowed := true, recurses := true, apart := false }
def FnExactAtlasOwnerSaid : Prop := fnExactAtlasOwnerRow.holds Try.pinned (OpenSpec.ofChange fnExactAtlasOwnerSpec)

/-- ITS FALSE NEIGHBOUR: 'it returns false'. Refute it at one input. -/
def fnExactAtlasOwnerWrong : ChangeSpec := { name := "fnExactAtlasOwner", fn := fun _ => fun
  | [d1, d2] => { results := [.lit (.bool false)], args := [d1, d2] }
  | _ => none }
def FnExactAtlasOwnerWrongFalsely : Prop := fnExactAtlasOwnerRow.holds Try.pinned (OpenSpec.ofChange fnExactAtlasOwnerWrong)

/-- 'laws.FnExactClientOk': WHATEVER THE INPUT: true; the input reads as it did. -/
def fnExactClientOkSpec : ChangeSpec := { name := "fnExactClientOk", fn := fun _ => fun
  | [d] => { results := [.lit (.bool true)], args := [d] }
  | _ => none }
def fnExactClientOkRow : OpenClaim := { program := "ytpnkbfanecbmgaa", sum := "f8ddf8207b201855bacbf93580c907f89d62f404416360f1b527299d1961d55a", func := "loop.example/g00097/laws.FnExactClientOk", spec := "fnExactClientOk", unfollowed := true, recurses := true, apart := false }
def FnExactClientOkSaid : Prop := fnExactClientOkRow.holds Try.pinned (OpenSpec.ofChange fnExactClientOkSpec)

/-- ITS FALSE NEIGHBOUR: 'it returns false'. Refute it at one input. -/
def fnExactClientOkWrong : ChangeSpec := { name := "fnExactClientOk", fn := fun _ => fun
  | [d] => { results := [.lit (.bool false)], args := [d] }
  | _ => none }
def FnExactClientOkWrongFalsely : Prop := fnExactClientOkRow.holds Try.pinned (OpenSpec.ofChange fnExactClientOkWrong)

/-- 'laws.FnExactCoordOk': WHATEVER THE INPUT: true; the input reads as it did. -/
def fnExactCoordOkSpec : ChangeSpec := { name := "fnExactCoordOk", fn := fun _ => fun
  | [d] => { results := [.lit (.bool true)], args := [d] }
  | _ => none }
def fnExactCoordOkRow : OpenClaim := { program := "ytpnkbfanecbmgaa", sum := "f8ddf8207b201855bacbf93580c907f89d62f404416360f1b527299d1961d55a", func := "loop.example/g00097/laws.FnExactCoordOk", spec := "fnExactCoordOk", unfollowed := true, recurses := true, apart := false }
def FnExactCoordOkSaid : Prop := fnExactCoordOkRow.holds Try.pinned (OpenSpec.ofChange fnExactCoordOkSpec)

/-- ITS FALSE NEIGHBOUR: 'it returns false'. Refute it at one input. -/
def fnExactCoordOkWrong : ChangeSpec := { name := "fnExactCoordOk", fn := fun _ => fun
  | [d] => { results := [.lit (.bool false)], args := [d] }
  | _ => none }
def FnExactCoordOkWrongFalsely : Prop := fnExactCoordOkRow.holds Try.pinned (OpenSpec.ofChange fnExactCoordOkWrong)

/-- 'laws.FnExactCoordState': WHATEVER THE INPUT: true; the input reads as it did. -/
def fnExactCoordStateSpec : ChangeSpec := { name := "fnExactCoordState", fn := fun _ => fun
  | [d1, d2] => { results := [.lit (.bool true)], args := [d1, d2] }
  | _ => none }
def fnExactCoordStateRow : OpenClaim := { program := "ytpnkbfanecbmgaa", sum := "f8ddf8207b201855bacbf93580c907f89d62f404416360f1b527299d1961d55a", func := "loop.example/g00097/laws.FnExactCoordState", spec := "fnExactCoordState", unfollowed := true, recurses := true, apart := false }
def FnExactCoordStateSaid : Prop := fnExactCoordStateRow.holds Try.pinned (OpenSpec.ofChange fnExactCoordStateSpec)

/-- ITS FALSE NEIGHBOUR: 'it returns false'. Refute it at one input. -/
def fnExactCoordStateWrong : ChangeSpec := { name := "fnExactCoordState", fn := fun _ => fun
  | [d1, d2] => { results := [.lit (.bool false)], args := [d1, d2] }
  | _ => none }
def FnExactCoordStateWrongFalsely : Prop := fnExactCoordStateRow.holds Try.pinned (OpenSpec.ofChange fnExactCoordStateWrong)

/-- 'laws.FnExactCoordFind': WHATEVER THE INPUT: true; the input reads as it did. -/
def fnExactCoordFindSpec : ChangeSpec := { name := "fnExactCoordFind", fn := fun _ => fun
  | [d1, d2, d3] => { results := [.lit (.bool true)], args := [d1, d2, d3] }
  | _ => none }
def fnExactCoordFindRow : OpenClaim := { program := "ytpnkbfanecbmgaa", sum := "f8ddf8207b201855bacbf93580c907f89d62f404416360f1b527299d1961d55a", func := "loop.example/g00097/laws.FnExactCoordFind", spec := "fnExactCoordFind", unfollowed := true, recurses := true, apart := false }
def FnExactCoordFindSaid : Prop := fnExactCoordFindRow.holds Try.pinned (OpenSpec.ofChange fnExactCoordFindSpec)

/-- ITS FALSE NEIGHBOUR: 'it returns false'. Refute it at one input. -/
def fnExactCoordFindWrong : ChangeSpec := { name := "fnExactCoordFind", fn := fun _ => fun
  | [d1, d2, d3] => { results := [.lit (.bool false)], args := [d1, d2, d3] }
  | _ => none }
def FnExactCoordFindWrongFalsely : Prop := fnExactCoordFindRow.holds Try.pinned (OpenSpec.ofChange fnExactCoordFindWrong)

/-- 'laws.FnExactLetterOk': WHATEVER THE INPUT: true; the input reads as it did. -/
def fnExactLetterOkSpec : ChangeSpec := { name := "fnExactLetterOk", fn := fun _ => fun
  | [d] => { results := [.lit (.bool true)], args := [d] }
  | _ => none }
def fnExactLetterOkRow : OpenClaim := { program := "ytpnkbfanecbmgaa", sum := "f8ddf8207b201855bacbf93580c907f89d62f404416360f1b527299d1961d55a", func := "loop.example/g00097/laws.FnExactLetterOk", spec := "fnExactLetterOk", unfollowed := true, recurses := true, apart := false }
def FnExactLetterOkSaid : Prop := fnExactLetterOkRow.holds Try.pinned (OpenSpec.ofChange fnExactLetterOkSpec)

/-- ITS FALSE NEIGHBOUR: 'it returns false'. Refute it at one input. -/
def fnExactLetterOkWrong : ChangeSpec := { name := "fnExactLetterOk", fn := fun _ => fun
  | [d] => { results := [.lit (.bool false)], args := [d] }
  | _ => none }
def FnExactLetterOkWrongFalsely : Prop := fnExactLetterOkRow.holds Try.pinned (OpenSpec.ofChange fnExactLetterOkWrong)

/-- 'laws.FnMoves15': WHATEVER THE INPUT: true; the input reads as it did. -/
def fnMoves15Spec : ChangeSpec := { name := "fnMoves15", fn := fun _ => fun
  | [d] => { results := [.lit (.bool true)], args := [d] }
  | _ => none }
def fnMoves15Row : OpenClaim := { program := "ytpnkbfanecbmgaa", sum := "f8ddf8207b201855bacbf93580c907f89d62f404416360f1b527299d1961d55a", func := "loop.example/g00097/laws.FnMoves15", spec := "fnMoves15", unfollowed := true, recurses := true, apart := false }
def FnMoves15Said : Prop := fnMoves15Row.holds Try.pinned (OpenSpec.ofChange fnMoves15Spec)

/-- ITS FALSE NEIGHBOUR: 'it returns false'. Refute it at one input. -/
def fnMoves15Wrong : ChangeSpec := { name := "fnMoves15", fn := fun _ => fun
  | [d] => { results := [.lit (.bool false)], args := [d] }
  | _ => none }
def FnMoves15WrongFalsely : Prop := fnMoves15Row.holds Try.pinned (OpenSpec.ofChange fnMoves15Wrong)

/-- 'laws.FnBegunOnce': WHATEVER THE INPUT: true; the input reads as it did. -/
def fnBegunOnceSpec : ChangeSpec := { name := "fnBegunOnce", fn := fun _ => fun
  | [d] => { results := [.lit (.bool true)], args := [d] }
  | _ => none }
def fnBegunOnceRow : OpenClaim := { program := "ytpnkbfanecbmgaa", sum := "f8ddf8207b201855bacbf93580c907f89d62f404416360f1b527299d1961d55a", func := "loop.example/g00097/laws.FnBegunOnce", spec := "fnBegunOnce", unfollowed := true, recurses := true, apart := false }
def FnBegunOnceSaid : Prop := fnBegunOnceRow.holds Try.pinned (OpenSpec.ofChange fnBegunOnceSpec)

/-- ITS FALSE NEIGHBOUR: 'it returns false'. Refute it at one input. -/
def fnBegunOnceWrong : ChangeSpec := { name := "fnBegunOnce", fn := fun _ => fun
  | [d] => { results := [.lit (.bool false)], args := [d] }
  | _ => none }
def FnBegunOnceWrongFalsely : Prop := fnBegunOnceRow.holds Try.pinned (OpenSpec.ofChange fnBegunOnceWrong)

/-- 'laws.FnWaits': WHATEVER THE INPUT: true; the input reads as it did. -/
def fnWaitsSpec : ChangeSpec := { name := "fnWaits", fn := fun _ => fun
  | [d] => { results := [.lit (.bool true)], args := [d] }
  | _ => none }
def fnWaitsRow : OpenClaim := { program := "ytpnkbfanecbmgaa", sum := "f8ddf8207b201855bacbf93580c907f89d62f404416360f1b527299d1961d55a", func := "loop.example/g00097/laws.FnWaits", spec := "fnWaits", inPlace := ["slices.overlaps[int]"], unfollowed := true, recurses := true, apart := false }
def FnWaitsSaid : Prop := fnWaitsRow.holds Try.pinned (OpenSpec.ofChange fnWaitsSpec)

/-- ITS FALSE NEIGHBOUR: 'it returns false'. Refute it at one input. -/
def fnWaitsWrong : ChangeSpec := { name := "fnWaits", fn := fun _ => fun
  | [d] => { results := [.lit (.bool false)], args := [d] }
  | _ => none }
def FnWaitsWrongFalsely : Prop := fnWaitsRow.holds Try.pinned (OpenSpec.ofChange fnWaitsWrong)

/- THE SECOND FORM. 'bulk': how many values and letters a reading holds, each counted each time it is reached (what is shared counts as often as it is met; a slice's spare places count too). A statement '..UptoSaid' is the law's where the arguments, and the package variables that the reading takes, are together of bulk at most 1048576: NARROWER than '..Said'. Prove '..Said' where nothing that the law and all that it calls make is longer than what came in: it says more and counts as full. Else prove '..UptoSaid'. A law counts once. -/
mutual
def uptoBulk {H : Type} : DataW H → Nat
  | .lit (.string bytes) => bytes.length + 1
  | .lit _ => 1
  | .nil => 1
  | .ptr d => uptoBulk d + 1
  | .slice elems spare => uptoBulkAll elems + uptoBulkAll spare + 1
  | .agg parts => uptoBulkAll parts + 1
  | .iface _ d => uptoBulk d + 1
  | .map entries => uptoBulkEntries entries + 1
  | .held _ => 1
def uptoBulkAll {H : Type} : List (DataW H) → Nat
  | [] => 0
  | d :: r => uptoBulk d + uptoBulkAll r
def uptoBulkEntries {H : Type} : List (Lit × DataW H) → Nat
  | [] => 0
  | x :: r => uptoBulkEntry x + uptoBulkEntries r
def uptoBulkEntry {H : Type} : Lit × DataW H → Nat
  | (.string bytes, d) => bytes.length + uptoBulk d + 1
  | (_, d) => uptoBulk d + 1
 end
def uptoSmall : (H : Type) → List (DataW H) → Bool := fun _ ds => decide (uptoBulkAll ds ≤ 1048576)
def OpenSpec.upto (s : _root_.Go.ChangeSpec) : _root_.Go.OpenSpec := { _root_.Go.OpenSpec.ofChange s with cond := some uptoSmall }

/-- 'laws.FnExactSharesOk', WHERE WHAT IT READS IS OF BULK AT MOST 1048576: true; the input reads as it did. -/
def fnExactSharesOkUptoRow : OpenClaim := { program := "ytpnkbfanecbmgaa", sum := "f8ddf8207b201855bacbf93580c907f89d62f404416360f1b527299d1961d55a", func := "loop.example/g00097/laws.FnExactSharesOk", spec := "fnExactSharesOk", unfollowed := true, recurses := true, apart := false, narrowed := true }
def FnExactSharesOkUptoSaid : Prop := fnExactSharesOkUptoRow.holds Try.pinned (OpenSpec.upto fnExactSharesOkSpec)

/-- 'laws.FnExactAtlasOk', WHERE WHAT IT READS IS OF BULK AT MOST 1048576: true; the input reads as it did. -/
def fnExactAtlasOkUptoRow : OpenClaim := { program := "ytpnkbfanecbmgaa", sum := "f8ddf8207b201855bacbf93580c907f89d62f404416360f1b527299d1961d55a", func := "loop.example/g00097/laws.FnExactAtlasOk", spec := "fnExactAtlasOk", unfollowed := true, recurses := true, apart := false, narrowed := true }
def FnExactAtlasOkUptoSaid : Prop := fnExactAtlasOkUptoRow.holds Try.pinned (OpenSpec.upto fnExactAtlasOkSpec)

/-- 'laws.FnExactAtlasOwner', WHERE WHAT IT READS IS OF BULK AT MOST 1048576: true; the input reads as it did. -/
def fnExactAtlasOwnerUptoRow : OpenClaim := { program := "ytpnkbfanecbmgaa", sum := "f8ddf8207b201855bacbf93580c907f89d62f404416360f1b527299d1961d55a", func := "loop.example/g00097/laws.FnExactAtlasOwner", spec := "fnExactAtlasOwner", unfollowed := true, recurses := true, apart := false, narrowed := true }
def FnExactAtlasOwnerUptoSaid : Prop := fnExactAtlasOwnerUptoRow.holds Try.pinned (OpenSpec.upto fnExactAtlasOwnerSpec)

/-- 'laws.FnExactClientOk', WHERE WHAT IT READS IS OF BULK AT MOST 1048576: true; the input reads as it did. -/
def fnExactClientOkUptoRow : OpenClaim := { program := "ytpnkbfanecbmgaa", sum := "f8ddf8207b201855bacbf93580c907f89d62f404416360f1b527299d1961d55a", func := "loop.example/g00097/laws.FnExactClientOk", spec := "fnExactClientOk", unfollowed := true, recurses := true, apart := false, narrowed := true }
def FnExactClientOkUptoSaid : Prop := fnExactClientOkUptoRow.holds Try.pinned (OpenSpec.upto fnExactClientOkSpec)

/-- 'laws.FnExactCoordOk', WHERE WHAT IT READS IS OF BULK AT MOST 1048576: true; the input reads as it did. -/
def fnExactCoordOkUptoRow : OpenClaim := { program := "ytpnkbfanecbmgaa", sum := "f8ddf8207b201855bacbf93580c907f89d62f404416360f1b527299d1961d55a", func := "loop.example/g00097/laws.FnExactCoordOk", spec := "fnExactCoordOk", unfollowed := true, recurses := true, apart := false, narrowed := true }
def FnExactCoordOkUptoSaid : Prop := fnExactCoordOkUptoRow.holds Try.pinned (OpenSpec.upto fnExactCoordOkSpec)

/-- 'laws.FnExactCoordState', WHERE WHAT IT READS IS OF BULK AT MOST 1048576: true; the input reads as it did. -/
def fnExactCoordStateUptoRow : OpenClaim := { program := "ytpnkbfanecbmgaa", sum := "f8ddf8207b201855bacbf93580c907f89d62f404416360f1b527299d1961d55a", func := "loop.example/g00097/laws.FnExactCoordState", spec := "fnExactCoordState", unfollowed := true, recurses := true, apart := false, narrowed := true }
def FnExactCoordStateUptoSaid : Prop := fnExactCoordStateUptoRow.holds Try.pinned (OpenSpec.upto fnExactCoordStateSpec)

/-- 'laws.FnExactCoordFind', WHERE WHAT IT READS IS OF BULK AT MOST 1048576: true; the input reads as it did. -/
def fnExactCoordFindUptoRow : OpenClaim := { program := "ytpnkbfanecbmgaa", sum := "f8ddf8207b201855bacbf93580c907f89d62f404416360f1b527299d1961d55a", func := "loop.example/g00097/laws.FnExactCoordFind", spec := "fnExactCoordFind", unfollowed := true, recurses := true, apart := false, narrowed := true }
def FnExactCoordFindUptoSaid : Prop := fnExactCoordFindUptoRow.holds Try.pinned (OpenSpec.upto fnExactCoordFindSpec)

/-- 'laws.FnExactLetterOk', WHERE WHAT IT READS IS OF BULK AT MOST 1048576: true; the input reads as it did. -/
def fnExactLetterOkUptoRow : OpenClaim := { program := "ytpnkbfanecbmgaa", sum := "f8ddf8207b201855bacbf93580c907f89d62f404416360f1b527299d1961d55a", func := "loop.example/g00097/laws.FnExactLetterOk", spec := "fnExactLetterOk", unfollowed := true, recurses := true, apart := false, narrowed := true }
def FnExactLetterOkUptoSaid : Prop := fnExactLetterOkUptoRow.holds Try.pinned (OpenSpec.upto fnExactLetterOkSpec)

/-- 'laws.FnMoves15', WHERE WHAT IT READS IS OF BULK AT MOST 1048576: true; the input reads as it did. -/
def fnMoves15UptoRow : OpenClaim := { program := "ytpnkbfanecbmgaa", sum := "f8ddf8207b201855bacbf93580c907f89d62f404416360f1b527299d1961d55a", func := "loop.example/g00097/laws.FnMoves15", spec := "fnMoves15", unfollowed := true, recurses := true, apart := false, narrowed := true }
def FnMoves15UptoSaid : Prop := fnMoves15UptoRow.holds Try.pinned (OpenSpec.upto fnMoves15Spec)

/-- 'laws.FnBegunOnce', WHERE WHAT IT READS IS OF BULK AT MOST 1048576: true; the input reads as it did. -/
def fnBegunOnceUptoRow : OpenClaim := { program := "ytpnkbfanecbmgaa", sum := "f8ddf8207b201855bacbf93580c907f89d62f404416360f1b527299d1961d55a", func := "loop.example/g00097/laws.FnBegunOnce", spec := "fnBegunOnce", unfollowed := true, recurses := true, apart := false, narrowed := true }
def FnBegunOnceUptoSaid : Prop := fnBegunOnceUptoRow.holds Try.pinned (OpenSpec.upto fnBegunOnceSpec)

/-- 'laws.FnWaits', WHERE WHAT IT READS IS OF BULK AT MOST 1048576: true; the input reads as it did. -/
def fnWaitsUptoRow : OpenClaim := { program := "ytpnkbfanecbmgaa", sum := "f8ddf8207b201855bacbf93580c907f89d62f404416360f1b527299d1961d55a", func := "loop.example/g00097/laws.FnWaits", spec := "fnWaits", inPlace := ["slices.overlaps[int]"], unfollowed := true, recurses := true, apart := false, narrowed := true }
def FnWaitsUptoSaid : Prop := fnWaitsUptoRow.holds Try.pinned (OpenSpec.upto fnWaitsSpec)

end Rows
end Go.Proofs.Ytpnkbfanecbmgaa
