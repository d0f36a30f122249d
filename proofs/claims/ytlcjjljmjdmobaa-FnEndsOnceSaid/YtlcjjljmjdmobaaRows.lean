/-
  No cell of these rows narrows 'for every input' (looked for: loops, veiled, ifaces, maps, wideKeys, modest, calm, conditions, laid).
  DERIVED. THE GIVEN ROWS OF THIS SEAT. 5 by the template 'for every input the law returns true; each argument reads behind the call as it read before'; 0 by the template 'total and deterministic' (their statements: YtlcjjljmjdmobaaTotals.lean).
  GIVEN WITH THE SEED: the statements are not yours to turn. If you find one false, say at which input.
  Laid BY PROGRAM, IN A SANDBOX (cutbox-rows.mjs): the forced cells as the released guide's own fill.sh prints them over the translation 7621dda7b7f5b661… (all of the seat's roots in one cut). By AI agents, Wed Nov 11 2026. No macro, syntax, notation, axiom, sorry.
-/
import Derived.Test.YtlcjjljmjdmobaaChecked
import GoSem.Claim
import GoSem.ClaimJoined
import GoSem.ClaimMapViews
import Derived.JoinedTies
import Derived.KernelRfl
namespace Go.Proofs.Ytlcjjljmjdmobaa
/- THE CELL 'sum', in the pinned program and in every row, IS THE sha256 OF THE DUMP (.gsa) THAT YtlcjjljmjdmobaaProg.lean LOADS. Nothing in Lean hashes anything: it is a label: what it is worth is what the hold of that sum in a sandbox is worth. -/
noncomputable def Try.pinned : Pinned := { name := "ytlcjjljmjdmobaa", sum := "7621dda7b7f5b661335858eb92487ec9b39b896c6c47c200effb60c5fb7e2c1e", checked := Try.checked }
namespace Rows
def none {H : Type} : Left H := { results := [], args := [] }

/-- 'laws.FnExactStoreJoin': WHATEVER THE INPUT: true; the input reads as it did. -/
def fnExactStoreJoinSpec : ChangeSpec := { name := "fnExactStoreJoin", fn := fun _ => fun
  | [d1, d2] => { results := [.lit (.bool true)], args := [d1, d2] }
  | _ => none }
def fnExactStoreJoinRow : OpenClaim := { program := "ytlcjjljmjdmobaa", sum := "7621dda7b7f5b661335858eb92487ec9b39b896c6c47c200effb60c5fb7e2c1e", func := "loop.example/g00097/laws.FnExactStoreJoin", spec := "fnExactStoreJoin", unfollowed := true, recurses := true, apart := false }
def FnExactStoreJoinSaid : Prop := fnExactStoreJoinRow.holds Try.pinned (OpenSpec.ofChange fnExactStoreJoinSpec)

/-- ITS FALSE NEIGHBOUR: 'it returns false'. Refute it at one input. -/
def fnExactStoreJoinWrong : ChangeSpec := { name := "fnExactStoreJoin", fn := fun _ => fun
  | [d1, d2] => { results := [.lit (.bool false)], args := [d1, d2] }
  | _ => none }
def FnExactStoreJoinWrongFalsely : Prop := fnExactStoreJoinRow.holds Try.pinned (OpenSpec.ofChange fnExactStoreJoinWrong)

/-- 'laws.FnBegunOnce': WHATEVER THE INPUT: true; the input reads as it did. -/
def fnBegunOnceSpec : ChangeSpec := { name := "fnBegunOnce", fn := fun _ => fun
  | [d] => { results := [.lit (.bool true)], args := [d] }
  | _ => none }
def fnBegunOnceRow : OpenClaim := { program := "ytlcjjljmjdmobaa", sum := "7621dda7b7f5b661335858eb92487ec9b39b896c6c47c200effb60c5fb7e2c1e", func := "loop.example/g00097/laws.FnBegunOnce", spec := "fnBegunOnce", unfollowed := true, recurses := true, apart := false }
def FnBegunOnceSaid : Prop := fnBegunOnceRow.holds Try.pinned (OpenSpec.ofChange fnBegunOnceSpec)

/-- ITS FALSE NEIGHBOUR: 'it returns false'. Refute it at one input. -/
def fnBegunOnceWrong : ChangeSpec := { name := "fnBegunOnce", fn := fun _ => fun
  | [d] => { results := [.lit (.bool false)], args := [d] }
  | _ => none }
def FnBegunOnceWrongFalsely : Prop := fnBegunOnceRow.holds Try.pinned (OpenSpec.ofChange fnBegunOnceWrong)

/-- 'laws.FnEndsOnce': WHATEVER THE INPUT: true; the input reads as it did. -/
def fnEndsOnceSpec : ChangeSpec := { name := "fnEndsOnce", fn := fun _ => fun
  | [d] => { results := [.lit (.bool true)], args := [d] }
  | _ => none }
def fnEndsOnceRow : OpenClaim := { program := "ytlcjjljmjdmobaa", sum := "7621dda7b7f5b661335858eb92487ec9b39b896c6c47c200effb60c5fb7e2c1e", func := "loop.example/g00097/laws.FnEndsOnce", spec := "fnEndsOnce", unfollowed := true, recurses := true, apart := false }
def FnEndsOnceSaid : Prop := fnEndsOnceRow.holds Try.pinned (OpenSpec.ofChange fnEndsOnceSpec)

/-- ITS FALSE NEIGHBOUR: 'it returns false'. Refute it at one input. -/
def fnEndsOnceWrong : ChangeSpec := { name := "fnEndsOnce", fn := fun _ => fun
  | [d] => { results := [.lit (.bool false)], args := [d] }
  | _ => none }
def FnEndsOnceWrongFalsely : Prop := fnEndsOnceRow.holds Try.pinned (OpenSpec.ofChange fnEndsOnceWrong)

/-- 'laws.FnExactCoordVote': WHATEVER THE INPUT: true; the input reads as it did. -/
def fnExactCoordVoteSpec : ChangeSpec := { name := "fnExactCoordVote", fn := fun _ => fun
  | [d1, d2, d3, d4] => { results := [.lit (.bool true)], args := [d1, d2, d3, d4] }
  | _ => none }
def fnExactCoordVoteRow : OpenClaim := { program := "ytlcjjljmjdmobaa", sum := "7621dda7b7f5b661335858eb92487ec9b39b896c6c47c200effb60c5fb7e2c1e", func := "loop.example/g00097/laws.FnExactCoordVote", spec := "fnExactCoordVote", unfollowed := true, recurses := true, apart := false }
def FnExactCoordVoteSaid : Prop := fnExactCoordVoteRow.holds Try.pinned (OpenSpec.ofChange fnExactCoordVoteSpec)

/-- ITS FALSE NEIGHBOUR: 'it returns false'. Refute it at one input. -/
def fnExactCoordVoteWrong : ChangeSpec := { name := "fnExactCoordVote", fn := fun _ => fun
  | [d1, d2, d3, d4] => { results := [.lit (.bool false)], args := [d1, d2, d3, d4] }
  | _ => none }
def FnExactCoordVoteWrongFalsely : Prop := fnExactCoordVoteRow.holds Try.pinned (OpenSpec.ofChange fnExactCoordVoteWrong)

/-- 'laws.FnStore': WHATEVER THE INPUT: true; the input reads as it did. -/
def fnStoreSpec : ChangeSpec := { name := "fnStore", fn := fun _ => fun
  | [d] => { results := [.lit (.bool true)], args := [d] }
  | _ => none }
def fnStoreRow : OpenClaim := { program := "ytlcjjljmjdmobaa", sum := "7621dda7b7f5b661335858eb92487ec9b39b896c6c47c200effb60c5fb7e2c1e", func := "loop.example/g00097/laws.FnStore", spec := "fnStore", inPlace := ["slices.overlaps[loop.example/g00097/impl.Cell]"], unfollowed := true, recurses := true, apart := false }
def FnStoreSaid : Prop := fnStoreRow.holds Try.pinned (OpenSpec.ofChange fnStoreSpec)

/-- ITS FALSE NEIGHBOUR: 'it returns false'. Refute it at one input. -/
def fnStoreWrong : ChangeSpec := { name := "fnStore", fn := fun _ => fun
  | [d] => { results := [.lit (.bool false)], args := [d] }
  | _ => none }
def FnStoreWrongFalsely : Prop := fnStoreRow.holds Try.pinned (OpenSpec.ofChange fnStoreWrong)

/- THE SECOND FORM. 'bulk': how many values and letters a reading holds, each counted each time it is reached (what is shared counts as often as it is met; a slice's spare places count too). A statement '..UptoSaid' is the law's where the arguments, and the package variables that the reading takes, are together of bulk at most 1048576: NARROWER than '..Said'. Prove '..Said' where nothing that the law and all that it calls make is longer than what came in: it says more and counts as full. Else prove '..UptoSaid'. A law counts once. -/
mutual
def uptoBulk {H : Type} : DataW H → Nat
  | .lit (.string bytes) => bytes.length + 1
  | .lit _ => 1
  | .nil => 1
  | .ptr d => uptoBulk d + 1
  | .slice elems spare => uptoBulkAll elems + uptoBulkAll spare + 1
  | .agg parts => uptoBulkAll parts + 1
  | .iface _ d => uptoBulk d + 1
  | .map entries => uptoBulkEntries entries + 1
  | .held _ => 1
def uptoBulkAll {H : Type} : List (DataW H) → Nat
  | [] => 0
  | d :: r => uptoBulk d + uptoBulkAll r
def uptoBulkEntries {H : Type} : List (Lit × DataW H) → Nat
  | [] => 0
  | x :: r => uptoBulkEntry x + uptoBulkEntries r
def uptoBulkEntry {H : Type} : Lit × DataW H → Nat
  | (.string bytes, d) => bytes.length + uptoBulk d + 1
  | (_, d) => uptoBulk d + 1
 end
def uptoSmall : (H : Type) → List (DataW H) → Bool := fun _ ds => decide (uptoBulkAll ds ≤ 1048576)
def OpenSpec.upto (s : _root_.Go.ChangeSpec) : _root_.Go.OpenSpec := { _root_.Go.OpenSpec.ofChange s with cond := some uptoSmall }

/-- 'laws.FnExactStoreJoin', WHERE WHAT IT READS IS OF BULK AT MOST 1048576: true; the input reads as it did. -/
def fnExactStoreJoinUptoRow : OpenClaim := { program := "ytlcjjljmjdmobaa", sum := "7621dda7b7f5b661335858eb92487ec9b39b896c6c47c200effb60c5fb7e2c1e", func := "loop.example/g00097/laws.FnExactStoreJoin", spec := "fnExactStoreJoin", unfollowed := true, recurses := true, apart := false, narrowed := true }
def FnExactStoreJoinUptoSaid : Prop := fnExactStoreJoinUptoRow.holds Try.pinned (OpenSpec.upto fnExactStoreJoinSpec)

/-- 'laws.FnBegunOnce', WHERE WHAT IT READS IS OF BULK AT MOST 1048576: true; the input reads as it did. -/
def fnBegunOnceUptoRow : OpenClaim := { program := "ytlcjjljmjdmobaa", sum := "7621dda7b7f5b661335858eb92487ec9b39b896c6c47c200effb60c5fb7e2c1e", func := "loop.example/g00097/laws.FnBegunOnce", spec := "fnBegunOnce", unfollowed := true, recurses := true, apart := false, narrowed := true }
def FnBegunOnceUptoSaid : Prop := fnBegunOnceUptoRow.holds Try.pinned (OpenSpec.upto fnBegunOnceSpec)

/-- 'laws.FnEndsOnce', WHERE WHAT IT READS IS OF BULK AT MOST 1048576: true; the input reads as it did. -/
def fnEndsOnceUptoRow : OpenClaim := { program := "ytlcjjljmjdmobaa", sum := "7621dda7b7f5b661335858eb92487ec9b39b896c6c47c200effb60c5fb7e2c1e", func := "loop.example/g00097/laws.FnEndsOnce", spec := "fnEndsOnce", unfollowed := true, recurses := true, apart := false, narrowed := true }
def FnEndsOnceUptoSaid : Prop := fnEndsOnceUptoRow.holds Try.pinned (OpenSpec.upto fnEndsOnceSpec)

/-- 'laws.FnExactCoordVote', WHERE WHAT IT READS IS OF BULK AT MOST 1048576: true; the input reads as it did. -/
def fnExactCoordVoteUptoRow : OpenClaim := { program := "ytlcjjljmjdmobaa", sum := "7621dda7b7f5b661335858eb92487ec9b39b896c6c47c200effb60c5fb7e2c1e", func := "loop.example/g00097/laws.FnExactCoordVote", spec := "fnExactCoordVote", unfollowed := true, recurses := true, apart := false, narrowed := true }
def FnExactCoordVoteUptoSaid : Prop := fnExactCoordVoteUptoRow.holds Try.pinned (OpenSpec.upto fnExactCoordVoteSpec)

/-- 'laws.FnStore', WHERE WHAT IT READS IS OF BULK AT MOST 1048576: true; the input reads as it did. -/
def fnStoreUptoRow : OpenClaim := { program := "ytlcjjljmjdmobaa", sum := "7621dda7b7f5b661335858eb92487ec9b39b896c6c47c200effb60c5fb7e2c1e", func := "loop.example/g00097/laws.FnStore", spec := "fnStore", inPlace := ["slices.overlaps[loop.example/g00097/impl.Cell]"], unfollowed := true, recurses := true, apart := false, narrowed := true }
def FnStoreUptoSaid : Prop := fnStoreUptoRow.holds Try.pinned (OpenSpec.upto fnStoreSpec)

end Rows
end Go.Proofs.Ytlcjjljmjdmobaa
