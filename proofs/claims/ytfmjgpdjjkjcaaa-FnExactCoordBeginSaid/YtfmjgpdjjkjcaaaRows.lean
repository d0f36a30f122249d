/-
  No cell of these rows narrows 'for every input' (looked for: loops, veiled, ifaces, maps, wideKeys, modest, calm, conditions, laid).
  DERIVED. THE GIVEN ROWS OF THIS SEAT. 5 by the template 'for every input the law returns true; each argument reads behind the call as it read before'; 0 by the template 'total and deterministic' (their statements: YtfmjgpdjjkjcaaaTotals.lean).
  GIVEN WITH THE SEED: the statements are not yours to turn. If you find one false, say at which input.
  Laid BY PROGRAM, IN A SANDBOX (cutbox-rows.mjs): the forced cells as the released guide's own fill.sh prints them over the translation 9afa55b3270173e2… (all of the seat's roots in one cut). By AI agents, Wed Nov 11 2026. No macro, syntax, notation, axiom, sorry.
-/
import Derived.Test.YtfmjgpdjjkjcaaaChecked
import GoSem.Claim
import GoSem.ClaimJoined
import GoSem.ClaimMapViews
import Derived.JoinedTies
import Derived.KernelRfl
namespace Go.Proofs.Ytfmjgpdjjkjcaaa
/- THE CELL 'sum', in the pinned program and in every row, IS THE sha256 OF THE DUMP (.gsa) THAT YtfmjgpdjjkjcaaaProg.lean LOADS. Nothing in Lean hashes anything: it is a label: what it is worth is what the hold of that sum in a sandbox is worth. -/
noncomputable def Try.pinned : Pinned := { name := "ytfmjgpdjjkjcaaa", sum := "9afa55b3270173e27dd9cfa2b872d9a145af34061a8c347191afe824f6a8b005", checked := Try.checked }
namespace Rows
def none {H : Type} : Left H := { results := [], args := [] }

/-- 'laws.FnExactCoordWaits': WHATEVER THE INPUT: true; the input reads as it did. -/
def fnExactCoordWaitsSpec : ChangeSpec := { name := "fnExactCoordWaits", fn := fun _ => fun
  | [d1, d2] => { results := [.lit (.bool true)], args := [d1, d2] }
  | _ => none }
def fnExactCoordWaitsRow : OpenClaim := { program := "ytfmjgpdjjkjcaaa", sum := "9afa55b3270173e27dd9cfa2b872d9a145af34061a8c347191afe824f6a8b005", func := "loop.example/g00097/laws.FnExactCoordWaits", spec := "fnExactCoordWaits", unfollowed := true, recurses := true, apart := false }
def FnExactCoordWaitsSaid : Prop := fnExactCoordWaitsRow.holds Try.pinned (OpenSpec.ofChange fnExactCoordWaitsSpec)

/-- ITS FALSE NEIGHBOUR: 'it returns false'. Refute it at one input. -/
def fnExactCoordWaitsWrong : ChangeSpec := { name := "fnExactCoordWaits", fn := fun _ => fun
  | [d1, d2] => { results := [.lit (.bool false)], args := [d1, d2] }
  | _ => none }
def FnExactCoordWaitsWrongFalsely : Prop := fnExactCoordWaitsRow.holds Try.pinned (OpenSpec.ofChange fnExactCoordWaitsWrong)

/-- 'laws.FnExactCoordStop': WHATEVER THE INPUT: true; the input reads as it did. -/
def fnExactCoordStopSpec : ChangeSpec := { name := "fnExactCoordStop", fn := fun _ => fun
  | [d1, d2] => { results := [.lit (.bool true)], args := [d1, d2] }
  | _ => none }
def fnExactCoordStopRow : OpenClaim := { program := "ytfmjgpdjjkjcaaa", sum := "9afa55b3270173e27dd9cfa2b872d9a145af34061a8c347191afe824f6a8b005", func := "loop.example/g00097/laws.FnExactCoordStop", spec := "fnExactCoordStop", unfollowed := true, recurses := true, apart := false }
def FnExactCoordStopSaid : Prop := fnExactCoordStopRow.holds Try.pinned (OpenSpec.ofChange fnExactCoordStopSpec)

/-- ITS FALSE NEIGHBOUR: 'it returns false'. Refute it at one input. -/
def fnExactCoordStopWrong : ChangeSpec := { name := "fnExactCoordStop", fn := fun _ => fun
  | [d1, d2] => { results := [.lit (.bool false)], args := [d1, d2] }
  | _ => none }
def FnExactCoordStopWrongFalsely : Prop := fnExactCoordStopRow.holds Try.pinned (OpenSpec.ofChange fnExactCoordStopWrong)

/-- 'laws.FnExactCoordCommit': WHATEVER THE INPUT: true; the input reads as it did. -/
def fnExactCoordCommitSpec : ChangeSpec := { name := "fnExactCoordCommit", fn := fun _ => fun
  | [d1, d2, d3] => { results := [.lit (.bool true)], args := [d1, d2, d3] }
  | _ => none }
def fnExactCoordCommitRow : OpenClaim := { program := "ytfmjgpdjjkjcaaa", sum := "9afa55b3270173e27dd9cfa2b872d9a145af34061a8c347191afe824f6a8b005", func := "loop.example/g00097/laws.FnExactCoordCommit", spec := "fnExactCoordCommit", unfollowed := true, recurses := true, apart := false }
def FnExactCoordCommitSaid : Prop := fnExactCoordCommitRow.holds Try.pinned (OpenSpec.ofChange fnExactCoordCommitSpec)

/-- ITS FALSE NEIGHBOUR: 'it returns false'. Refute it at one input. -/
def fnExactCoordCommitWrong : ChangeSpec := { name := "fnExactCoordCommit", fn := fun _ => fun
  | [d1, d2, d3] => { results := [.lit (.bool false)], args := [d1, d2, d3] }
  | _ => none }
def FnExactCoordCommitWrongFalsely : Prop := fnExactCoordCommitRow.holds Try.pinned (OpenSpec.ofChange fnExactCoordCommitWrong)

/-- 'laws.FnExactCoordBegin': WHATEVER THE INPUT: true; the input reads as it did. -/
def fnExactCoordBeginSpec : ChangeSpec := { name := "fnExactCoordBegin", fn := fun _ => fun
  | [d1, d2, d3] => { results := [.lit (.bool true)], args := [d1, d2, d3] }
  | _ => none }
def fnExactCoordBeginRow : OpenClaim := { program := "ytfmjgpdjjkjcaaa", sum := "9afa55b3270173e27dd9cfa2b872d9a145af34061a8c347191afe824f6a8b005", func := "loop.example/g00097/laws.FnExactCoordBegin", spec := "fnExactCoordBegin", unfollowed := true, recurses := true, apart := false }
def FnExactCoordBeginSaid : Prop := fnExactCoordBeginRow.holds Try.pinned (OpenSpec.ofChange fnExactCoordBeginSpec)

/-- ITS FALSE NEIGHBOUR: 'it returns false'. Refute it at one input. -/
def fnExactCoordBeginWrong : ChangeSpec := { name := "fnExactCoordBegin", fn := fun _ => fun
  | [d1, d2, d3] => { results := [.lit (.bool false)], args := [d1, d2, d3] }
  | _ => none }
def FnExactCoordBeginWrongFalsely : Prop := fnExactCoordBeginRow.holds Try.pinned (OpenSpec.ofChange fnExactCoordBeginWrong)

/-- 'laws.FnExactCoordVote': WHATEVER THE INPUT: true; the input reads as it did. -/
def fnExactCoordVoteSpec : ChangeSpec := { name := "fnExactCoordVote", fn := fun _ => fun
  | [d1, d2, d3, d4] => { results := [.lit (.bool true)], args := [d1, d2, d3, d4] }
  | _ => none }
def fnExactCoordVoteRow : OpenClaim := { program := "ytfmjgpdjjkjcaaa", sum := "9afa55b3270173e27dd9cfa2b872d9a145af34061a8c347191afe824f6a8b005", func := "loop.example/g00097/laws.FnExactCoordVote", spec := "fnExactCoordVote", unfollowed := true, recurses := true, apart := false }
def FnExactCoordVoteSaid : Prop := fnExactCoordVoteRow.holds Try.pinned (OpenSpec.ofChange fnExactCoordVoteSpec)

/-- ITS FALSE NEIGHBOUR: 'it returns false'. Refute it at one input. -/
def fnExactCoordVoteWrong : ChangeSpec := { name := "fnExactCoordVote", fn := fun _ => fun
  | [d1, d2, d3, d4] => { results := [.lit (.bool false)], args := [d1, d2, d3, d4] }
  | _ => none }
def FnExactCoordVoteWrongFalsely : Prop := fnExactCoordVoteRow.holds Try.pinned (OpenSpec.ofChange fnExactCoordVoteWrong)

/- THE SECOND FORM. 'bulk': how many values and letters a reading holds, each counted each time it is reached (what is shared counts as often as it is met; a slice's spare places count too). A statement '..UptoSaid' is the law's where the arguments, and the package variables that the reading takes, are together of bulk at most 1048576: NARROWER than '..Said'. Prove '..Said' where nothing that the law and all that it calls make is longer than what came in: it says more and counts as full. Else prove '..UptoSaid'. A law counts once. -/
mutual
def uptoBulk {H : Type} : DataW H → Nat
  | .lit (.string bytes) => bytes.length + 1
  | .lit _ => 1
  | .nil => 1
  | .ptr d => uptoBulk d + 1
  | .slice elems spare => uptoBulkAll elems + uptoBulkAll spare + 1
  | .agg parts => uptoBulkAll parts + 1
  | .iface _ d => uptoBulk d + 1
  | .map entries => uptoBulkEntries entries + 1
  | .held _ => 1
def uptoBulkAll {H : Type} : List (DataW H) → Nat
  | [] => 0
  | d :: r => uptoBulk d + uptoBulkAll r
def uptoBulkEntries {H : Type} : List (Lit × DataW H) → Nat
  | [] => 0
  | x :: r => uptoBulkEntry x + uptoBulkEntries r
def uptoBulkEntry {H : Type} : Lit × DataW H → Nat
  | (.string bytes, d) => bytes.length + uptoBulk d + 1
  | (_, d) => uptoBulk d + 1
 end
def uptoSmall : (H : Type) → List (DataW H) → Bool := fun _ ds => decide (uptoBulkAll ds ≤ 1048576)
def OpenSpec.upto (s : _root_.Go.ChangeSpec) : _root_.Go.OpenSpec := { _root_.Go.OpenSpec.ofChange s with cond := some uptoSmall }

/-- 'laws.FnExactCoordWaits', WHERE WHAT IT READS IS OF BULK AT MOST 1048576: true; the input reads as it did. -/
def fnExactCoordWaitsUptoRow : OpenClaim := { program := "ytfmjgpdjjkjcaaa", sum := "9afa55b3270173e27dd9cfa2b872d9a145af34061a8c347191afe824f6a8b005", func := "loop.example/g00097/laws.FnExactCoordWaits", spec := "fnExactCoordWaits", unfollowed := true, recurses := true, apart := false, narrowed := true }
def FnExactCoordWaitsUptoSaid : Prop := fnExactCoordWaitsUptoRow.holds Try.pinned (OpenSpec.upto fnExactCoordWaitsSpec)

/-- 'laws.FnExactCoordStop', WHERE WHAT IT READS IS OF BULK AT MOST 1048576: true; the input reads as it did. -/
def fnExactCoordStopUptoRow : OpenClaim := { program := "ytfmjgpdjjkjcaaa", sum := "9afa55b3270173e27dd9cfa2b872d9a145af34061a8c347191afe824f6a8b005", func := "loop.example/g00097/laws.FnExactCoordStop", spec := "fnExactCoordStop", unfollowed := true, recurses := true, apart := false, narrowed := true }
def FnExactCoordStopUptoSaid : Prop := fnExactCoordStopUptoRow.holds Try.pinned (OpenSpec.upto fnExactCoordStopSpec)

/-- 'laws.FnExactCoordCommit', WHERE WHAT IT READS IS OF BULK AT MOST 1048576: true; the input reads as it did. -/
def fnExactCoordCommitUptoRow : OpenClaim := { program := "ytfmjgpdjjkjcaaa", sum := "9afa55b3270173e27dd9cfa2b872d9a145af34061a8c347191afe824f6a8b005", func := "loop.example/g00097/laws.FnExactCoordCommit", spec := "fnExactCoordCommit", unfollowed := true, recurses := true, apart := false, narrowed := true }
def FnExactCoordCommitUptoSaid : Prop := fnExactCoordCommitUptoRow.holds Try.pinned (OpenSpec.upto fnExactCoordCommitSpec)

/-- 'laws.FnExactCoordBegin', WHERE WHAT IT READS IS OF BULK AT MOST 1048576: true; the input reads as it did. -/
def fnExactCoordBeginUptoRow : OpenClaim := { program := "ytfmjgpdjjkjcaaa", sum := "9afa55b3270173e27dd9cfa2b872d9a145af34061a8c347191afe824f6a8b005", func := "loop.example/g00097/laws.FnExactCoordBegin", spec := "fnExactCoordBegin", unfollowed := true, recurses := true, apart := false, narrowed := true }
def FnExactCoordBeginUptoSaid : Prop := fnExactCoordBeginUptoRow.holds Try.pinned (OpenSpec.upto fnExactCoordBeginSpec)

/-- 'laws.FnExactCoordVote', WHERE WHAT IT READS IS OF BULK AT MOST 1048576: true; the input reads as it did. -/
def fnExactCoordVoteUptoRow : OpenClaim := { program := "ytfmjgpdjjkjcaaa", sum := "9afa55b3270173e27dd9cfa2b872d9a145af34061a8c347191afe824f6a8b005", func := "loop.example/g00097/laws.FnExactCoordVote", spec := "fnExactCoordVote", unfollowed := true, recurses := true, apart := false, narrowed := true }
def FnExactCoordVoteUptoSaid : Prop := fnExactCoordVoteUptoRow.holds Try.pinned (OpenSpec.upto fnExactCoordVoteSpec)

end Rows
end Go.Proofs.Ytfmjgpdjjkjcaaa
