/-
  No cell of these rows narrows 'for every input' (looked for: loops, veiled, ifaces, maps, wideKeys, modest, calm, conditions, laid).
  DERIVED. THE GIVEN ROWS OF THIS SEAT. 4 by the template 'for every input the law returns true; each argument reads behind the call as it read before'; 0 by the template 'total and deterministic' (their statements: YtnpbflgkgjnljaaTotals.lean).
  GIVEN WITH THE SEED: the statements are not yours to turn. If you find one false, say at which input.
  Laid BY PROGRAM, IN A SANDBOX (cutbox-rows.mjs): the forced cells as the released guide's own fill.sh prints them over the translation e9e050a620b1dedf… (all of the seat's roots in one cut). By AI agents, Wed Nov 11 2026. No macro, syntax, notation, axiom, sorry.
-/
import Derived.Test.YtnpbflgkgjnljaaChecked
import GoSem.Claim
import GoSem.ClaimJoined
import GoSem.ClaimMapViews
import Derived.JoinedTies
import Derived.KernelRfl
namespace Go.Proofs.Ytnpbflgkgjnljaa
/- THE CELL 'sum', in the pinned program and in every row, IS THE sha256 OF THE DUMP (.gsa) THAT YtnpbflgkgjnljaaProg.lean LOADS. Nothing in Lean hashes anything: it is a label: what it is worth is what the hold of that sum in a sandbox is worth. -/
noncomputable def Try.pinned : Pinned := { name := "ytnpbflgkgjnljaa", sum := "e9e050a620b1dedf4f8d5e21e77628808ad065ebb6c40588844087096b2a02cb", checked := Try.checked }
namespace Rows
def none {H : Type} : Left H := { results := [], args := [] }

/-- 'laws.FnSplit15': WHATEVER THE INPUT: true; the input reads as it did. -/
def fnSplit15Spec : ChangeSpec := { name := "fnSplit15", fn := fun _ => fun
  | [d] => { results := [.lit (.bool true)], args := [d] }
  | _ => none }
def fnSplit15Row : OpenClaim := { program := "ytnpbflgkgjnljaa", sum := "e9e050a620b1dedf4f8d5e21e77628808ad065ebb6c40588844087096b2a02cb", func := "loop.example/g00097/laws.FnSplit15", spec := "fnSplit15", inPlace := ["slices.overlaps[loop.example/g00097/impl.Part]"], unfollowed := true, recurses := true, apart := false }
def FnSplit15Said : Prop := fnSplit15Row.holds Try.pinned (OpenSpec.ofChange fnSplit15Spec)

/-- ITS FALSE NEIGHBOUR: 'it returns false'. Refute it at one input. -/
def fnSplit15Wrong : ChangeSpec := { name := "fnSplit15", fn := fun _ => fun
  | [d] => { results := [.lit (.bool false)], args := [d] }
  | _ => none }
def FnSplit15WrongFalsely : Prop := fnSplit15Row.holds Try.pinned (OpenSpec.ofChange fnSplit15Wrong)

/-- 'laws.FnMoves15': WHATEVER THE INPUT: true; the input reads as it did. -/
def fnMoves15Spec : ChangeSpec := { name := "fnMoves15", fn := fun _ => fun
  | [d] => { results := [.lit (.bool true)], args := [d] }
  | _ => none }
def fnMoves15Row : OpenClaim := { program := "ytnpbflgkgjnljaa", sum := "e9e050a620b1dedf4f8d5e21e77628808ad065ebb6c40588844087096b2a02cb", func := "loop.example/g00097/laws.FnMoves15", spec := "fnMoves15", unfollowed := true, recurses := true, apart := false }
def FnMoves15Said : Prop := fnMoves15Row.holds Try.pinned (OpenSpec.ofChange fnMoves15Spec)

/-- ITS FALSE NEIGHBOUR: 'it returns false'. Refute it at one input. -/
def fnMoves15Wrong : ChangeSpec := { name := "fnMoves15", fn := fun _ => fun
  | [d] => { results := [.lit (.bool false)], args := [d] }
  | _ => none }
def FnMoves15WrongFalsely : Prop := fnMoves15Row.holds Try.pinned (OpenSpec.ofChange fnMoves15Wrong)

/-- 'laws.FnNoClash': WHATEVER THE INPUT: true; the input reads as it did. -/
def fnNoClashSpec : ChangeSpec := { name := "fnNoClash", fn := fun _ => fun
  | [d] => { results := [.lit (.bool true)], args := [d] }
  | _ => none }
def fnNoClashRow : OpenClaim := { program := "ytnpbflgkgjnljaa", sum := "e9e050a620b1dedf4f8d5e21e77628808ad065ebb6c40588844087096b2a02cb", func := "loop.example/g00097/laws.FnNoClash", spec := "fnNoClash", inPlace := ["slices.overlaps[int]"], unfollowed := true, recurses := true, apart := false }
def FnNoClashSaid : Prop := fnNoClashRow.holds Try.pinned (OpenSpec.ofChange fnNoClashSpec)

/-- ITS FALSE NEIGHBOUR: 'it returns false'. Refute it at one input. -/
def fnNoClashWrong : ChangeSpec := { name := "fnNoClash", fn := fun _ => fun
  | [d] => { results := [.lit (.bool false)], args := [d] }
  | _ => none }
def FnNoClashWrongFalsely : Prop := fnNoClashRow.holds Try.pinned (OpenSpec.ofChange fnNoClashWrong)

/-- 'laws.FnWaits': WHATEVER THE INPUT: true; the input reads as it did. -/
def fnWaitsSpec : ChangeSpec := { name := "fnWaits", fn := fun _ => fun
  | [d] => { results := [.lit (.bool true)], args := [d] }
  | _ => none }
def fnWaitsRow : OpenClaim := { program := "ytnpbflgkgjnljaa", sum := "e9e050a620b1dedf4f8d5e21e77628808ad065ebb6c40588844087096b2a02cb", func := "loop.example/g00097/laws.FnWaits", spec := "fnWaits", inPlace := ["slices.overlaps[int]"], unfollowed := true, recurses := true, apart := false }
def FnWaitsSaid : Prop := fnWaitsRow.holds Try.pinned (OpenSpec.ofChange fnWaitsSpec)

/-- ITS FALSE NEIGHBOUR: 'it returns false'. Refute it at one input. -/
def fnWaitsWrong : ChangeSpec := { name := "fnWaits", fn := fun _ => fun
  | [d] => { results := [.lit (.bool false)], args := [d] }
  | _ => none }
def FnWaitsWrongFalsely : Prop := fnWaitsRow.holds Try.pinned (OpenSpec.ofChange fnWaitsWrong)

/- THE SECOND FORM. 'bulk': how many values and letters a reading holds, each counted each time it is reached (what is shared counts as often as it is met; a slice's spare places count too). A statement '..UptoSaid' is the law's where the arguments, and the package variables that the reading takes, are together of bulk at most 1048576: NARROWER than '..Said'. Prove '..Said' where nothing that the law and all that it calls make is longer than what came in: it says more and counts as full. Else prove '..UptoSaid'. A law counts once. -/
mutual
def uptoBulk {H : Type} : DataW H → Nat
  | .lit (.string bytes) => bytes.length + 1
  | .lit _ => 1
  | .nil => 1
  | .ptr d => uptoBulk d + 1
  | .slice elems spare => uptoBulkAll elems + uptoBulkAll spare + 1
  | .agg parts => uptoBulkAll parts + 1
  | .iface _ d => uptoBulk d + 1
  | .map entries => uptoBulkEntries entries + 1
  | .held _ => 1
def uptoBulkAll {H : Type} : List (DataW H) → Nat
  | [] => 0
  | d :: r => uptoBulk d + uptoBulkAll r
def uptoBulkEntries {H : Type} : List (Lit × DataW H) → Nat
  | [] => 0
  | x :: r => uptoBulkEntry x + uptoBulkEntries r
def uptoBulkEntry {H : Type} : Lit × DataW H → Nat
  | (.string bytes, d) => bytes.length + uptoBulk d + 1
  | (_, d) => uptoBulk d + 1
 end
def uptoSmall : (H : Type) → List (DataW H) → Bool := fun _ ds => decide (uptoBulkAll ds ≤ 1048576)
def OpenSpec.upto (s : _root_.Go.ChangeSpec) : _root_.Go.OpenSpec := { _root_.Go.OpenSpec.ofChange s with cond := some uptoSmall }

/-- 'laws.FnSplit15', WHERE WHAT IT READS IS OF BULK AT MOST 1048576: true; the input reads as it did. -/
def fnSplit15UptoRow : OpenClaim := { program := "ytnpbflgkgjnljaa", sum := "e9e050a620b1dedf4f8d5e21e77628808ad065ebb6c40588844087096b2a02cb", func := "loop.example/g00097/laws.FnSplit15", spec := "fnSplit15", inPlace := ["slices.overlaps[loop.example/g00097/impl.Part]"], unfollowed := true, recurses := true, apart := false, narrowed := true }
def FnSplit15UptoSaid : Prop := fnSplit15UptoRow.holds Try.pinned (OpenSpec.upto fnSplit15Spec)

/-- 'laws.FnMoves15', WHERE WHAT IT READS IS OF BULK AT MOST 1048576: true; the input reads as it did. -/
def fnMoves15UptoRow : OpenClaim := { program := "ytnpbflgkgjnljaa", sum := "e9e050a620b1dedf4f8d5e21e77628808ad065ebb6c40588844087096b2a02cb", func := "loop.example/g00097/laws.FnMoves15", spec := "fnMoves15", unfollowed := true, recurses := true, apart := false, narrowed := true }
def FnMoves15UptoSaid : Prop := fnMoves15UptoRow.holds Try.pinned (OpenSpec.upto fnMoves15Spec)

/-- 'laws.FnNoClash', WHERE WHAT IT READS IS OF BULK AT MOST 1048576: true; the input reads as it did. -/
def fnNoClashUptoRow : OpenClaim := { program := "ytnpbflgkgjnljaa", sum := "e9e050a620b1dedf4f8d5e21e77628808ad065ebb6c40588844087096b2a02cb", func := "loop.example/g00097/laws.FnNoClash", spec := "fnNoClash", inPlace := ["slices.overlaps[int]"], unfollowed := true, recurses := true, apart := false, narrowed := true }
def FnNoClashUptoSaid : Prop := fnNoClashUptoRow.holds Try.pinned (OpenSpec.upto fnNoClashSpec)

/-- 'laws.FnWaits', WHERE WHAT IT READS IS OF BULK AT MOST 1048576: true; the input reads as it did. -/
def fnWaitsUptoRow : OpenClaim := { program := "ytnpbflgkgjnljaa", sum := "e9e050a620b1dedf4f8d5e21e77628808ad065ebb6c40588844087096b2a02cb", func := "loop.example/g00097/laws.FnWaits", spec := "fnWaits", inPlace := ["slices.overlaps[int]"], unfollowed := true, recurses := true, apart := false, narrowed := true }
def FnWaitsUptoSaid : Prop := fnWaitsUptoRow.holds Try.pinned (OpenSpec.upto fnWaitsSpec)

end Rows
end Go.Proofs.Ytnpbflgkgjnljaa
