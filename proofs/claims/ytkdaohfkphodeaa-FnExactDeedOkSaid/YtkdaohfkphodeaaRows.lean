/-
  No cell of these rows narrows 'for every input' (looked for: loops, veiled, ifaces, maps, wideKeys, modest, calm, conditions, laid).
  DERIVED. THE GIVEN ROWS OF THIS SEAT. 12 by the template 'for every input the law returns true; each argument reads behind the call as it read before'; 0 by the template 'total and deterministic' (their statements: YtkdaohfkphodeaaTotals.lean).
  GIVEN WITH THE SEED: the statements are not yours to turn. If you find one false, say at which input.
  Laid BY PROGRAM, IN A SANDBOX (cutbox-rows.mjs): the forced cells as the released guide's own fill.sh prints them over the translation 5c4beba83559e4a8… (all of the seat's roots in one cut). By AI agents, Wed Nov 11 2026. No macro, syntax, notation, axiom, sorry.
-/
import Derived.Test.YtkdaohfkphodeaaChecked
import GoSem.Claim
import GoSem.ClaimJoined
import GoSem.ClaimMapViews
import Derived.JoinedTies
import Derived.KernelRfl
namespace Go.Proofs.Ytkdaohfkphodeaa
/- THE CELL 'sum', in the pinned program and in every row, IS THE sha256 OF THE DUMP (.gsa) THAT YtkdaohfkphodeaaProg.lean LOADS. Nothing in Lean hashes anything: it is a label: what it is worth is what the hold of that sum in a sandbox is worth. -/
noncomputable def Try.pinned : Pinned := { name := "ytkdaohfkphodeaa", sum := "5c4beba83559e4a8853d22b3eb3acd0bae7dad5492a2c76bbd7fb5ac7bce590a", checked := Try.checked }
namespace Rows
def none {H : Type} : Left H := { results := [], args := [] }

/-- 'laws.FnExactStoreOk': WHATEVER THE INPUT: true; the input reads as it did. -/
def fnExactStoreOkSpec : ChangeSpec := { name := "fnExactStoreOk", fn := fun _ => fun
  | [d] => { results := [.lit (.bool true)], args := [d] }
  | _ => none }
def fnExactStoreOkRow : OpenClaim := { program := "ytkdaohfkphodeaa", sum := "5c4beba83559e4a8853d22b3eb3acd0bae7dad5492a2c76bbd7fb5ac7bce590a", func := "loop.example/g00097/laws.FnExactStoreOk", spec := "fnExactStoreOk", apart := false }
def FnExactStoreOkSaid : Prop := fnExactStoreOkRow.holds Try.pinned (OpenSpec.ofChange fnExactStoreOkSpec)

/-- ITS FALSE NEIGHBOUR: 'it returns false'. Refute it at one input. -/
def fnExactStoreOkWrong : ChangeSpec := { name := "fnExactStoreOk", fn := fun _ => fun
  | [d] => { results := [.lit (.bool false)], args := [d] }
  | _ => none }
def FnExactStoreOkWrongFalsely : Prop := fnExactStoreOkRow.holds Try.pinned (OpenSpec.ofChange fnExactStoreOkWrong)

/-- 'laws.FnExactDeedOk': WHATEVER THE INPUT: true; the input reads as it did. -/
def fnExactDeedOkSpec : ChangeSpec := { name := "fnExactDeedOk", fn := fun _ => fun
  | [d] => { results := [.lit (.bool true)], args := [d] }
  | _ => none }
def fnExactDeedOkRow : OpenClaim := { program := "ytkdaohfkphodeaa", sum := "5c4beba83559e4a8853d22b3eb3acd0bae7dad5492a2c76bbd7fb5ac7bce590a", func := "loop.example/g00097/laws.FnExactDeedOk", spec := "fnExactDeedOk", apart := false }
def FnExactDeedOkSaid : Prop := fnExactDeedOkRow.holds Try.pinned (OpenSpec.ofChange fnExactDeedOkSpec)

/-- ITS FALSE NEIGHBOUR: 'it returns false'. Refute it at one input. -/
def fnExactDeedOkWrong : ChangeSpec := { name := "fnExactDeedOk", fn := fun _ => fun
  | [d] => { results := [.lit (.bool false)], args := [d] }
  | _ => none }
def FnExactDeedOkWrongFalsely : Prop := fnExactDeedOkRow.holds Try.pinned (OpenSpec.ofChange fnExactDeedOkWrong)

/-- 'laws.FnExactMoveRank': WHATEVER THE INPUT: true; the input reads as it did. -/
def fnExactMoveRankSpec : ChangeSpec := { name := "fnExactMoveRank", fn := fun _ => fun
  | [d] => { results := [.lit (.bool true)], args := [d] }
  | _ => none }
def fnExactMoveRankRow : OpenClaim := { program := "ytkdaohfkphodeaa", sum := "5c4beba83559e4a8853d22b3eb3acd0bae7dad5492a2c76bbd7fb5ac7bce590a", func := "loop.example/g00097/laws.FnExactMoveRank", spec := "fnExactMoveRank", apart := false }
def FnExactMoveRankSaid : Prop := fnExactMoveRankRow.holds Try.pinned (OpenSpec.ofChange fnExactMoveRankSpec)

/-- ITS FALSE NEIGHBOUR: 'it returns false'. Refute it at one input. -/
def fnExactMoveRankWrong : ChangeSpec := { name := "fnExactMoveRank", fn := fun _ => fun
  | [d] => { results := [.lit (.bool false)], args := [d] }
  | _ => none }
def FnExactMoveRankWrongFalsely : Prop := fnExactMoveRankRow.holds Try.pinned (OpenSpec.ofChange fnExactMoveRankWrong)

/-- 'laws.FnExactStoreGet': WHATEVER THE INPUT: true; the input reads as it did. -/
def fnExactStoreGetSpec : ChangeSpec := { name := "fnExactStoreGet", fn := fun _ => fun
  | [d1, d2] => { results := [.lit (.bool true)], args := [d1, d2] }
  | _ => none }
def fnExactStoreGetRow : OpenClaim := { program := "ytkdaohfkphodeaa", sum := "5c4beba83559e4a8853d22b3eb3acd0bae7dad5492a2c76bbd7fb5ac7bce590a", func := "loop.example/g00097/laws.FnExactStoreGet", spec := "fnExactStoreGet", unfollowed := true, recurses := true, apart := false }
def FnExactStoreGetSaid : Prop := fnExactStoreGetRow.holds Try.pinned (OpenSpec.ofChange fnExactStoreGetSpec)

/-- ITS FALSE NEIGHBOUR: 'it returns false'. Refute it at one input. -/
def fnExactStoreGetWrong : ChangeSpec := { name := "fnExactStoreGet", fn := fun _ => fun
  | [d1, d2] => { results := [.lit (.bool false)], args := [d1, d2] }
  | _ => none }
def FnExactStoreGetWrongFalsely : Prop := fnExactStoreGetRow.holds Try.pinned (OpenSpec.ofChange fnExactStoreGetWrong)

/-- 'laws.FnExactLocksOk': WHATEVER THE INPUT: true; the input reads as it did. -/
def fnExactLocksOkSpec : ChangeSpec := { name := "fnExactLocksOk", fn := fun _ => fun
  | [d] => { results := [.lit (.bool true)], args := [d] }
  | _ => none }
def fnExactLocksOkRow : OpenClaim := { program := "ytkdaohfkphodeaa", sum := "5c4beba83559e4a8853d22b3eb3acd0bae7dad5492a2c76bbd7fb5ac7bce590a", func := "loop.example/g00097/laws.FnExactLocksOk", spec := "fnExactLocksOk", unfollowed := true, recurses := true, apart := false }
def FnExactLocksOkSaid : Prop := fnExactLocksOkRow.holds Try.pinned (OpenSpec.ofChange fnExactLocksOkSpec)

/-- ITS FALSE NEIGHBOUR: 'it returns false'. Refute it at one input. -/
def fnExactLocksOkWrong : ChangeSpec := { name := "fnExactLocksOk", fn := fun _ => fun
  | [d] => { results := [.lit (.bool false)], args := [d] }
  | _ => none }
def FnExactLocksOkWrongFalsely : Prop := fnExactLocksOkRow.holds Try.pinned (OpenSpec.ofChange fnExactLocksOkWrong)

/-- 'laws.FnExactStoreCut': WHATEVER THE INPUT: true; the input reads as it did. -/
def fnExactStoreCutSpec : ChangeSpec := { name := "fnExactStoreCut", fn := fun _ => fun
  | [d1, d2] => { results := [.lit (.bool true)], args := [d1, d2] }
  | _ => none }
def fnExactStoreCutRow : OpenClaim := { program := "ytkdaohfkphodeaa", sum := "5c4beba83559e4a8853d22b3eb3acd0bae7dad5492a2c76bbd7fb5ac7bce590a", func := "loop.example/g00097/laws.FnExactStoreCut", spec := "fnExactStoreCut", unfollowed := true, recurses := true, apart := false }
def FnExactStoreCutSaid : Prop := fnExactStoreCutRow.holds Try.pinned (OpenSpec.ofChange fnExactStoreCutSpec)

/-- ITS FALSE NEIGHBOUR: 'it returns false'. Refute it at one input. -/
def fnExactStoreCutWrong : ChangeSpec := { name := "fnExactStoreCut", fn := fun _ => fun
  | [d1, d2] => { results := [.lit (.bool false)], args := [d1, d2] }
  | _ => none }
def FnExactStoreCutWrongFalsely : Prop := fnExactStoreCutRow.holds Try.pinned (OpenSpec.ofChange fnExactStoreCutWrong)

/-- 'laws.FnExactStoreScan': WHATEVER THE INPUT: true; the input reads as it did. -/
def fnExactStoreScanSpec : ChangeSpec := { name := "fnExactStoreScan", fn := fun _ => fun
  | [d1, d2] => { results := [.lit (.bool true)], args := [d1, d2] }
  | _ => none }
def fnExactStoreScanRow : OpenClaim := { program := "ytkdaohfkphodeaa", sum := "5c4beba83559e4a8853d22b3eb3acd0bae7dad5492a2c76bbd7fb5ac7bce590a", func := "loop.example/g00097/laws.FnExactStoreScan", spec := "fnExactStoreScan", unfollowed := true, recurses := true, apart := false }
def FnExactStoreScanSaid : Prop := fnExactStoreScanRow.holds Try.pinned (OpenSpec.ofChange fnExactStoreScanSpec)

/-- ITS FALSE NEIGHBOUR: 'it returns false'. Refute it at one input. -/
def fnExactStoreScanWrong : ChangeSpec := { name := "fnExactStoreScan", fn := fun _ => fun
  | [d1, d2] => { results := [.lit (.bool false)], args := [d1, d2] }
  | _ => none }
def FnExactStoreScanWrongFalsely : Prop := fnExactStoreScanRow.holds Try.pinned (OpenSpec.ofChange fnExactStoreScanWrong)

/-- 'laws.FnExactLocksHold': WHATEVER THE INPUT: true; the input reads as it did. -/
def fnExactLocksHoldSpec : ChangeSpec := { name := "fnExactLocksHold", fn := fun _ => fun
  | [d1, d2, d3, d4] => { results := [.lit (.bool true)], args := [d1, d2, d3, d4] }
  | _ => none }
def fnExactLocksHoldRow : OpenClaim := { program := "ytkdaohfkphodeaa", sum := "5c4beba83559e4a8853d22b3eb3acd0bae7dad5492a2c76bbd7fb5ac7bce590a", func := "loop.example/g00097/laws.FnExactLocksHold", spec := "fnExactLocksHold", unfollowed := true, recurses := true, apart := false }
def FnExactLocksHoldSaid : Prop := fnExactLocksHoldRow.holds Try.pinned (OpenSpec.ofChange fnExactLocksHoldSpec)

/-- ITS FALSE NEIGHBOUR: 'it returns false'. Refute it at one input. -/
def fnExactLocksHoldWrong : ChangeSpec := { name := "fnExactLocksHold", fn := fun _ => fun
  | [d1, d2, d3, d4] => { results := [.lit (.bool false)], args := [d1, d2, d3, d4] }
  | _ => none }
def FnExactLocksHoldWrongFalsely : Prop := fnExactLocksHoldRow.holds Try.pinned (OpenSpec.ofChange fnExactLocksHoldWrong)

/-- 'laws.FnExactStoreNew': WHATEVER THE INPUT: true; the input reads as it did. -/
def fnExactStoreNewSpec : ChangeSpec := { name := "fnExactStoreNew", fn := fun _ => fun
  | [d1, d2] => { results := [.lit (.bool true)], args := [d1, d2] }
  | _ => none }
def fnExactStoreNewRow : OpenClaim := { program := "ytkdaohfkphodeaa", sum := "5c4beba83559e4a8853d22b3eb3acd0bae7dad5492a2c76bbd7fb5ac7bce590a", func := "loop.example/g00097/laws.FnExactStoreNew", spec := "fnExactStoreNew", unfollowed := true, recurses := true, apart := false }
def FnExactStoreNewSaid : Prop := fnExactStoreNewRow.holds Try.pinned (OpenSpec.ofChange fnExactStoreNewSpec)

/-- ITS FALSE NEIGHBOUR: 'it returns false'. Refute it at one input. -/
def fnExactStoreNewWrong : ChangeSpec := { name := "fnExactStoreNew", fn := fun _ => fun
  | [d1, d2] => { results := [.lit (.bool false)], args := [d1, d2] }
  | _ => none }
def FnExactStoreNewWrongFalsely : Prop := fnExactStoreNewRow.holds Try.pinned (OpenSpec.ofChange fnExactStoreNewWrong)

/-- 'laws.FnExactLocksDrop': WHATEVER THE INPUT: true; the input reads as it did. -/
def fnExactLocksDropSpec : ChangeSpec := { name := "fnExactLocksDrop", fn := fun _ => fun
  | [d1, d2] => { results := [.lit (.bool true)], args := [d1, d2] }
  | _ => none }
def fnExactLocksDropRow : OpenClaim := { program := "ytkdaohfkphodeaa", sum := "5c4beba83559e4a8853d22b3eb3acd0bae7dad5492a2c76bbd7fb5ac7bce590a", func := "loop.example/g00097/laws.FnExactLocksDrop", spec := "fnExactLocksDrop", unfollowed := true, recurses := true, apart := false }
def FnExactLocksDropSaid : Prop := fnExactLocksDropRow.holds Try.pinned (OpenSpec.ofChange fnExactLocksDropSpec)

/-- ITS FALSE NEIGHBOUR: 'it returns false'. Refute it at one input. -/
def fnExactLocksDropWrong : ChangeSpec := { name := "fnExactLocksDrop", fn := fun _ => fun
  | [d1, d2] => { results := [.lit (.bool false)], args := [d1, d2] }
  | _ => none }
def FnExactLocksDropWrongFalsely : Prop := fnExactLocksDropRow.holds Try.pinned (OpenSpec.ofChange fnExactLocksDropWrong)

/-- 'laws.FnExactLocksOf': WHATEVER THE INPUT: true; the input reads as it did. -/
def fnExactLocksOfSpec : ChangeSpec := { name := "fnExactLocksOf", fn := fun _ => fun
  | [d1, d2] => { results := [.lit (.bool true)], args := [d1, d2] }
  | _ => none }
def fnExactLocksOfRow : OpenClaim := { program := "ytkdaohfkphodeaa", sum := "5c4beba83559e4a8853d22b3eb3acd0bae7dad5492a2c76bbd7fb5ac7bce590a", func := "loop.example/g00097/laws.FnExactLocksOf", spec := "fnExactLocksOf", unfollowed := true, recurses := true, apart := false }
def FnExactLocksOfSaid : Prop := fnExactLocksOfRow.holds Try.pinned (OpenSpec.ofChange fnExactLocksOfSpec)

/-- ITS FALSE NEIGHBOUR: 'it returns false'. Refute it at one input. -/
def fnExactLocksOfWrong : ChangeSpec := { name := "fnExactLocksOf", fn := fun _ => fun
  | [d1, d2] => { results := [.lit (.bool false)], args := [d1, d2] }
  | _ => none }
def FnExactLocksOfWrongFalsely : Prop := fnExactLocksOfRow.holds Try.pinned (OpenSpec.ofChange fnExactLocksOfWrong)

/-- 'laws.FnExactStoreApply': WHATEVER THE INPUT: true; the input reads as it did. -/
def fnExactStoreApplySpec : ChangeSpec := { name := "fnExactStoreApply", fn := fun _ => fun
  | [d1, d2] => { results := [.lit (.bool true)], args := [d1, d2] }
  | _ => none }
def fnExactStoreApplyRow : OpenClaim := { program := "ytkdaohfkphodeaa", sum := "5c4beba83559e4a8853d22b3eb3acd0bae7dad5492a2c76bbd7fb5ac7bce590a", func := "loop.example/g00097/laws.FnExactStoreApply", spec := "fnExactStoreApply", inPlace := ["slices.overlaps[loop.example/g00097/impl.Cell]"], unfollowed := true, recurses := true, apart := false }
def FnExactStoreApplySaid : Prop := fnExactStoreApplyRow.holds Try.pinned (OpenSpec.ofChange fnExactStoreApplySpec)

/-- ITS FALSE NEIGHBOUR: 'it returns false'. Refute it at one input. -/
def fnExactStoreApplyWrong : ChangeSpec := { name := "fnExactStoreApply", fn := fun _ => fun
  | [d1, d2] => { results := [.lit (.bool false)], args := [d1, d2] }
  | _ => none }
def FnExactStoreApplyWrongFalsely : Prop := fnExactStoreApplyRow.holds Try.pinned (OpenSpec.ofChange fnExactStoreApplyWrong)

/- THE SECOND FORM. 'bulk': how many values and letters a reading holds, each counted each time it is reached (what is shared counts as often as it is met; a slice's spare places count too). A statement '..UptoSaid' is the law's where the arguments, and the package variables that the reading takes, are together of bulk at most 1048576: NARROWER than '..Said'. Prove '..Said' where nothing that the law and all that it calls make is longer than what came in: it says more and counts as full. Else prove '..UptoSaid'. A law counts once. -/
mutual
def uptoBulk {H : Type} : DataW H → Nat
  | .lit (.string bytes) => bytes.length + 1
  | .lit _ => 1
  | .nil => 1
  | .ptr d => uptoBulk d + 1
  | .slice elems spare => uptoBulkAll elems + uptoBulkAll spare + 1
  | .agg parts => uptoBulkAll parts + 1
  | .iface _ d => uptoBulk d + 1
  | .map entries => uptoBulkEntries entries + 1
  | .held _ => 1
def uptoBulkAll {H : Type} : List (DataW H) → Nat
  | [] => 0
  | d :: r => uptoBulk d + uptoBulkAll r
def uptoBulkEntries {H : Type} : List (Lit × DataW H) → Nat
  | [] => 0
  | x :: r => uptoBulkEntry x + uptoBulkEntries r
def uptoBulkEntry {H : Type} : Lit × DataW H → Nat
  | (.string bytes, d) => bytes.length + uptoBulk d + 1
  | (_, d) => uptoBulk d + 1
 end
def uptoSmall : (H : Type) → List (DataW H) → Bool := fun _ ds => decide (uptoBulkAll ds ≤ 1048576)
def OpenSpec.upto (s : _root_.Go.ChangeSpec) : _root_.Go.OpenSpec := { _root_.Go.OpenSpec.ofChange s with cond := some uptoSmall }

/-- 'laws.FnExactStoreOk', WHERE WHAT IT READS IS OF BULK AT MOST 1048576: true; the input reads as it did. -/
def fnExactStoreOkUptoRow : OpenClaim := { program := "ytkdaohfkphodeaa", sum := "5c4beba83559e4a8853d22b3eb3acd0bae7dad5492a2c76bbd7fb5ac7bce590a", func := "loop.example/g00097/laws.FnExactStoreOk", spec := "fnExactStoreOk", apart := false, narrowed := true }
def FnExactStoreOkUptoSaid : Prop := fnExactStoreOkUptoRow.holds Try.pinned (OpenSpec.upto fnExactStoreOkSpec)

/-- 'laws.FnExactDeedOk', WHERE WHAT IT READS IS OF BULK AT MOST 1048576: true; the input reads as it did. -/
def fnExactDeedOkUptoRow : OpenClaim := { program := "ytkdaohfkphodeaa", sum := "5c4beba83559e4a8853d22b3eb3acd0bae7dad5492a2c76bbd7fb5ac7bce590a", func := "loop.example/g00097/laws.FnExactDeedOk", spec := "fnExactDeedOk", apart := false, narrowed := true }
def FnExactDeedOkUptoSaid : Prop := fnExactDeedOkUptoRow.holds Try.pinned (OpenSpec.upto fnExactDeedOkSpec)

/-- 'laws.FnExactMoveRank', WHERE WHAT IT READS IS OF BULK AT MOST 1048576: true; the input reads as it did. -/
def fnExactMoveRankUptoRow : OpenClaim := { program := "ytkdaohfkphodeaa", sum := "5c4beba83559e4a8853d22b3eb3acd0bae7dad5492a2c76bbd7fb5ac7bce590a", func := "loop.example/g00097/laws.FnExactMoveRank", spec := "fnExactMoveRank", apart := false, narrowed := true }
def FnExactMoveRankUptoSaid : Prop := fnExactMoveRankUptoRow.holds Try.pinned (OpenSpec.upto fnExactMoveRankSpec)

/-- 'laws.FnExactStoreGet', WHERE WHAT IT READS IS OF BULK AT MOST 1048576: true; the input reads as it did. -/
def fnExactStoreGetUptoRow : OpenClaim := { program := "ytkdaohfkphodeaa", sum := "5c4beba83559e4a8853d22b3eb3acd0bae7dad5492a2c76bbd7fb5ac7bce590a", func := "loop.example/g00097/laws.FnExactStoreGet", spec := "fnExactStoreGet", unfollowed := true, recurses := true, apart := false, narrowed := true }
def FnExactStoreGetUptoSaid : Prop := fnExactStoreGetUptoRow.holds Try.pinned (OpenSpec.upto fnExactStoreGetSpec)

/-- 'laws.FnExactLocksOk', WHERE WHAT IT READS IS OF BULK AT MOST 1048576: true; the input reads as it did. -/
def fnExactLocksOkUptoRow : OpenClaim := { program := "ytkdaohfkphodeaa", sum := "5c4beba83559e4a8853d22b3eb3acd0bae7dad5492a2c76bbd7fb5ac7bce590a", func := "loop.example/g00097/laws.FnExactLocksOk", spec := "fnExactLocksOk", unfollowed := true, recurses := true, apart := false, narrowed := true }
def FnExactLocksOkUptoSaid : Prop := fnExactLocksOkUptoRow.holds Try.pinned (OpenSpec.upto fnExactLocksOkSpec)

/-- 'laws.FnExactStoreCut', WHERE WHAT IT READS IS OF BULK AT MOST 1048576: true; the input reads as it did. -/
def fnExactStoreCutUptoRow : OpenClaim := { program := "ytkdaohfkphodeaa", sum := "5c4beba83559e4a8853d22b3eb3acd0bae7dad5492a2c76bbd7fb5ac7bce590a", func := "loop.example/g00097/laws.FnExactStoreCut", spec := "fnExactStoreCut", unfollowed := true, recurses := true, apart := false, narrowed := true }
def FnExactStoreCutUptoSaid : Prop := fnExactStoreCutUptoRow.holds Try.pinned (OpenSpec.upto fnExactStoreCutSpec)

/-- 'laws.FnExactStoreScan', WHERE WHAT IT READS IS OF BULK AT MOST 1048576: true; the input reads as it did. -/
def fnExactStoreScanUptoRow : OpenClaim := { program := "ytkdaohfkphodeaa", sum := "5c4beba83559e4a8853d22b3eb3acd0bae7dad5492a2c76bbd7fb5ac7bce590a", func := "loop.example/g00097/laws.FnExactStoreScan", spec := "fnExactStoreScan", unfollowed := true, recurses := true, apart := false, narrowed := true }
def FnExactStoreScanUptoSaid : Prop := fnExactStoreScanUptoRow.holds Try.pinned (OpenSpec.upto fnExactStoreScanSpec)

/-- 'laws.FnExactLocksHold', WHERE WHAT IT READS IS OF BULK AT MOST 1048576: true; the input reads as it did. -/
def fnExactLocksHoldUptoRow : OpenClaim := { program := "ytkdaohfkphodeaa", sum := "5c4beba83559e4a8853d22b3eb3acd0bae7dad5492a2c76bbd7fb5ac7bce590a", func := "loop.example/g00097/laws.FnExactLocksHold", spec := "fnExactLocksHold", unfollowed := true, recurses := true, apart := false, narrowed := true }
def FnExactLocksHoldUptoSaid : Prop := fnExactLocksHoldUptoRow.holds Try.pinned (OpenSpec.upto fnExactLocksHoldSpec)

/-- 'laws.FnExactStoreNew', WHERE WHAT IT READS IS OF BULK AT MOST 1048576: true; the input reads as it did. -/
def fnExactStoreNewUptoRow : OpenClaim := { program := "ytkdaohfkphodeaa", sum := "5c4beba83559e4a8853d22b3eb3acd0bae7dad5492a2c76bbd7fb5ac7bce590a", func := "loop.example/g00097/laws.FnExactStoreNew", spec := "fnExactStoreNew", unfollowed := true, recurses := true, apart := false, narrowed := true }
def FnExactStoreNewUptoSaid : Prop := fnExactStoreNewUptoRow.holds Try.pinned (OpenSpec.upto fnExactStoreNewSpec)

/-- 'laws.FnExactLocksDrop', WHERE WHAT IT READS IS OF BULK AT MOST 1048576: true; the input reads as it did. -/
def fnExactLocksDropUptoRow : OpenClaim := { program := "ytkdaohfkphodeaa", sum := "5c4beba83559e4a8853d22b3eb3acd0bae7dad5492a2c76bbd7fb5ac7bce590a", func := "loop.example/g00097/laws.FnExactLocksDrop", spec := "fnExactLocksDrop", unfollowed := true, recurses := true, apart := false, narrowed := true }
def FnExactLocksDropUptoSaid : Prop := fnExactLocksDropUptoRow.holds Try.pinned (OpenSpec.upto fnExactLocksDropSpec)

/-- 'laws.FnExactLocksOf', WHERE WHAT IT READS IS OF BULK AT MOST 1048576: true; the input reads as it did. -/
def fnExactLocksOfUptoRow : OpenClaim := { program := "ytkdaohfkphodeaa", sum := "5c4beba83559e4a8853d22b3eb3acd0bae7dad5492a2c76bbd7fb5ac7bce590a", func := "loop.example/g00097/laws.FnExactLocksOf", spec := "fnExactLocksOf", unfollowed := true, recurses := true, apart := false, narrowed := true }
def FnExactLocksOfUptoSaid : Prop := fnExactLocksOfUptoRow.holds Try.pinned (OpenSpec.upto fnExactLocksOfSpec)

/-- 'laws.FnExactStoreApply', WHERE WHAT IT READS IS OF BULK AT MOST 1048576: true; the input reads as it did. -/
def fnExactStoreApplyUptoRow : OpenClaim := { program := "ytkdaohfkphodeaa", sum := "5c4beba83559e4a8853d22b3eb3acd0bae7dad5492a2c76bbd7fb5ac7bce590a", func := "loop.example/g00097/laws.FnExactStoreApply", spec := "fnExactStoreApply", inPlace := ["slices.overlaps[loop.example/g00097/impl.Cell]"], unfollowed := true, recurses := true, apart := false, narrowed := true }
def FnExactStoreApplyUptoSaid : Prop := fnExactStoreApplyUptoRow.holds Try.pinned (OpenSpec.upto fnExactStoreApplySpec)

end Rows
end Go.Proofs.Ytkdaohfkphodeaa
