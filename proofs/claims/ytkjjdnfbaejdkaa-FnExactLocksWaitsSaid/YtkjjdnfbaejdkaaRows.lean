/-
  No cell of these rows narrows 'for every input' (looked for: loops, veiled, ifaces, maps, wideKeys, modest, calm, conditions, laid).
  DERIVED. THE GIVEN ROWS OF THIS SEAT. 12 by the template 'for every input the law returns true; each argument reads behind the call as it read before'; 0 by the template 'total and deterministic' (their statements: YtkjjdnfbaejdkaaTotals.lean).
  GIVEN WITH THE SEED: the statements are not yours to turn. If you find one false, say at which input.
  Laid BY PROGRAM, IN A SANDBOX (cutbox-rows.mjs): the forced cells as the released guide's own fill.sh prints them over the translation a5f352889b370f8e… (all of the seat's roots in one cut). By AI agents, Wed Nov 11 2026. No macro, syntax, notation, axiom, sorry.
-/
import Derived.Test.YtkjjdnfbaejdkaaChecked
import GoSem.Claim
import GoSem.ClaimJoined
import GoSem.ClaimMapViews
import Derived.JoinedTies
import Derived.KernelRfl
namespace Go.Proofs.Ytkjjdnfbaejdkaa
/- THE CELL 'sum', in the pinned program and in every row, IS THE sha256 OF THE DUMP (.gsa) THAT YtkjjdnfbaejdkaaProg.lean LOADS. Nothing in Lean hashes anything: it is a label: what it is worth is what the hold of that sum in a sandbox is worth. -/
noncomputable def Try.pinned : Pinned := { name := "ytkjjdnfbaejdkaa", sum := "a5f352889b370f8eb3ddcc21a5315d746791660f3fc42edfeffd4c713004e58f", checked := Try.checked }
namespace Rows
def none {H : Type} : Left H := { results := [], args := [] }

/-- 'laws.FnExactStoreCut': WHATEVER THE INPUT: true; the input reads as it did. -/
def fnExactStoreCutSpec : ChangeSpec := { name := "fnExactStoreCut", fn := fun _ => fun
  | [d1, d2] => { results := [.lit (.bool true)], args := [d1, d2] }
  | _ => none }
def fnExactStoreCutRow : OpenClaim := { program := "ytkjjdnfbaejdkaa", sum := "a5f352889b370f8eb3ddcc21a5315d746791660f3fc42edfeffd4c713004e58f", func := "loop.example/g00097/laws.FnExactStoreCut", spec := "fnExactStoreCut", unfollowed := true, recurses := true, apart := false }
def FnExactStoreCutSaid : Prop := fnExactStoreCutRow.holds Try.pinned (OpenSpec.ofChange fnExactStoreCutSpec)

/-- ITS FALSE NEIGHBOUR: 'it returns false'. Refute it at one input. -/
def fnExactStoreCutWrong : ChangeSpec := { name := "fnExactStoreCut", fn := fun _ => fun
  | [d1, d2] => { results := [.lit (.bool false)], args := [d1, d2] }
  | _ => none }
def FnExactStoreCutWrongFalsely : Prop := fnExactStoreCutRow.holds Try.pinned (OpenSpec.ofChange fnExactStoreCutWrong)

/-- 'laws.FnExactStoreScan': WHATEVER THE INPUT: true; the input reads as it did. -/
def fnExactStoreScanSpec : ChangeSpec := { name := "fnExactStoreScan", fn := fun _ => fun
  | [d1, d2] => { results := [.lit (.bool true)], args := [d1, d2] }
  | _ => none }
def fnExactStoreScanRow : OpenClaim := { program := "ytkjjdnfbaejdkaa", sum := "a5f352889b370f8eb3ddcc21a5315d746791660f3fc42edfeffd4c713004e58f", func := "loop.example/g00097/laws.FnExactStoreScan", spec := "fnExactStoreScan", unfollowed := true, recurses := true, apart := false }
def FnExactStoreScanSaid : Prop := fnExactStoreScanRow.holds Try.pinned (OpenSpec.ofChange fnExactStoreScanSpec)

/-- ITS FALSE NEIGHBOUR: 'it returns false'. Refute it at one input. -/
def fnExactStoreScanWrong : ChangeSpec := { name := "fnExactStoreScan", fn := fun _ => fun
  | [d1, d2] => { results := [.lit (.bool false)], args := [d1, d2] }
  | _ => none }
def FnExactStoreScanWrongFalsely : Prop := fnExactStoreScanRow.holds Try.pinned (OpenSpec.ofChange fnExactStoreScanWrong)

/-- 'laws.FnExactLocksDrop': WHATEVER THE INPUT: true; the input reads as it did. -/
def fnExactLocksDropSpec : ChangeSpec := { name := "fnExactLocksDrop", fn := fun _ => fun
  | [d1, d2] => { results := [.lit (.bool true)], args := [d1, d2] }
  | _ => none }
def fnExactLocksDropRow : OpenClaim := { program := "ytkjjdnfbaejdkaa", sum := "a5f352889b370f8eb3ddcc21a5315d746791660f3fc42edfeffd4c713004e58f", func := "loop.example/g00097/laws.FnExactLocksDrop", spec := "fnExactLocksDrop", unfollowed := true, recurses := true, apart := false }
def FnExactLocksDropSaid : Prop := fnExactLocksDropRow.holds Try.pinned (OpenSpec.ofChange fnExactLocksDropSpec)

/-- ITS FALSE NEIGHBOUR: 'it returns false'. Refute it at one input. -/
def fnExactLocksDropWrong : ChangeSpec := { name := "fnExactLocksDrop", fn := fun _ => fun
  | [d1, d2] => { results := [.lit (.bool false)], args := [d1, d2] }
  | _ => none }
def FnExactLocksDropWrongFalsely : Prop := fnExactLocksDropRow.holds Try.pinned (OpenSpec.ofChange fnExactLocksDropWrong)

/-- 'laws.FnExactLocksOf': WHATEVER THE INPUT: true; the input reads as it did. -/
def fnExactLocksOfSpec : ChangeSpec := { name := "fnExactLocksOf", fn := fun _ => fun
  | [d1, d2] => { results := [.lit (.bool true)], args := [d1, d2] }
  | _ => none }
def fnExactLocksOfRow : OpenClaim := { program := "ytkjjdnfbaejdkaa", sum := "a5f352889b370f8eb3ddcc21a5315d746791660f3fc42edfeffd4c713004e58f", func := "loop.example/g00097/laws.FnExactLocksOf", spec := "fnExactLocksOf", unfollowed := true, recurses := true, apart := false }
def FnExactLocksOfSaid : Prop := fnExactLocksOfRow.holds Try.pinned (OpenSpec.ofChange fnExactLocksOfSpec)

/-- ITS FALSE NEIGHBOUR: 'it returns false'. Refute it at one input. -/
def fnExactLocksOfWrong : ChangeSpec := { name := "fnExactLocksOf", fn := fun _ => fun
  | [d1, d2] => { results := [.lit (.bool false)], args := [d1, d2] }
  | _ => none }
def FnExactLocksOfWrongFalsely : Prop := fnExactLocksOfRow.holds Try.pinned (OpenSpec.ofChange fnExactLocksOfWrong)

/-- 'laws.FnExactStoreApply': WHATEVER THE INPUT: true; the input reads as it did. -/
def fnExactStoreApplySpec : ChangeSpec := { name := "fnExactStoreApply", fn := fun _ => fun
  | [d1, d2] => { results := [.lit (.bool true)], args := [d1, d2] }
  | _ => none }
def fnExactStoreApplyRow : OpenClaim := { program := "ytkjjdnfbaejdkaa", sum := "a5f352889b370f8eb3ddcc21a5315d746791660f3fc42edfeffd4c713004e58f", func := "loop.example/g00097/laws.FnExactStoreApply", spec := "fnExactStoreApply", inPlace := ["slices.overlaps[loop.example/g00097/impl.Cell]"], unfollowed := true, recurses := true, apart := false }
def FnExactStoreApplySaid : Prop := fnExactStoreApplyRow.holds Try.pinned (OpenSpec.ofChange fnExactStoreApplySpec)

/-- ITS FALSE NEIGHBOUR: 'it returns false'. Refute it at one input. -/
def fnExactStoreApplyWrong : ChangeSpec := { name := "fnExactStoreApply", fn := fun _ => fun
  | [d1, d2] => { results := [.lit (.bool false)], args := [d1, d2] }
  | _ => none }
def FnExactStoreApplyWrongFalsely : Prop := fnExactStoreApplyRow.holds Try.pinned (OpenSpec.ofChange fnExactStoreApplyWrong)

/-- 'laws.FnExactNewAtlas': WHATEVER THE INPUT: true; the input reads as it did. -/
def fnExactNewAtlasSpec : ChangeSpec := { name := "fnExactNewAtlas", fn := fun _ => fun
  | [d] => { results := [.lit (.bool true)], args := [d] }
  | _ => none }
def fnExactNewAtlasRow : OpenClaim := { program := "ytkjjdnfbaejdkaa", sum := "a5f352889b370f8eb3ddcc21a5315d746791660f3fc42edfeffd4c713004e58f", func := "loop.example/g00097/laws.FnExactNewAtlas", spec := "fnExactNewAtlas", unfollowed := true, recurses := true, apart := false }
def FnExactNewAtlasSaid : Prop := fnExactNewAtlasRow.holds Try.pinned (OpenSpec.ofChange fnExactNewAtlasSpec)

/-- ITS FALSE NEIGHBOUR: 'it returns false'. Refute it at one input. -/
def fnExactNewAtlasWrong : ChangeSpec := { name := "fnExactNewAtlas", fn := fun _ => fun
  | [d] => { results := [.lit (.bool false)], args := [d] }
  | _ => none }
def FnExactNewAtlasWrongFalsely : Prop := fnExactNewAtlasRow.holds Try.pinned (OpenSpec.ofChange fnExactNewAtlasWrong)

/-- 'laws.FnExactAtlasGone': WHATEVER THE INPUT: true; the input reads as it did. -/
def fnExactAtlasGoneSpec : ChangeSpec := { name := "fnExactAtlasGone", fn := fun _ => fun
  | [d1, d2] => { results := [.lit (.bool true)], args := [d1, d2] }
  | _ => none }
def fnExactAtlasGoneRow : OpenClaim := { program := "ytkjjdnfbaejdkaa", sum := "a5f352889b370f8eb3ddcc21a5315d746791660f3fc42edfeffd4c713004e58f", func := "loop.example/g00097/laws.FnExactAtlasGone", spec := "fnExactAtlasGone", unfollowed := true, recurses := true, apart := false }
def FnExactAtlasGoneSaid : Prop := fnExactAtlasGoneRow.holds Try.pinned (OpenSpec.ofChange fnExactAtlasGoneSpec)

/-- ITS FALSE NEIGHBOUR: 'it returns false'. Refute it at one input. -/
def fnExactAtlasGoneWrong : ChangeSpec := { name := "fnExactAtlasGone", fn := fun _ => fun
  | [d1, d2] => { results := [.lit (.bool false)], args := [d1, d2] }
  | _ => none }
def FnExactAtlasGoneWrongFalsely : Prop := fnExactAtlasGoneRow.holds Try.pinned (OpenSpec.ofChange fnExactAtlasGoneWrong)

/-- 'laws.FnExactAtlasFrozen': WHATEVER THE INPUT: true; the input reads as it did. -/
def fnExactAtlasFrozenSpec : ChangeSpec := { name := "fnExactAtlasFrozen", fn := fun _ => fun
  | [d1, d2, d3] => { results := [.lit (.bool true)], args := [d1, d2, d3] }
  | _ => none }
def fnExactAtlasFrozenRow : OpenClaim := { program := "ytkjjdnfbaejdkaa", sum := "a5f352889b370f8eb3ddcc21a5315d746791660f3fc42edfeffd4c713004e58f", func := "loop.example/g00097/laws.FnExactAtlasFrozen", spec := "fnExactAtlasFrozen", unfollowed := true, recurses := true, apart := false }
def FnExactAtlasFrozenSaid : Prop := fnExactAtlasFrozenRow.holds Try.pinned (OpenSpec.ofChange fnExactAtlasFrozenSpec)

/-- ITS FALSE NEIGHBOUR: 'it returns false'. Refute it at one input. -/
def fnExactAtlasFrozenWrong : ChangeSpec := { name := "fnExactAtlasFrozen", fn := fun _ => fun
  | [d1, d2, d3] => { results := [.lit (.bool false)], args := [d1, d2, d3] }
  | _ => none }
def FnExactAtlasFrozenWrongFalsely : Prop := fnExactAtlasFrozenRow.holds Try.pinned (OpenSpec.ofChange fnExactAtlasFrozenWrong)

/-- 'laws.FnExactAtlasMove': WHATEVER THE INPUT: true; the input reads as it did. -/
def fnExactAtlasMoveSpec : ChangeSpec := { name := "fnExactAtlasMove", fn := fun _ => fun
  | [d1, d2, d3] => { results := [.lit (.bool true)], args := [d1, d2, d3] }
  | _ => none }
def fnExactAtlasMoveRow : OpenClaim := { program := "ytkjjdnfbaejdkaa", sum := "a5f352889b370f8eb3ddcc21a5315d746791660f3fc42edfeffd4c713004e58f", func := "loop.example/g00097/laws.FnExactAtlasMove", spec := "fnExactAtlasMove", unfollowed := true, recurses := true, apart := false }
def FnExactAtlasMoveSaid : Prop := fnExactAtlasMoveRow.holds Try.pinned (OpenSpec.ofChange fnExactAtlasMoveSpec)

/-- ITS FALSE NEIGHBOUR: 'it returns false'. Refute it at one input. -/
def fnExactAtlasMoveWrong : ChangeSpec := { name := "fnExactAtlasMove", fn := fun _ => fun
  | [d1, d2, d3] => { results := [.lit (.bool false)], args := [d1, d2, d3] }
  | _ => none }
def FnExactAtlasMoveWrongFalsely : Prop := fnExactAtlasMoveRow.holds Try.pinned (OpenSpec.ofChange fnExactAtlasMoveWrong)

/-- 'laws.FnExactAtlasInstalled': WHATEVER THE INPUT: true; the input reads as it did. -/
def fnExactAtlasInstalledSpec : ChangeSpec := { name := "fnExactAtlasInstalled", fn := fun _ => fun
  | [d1, d2, d3] => { results := [.lit (.bool true)], args := [d1, d2, d3] }
  | _ => none }
def fnExactAtlasInstalledRow : OpenClaim := { program := "ytkjjdnfbaejdkaa", sum := "a5f352889b370f8eb3ddcc21a5315d746791660f3fc42edfeffd4c713004e58f", func := "loop.example/g00097/laws.FnExactAtlasInstalled", spec := "fnExactAtlasInstalled", unfollowed := true, recurses := true, apart := false }
def FnExactAtlasInstalledSaid : Prop := fnExactAtlasInstalledRow.holds Try.pinned (OpenSpec.ofChange fnExactAtlasInstalledSpec)

/-- ITS FALSE NEIGHBOUR: 'it returns false'. Refute it at one input. -/
def fnExactAtlasInstalledWrong : ChangeSpec := { name := "fnExactAtlasInstalled", fn := fun _ => fun
  | [d1, d2, d3] => { results := [.lit (.bool false)], args := [d1, d2, d3] }
  | _ => none }
def FnExactAtlasInstalledWrongFalsely : Prop := fnExactAtlasInstalledRow.holds Try.pinned (OpenSpec.ofChange fnExactAtlasInstalledWrong)

/-- 'laws.FnExactLocksWaits': WHATEVER THE INPUT: true; the input reads as it did. -/
def fnExactLocksWaitsSpec : ChangeSpec := { name := "fnExactLocksWaits", fn := fun _ => fun
  | [d1, d2, d3, d4, d5] => { results := [.lit (.bool true)], args := [d1, d2, d3, d4, d5] }
  | _ => none }
def fnExactLocksWaitsRow : OpenClaim := { program := "ytkjjdnfbaejdkaa", sum := "a5f352889b370f8eb3ddcc21a5315d746791660f3fc42edfeffd4c713004e58f", func := "loop.example/g00097/laws.FnExactLocksWaits", spec := "fnExactLocksWaits", inPlace := ["slices.overlaps[int]"], unfollowed := true, recurses := true, apart := false }
def FnExactLocksWaitsSaid : Prop := fnExactLocksWaitsRow.holds Try.pinned (OpenSpec.ofChange fnExactLocksWaitsSpec)

/-- ITS FALSE NEIGHBOUR: 'it returns false'. Refute it at one input. -/
def fnExactLocksWaitsWrong : ChangeSpec := { name := "fnExactLocksWaits", fn := fun _ => fun
  | [d1, d2, d3, d4, d5] => { results := [.lit (.bool false)], args := [d1, d2, d3, d4, d5] }
  | _ => none }
def FnExactLocksWaitsWrongFalsely : Prop := fnExactLocksWaitsRow.holds Try.pinned (OpenSpec.ofChange fnExactLocksWaitsWrong)

/-- 'laws.FnExactStoreJoin': WHATEVER THE INPUT: true; the input reads as it did. -/
def fnExactStoreJoinSpec : ChangeSpec := { name := "fnExactStoreJoin", fn := fun _ => fun
  | [d1, d2] => { results := [.lit (.bool true)], args := [d1, d2] }
  | _ => none }
def fnExactStoreJoinRow : OpenClaim := { program := "ytkjjdnfbaejdkaa", sum := "a5f352889b370f8eb3ddcc21a5315d746791660f3fc42edfeffd4c713004e58f", func := "loop.example/g00097/laws.FnExactStoreJoin", spec := "fnExactStoreJoin", unfollowed := true, recurses := true, apart := false }
def FnExactStoreJoinSaid : Prop := fnExactStoreJoinRow.holds Try.pinned (OpenSpec.ofChange fnExactStoreJoinSpec)

/-- ITS FALSE NEIGHBOUR: 'it returns false'. Refute it at one input. -/
def fnExactStoreJoinWrong : ChangeSpec := { name := "fnExactStoreJoin", fn := fun _ => fun
  | [d1, d2] => { results := [.lit (.bool false)], args := [d1, d2] }
  | _ => none }
def FnExactStoreJoinWrongFalsely : Prop := fnExactStoreJoinRow.holds Try.pinned (OpenSpec.ofChange fnExactStoreJoinWrong)

/- THE SECOND FORM. 'bulk': how many values and letters a reading holds, each counted each time it is reached (what is shared counts as often as it is met; a slice's spare places count too). A statement '..UptoSaid' is the law's where the arguments, and the package variables that the reading takes, are together of bulk at most 1048576: NARROWER than '..Said'. Prove '..Said' where nothing that the law and all that it calls make is longer than what came in: it says more and counts as full. Else prove '..UptoSaid'. A law counts once. -/
mutual
def uptoBulk {H : Type} : DataW H → Nat
  | .lit (.string bytes) => bytes.length + 1
  | .lit _ => 1
  | .nil => 1
  | .ptr d => uptoBulk d + 1
  | .slice elems spare => uptoBulkAll elems + uptoBulkAll spare + 1
  | .agg parts => uptoBulkAll parts + 1
  | .iface _ d => uptoBulk d + 1
  | .map entries => uptoBulkEntries entries + 1
  | .held _ => 1
def uptoBulkAll {H : Type} : List (DataW H) → Nat
  | [] => 0
  | d :: r => uptoBulk d + uptoBulkAll r
def uptoBulkEntries {H : Type} : List (Lit × DataW H) → Nat
  | [] => 0
  | x :: r => uptoBulkEntry x + uptoBulkEntries r
def uptoBulkEntry {H : Type} : Lit × DataW H → Nat
  | (.string bytes, d) => bytes.length + uptoBulk d + 1
  | (_, d) => uptoBulk d + 1
 end
def uptoSmall : (H : Type) → List (DataW H) → Bool := fun _ ds => decide (uptoBulkAll ds ≤ 1048576)
def OpenSpec.upto (s : _root_.Go.ChangeSpec) : _root_.Go.OpenSpec := { _root_.Go.OpenSpec.ofChange s with cond := some uptoSmall }

/-- 'laws.FnExactStoreCut', WHERE WHAT IT READS IS OF BULK AT MOST 1048576: true; the input reads as it did. -/
def fnExactStoreCutUptoRow : OpenClaim := { program := "ytkjjdnfbaejdkaa", sum := "a5f352889b370f8eb3ddcc21a5315d746791660f3fc42edfeffd4c713004e58f", func := "loop.example/g00097/laws.FnExactStoreCut", spec := "fnExactStoreCut", unfollowed := true, recurses := true, apart := false, narrowed := true }
def FnExactStoreCutUptoSaid : Prop := fnExactStoreCutUptoRow.holds Try.pinned (OpenSpec.upto fnExactStoreCutSpec)

/-- 'laws.FnExactStoreScan', WHERE WHAT IT READS IS OF BULK AT MOST 1048576: true; the input reads as it did. -/
def fnExactStoreScanUptoRow : OpenClaim := { program := "ytkjjdnfbaejdkaa", sum := "a5f352889b370f8eb3ddcc21a5315d746791660f3fc42edfeffd4c713004e58f", func := "loop.example/g00097/laws.FnExactStoreScan", spec := "fnExactStoreScan", unfollowed := true, recurses := true, apart := false, narrowed := true }
def FnExactStoreScanUptoSaid : Prop := fnExactStoreScanUptoRow.holds Try.pinned (OpenSpec.upto fnExactStoreScanSpec)

/-- 'laws.FnExactLocksDrop', WHERE WHAT IT READS IS OF BULK AT MOST 1048576: true; the input reads as it did. -/
def fnExactLocksDropUptoRow : OpenClaim := { program := "ytkjjdnfbaejdkaa", sum := "a5f352889b370f8eb3ddcc21a5315d746791660f3fc42edfeffd4c713004e58f", func := "loop.example/g00097/laws.FnExactLocksDrop", spec := "fnExactLocksDrop", unfollowed := true, recurses := true, apart := false, narrowed := true }
def FnExactLocksDropUptoSaid : Prop := fnExactLocksDropUptoRow.holds Try.pinned (OpenSpec.upto fnExactLocksDropSpec)

/-- 'laws.FnExactLocksOf', WHERE WHAT IT READS IS OF BULK AT MOST 1048576: true; the input reads as it did. -/
def fnExactLocksOfUptoRow : OpenClaim := { program := "ytkjjdnfbaejdkaa", sum := "a5f352889b370f8eb3ddcc21a5315d746791660f3fc42edfeffd4c713004e58f", func := "loop.example/g00097/laws.FnExactLocksOf", spec := "fnExactLocksOf", unfollowed := true, recurses := true, apart := false, narrowed := true }
def FnExactLocksOfUptoSaid : Prop := fnExactLocksOfUptoRow.holds Try.pinned (OpenSpec.upto fnExactLocksOfSpec)

/-- 'laws.FnExactStoreApply', WHERE WHAT IT READS IS OF BULK AT MOST 1048576: true; the input reads as it did. -/
def fnExactStoreApplyUptoRow : OpenClaim := { program := "ytkjjdnfbaejdkaa", sum := "a5f352889b370f8eb3ddcc21a5315d746791660f3fc42edfeffd4c713004e58f", func := "loop.example/g00097/laws.FnExactStoreApply", spec := "fnExactStoreApply", inPlace := ["slices.overlaps[loop.example/g00097/impl.Cell]"], unfollowed := true, recurses := true, apart := false, narrowed := true }
def FnExactStoreApplyUptoSaid : Prop := fnExactStoreApplyUptoRow.holds Try.pinned (OpenSpec.upto fnExactStoreApplySpec)

/-- 'laws.FnExactNewAtlas', WHERE WHAT IT READS IS OF BULK AT MOST 1048576: true; the input reads as it did. -/
def fnExactNewAtlasUptoRow : OpenClaim := { program := "ytkjjdnfbaejdkaa", sum := "a5f352889b370f8eb3ddcc21a5315d746791660f3fc42edfeffd4c713004e58f", func := "loop.example/g00097/laws.FnExactNewAtlas", spec := "fnExactNewAtlas", unfollowed := true, recurses := true, apart := false, narrowed := true }
def FnExactNewAtlasUptoSaid : Prop := fnExactNewAtlasUptoRow.holds Try.pinned (OpenSpec.upto fnExactNewAtlasSpec)

/-- 'laws.FnExactAtlasGone', WHERE WHAT IT READS IS OF BULK AT MOST 1048576: true; the input reads as it did. -/
def fnExactAtlasGoneUptoRow : OpenClaim := { program := "ytkjjdnfbaejdkaa", sum := "a5f352889b370f8eb3ddcc21a5315d746791660f3fc42edfeffd4c713004e58f", func := "loop.example/g00097/laws.FnExactAtlasGone", spec := "fnExactAtlasGone", unfollowed := true, recurses := true, apart := false, narrowed := true }
def FnExactAtlasGoneUptoSaid : Prop := fnExactAtlasGoneUptoRow.holds Try.pinned (OpenSpec.upto fnExactAtlasGoneSpec)

/-- 'laws.FnExactAtlasFrozen', WHERE WHAT IT READS IS OF BULK AT MOST 1048576: true; the input reads as it did. -/
def fnExactAtlasFrozenUptoRow : OpenClaim := { program := "ytkjjdnfbaejdkaa", sum := "a5f352889b370f8eb3ddcc21a5315d746791660f3fc42edfeffd4c713004e58f", func := "loop.example/g00097/laws.FnExactAtlasFrozen", spec := "fnExactAtlasFrozen", unfollowed := true, recurses := true, apart := false, narrowed := true }
def FnExactAtlasFrozenUptoSaid : Prop := fnExactAtlasFrozenUptoRow.holds Try.pinned (OpenSpec.upto fnExactAtlasFrozenSpec)

/-- 'laws.FnExactAtlasMove', WHERE WHAT IT READS IS OF BULK AT MOST 1048576: true; the input reads as it did. -/
def fnExactAtlasMoveUptoRow : OpenClaim := { program := "ytkjjdnfbaejdkaa", sum := "a5f352889b370f8eb3ddcc21a5315d746791660f3fc42edfeffd4c713004e58f", func := "loop.example/g00097/laws.FnExactAtlasMove", spec := "fnExactAtlasMove", unfollowed := true, recurses := true, apart := false, narrowed := true }
def FnExactAtlasMoveUptoSaid : Prop := fnExactAtlasMoveUptoRow.holds Try.pinned (OpenSpec.upto fnExactAtlasMoveSpec)

/-- 'laws.FnExactAtlasInstalled', WHERE WHAT IT READS IS OF BULK AT MOST 1048576: true; the input reads as it did. -/
def fnExactAtlasInstalledUptoRow : OpenClaim := { program := "ytkjjdnfbaejdkaa", sum := "a5f352889b370f8eb3ddcc21a5315d746791660f3fc42edfeffd4c713004e58f", func := "loop.example/g00097/laws.FnExactAtlasInstalled", spec := "fnExactAtlasInstalled", unfollowed := true, recurses := true, apart := false, narrowed := true }
def FnExactAtlasInstalledUptoSaid : Prop := fnExactAtlasInstalledUptoRow.holds Try.pinned (OpenSpec.upto fnExactAtlasInstalledSpec)

/-- 'laws.FnExactLocksWaits', WHERE WHAT IT READS IS OF BULK AT MOST 1048576: true; the input reads as it did. -/
def fnExactLocksWaitsUptoRow : OpenClaim := { program := "ytkjjdnfbaejdkaa", sum := "a5f352889b370f8eb3ddcc21a5315d746791660f3fc42edfeffd4c713004e58f", func := "loop.example/g00097/laws.FnExactLocksWaits", spec := "fnExactLocksWaits", inPlace := ["slices.overlaps[int]"], unfollowed := true, recurses := true, apart := false, narrowed := true }
def FnExactLocksWaitsUptoSaid : Prop := fnExactLocksWaitsUptoRow.holds Try.pinned (OpenSpec.upto fnExactLocksWaitsSpec)

/-- 'laws.FnExactStoreJoin', WHERE WHAT IT READS IS OF BULK AT MOST 1048576: true; the input reads as it did. -/
def fnExactStoreJoinUptoRow : OpenClaim := { program := "ytkjjdnfbaejdkaa", sum := "a5f352889b370f8eb3ddcc21a5315d746791660f3fc42edfeffd4c713004e58f", func := "loop.example/g00097/laws.FnExactStoreJoin", spec := "fnExactStoreJoin", unfollowed := true, recurses := true, apart := false, narrowed := true }
def FnExactStoreJoinUptoSaid : Prop := fnExactStoreJoinUptoRow.holds Try.pinned (OpenSpec.upto fnExactStoreJoinSpec)

end Rows
end Go.Proofs.Ytkjjdnfbaejdkaa
