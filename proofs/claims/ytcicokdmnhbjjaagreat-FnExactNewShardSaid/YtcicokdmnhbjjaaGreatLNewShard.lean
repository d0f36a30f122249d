/- The given statement: the law returns true for every input, and its arguments read as they did. Conditions: none. -/
import Derived.Test.YtcicokdmnhbjjaaGreatDNewSharda
import Derived.Test.YtcicokdmnhbjjaaGreatDNewShardb
import Derived.Test.YtcicokdmnhbjjaaGreatDNewShardc
import Derived.Test.YtcicokdmnhbjjaaGreatPNewShard
import Derived.Test.YtcicokdmnhbjjaaGreatBr
import Derived.Test.YtcicokdmnhbjjaaGreatRows
import Derived.ProofKit
import Derived.KernelRfl
set_option linter.unusedVariables false
set_option maxRecDepth 100000
namespace Go.Proofs.YtcicokdmnhbjjaaGreat
open Go.AW Go.ChangeShapes Go.WideShapes Go.ChangeAt Go.RowKit
theorem law_own : ownKnob Tryz.prog.godebug = none := by kernel_rfl
theorem law_laid : laidOutB Tryz.prog = true := by kernel_rfl
theorem rd_3 : Rds Tryz.prog 3 (fun ds => ∃ x : Int, (inK .i64) x ∧ ds = d_i64 x) := Rds.int (by kernel_rfl)
theorem rd_87 : Rds Tryz.prog 87 (fun ds => ∃ x : TRange, ok_TRange x ∧ ds = d_TRange x) := by
  refine (Rds.struct (Rs := [(1, fun ds => ∃ x : Int, (inK .i64) x ∧ ds = d_i64 x), (1, fun ds => ∃ x : Int, (inK .i64) x ∧ ds = d_i64 x)]) Tryz.underlying87 ⟨rfl, (by kernel_rfl : _ = 1), rd_3, ⟨rfl, (by kernel_rfl : _ = 1), rd_3, trivial⟩⟩ (by kernel_rfl)).mono ?_
  rintro ds ⟨_, _, rfl, ⟨x0, h0, rfl⟩, ⟨_, _, rfl, ⟨x1, h1, rfl⟩, rfl⟩⟩
  exact ⟨⟨x0, x1⟩, ⟨h0, h1⟩, rfl⟩
theorem rd_22 : Rds Tryz.prog 22 (fun ds => ∃ x : (List TRange), (okS ok_TRange) x ∧ ds = dS_TRange x) := Rds.slice (f := d_TRange) (ok := ok_TRange) (sz := 2) (by kernel_rfl) (by kernel_rfl) (by decide) (fun _ => rfl) rd_87
theorem FnExactNewShard_lifted (os : Os) (started : os.Started) (H : Type) (enc : TypeId × Value → H) :
    ReturnsInHanded {} Tryz.checked os 4 .any (Rows.fnExactNewShardSpec.pre6 enc Tryz.prog Tryz.f4 Rows.fnExactNewShardRow.domain false) (Rows.fnExactNewShardSpec.post enc Tryz.prog Tryz.f4 false true false false) := by
  refine returnsInHanded_of_change (C := Tryz.checked) law_own started (by kernel_rfl) Tryz.func4
    (ChangeSpec.witness6 (enc := enc) (C := Tryz.checked) false ⟨#[], #[.int .i64 0, .slice none 0 0], []⟩ 8 (by kernel_rfl) (by kernel_rfl) (by kernel_rfl) (by kernel_rfl)) ?_
  intro W base args ds gs before hval hW hcnd _
  have hR : ArgsR Tryz.prog Tryz.f4.params.toList [fun x => ∃ a : Int, (inK .i64) a ∧ x = (.int .i64 a), fun x => ∃ a : (List TRange), (okS ok_TRange) a ∧ x = (.sl 2 (List.map d_TRange a))] := by rw [Tryz.params4]; exact ⟨(argC (R := fun x => ∃ a : Int, (inK .i64) a ∧ x = (.int .i64 a)) (by kernel_rfl) (rd_3.mono fun ds ⟨a, h, e⟩ => ⟨_, ⟨a, h, rfl⟩, rfl, e⟩)), ⟨(argC (R := fun x => ∃ a : (List TRange), (okS ok_TRange) a ∧ x = (.sl 2 (List.map d_TRange a))) (by kernel_rfl) (rd_22.mono fun ds ⟨a, h, e⟩ => ⟨_, ⟨a, h, rfl⟩, rfl, e⟩)), trivial⟩⟩
  refine law_calls (P := Tryz.prog) (tb := 4) law_laid rfl (fun ds h => ?_) (by kernel_rfl) (by kernel_rfl) (by kernel_rfl) hR (fun xs h => ?_) hval hW
  · rw [Tryz.params4] at h
    exact match ds, h with
      | [_, _], _ => rfl
  · obtain ⟨_, _, rfl, ⟨a0, h0, rfl⟩, g0⟩ := DsR.cons h
    obtain ⟨_, _, rfl, ⟨a1, h1, rfl⟩, g1⟩ := DsR.cons g0
    obtain rfl := DsR.nil g1
    exact c_laws_FnExactNewShard (p_FnExactNewShard a0 a1 h0 h1)
theorem FnExactNewShard_f25 : Tryz.pinned.checked.prog.stopsHeard = true := by kernel_rfl
theorem FnExactNewShard_f26 : Tryz.pinned.checked.prog.mayEnter = true := by kernel_rfl
theorem FnExactNewShard_f27 : (Rows.fnExactNewShardRow.lifted == Tryz.pinned.checked.prog.liftsFinal) = true := by kernel_rfl
theorem FnExactNewShard_f28 : (Tryz.pinned.checked.prog.make == some Rows.fnExactNewShardRow.make) = true := by kernel_rfl
theorem FnExactNewShard_f13 : (Rows.fnExactNewShardRow.named == Tryz.pinned.checked.prog.varsNamed 4) = true := by kernel_rfl
theorem FnExactNewShard_f12 : (Rows.fnExactNewShardRow.recurses == Tryz.pinned.checked.prog.recurses 4) = true := by kernel_rfl
theorem FnExactNewShard_f11 : (Rows.fnExactNewShardRow.unfollowed == Tryz.pinned.checked.prog.unfollowed 4) = true := by kernel_rfl
theorem FnExactNewShard_f10 : (Rows.fnExactNewShardRow.inPlace == Tryz.pinned.checked.prog.inPlace 4) = true := by kernel_rfl
theorem FnExactNewShard_bi {a b : Bool} (h : a = true) (h' : b = true) : (a && b) = true := by rw [h, h']; rfl
theorem FnExactNewShard_facts : joinedFacts Tryz.pinned.checked.prog 4 Tryz.f4 Rows.fnExactNewShardSpec Rows.fnExactNewShardRow = true :=
  (FnExactNewShard_bi (FnExactNewShard_bi (FnExactNewShard_bi (FnExactNewShard_bi (FnExactNewShard_bi (FnExactNewShard_bi (FnExactNewShard_bi (FnExactNewShard_bi (FnExactNewShard_bi (FnExactNewShard_bi (FnExactNewShard_bi (FnExactNewShard_bi (FnExactNewShard_bi (FnExactNewShard_bi (FnExactNewShard_bi (FnExactNewShard_bi (FnExactNewShard_bi (FnExactNewShard_bi (FnExactNewShard_bi (FnExactNewShard_bi (FnExactNewShard_bi (FnExactNewShard_bi (FnExactNewShard_bi (FnExactNewShard_bi (FnExactNewShard_bi (FnExactNewShard_bi (FnExactNewShard_bi (FnExactNewShard_bi (FnExactNewShard_bi (FnExactNewShard_bi (FnExactNewShard_bi (by kernel_rfl) (by kernel_rfl)) (by kernel_rfl)) (by kernel_rfl)) (by kernel_rfl)) (by kernel_rfl)) (by kernel_rfl)) (by kernel_rfl)) (by kernel_rfl)) FnExactNewShard_f10) FnExactNewShard_f11) FnExactNewShard_f12) FnExactNewShard_f13) (by kernel_rfl)) (by kernel_rfl)) (by kernel_rfl)) (by kernel_rfl)) (by kernel_rfl)) (by kernel_rfl)) (by kernel_rfl)) (by kernel_rfl)) (by kernel_rfl)) (by kernel_rfl)) (by kernel_rfl)) FnExactNewShard_f25) FnExactNewShard_f26) FnExactNewShard_f27) FnExactNewShard_f28) (by kernel_rfl)) (by kernel_rfl)) (by kernel_rfl)) (by kernel_rfl))
theorem fnExactNewShard_holds : Rows.FnExactNewShardSaid :=
  OpenClaim.holds_of_wide 4 Tryz.f4 rfl rfl rfl rfl rfl rfl rfl ⟨rfl, rfl, rfl, rfl, rfl⟩ rfl rfl rfl rfl rfl (by kernel_rfl) Tryz.func4 FnExactNewShard_facts
    (of_decide_eq_true (by kernel_rfl)) (by unfold Func.isWrapper; first | (rw [if_pos (by decide +kernel)]; kernel_rfl) | (rw [if_neg (by decide +kernel)]; exact ⟨rfl, rfl⟩))
    (fun os started H enc _ => FnExactNewShard_lifted os started H enc)
end Go.Proofs.YtcicokdmnhbjjaaGreat
