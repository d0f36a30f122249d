/- The given statement: the law returns true for every input, and its arguments read as they did. Conditions: none. -/
import Derived.Test.YtcicokdmnhbjjaaGreatDShardOka
import Derived.Test.YtcicokdmnhbjjaaGreatDShardOkb
import Derived.Test.YtcicokdmnhbjjaaGreatDShardOkc
import Derived.Test.YtcicokdmnhbjjaaGreatPShardOk
import Derived.Test.YtcicokdmnhbjjaaGreatBr
import Derived.Test.YtcicokdmnhbjjaaGreatRows
import Derived.ProofKit
import Derived.KernelRfl
set_option linter.unusedVariables false
set_option maxRecDepth 100000
namespace Go.Proofs.YtcicokdmnhbjjaaGreat
open Go.AW Go.ChangeShapes Go.WideShapes Go.ChangeAt Go.RowKit
theorem law_own : ownKnob Tryz.prog.godebug = none := by kernel_rfl
theorem law_laid : laidOutB Tryz.prog = true := by kernel_rfl
theorem rd_3 : Rds Tryz.prog 3 (fun ds => ∃ x : Int, (inK .i64) x ∧ ds = d_i64 x) := Rds.int (by kernel_rfl)
theorem rd_26 : Rds Tryz.prog 26 (fun ds => ∃ x : (List Int), (okS (inK .i64)) x ∧ ds = dS_i64 x) := Rds.slice (f := d_i64) (ok := (inK .i64)) (sz := 1) (by kernel_rfl) (by kernel_rfl) (by decide) (fun _ => rfl) rd_3
theorem rd_144 : Rds Tryz.prog 144 (fun ds => ∃ x : TCell, ok_TCell x ∧ ds = d_TCell x) := by
  refine (Rds.struct (Rs := [(1, fun ds => ∃ x : Int, (inK .i64) x ∧ ds = d_i64 x), (1, fun ds => ∃ x : Int, (inK .i64) x ∧ ds = d_i64 x)]) Tryz.underlying144 ⟨rfl, (by kernel_rfl : _ = 1), rd_3, ⟨rfl, (by kernel_rfl : _ = 1), rd_3, trivial⟩⟩ (by kernel_rfl)).mono ?_
  rintro ds ⟨_, _, rfl, ⟨x0, h0, rfl⟩, ⟨_, _, rfl, ⟨x1, h1, rfl⟩, rfl⟩⟩
  exact ⟨⟨x0, x1⟩, ⟨h0, h1⟩, rfl⟩
theorem rd_94 : Rds Tryz.prog 94 (fun ds => ∃ x : (List TCell), (okS ok_TCell) x ∧ ds = dS_TCell x) := Rds.slice (f := d_TCell) (ok := ok_TCell) (sz := 2) (by kernel_rfl) (by kernel_rfl) (by decide) (fun _ => rfl) rd_144
theorem rd_96 : Rds Tryz.prog 96 (fun ds => ∃ x : THeld, ok_THeld x ∧ ds = d_THeld x) := by
  refine (Rds.struct (Rs := [(1, fun ds => ∃ x : Int, (inK .i64) x ∧ ds = d_i64 x), (1, fun ds => ∃ x : (List TCell), (okS ok_TCell) x ∧ ds = dS_TCell x)]) Tryz.underlying96 ⟨rfl, (by kernel_rfl : _ = 1), rd_3, ⟨rfl, (by kernel_rfl : _ = 1), rd_94, trivial⟩⟩ (by kernel_rfl)).mono ?_
  rintro ds ⟨_, _, rfl, ⟨x0, h0, rfl⟩, ⟨_, _, rfl, ⟨x1, h1, rfl⟩, rfl⟩⟩
  exact ⟨⟨x0, x1⟩, ⟨h0, h1⟩, rfl⟩
theorem rd_25 : Rds Tryz.prog 25 (fun ds => ∃ x : (List THeld), (okS ok_THeld) x ∧ ds = dS_THeld x) := Rds.slice (f := d_THeld) (ok := ok_THeld) (sz := 2) (by kernel_rfl) (by kernel_rfl) (by decide) (fun _ => rfl) rd_96
theorem rd_108 : Rds Tryz.prog 108 (fun ds => ∃ x : TLock, ok_TLock x ∧ ds = d_TLock x) := by
  refine (Rds.struct (Rs := [(1, fun ds => ∃ x : Int, (inK .i64) x ∧ ds = d_i64 x), (1, fun ds => ∃ x : Int, (inK .i64) x ∧ ds = d_i64 x), (1, fun ds => ∃ x : Int, (inK .i64) x ∧ ds = d_i64 x), (1, fun ds => ∃ x : Int, (inK .i64) x ∧ ds = d_i64 x)]) Tryz.underlying108 ⟨rfl, (by kernel_rfl : _ = 1), rd_3, ⟨rfl, (by kernel_rfl : _ = 1), rd_3, ⟨rfl, (by kernel_rfl : _ = 1), rd_3, ⟨rfl, (by kernel_rfl : _ = 1), rd_3, trivial⟩⟩⟩⟩ (by kernel_rfl)).mono ?_
  rintro ds ⟨_, _, rfl, ⟨x0, h0, rfl⟩, ⟨_, _, rfl, ⟨x1, h1, rfl⟩, ⟨_, _, rfl, ⟨x2, h2, rfl⟩, ⟨_, _, rfl, ⟨x3, h3, rfl⟩, rfl⟩⟩⟩⟩
  exact ⟨⟨x0, x1, x2, x3⟩, ⟨h0, h1, h2, h3⟩, rfl⟩
theorem rd_24 : Rds Tryz.prog 24 (fun ds => ∃ x : (List TLock), (okS ok_TLock) x ∧ ds = dS_TLock x) := Rds.slice (f := d_TLock) (ok := ok_TLock) (sz := 4) (by kernel_rfl) (by kernel_rfl) (by decide) (fun _ => rfl) rd_108
theorem rd_106 : Rds Tryz.prog 106 (fun ds => ∃ x : TCell, ok_TCell x ∧ ds = d_TCell x) := by
  refine (Rds.struct (Rs := [(1, fun ds => ∃ x : Int, (inK .i64) x ∧ ds = d_i64 x), (1, fun ds => ∃ x : Int, (inK .i64) x ∧ ds = d_i64 x)]) Tryz.underlying106 ⟨rfl, (by kernel_rfl : _ = 1), rd_3, ⟨rfl, (by kernel_rfl : _ = 1), rd_3, trivial⟩⟩ (by kernel_rfl)).mono ?_
  rintro ds ⟨_, _, rfl, ⟨x0, h0, rfl⟩, ⟨_, _, rfl, ⟨x1, h1, rfl⟩, rfl⟩⟩
  exact ⟨⟨x0, x1⟩, ⟨h0, h1⟩, rfl⟩
theorem rd_23 : Rds Tryz.prog 23 (fun ds => ∃ x : (List TCell), (okS ok_TCell) x ∧ ds = dS_TCell x) := Rds.slice (f := d_TCell) (ok := ok_TCell) (sz := 2) (by kernel_rfl) (by kernel_rfl) (by decide) (fun _ => rfl) rd_106
theorem rd_87 : Rds Tryz.prog 87 (fun ds => ∃ x : TRange, ok_TRange x ∧ ds = d_TRange x) := by
  refine (Rds.struct (Rs := [(1, fun ds => ∃ x : Int, (inK .i64) x ∧ ds = d_i64 x), (1, fun ds => ∃ x : Int, (inK .i64) x ∧ ds = d_i64 x)]) Tryz.underlying87 ⟨rfl, (by kernel_rfl : _ = 1), rd_3, ⟨rfl, (by kernel_rfl : _ = 1), rd_3, trivial⟩⟩ (by kernel_rfl)).mono ?_
  rintro ds ⟨_, _, rfl, ⟨x0, h0, rfl⟩, ⟨_, _, rfl, ⟨x1, h1, rfl⟩, rfl⟩⟩
  exact ⟨⟨x0, x1⟩, ⟨h0, h1⟩, rfl⟩
theorem rd_22 : Rds Tryz.prog 22 (fun ds => ∃ x : (List TRange), (okS ok_TRange) x ∧ ds = dS_TRange x) := Rds.slice (f := d_TRange) (ok := ok_TRange) (sz := 2) (by kernel_rfl) (by kernel_rfl) (by decide) (fun _ => rfl) rd_87
theorem rd_28 : Rds Tryz.prog 28 (fun ds => ∃ x : TShard, ok_TShard x ∧ ds = d_TShard x) := by
  refine (Rds.struct (Rs := [(1, fun ds => ∃ x : Int, (inK .i64) x ∧ ds = d_i64 x), (1, fun ds => ∃ x : (List TRange), (okS ok_TRange) x ∧ ds = dS_TRange x), (1, fun ds => ∃ x : (List TRange), (okS ok_TRange) x ∧ ds = dS_TRange x), (1, fun ds => ∃ x : (List TCell), (okS ok_TCell) x ∧ ds = dS_TCell x), (1, fun ds => ∃ x : (List TLock), (okS ok_TLock) x ∧ ds = dS_TLock x), (1, fun ds => ∃ x : (List THeld), (okS ok_THeld) x ∧ ds = dS_THeld x), (1, fun ds => ∃ x : (List Int), (okS (inK .i64)) x ∧ ds = dS_i64 x), (1, fun ds => ∃ x : (List Int), (okS (inK .i64)) x ∧ ds = dS_i64 x), (1, fun ds => ∃ x : Int, (inK .i64) x ∧ ds = d_i64 x)]) Tryz.underlying28 ⟨rfl, (by kernel_rfl : _ = 1), rd_3, ⟨rfl, (by kernel_rfl : _ = 1), rd_22, ⟨rfl, (by kernel_rfl : _ = 1), rd_22, ⟨rfl, (by kernel_rfl : _ = 1), rd_23, ⟨rfl, (by kernel_rfl : _ = 1), rd_24, ⟨rfl, (by kernel_rfl : _ = 1), rd_25, ⟨rfl, (by kernel_rfl : _ = 1), rd_26, ⟨rfl, (by kernel_rfl : _ = 1), rd_26, ⟨rfl, (by kernel_rfl : _ = 1), rd_3, trivial⟩⟩⟩⟩⟩⟩⟩⟩⟩ (by kernel_rfl)).mono ?_
  rintro ds ⟨_, _, rfl, ⟨x0, h0, rfl⟩, ⟨_, _, rfl, ⟨x1, h1, rfl⟩, ⟨_, _, rfl, ⟨x2, h2, rfl⟩, ⟨_, _, rfl, ⟨x3, h3, rfl⟩, ⟨_, _, rfl, ⟨x4, h4, rfl⟩, ⟨_, _, rfl, ⟨x5, h5, rfl⟩, ⟨_, _, rfl, ⟨x6, h6, rfl⟩, ⟨_, _, rfl, ⟨x7, h7, rfl⟩, ⟨_, _, rfl, ⟨x8, h8, rfl⟩, rfl⟩⟩⟩⟩⟩⟩⟩⟩⟩
  exact ⟨⟨x0, x1, x2, x3, x4, x5, x6, x7, x8⟩, ⟨h0, h1, h2, h3, h4, h5, h6, h7, h8⟩, rfl⟩
theorem FnExactShardOk_lifted (os : Os) (started : os.Started) (H : Type) (enc : TypeId × Value → H) :
    ReturnsInHanded {} Tryz.checked os 3 .any (Rows.fnExactShardOkSpec.pre6 enc Tryz.prog Tryz.f3 Rows.fnExactShardOkRow.domain false) (Rows.fnExactShardOkSpec.post enc Tryz.prog Tryz.f3 false true false false) := by
  refine returnsInHanded_of_change (C := Tryz.checked) law_own started (by kernel_rfl) Tryz.func3
    (ChangeSpec.witness6 (enc := enc) (C := Tryz.checked) false ⟨#[], #[.agg #[.int .i64 0, .slice none 0 0, .slice none 0 0, .slice none 0 0, .slice none 0 0, .slice none 0 0, .slice none 0 0, .slice none 0 0, .int .i64 0]], []⟩ 8 (by kernel_rfl) (by kernel_rfl) (by kernel_rfl) (by kernel_rfl)) ?_
  intro W base args ds gs before hval hW hcnd _
  have hR : ArgsR Tryz.prog Tryz.f3.params.toList [fun x => ∃ ds, (∃ a : TShard, ok_TShard a ∧ ds = d_TShard a) ∧ x = .agg ds] := by rw [Tryz.params3]; exact ⟨(argA Tryz.underlying28 rd_28), trivial⟩
  refine law_calls (P := Tryz.prog) (tb := 4) law_laid rfl (fun ds h => ?_) (by kernel_rfl) (by kernel_rfl) (by kernel_rfl) hR (fun xs h => ?_) hval hW
  · rw [Tryz.params3] at h
    exact match ds, h with
      | [_], _ => rfl
  · obtain ⟨_, _, rfl, ⟨_, ⟨a0, h0, rfl⟩, rfl⟩, g0⟩ := DsR.cons h
    obtain rfl := DsR.nil g0
    exact c_laws_FnExactShardOk (p_FnExactShardOk a0 h0)
theorem FnExactShardOk_f25 : Tryz.pinned.checked.prog.stopsHeard = true := by kernel_rfl
theorem FnExactShardOk_f26 : Tryz.pinned.checked.prog.mayEnter = true := by kernel_rfl
theorem FnExactShardOk_f27 : (Rows.fnExactShardOkRow.lifted == Tryz.pinned.checked.prog.liftsFinal) = true := by kernel_rfl
theorem FnExactShardOk_f28 : (Tryz.pinned.checked.prog.make == some Rows.fnExactShardOkRow.make) = true := by kernel_rfl
theorem FnExactShardOk_f13 : (Rows.fnExactShardOkRow.named == Tryz.pinned.checked.prog.varsNamed 3) = true := by kernel_rfl
theorem FnExactShardOk_f12 : (Rows.fnExactShardOkRow.recurses == Tryz.pinned.checked.prog.recurses 3) = true := by kernel_rfl
theorem FnExactShardOk_f11 : (Rows.fnExactShardOkRow.unfollowed == Tryz.pinned.checked.prog.unfollowed 3) = true := by kernel_rfl
theorem FnExactShardOk_f10 : (Rows.fnExactShardOkRow.inPlace == Tryz.pinned.checked.prog.inPlace 3) = true := by kernel_rfl
theorem FnExactShardOk_bi {a b : Bool} (h : a = true) (h' : b = true) : (a && b) = true := by rw [h, h']; rfl
theorem FnExactShardOk_facts : joinedFacts Tryz.pinned.checked.prog 3 Tryz.f3 Rows.fnExactShardOkSpec Rows.fnExactShardOkRow = true :=
  (FnExactShardOk_bi (FnExactShardOk_bi (FnExactShardOk_bi (FnExactShardOk_bi (FnExactShardOk_bi (FnExactShardOk_bi (FnExactShardOk_bi (FnExactShardOk_bi (FnExactShardOk_bi (FnExactShardOk_bi (FnExactShardOk_bi (FnExactShardOk_bi (FnExactShardOk_bi (FnExactShardOk_bi (FnExactShardOk_bi (FnExactShardOk_bi (FnExactShardOk_bi (FnExactShardOk_bi (FnExactShardOk_bi (FnExactShardOk_bi (FnExactShardOk_bi (FnExactShardOk_bi (FnExactShardOk_bi (FnExactShardOk_bi (FnExactShardOk_bi (FnExactShardOk_bi (FnExactShardOk_bi (FnExactShardOk_bi (FnExactShardOk_bi (FnExactShardOk_bi (FnExactShardOk_bi (by kernel_rfl) (by kernel_rfl)) (by kernel_rfl)) (by kernel_rfl)) (by kernel_rfl)) (by kernel_rfl)) (by kernel_rfl)) (by kernel_rfl)) (by kernel_rfl)) FnExactShardOk_f10) FnExactShardOk_f11) FnExactShardOk_f12) FnExactShardOk_f13) (by kernel_rfl)) (by kernel_rfl)) (by kernel_rfl)) (by kernel_rfl)) (by kernel_rfl)) (by kernel_rfl)) (by kernel_rfl)) (by kernel_rfl)) (by kernel_rfl)) (by kernel_rfl)) (by kernel_rfl)) FnExactShardOk_f25) FnExactShardOk_f26) FnExactShardOk_f27) FnExactShardOk_f28) (by kernel_rfl)) (by kernel_rfl)) (by kernel_rfl)) (by kernel_rfl))
theorem fnExactShardOk_holds : Rows.FnExactShardOkSaid :=
  OpenClaim.holds_of_wide 3 Tryz.f3 rfl rfl rfl rfl rfl rfl rfl ⟨rfl, rfl, rfl, rfl, rfl⟩ rfl rfl rfl rfl rfl (by kernel_rfl) Tryz.func3 FnExactShardOk_facts
    (of_decide_eq_true (by kernel_rfl)) (by unfold Func.isWrapper; first | (rw [if_pos (by decide +kernel)]; kernel_rfl) | (rw [if_neg (by decide +kernel)]; exact ⟨rfl, rfl⟩))
    (fun os started H enc _ => FnExactShardOk_lifted os started H enc)
end Go.Proofs.YtcicokdmnhbjjaaGreat
