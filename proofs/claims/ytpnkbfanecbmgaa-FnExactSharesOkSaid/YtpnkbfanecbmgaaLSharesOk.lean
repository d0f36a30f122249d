/- The given statement: the law returns true for every input, and its arguments read as they did. Conditions: none. -/
import Derived.Test.YtpnkbfanecbmgaaDSharesOka
import Derived.Test.YtpnkbfanecbmgaaPSharesOk
import Derived.Test.YtpnkbfanecbmgaaBr
import Derived.Test.YtpnkbfanecbmgaaRows
import Derived.ProofKit
import Derived.KernelRfl
set_option linter.unusedVariables false
set_option maxRecDepth 100000
namespace Go.Proofs.Ytpnkbfanecbmgaa
open Go.AW Go.ChangeShapes Go.WideShapes Go.ChangeAt Go.RowKit

theorem law_own : ownKnob Try.prog.godebug = none := by kernel_rfl
theorem law_laid : laidOutB Try.prog = true := by kernel_rfl

theorem rd_3 : Rds Try.prog 3 (fun ds => ∃ x : Int, (inK .i64) x ∧ ds = d_i64 x) := Rds.int (by kernel_rfl)

theorem rd_209 : Rds Try.prog 209 (fun ds => ∃ x : TCell, ok_TCell x ∧ ds = d_TCell x) := by
  refine (Rds.struct (Rs := [(1, fun ds => ∃ x : Int, (inK .i64) x ∧ ds = d_i64 x), (1, fun ds => ∃ x : Int, (inK .i64) x ∧ ds = d_i64 x)]) Try.underlying209 ⟨rfl, (by kernel_rfl : _ = 1), rd_3, ⟨rfl, (by kernel_rfl : _ = 1), rd_3, trivial⟩⟩ (by kernel_rfl)).mono ?_
  rintro ds ⟨_, _, rfl, ⟨x0, h0, rfl⟩, ⟨_, _, rfl, ⟨x1, h1, rfl⟩, rfl⟩⟩
  exact ⟨⟨x0, x1⟩, ⟨h0, h1⟩, rfl⟩

theorem rd_48 : Rds Try.prog 48 (fun ds => ∃ x : (List TCell), (okS ok_TCell) x ∧ ds = dS_TCell x) := Rds.slice (f := d_TCell) (ok := ok_TCell) (sz := 2) (by kernel_rfl) (by kernel_rfl) (by decide) (fun _ => rfl) rd_209

theorem rd_222 : Rds Try.prog 222 (fun ds => ∃ x : TRange, ok_TRange x ∧ ds = d_TRange x) := by
  refine (Rds.struct (Rs := [(1, fun ds => ∃ x : Int, (inK .i64) x ∧ ds = d_i64 x), (1, fun ds => ∃ x : Int, (inK .i64) x ∧ ds = d_i64 x)]) Try.underlying222 ⟨rfl, (by kernel_rfl : _ = 1), rd_3, ⟨rfl, (by kernel_rfl : _ = 1), rd_3, trivial⟩⟩ (by kernel_rfl)).mono ?_
  rintro ds ⟨_, _, rfl, ⟨x0, h0, rfl⟩, ⟨_, _, rfl, ⟨x1, h1, rfl⟩, rfl⟩⟩
  exact ⟨⟨x0, x1⟩, ⟨h0, h1⟩, rfl⟩

theorem rd_77 : Rds Try.prog 77 (fun ds => ∃ x : (List TRange), (okS ok_TRange) x ∧ ds = dS_TRange x) := Rds.slice (f := d_TRange) (ok := ok_TRange) (sz := 2) (by kernel_rfl) (by kernel_rfl) (by decide) (fun _ => rfl) rd_222

theorem rd_118 : Rds Try.prog 118 (fun ds => ∃ x : TShare, ok_TShare x ∧ ds = d_TShare x) := by
  refine (Rds.struct (Rs := [(1, fun ds => ∃ x : Int, (inK .i64) x ∧ ds = d_i64 x), (1, fun ds => ∃ x : (List TRange), (okS ok_TRange) x ∧ ds = dS_TRange x), (1, fun ds => ∃ x : (List TCell), (okS ok_TCell) x ∧ ds = dS_TCell x), (1, fun ds => ∃ x : Int, (inK .i64) x ∧ ds = d_i64 x)]) Try.underlying118 ⟨rfl, (by kernel_rfl : _ = 1), rd_3, ⟨rfl, (by kernel_rfl : _ = 1), rd_77, ⟨rfl, (by kernel_rfl : _ = 1), rd_48, ⟨rfl, (by kernel_rfl : _ = 1), rd_3, trivial⟩⟩⟩⟩ (by kernel_rfl)).mono ?_
  rintro ds ⟨_, _, rfl, ⟨x0, h0, rfl⟩, ⟨_, _, rfl, ⟨x1, h1, rfl⟩, ⟨_, _, rfl, ⟨x2, h2, rfl⟩, ⟨_, _, rfl, ⟨x3, h3, rfl⟩, rfl⟩⟩⟩⟩
  exact ⟨⟨x0, x1, x2, x3⟩, ⟨h0, h1, h2, h3⟩, rfl⟩

theorem rd_22 : Rds Try.prog 22 (fun ds => ∃ x : (List TShare), (okS ok_TShare) x ∧ ds = dS_TShare x) := Rds.slice (f := d_TShare) (ok := ok_TShare) (sz := 4) (by kernel_rfl) (by kernel_rfl) (by decide) (fun _ => rfl) rd_118


theorem FnExactSharesOk_lifted (os : Os) (started : os.Started) (H : Type) (enc : TypeId × Value → H) :
    ReturnsInHanded {} Try.checked os 3 .any (Rows.fnExactSharesOkSpec.pre6 enc Try.prog Try.f3 Rows.fnExactSharesOkRow.domain false) (Rows.fnExactSharesOkSpec.post enc Try.prog Try.f3 false true false false) := by
  refine returnsInHanded_of_change (C := Try.checked) law_own started (by kernel_rfl) Try.func3
    (ChangeSpec.witness6 (enc := enc) (C := Try.checked) false ⟨#[], #[.slice none 0 0], []⟩ 8 (by kernel_rfl) (by kernel_rfl) (by kernel_rfl) (by kernel_rfl)) ?_
  intro W base args ds gs before hval hW hcnd _
  have hR : ArgsR Try.prog Try.f3.params.toList [fun x => ∃ a : (List TShare), (okS ok_TShare) a ∧ x = (.sl 4 (List.map d_TShare a))] := by rw [Try.params3]; exact ⟨(argC (R := fun x => ∃ a : (List TShare), (okS ok_TShare) a ∧ x = (.sl 4 (List.map d_TShare a))) (by kernel_rfl) (rd_22.mono fun ds ⟨a, h, e⟩ => ⟨_, ⟨a, h, rfl⟩, rfl, e⟩)), trivial⟩
  refine law_calls (P := Try.prog) (tb := 4) law_laid rfl (fun ds h => ?_) (by kernel_rfl) (by kernel_rfl) (by kernel_rfl) hR (fun xs h => ?_) hval hW
  · rw [Try.params3] at h
    exact match ds, h with
      | [_], _ => rfl
  · obtain ⟨_, _, rfl, ⟨a0, h0, rfl⟩, g0⟩ := DsR.cons h
    obtain rfl := DsR.nil g0
    exact c_laws_FnExactSharesOk (p_FnExactSharesOk a0 h0)

theorem fnExactSharesOk_holds : Rows.FnExactSharesOkSaid :=
  OpenClaim.holds_of_wide 3 Try.f3 rfl rfl rfl rfl rfl rfl rfl ⟨rfl, rfl, rfl, rfl, rfl⟩ rfl rfl rfl rfl rfl (by kernel_rfl) Try.func3 (by kernel_rfl)
    (of_decide_eq_true (by kernel_rfl)) (by unfold Func.isWrapper; first | (rw [if_pos (by decide +kernel)]; kernel_rfl) | (rw [if_neg (by decide +kernel)]; exact ⟨rfl, rfl⟩))
    (fun os started H enc _ => FnExactSharesOk_lifted os started H enc)

end Go.Proofs.Ytpnkbfanecbmgaa
