/- The given statement: the law returns true for every input, and its arguments read as they did. Conditions: none. -/
import Derived.Test.YtpnkbfanecbmgaaDClientOka
import Derived.Test.YtpnkbfanecbmgaaDClientOkb
import Derived.Test.YtpnkbfanecbmgaaPClientOk
import Derived.Test.YtpnkbfanecbmgaaBr
import Derived.Test.YtpnkbfanecbmgaaRows
import Derived.ProofKit
import Derived.KernelRfl
set_option linter.unusedVariables false
set_option maxRecDepth 100000
namespace Go.Proofs.Ytpnkbfanecbmgaa
open Go.AW Go.ChangeShapes Go.WideShapes Go.ChangeAt Go.RowKit

theorem law_own : ownKnob Try.prog.godebug = none := by kernel_rfl
theorem law_laid : laidOutB Try.prog = true := by kernel_rfl

theorem rd_3 : Rds Try.prog 3 (fun ds => ∃ x : Int, (inK .i64) x ∧ ds = d_i64 x) := Rds.int (by kernel_rfl)

theorem rd_204 : Rds Try.prog 204 (fun ds => ∃ x : TPart, ok_TPart x ∧ ds = d_TPart x) := by
  refine (Rds.struct (Rs := [(1, fun ds => ∃ x : Int, (inK .i64) x ∧ ds = d_i64 x), (1, fun ds => ∃ x : Int, (inK .i64) x ∧ ds = d_i64 x), (1, fun ds => ∃ x : Int, (inK .i64) x ∧ ds = d_i64 x)]) Try.underlying204 ⟨rfl, (by kernel_rfl : _ = 1), rd_3, ⟨rfl, (by kernel_rfl : _ = 1), rd_3, ⟨rfl, (by kernel_rfl : _ = 1), rd_3, trivial⟩⟩⟩ (by kernel_rfl)).mono ?_
  rintro ds ⟨_, _, rfl, ⟨x0, h0, rfl⟩, ⟨_, _, rfl, ⟨x1, h1, rfl⟩, ⟨_, _, rfl, ⟨x2, h2, rfl⟩, rfl⟩⟩⟩
  exact ⟨⟨x0, x1, x2⟩, ⟨h0, h1, h2⟩, rfl⟩

theorem rd_29 : Rds Try.prog 29 (fun ds => ∃ x : (List TPart), (okS ok_TPart) x ∧ ds = dS_TPart x) := Rds.slice (f := d_TPart) (ok := ok_TPart) (sz := 3) (by kernel_rfl) (by kernel_rfl) (by decide) (fun _ => rfl) rd_204

theorem rd_211 : Rds Try.prog 211 (fun ds => ∃ x : TSeen, ok_TSeen x ∧ ds = d_TSeen x) := by
  refine (Rds.struct (Rs := [(1, fun ds => ∃ x : Int, (inK .i64) x ∧ ds = d_i64 x), (1, fun ds => ∃ x : Int, (inK .i64) x ∧ ds = d_i64 x), (1, fun ds => ∃ x : Int, (inK .i64) x ∧ ds = d_i64 x)]) Try.underlying211 ⟨rfl, (by kernel_rfl : _ = 1), rd_3, ⟨rfl, (by kernel_rfl : _ = 1), rd_3, ⟨rfl, (by kernel_rfl : _ = 1), rd_3, trivial⟩⟩⟩ (by kernel_rfl)).mono ?_
  rintro ds ⟨_, _, rfl, ⟨x0, h0, rfl⟩, ⟨_, _, rfl, ⟨x1, h1, rfl⟩, ⟨_, _, rfl, ⟨x2, h2, rfl⟩, rfl⟩⟩⟩
  exact ⟨⟨x0, x1, x2⟩, ⟨h0, h1, h2⟩, rfl⟩

theorem rd_49 : Rds Try.prog 49 (fun ds => ∃ x : (List TSeen), (okS ok_TSeen) x ∧ ds = dS_TSeen x) := Rds.slice (f := d_TSeen) (ok := ok_TSeen) (sz := 3) (by kernel_rfl) (by kernel_rfl) (by decide) (fun _ => rfl) rd_211

theorem rd_209 : Rds Try.prog 209 (fun ds => ∃ x : TCell, ok_TCell x ∧ ds = d_TCell x) := by
  refine (Rds.struct (Rs := [(1, fun ds => ∃ x : Int, (inK .i64) x ∧ ds = d_i64 x), (1, fun ds => ∃ x : Int, (inK .i64) x ∧ ds = d_i64 x)]) Try.underlying209 ⟨rfl, (by kernel_rfl : _ = 1), rd_3, ⟨rfl, (by kernel_rfl : _ = 1), rd_3, trivial⟩⟩ (by kernel_rfl)).mono ?_
  rintro ds ⟨_, _, rfl, ⟨x0, h0, rfl⟩, ⟨_, _, rfl, ⟨x1, h1, rfl⟩, rfl⟩⟩
  exact ⟨⟨x0, x1⟩, ⟨h0, h1⟩, rfl⟩

theorem rd_48 : Rds Try.prog 48 (fun ds => ∃ x : (List TCell), (okS ok_TCell) x ∧ ds = dS_TCell x) := Rds.slice (f := d_TCell) (ok := ok_TCell) (sz := 2) (by kernel_rfl) (by kernel_rfl) (by decide) (fun _ => rfl) rd_209

theorem rd_51 : Rds Try.prog 51 (fun ds => ∃ x : TClient, ok_TClient x ∧ ds = d_TClient x) := by
  refine (Rds.struct (Rs := [(1, fun ds => ∃ x : Int, (inK .i64) x ∧ ds = d_i64 x), (1, fun ds => ∃ x : Int, (inK .i64) x ∧ ds = d_i64 x), (1, fun ds => ∃ x : Int, (inK .i64) x ∧ ds = d_i64 x), (1, fun ds => ∃ x : (List TCell), (okS ok_TCell) x ∧ ds = dS_TCell x), (1, fun ds => ∃ x : (List TSeen), (okS ok_TSeen) x ∧ ds = dS_TSeen x), (1, fun ds => ∃ x : Int, (inK .i64) x ∧ ds = d_i64 x), (1, fun ds => ∃ x : Int, (inK .i64) x ∧ ds = d_i64 x), (1, fun ds => ∃ x : Int, (inK .i64) x ∧ ds = d_i64 x), (1, fun ds => ∃ x : (List TPart), (okS ok_TPart) x ∧ ds = dS_TPart x)]) Try.underlying51 ⟨rfl, (by kernel_rfl : _ = 1), rd_3, ⟨rfl, (by kernel_rfl : _ = 1), rd_3, ⟨rfl, (by kernel_rfl : _ = 1), rd_3, ⟨rfl, (by kernel_rfl : _ = 1), rd_48, ⟨rfl, (by kernel_rfl : _ = 1), rd_49, ⟨rfl, (by kernel_rfl : _ = 1), rd_3, ⟨rfl, (by kernel_rfl : _ = 1), rd_3, ⟨rfl, (by kernel_rfl : _ = 1), rd_3, ⟨rfl, (by kernel_rfl : _ = 1), rd_29, trivial⟩⟩⟩⟩⟩⟩⟩⟩⟩ (by kernel_rfl)).mono ?_
  rintro ds ⟨_, _, rfl, ⟨x0, h0, rfl⟩, ⟨_, _, rfl, ⟨x1, h1, rfl⟩, ⟨_, _, rfl, ⟨x2, h2, rfl⟩, ⟨_, _, rfl, ⟨x3, h3, rfl⟩, ⟨_, _, rfl, ⟨x4, h4, rfl⟩, ⟨_, _, rfl, ⟨x5, h5, rfl⟩, ⟨_, _, rfl, ⟨x6, h6, rfl⟩, ⟨_, _, rfl, ⟨x7, h7, rfl⟩, ⟨_, _, rfl, ⟨x8, h8, rfl⟩, rfl⟩⟩⟩⟩⟩⟩⟩⟩⟩
  exact ⟨⟨x0, x1, x2, x3, x4, x5, x6, x7, x8⟩, ⟨h0, h1, h2, h3, h4, h5, h6, h7, h8⟩, rfl⟩


theorem FnExactClientOk_lifted (os : Os) (started : os.Started) (H : Type) (enc : TypeId × Value → H) :
    ReturnsInHanded {} Try.checked os 6 .any (Rows.fnExactClientOkSpec.pre6 enc Try.prog Try.f6 Rows.fnExactClientOkRow.domain false) (Rows.fnExactClientOkSpec.post enc Try.prog Try.f6 false true false false) := by
  refine returnsInHanded_of_change (C := Try.checked) law_own started (by kernel_rfl) Try.func6
    (ChangeSpec.witness6 (enc := enc) (C := Try.checked) false ⟨#[], #[.agg #[.int .i64 0, .int .i64 0, .int .i64 0, .slice none 0 0, .slice none 0 0, .int .i64 0, .int .i64 0, .int .i64 0, .slice none 0 0]], []⟩ 8 (by kernel_rfl) (by kernel_rfl) (by kernel_rfl) (by kernel_rfl)) ?_
  intro W base args ds gs before hval hW hcnd _
  have hR : ArgsR Try.prog Try.f6.params.toList [fun x => ∃ ds, (∃ a : TClient, ok_TClient a ∧ ds = d_TClient a) ∧ x = .agg ds] := by rw [Try.params6]; exact ⟨(argA Try.underlying51 rd_51), trivial⟩
  refine law_calls (P := Try.prog) (tb := 4) law_laid rfl (fun ds h => ?_) (by kernel_rfl) (by kernel_rfl) (by kernel_rfl) hR (fun xs h => ?_) hval hW
  · rw [Try.params6] at h
    exact match ds, h with
      | [_], _ => rfl
  · obtain ⟨_, _, rfl, ⟨_, ⟨a0, h0, rfl⟩, rfl⟩, g0⟩ := DsR.cons h
    obtain rfl := DsR.nil g0
    exact c_laws_FnExactClientOk (p_FnExactClientOk a0 h0)

theorem fnExactClientOk_holds : Rows.FnExactClientOkSaid :=
  OpenClaim.holds_of_wide 6 Try.f6 rfl rfl rfl rfl rfl rfl rfl ⟨rfl, rfl, rfl, rfl, rfl⟩ rfl rfl rfl rfl rfl (by kernel_rfl) Try.func6 (by kernel_rfl)
    (of_decide_eq_true (by kernel_rfl)) (by unfold Func.isWrapper; first | (rw [if_pos (by decide +kernel)]; kernel_rfl) | (rw [if_neg (by decide +kernel)]; exact ⟨rfl, rfl⟩))
    (fun os started H enc _ => FnExactClientOk_lifted os started H enc)

end Go.Proofs.Ytpnkbfanecbmgaa
