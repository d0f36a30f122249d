/- The given statement: the law returns true for every input, and its arguments read as they did. Conditions: none. -/
import Derived.Test.YtkjjdnfbaejdkaaDNewAtlasa
import Derived.Test.YtkjjdnfbaejdkaaDNewAtlasb
import Derived.Test.YtkjjdnfbaejdkaaPNewAtlas
import Derived.Test.YtkjjdnfbaejdkaaBr
import Derived.Test.YtkjjdnfbaejdkaaRows
import Derived.ProofKit
import Derived.KernelRfl
set_option linter.unusedVariables false
set_option maxRecDepth 100000
namespace Go.Proofs.Ytkjjdnfbaejdkaa
open Go.AW Go.ChangeShapes Go.WideShapes Go.ChangeAt Go.RowKit

theorem law_own : ownKnob Try.prog.godebug = none := by kernel_rfl
theorem law_laid : laidOutB Try.prog = true := by kernel_rfl

theorem rd_3 : Rds Try.prog 3 (fun ds => ∃ x : Int, (inK .i64) x ∧ ds = d_i64 x) := Rds.int (by kernel_rfl)

theorem rd_117 : Rds Try.prog 117 (fun ds => ∃ x : TPart, ok_TPart x ∧ ds = d_TPart x) := by
  refine (Rds.struct (Rs := [(1, fun ds => ∃ x : Int, (inK .i64) x ∧ ds = d_i64 x), (1, fun ds => ∃ x : Int, (inK .i64) x ∧ ds = d_i64 x), (1, fun ds => ∃ x : Int, (inK .i64) x ∧ ds = d_i64 x)]) Try.underlying117 ⟨rfl, (by kernel_rfl : _ = 1), rd_3, ⟨rfl, (by kernel_rfl : _ = 1), rd_3, ⟨rfl, (by kernel_rfl : _ = 1), rd_3, trivial⟩⟩⟩ (by kernel_rfl)).mono ?_
  rintro ds ⟨_, _, rfl, ⟨x0, h0, rfl⟩, ⟨_, _, rfl, ⟨x1, h1, rfl⟩, ⟨_, _, rfl, ⟨x2, h2, rfl⟩, rfl⟩⟩⟩
  exact ⟨⟨x0, x1, x2⟩, ⟨h0, h1, h2⟩, rfl⟩

theorem rd_51 : Rds Try.prog 51 (fun ds => ∃ x : (List TPart), (okS ok_TPart) x ∧ ds = dS_TPart x) := Rds.slice (f := d_TPart) (ok := ok_TPart) (sz := 3) (by kernel_rfl) (by kernel_rfl) (by decide) (fun _ => rfl) rd_117


theorem FnExactNewAtlas_lifted (os : Os) (started : os.Started) (H : Type) (enc : TypeId × Value → H) :
    ReturnsInHanded {} Try.checked os 8 .any (Rows.fnExactNewAtlasSpec.pre6 enc Try.prog Try.f8 Rows.fnExactNewAtlasRow.domain false) (Rows.fnExactNewAtlasSpec.post enc Try.prog Try.f8 false true false false) := by
  refine returnsInHanded_of_change (C := Try.checked) law_own started (by kernel_rfl) Try.func8
    (ChangeSpec.witness6 (enc := enc) (C := Try.checked) false ⟨#[], #[.slice none 0 0], []⟩ 8 (by kernel_rfl) (by kernel_rfl) (by kernel_rfl) (by kernel_rfl)) ?_
  intro W base args ds gs before hval hW hcnd _
  have hR : ArgsR Try.prog Try.f8.params.toList [fun x => ∃ a : (List TPart), (okS ok_TPart) a ∧ x = (.sl 3 (List.map d_TPart a))] := by rw [Try.params8]; exact ⟨(argC (R := fun x => ∃ a : (List TPart), (okS ok_TPart) a ∧ x = (.sl 3 (List.map d_TPart a))) (by kernel_rfl) (rd_51.mono fun ds ⟨a, h, e⟩ => ⟨_, ⟨a, h, rfl⟩, rfl, e⟩)), trivial⟩
  refine law_calls (P := Try.prog) (tb := 4) law_laid rfl (fun ds h => ?_) (by kernel_rfl) (by kernel_rfl) (by kernel_rfl) hR (fun xs h => ?_) hval hW
  · rw [Try.params8] at h
    exact match ds, h with
      | [_], _ => rfl
  · obtain ⟨_, _, rfl, ⟨a0, h0, rfl⟩, g0⟩ := DsR.cons h
    obtain rfl := DsR.nil g0
    exact c_laws_FnExactNewAtlas (p_FnExactNewAtlas a0 h0)

theorem fnExactNewAtlas_holds : Rows.FnExactNewAtlasSaid :=
  OpenClaim.holds_of_wide 8 Try.f8 rfl rfl rfl rfl rfl rfl rfl ⟨rfl, rfl, rfl, rfl, rfl⟩ rfl rfl rfl rfl rfl (by kernel_rfl) Try.func8 (by kernel_rfl)
    (of_decide_eq_true (by kernel_rfl)) (by unfold Func.isWrapper; first | (rw [if_pos (by decide +kernel)]; kernel_rfl) | (rw [if_neg (by decide +kernel)]; exact ⟨rfl, rfl⟩))
    (fun os started H enc _ => FnExactNewAtlas_lifted os started H enc)

end Go.Proofs.Ytkjjdnfbaejdkaa
