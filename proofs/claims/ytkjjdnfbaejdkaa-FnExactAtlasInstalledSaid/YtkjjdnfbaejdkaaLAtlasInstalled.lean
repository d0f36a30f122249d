/- The given statement: the law returns true for every input, and its arguments read as they did. Conditions: none. -/
import Derived.Test.YtkjjdnfbaejdkaaDAtlasInstalleda
import Derived.Test.YtkjjdnfbaejdkaaDAtlasInstalledb
import Derived.Test.YtkjjdnfbaejdkaaDAtlasInstalledc
import Derived.Test.YtkjjdnfbaejdkaaPAtlasInstalled
import Derived.Test.YtkjjdnfbaejdkaaBr
import Derived.Test.YtkjjdnfbaejdkaaRows
import Derived.ProofKit
import Derived.KernelRfl
set_option linter.unusedVariables false
set_option maxRecDepth 100000
namespace Go.Proofs.Ytkjjdnfbaejdkaa
open Go.AW Go.ChangeShapes Go.WideShapes Go.ChangeAt Go.RowKit

theorem law_own : ownKnob Try.prog.godebug = none := by kernel_rfl
theorem law_laid : laidOutB Try.prog = true := by kernel_rfl

theorem rd_3 : Rds Try.prog 3 (fun ds => ∃ x : Int, (inK .i64) x ∧ ds = d_i64 x) := Rds.int (by kernel_rfl)

theorem rd_92 : Rds Try.prog 92 (fun ds => ∃ x : TCell, ok_TCell x ∧ ds = d_TCell x) := by
  refine (Rds.struct (Rs := [(1, fun ds => ∃ x : Int, (inK .i64) x ∧ ds = d_i64 x), (1, fun ds => ∃ x : Int, (inK .i64) x ∧ ds = d_i64 x)]) Try.underlying92 ⟨rfl, (by kernel_rfl : _ = 1), rd_3, ⟨rfl, (by kernel_rfl : _ = 1), rd_3, trivial⟩⟩ (by kernel_rfl)).mono ?_
  rintro ds ⟨_, _, rfl, ⟨x0, h0, rfl⟩, ⟨_, _, rfl, ⟨x1, h1, rfl⟩, rfl⟩⟩
  exact ⟨⟨x0, x1⟩, ⟨h0, h1⟩, rfl⟩

theorem rd_22 : Rds Try.prog 22 (fun ds => ∃ x : (List TCell), (okS ok_TCell) x ∧ ds = dS_TCell x) := Rds.slice (f := d_TCell) (ok := ok_TCell) (sz := 2) (by kernel_rfl) (by kernel_rfl) (by decide) (fun _ => rfl) rd_92

theorem rd_66 : Rds Try.prog 66 (fun ds => ∃ x : TMove, ok_TMove x ∧ ds = d_TMove x) := by
  refine (Rds.struct (Rs := [(1, fun ds => ∃ x : Int, (inK .i64) x ∧ ds = d_i64 x), (1, fun ds => ∃ x : Int, (inK .i64) x ∧ ds = d_i64 x), (1, fun ds => ∃ x : Int, (inK .i64) x ∧ ds = d_i64 x), (1, fun ds => ∃ x : Int, (inK .i64) x ∧ ds = d_i64 x), (1, fun ds => ∃ x : Int, (inK .i64) x ∧ ds = d_i64 x), (1, fun ds => ∃ x : Int, (inK .i64) x ∧ ds = d_i64 x), (1, fun ds => ∃ x : (List TCell), (okS ok_TCell) x ∧ ds = dS_TCell x)]) Try.underlying66 ⟨rfl, (by kernel_rfl : _ = 1), rd_3, ⟨rfl, (by kernel_rfl : _ = 1), rd_3, ⟨rfl, (by kernel_rfl : _ = 1), rd_3, ⟨rfl, (by kernel_rfl : _ = 1), rd_3, ⟨rfl, (by kernel_rfl : _ = 1), rd_3, ⟨rfl, (by kernel_rfl : _ = 1), rd_3, ⟨rfl, (by kernel_rfl : _ = 1), rd_22, trivial⟩⟩⟩⟩⟩⟩⟩ (by kernel_rfl)).mono ?_
  rintro ds ⟨_, _, rfl, ⟨x0, h0, rfl⟩, ⟨_, _, rfl, ⟨x1, h1, rfl⟩, ⟨_, _, rfl, ⟨x2, h2, rfl⟩, ⟨_, _, rfl, ⟨x3, h3, rfl⟩, ⟨_, _, rfl, ⟨x4, h4, rfl⟩, ⟨_, _, rfl, ⟨x5, h5, rfl⟩, ⟨_, _, rfl, ⟨x6, h6, rfl⟩, rfl⟩⟩⟩⟩⟩⟩⟩
  exact ⟨⟨x0, x1, x2, x3, x4, x5, x6⟩, ⟨h0, h1, h2, h3, h4, h5, h6⟩, rfl⟩

theorem rd_117 : Rds Try.prog 117 (fun ds => ∃ x : TPart, ok_TPart x ∧ ds = d_TPart x) := by
  refine (Rds.struct (Rs := [(1, fun ds => ∃ x : Int, (inK .i64) x ∧ ds = d_i64 x), (1, fun ds => ∃ x : Int, (inK .i64) x ∧ ds = d_i64 x), (1, fun ds => ∃ x : Int, (inK .i64) x ∧ ds = d_i64 x)]) Try.underlying117 ⟨rfl, (by kernel_rfl : _ = 1), rd_3, ⟨rfl, (by kernel_rfl : _ = 1), rd_3, ⟨rfl, (by kernel_rfl : _ = 1), rd_3, trivial⟩⟩⟩ (by kernel_rfl)).mono ?_
  rintro ds ⟨_, _, rfl, ⟨x0, h0, rfl⟩, ⟨_, _, rfl, ⟨x1, h1, rfl⟩, ⟨_, _, rfl, ⟨x2, h2, rfl⟩, rfl⟩⟩⟩
  exact ⟨⟨x0, x1, x2⟩, ⟨h0, h1, h2⟩, rfl⟩

theorem rd_51 : Rds Try.prog 51 (fun ds => ∃ x : (List TPart), (okS ok_TPart) x ∧ ds = dS_TPart x) := Rds.slice (f := d_TPart) (ok := ok_TPart) (sz := 3) (by kernel_rfl) (by kernel_rfl) (by decide) (fun _ => rfl) rd_117

theorem rd_68 : Rds Try.prog 68 (fun ds => ∃ x : TAtlas, ok_TAtlas x ∧ ds = d_TAtlas x) := by
  refine (Rds.struct (Rs := [(1, fun ds => ∃ x : Int, (inK .i64) x ∧ ds = d_i64 x), (1, fun ds => ∃ x : (List TPart), (okS ok_TPart) x ∧ ds = dS_TPart x), (7, fun ds => ∃ x : TMove, ok_TMove x ∧ ds = d_TMove x)]) Try.underlying68 ⟨rfl, (by kernel_rfl : _ = 1), rd_3, ⟨rfl, (by kernel_rfl : _ = 1), rd_51, ⟨rfl, (by kernel_rfl : _ = 7), rd_66, trivial⟩⟩⟩ (by kernel_rfl)).mono ?_
  rintro ds ⟨_, _, rfl, ⟨x0, h0, rfl⟩, ⟨_, _, rfl, ⟨x1, h1, rfl⟩, ⟨_, _, rfl, ⟨x2, h2, rfl⟩, rfl⟩⟩⟩
  exact ⟨⟨x0, x1, x2⟩, ⟨h0, h1, h2⟩, rfl⟩

theorem rd_4 : Rds Try.prog 4 (fun ds => ∃ x : Bool, (fun _ : Bool => True) x ∧ ds = d_bool x) := Rds.bool (by kernel_rfl)


theorem FnExactAtlasInstalled_lifted (os : Os) (started : os.Started) (H : Type) (enc : TypeId × Value → H) :
    ReturnsInHanded {} Try.checked os 12 .any (Rows.fnExactAtlasInstalledSpec.pre6 enc Try.prog Try.f12 Rows.fnExactAtlasInstalledRow.domain false) (Rows.fnExactAtlasInstalledSpec.post enc Try.prog Try.f12 false true false false) := by
  refine returnsInHanded_of_change (C := Try.checked) law_own started (by kernel_rfl) Try.func12
    (ChangeSpec.witness6 (enc := enc) (C := Try.checked) false ⟨#[], #[.agg #[.int .i64 0, .slice none 0 0, .int .i64 0, .int .i64 0, .int .i64 0, .int .i64 0, .int .i64 0, .int .i64 0, .slice none 0 0], .int .i64 0, .bool false], []⟩ 8 (by kernel_rfl) (by kernel_rfl) (by kernel_rfl) (by kernel_rfl)) ?_
  intro W base args ds gs before hval hW hcnd _
  have hR : ArgsR Try.prog Try.f12.params.toList [fun x => ∃ ds, (∃ a : TAtlas, ok_TAtlas a ∧ ds = d_TAtlas a) ∧ x = .agg ds, fun x => ∃ a : Int, (inK .i64) a ∧ x = (.int .i64 a), fun x => ∃ a : Bool, (fun _ : Bool => True) a ∧ x = (.bool a)] := by rw [Try.params12]; exact ⟨(argA Try.underlying68 rd_68), ⟨(argC (R := fun x => ∃ a : Int, (inK .i64) a ∧ x = (.int .i64 a)) (by kernel_rfl) (rd_3.mono fun ds ⟨a, h, e⟩ => ⟨_, ⟨a, h, rfl⟩, rfl, e⟩)), ⟨(argC (R := fun x => ∃ a : Bool, (fun _ : Bool => True) a ∧ x = (.bool a)) (by kernel_rfl) (rd_4.mono fun ds ⟨a, h, e⟩ => ⟨_, ⟨a, h, rfl⟩, rfl, e⟩)), trivial⟩⟩⟩
  refine law_calls (P := Try.prog) (tb := 4) law_laid rfl (fun ds h => ?_) (by kernel_rfl) (by kernel_rfl) (by kernel_rfl) hR (fun xs h => ?_) hval hW
  · rw [Try.params12] at h
    exact match ds, h with
      | [_, _, _], _ => rfl
  · obtain ⟨_, _, rfl, ⟨_, ⟨a0, h0, rfl⟩, rfl⟩, g0⟩ := DsR.cons h
    obtain ⟨_, _, rfl, ⟨a1, h1, rfl⟩, g1⟩ := DsR.cons g0
    obtain ⟨_, _, rfl, ⟨a2, h2, rfl⟩, g2⟩ := DsR.cons g1
    obtain rfl := DsR.nil g2
    exact c_laws_FnExactAtlasInstalled (p_FnExactAtlasInstalled a0 a1 a2 h0 h1 h2)

theorem fnExactAtlasInstalled_holds : Rows.FnExactAtlasInstalledSaid :=
  OpenClaim.holds_of_wide 12 Try.f12 rfl rfl rfl rfl rfl rfl rfl ⟨rfl, rfl, rfl, rfl, rfl⟩ rfl rfl rfl rfl rfl (by kernel_rfl) Try.func12 (by kernel_rfl)
    (of_decide_eq_true (by kernel_rfl)) (by unfold Func.isWrapper; first | (rw [if_pos (by decide +kernel)]; kernel_rfl) | (rw [if_neg (by decide +kernel)]; exact ⟨rfl, rfl⟩))
    (fun os started H enc _ => FnExactAtlasInstalled_lifted os started H enc)

end Go.Proofs.Ytkjjdnfbaejdkaa
