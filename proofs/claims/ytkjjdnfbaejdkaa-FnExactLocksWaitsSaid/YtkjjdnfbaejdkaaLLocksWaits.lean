/- The given statement: the law returns true for every input, and its arguments read as they did. Conditions: none. -/
import Derived.Test.YtkjjdnfbaejdkaaDLocksWaitsa
import Derived.Test.YtkjjdnfbaejdkaaDLocksWaitsb
import Derived.Test.YtkjjdnfbaejdkaaPLocksWaits
import Derived.Test.YtkjjdnfbaejdkaaBr
import Derived.Test.YtkjjdnfbaejdkaaRows
import Derived.ProofKit
import Derived.KernelRfl
set_option linter.unusedVariables false
set_option maxRecDepth 100000
namespace Go.Proofs.Ytkjjdnfbaejdkaa
open Go.AW Go.ChangeShapes Go.WideShapes Go.ChangeAt Go.RowKit

theorem law_own : ownKnob Try.prog.godebug = none := by kernel_rfl
theorem law_laid : laidOutB Try.prog = true := by kernel_rfl

theorem rd_3 : Rds Try.prog 3 (fun ds => ∃ x : Int, (inK .i64) x ∧ ds = d_i64 x) := Rds.int (by kernel_rfl)

theorem rd_99 : Rds Try.prog 99 (fun ds => ∃ x : TLock, ok_TLock x ∧ ds = d_TLock x) := by
  refine (Rds.struct (Rs := [(1, fun ds => ∃ x : Int, (inK .i64) x ∧ ds = d_i64 x), (1, fun ds => ∃ x : Int, (inK .i64) x ∧ ds = d_i64 x), (1, fun ds => ∃ x : Int, (inK .i64) x ∧ ds = d_i64 x), (1, fun ds => ∃ x : Int, (inK .i64) x ∧ ds = d_i64 x)]) Try.underlying99 ⟨rfl, (by kernel_rfl : _ = 1), rd_3, ⟨rfl, (by kernel_rfl : _ = 1), rd_3, ⟨rfl, (by kernel_rfl : _ = 1), rd_3, ⟨rfl, (by kernel_rfl : _ = 1), rd_3, trivial⟩⟩⟩⟩ (by kernel_rfl)).mono ?_
  rintro ds ⟨_, _, rfl, ⟨x0, h0, rfl⟩, ⟨_, _, rfl, ⟨x1, h1, rfl⟩, ⟨_, _, rfl, ⟨x2, h2, rfl⟩, ⟨_, _, rfl, ⟨x3, h3, rfl⟩, rfl⟩⟩⟩⟩
  exact ⟨⟨x0, x1, x2, x3⟩, ⟨h0, h1, h2, h3⟩, rfl⟩

theorem rd_34 : Rds Try.prog 34 (fun ds => ∃ x : (List TLock), (okS ok_TLock) x ∧ ds = dS_TLock x) := Rds.slice (f := d_TLock) (ok := ok_TLock) (sz := 4) (by kernel_rfl) (by kernel_rfl) (by decide) (fun _ => rfl) rd_99

theorem rd_80 : Rds Try.prog 80 (fun ds => ∃ x : (List Int), (okS (inK .i64)) x ∧ ds = dS_i64 x) := Rds.slice (f := d_i64) (ok := (inK .i64)) (sz := 1) (by kernel_rfl) (by kernel_rfl) (by decide) (fun _ => rfl) rd_3

theorem rd_24 : Rds Try.prog 24 (fun ds => ∃ x : TRange, ok_TRange x ∧ ds = d_TRange x) := by
  refine (Rds.struct (Rs := [(1, fun ds => ∃ x : Int, (inK .i64) x ∧ ds = d_i64 x), (1, fun ds => ∃ x : Int, (inK .i64) x ∧ ds = d_i64 x)]) Try.underlying24 ⟨rfl, (by kernel_rfl : _ = 1), rd_3, ⟨rfl, (by kernel_rfl : _ = 1), rd_3, trivial⟩⟩ (by kernel_rfl)).mono ?_
  rintro ds ⟨_, _, rfl, ⟨x0, h0, rfl⟩, ⟨_, _, rfl, ⟨x1, h1, rfl⟩, rfl⟩⟩
  exact ⟨⟨x0, x1⟩, ⟨h0, h1⟩, rfl⟩


theorem FnExactLocksWaits_lifted (os : Os) (started : os.Started) (H : Type) (enc : TypeId × Value → H) :
    ReturnsInHanded {} Try.checked os 13 .any (Rows.fnExactLocksWaitsSpec.pre6 enc Try.prog Try.f13 Rows.fnExactLocksWaitsRow.domain false) (Rows.fnExactLocksWaitsSpec.post enc Try.prog Try.f13 false true false false) := by
  refine returnsInHanded_of_change (C := Try.checked) law_own started (by kernel_rfl) Try.func13
    (ChangeSpec.witness6 (enc := enc) (C := Try.checked) false ⟨#[], #[.slice none 0 0, .slice none 0 0, .int .i64 0, .agg #[.int .i64 0, .int .i64 0], .int .i64 0], []⟩ 8 (by kernel_rfl) (by kernel_rfl) (by kernel_rfl) (by kernel_rfl)) ?_
  intro W base args ds gs before hval hW hcnd _
  have hR : ArgsR Try.prog Try.f13.params.toList [fun x => ∃ a : (List TLock), (okS ok_TLock) a ∧ x = (.sl 4 (List.map d_TLock a)), fun x => ∃ a : (List Int), (okS (inK .i64)) a ∧ x = (.sl 1 (List.map d_i64 a)), fun x => ∃ a : Int, (inK .i64) a ∧ x = (.int .i64 a), fun x => ∃ ds, (∃ a : TRange, ok_TRange a ∧ ds = d_TRange a) ∧ x = .agg ds, fun x => ∃ a : Int, (inK .i64) a ∧ x = (.int .i64 a)] := by rw [Try.params13]; exact ⟨(argC (R := fun x => ∃ a : (List TLock), (okS ok_TLock) a ∧ x = (.sl 4 (List.map d_TLock a))) (by kernel_rfl) (rd_34.mono fun ds ⟨a, h, e⟩ => ⟨_, ⟨a, h, rfl⟩, rfl, e⟩)), ⟨(argC (R := fun x => ∃ a : (List Int), (okS (inK .i64)) a ∧ x = (.sl 1 (List.map d_i64 a))) (by kernel_rfl) (rd_80.mono fun ds ⟨a, h, e⟩ => ⟨_, ⟨a, h, rfl⟩, rfl, e⟩)), ⟨(argC (R := fun x => ∃ a : Int, (inK .i64) a ∧ x = (.int .i64 a)) (by kernel_rfl) (rd_3.mono fun ds ⟨a, h, e⟩ => ⟨_, ⟨a, h, rfl⟩, rfl, e⟩)), ⟨(argA Try.underlying24 rd_24), ⟨(argC (R := fun x => ∃ a : Int, (inK .i64) a ∧ x = (.int .i64 a)) (by kernel_rfl) (rd_3.mono fun ds ⟨a, h, e⟩ => ⟨_, ⟨a, h, rfl⟩, rfl, e⟩)), trivial⟩⟩⟩⟩⟩
  refine law_calls (P := Try.prog) (tb := 4) law_laid rfl (fun ds h => ?_) (by kernel_rfl) (by kernel_rfl) (by kernel_rfl) hR (fun xs h => ?_) hval hW
  · rw [Try.params13] at h
    exact match ds, h with
      | [_, _, _, _, _], _ => rfl
  · obtain ⟨_, _, rfl, ⟨a0, h0, rfl⟩, g0⟩ := DsR.cons h
    obtain ⟨_, _, rfl, ⟨a1, h1, rfl⟩, g1⟩ := DsR.cons g0
    obtain ⟨_, _, rfl, ⟨a2, h2, rfl⟩, g2⟩ := DsR.cons g1
    obtain ⟨_, _, rfl, ⟨_, ⟨a3, h3, rfl⟩, rfl⟩, g3⟩ := DsR.cons g2
    obtain ⟨_, _, rfl, ⟨a4, h4, rfl⟩, g4⟩ := DsR.cons g3
    obtain rfl := DsR.nil g4
    exact c_laws_FnExactLocksWaits (p_FnExactLocksWaits a0 a1 a2 a3 a4 h0 h1 h2 h3 h4)

theorem fnExactLocksWaits_holds : Rows.FnExactLocksWaitsSaid :=
  OpenClaim.holds_of_wide 13 Try.f13 rfl rfl rfl rfl rfl rfl rfl ⟨rfl, rfl, rfl, rfl, rfl⟩ rfl rfl rfl rfl rfl (by kernel_rfl) Try.func13 (by kernel_rfl)
    (of_decide_eq_true (by kernel_rfl)) (by unfold Func.isWrapper; first | (rw [if_pos (by decide +kernel)]; kernel_rfl) | (rw [if_neg (by decide +kernel)]; exact ⟨rfl, rfl⟩))
    (fun os started H enc _ => FnExactLocksWaits_lifted os started H enc)

end Go.Proofs.Ytkjjdnfbaejdkaa
