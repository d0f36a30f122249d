/- The given statement: the law returns true for every input, and its arguments read as they did. Conditions: none. -/
import Derived.Test.YtnhleppnhaakgaaDLockAska
import Derived.Test.YtnhleppnhaakgaaDLockAskb
import Derived.Test.YtnhleppnhaakgaaPLockAsk
import Derived.Test.YtnhleppnhaakgaaBr
import Derived.Test.YtnhleppnhaakgaaRows
import Derived.ProofKit
import Derived.KernelRfl
set_option linter.unusedVariables false
set_option maxRecDepth 100000
namespace Go.Proofs.Ytnhleppnhaakgaa
open Go.AW Go.ChangeShapes Go.WideShapes Go.ChangeAt Go.RowKit

theorem law_own : ownKnob Try.prog.godebug = none := by kernel_rfl
theorem law_laid : laidOutB Try.prog = true := by kernel_rfl

theorem rd_3 : Rds Try.prog 3 (fun ds => ∃ x : Int, (inK .i64) x ∧ ds = d_i64 x) := Rds.int (by kernel_rfl)

theorem rd_175 : Rds Try.prog 175 (fun ds => ∃ x : TLock, ok_TLock x ∧ ds = d_TLock x) := by
  refine (Rds.struct (Rs := [(1, fun ds => ∃ x : Int, (inK .i64) x ∧ ds = d_i64 x), (1, fun ds => ∃ x : Int, (inK .i64) x ∧ ds = d_i64 x), (1, fun ds => ∃ x : Int, (inK .i64) x ∧ ds = d_i64 x), (1, fun ds => ∃ x : Int, (inK .i64) x ∧ ds = d_i64 x)]) Try.underlying175 ⟨rfl, (by kernel_rfl : _ = 1), rd_3, ⟨rfl, (by kernel_rfl : _ = 1), rd_3, ⟨rfl, (by kernel_rfl : _ = 1), rd_3, ⟨rfl, (by kernel_rfl : _ = 1), rd_3, trivial⟩⟩⟩⟩ (by kernel_rfl)).mono ?_
  rintro ds ⟨_, _, rfl, ⟨x0, h0, rfl⟩, ⟨_, _, rfl, ⟨x1, h1, rfl⟩, ⟨_, _, rfl, ⟨x2, h2, rfl⟩, ⟨_, _, rfl, ⟨x3, h3, rfl⟩, rfl⟩⟩⟩⟩
  exact ⟨⟨x0, x1, x2, x3⟩, ⟨h0, h1, h2, h3⟩, rfl⟩

theorem rd_67 : Rds Try.prog 67 (fun ds => ∃ x : (List TLock), (okS ok_TLock) x ∧ ds = dS_TLock x) := Rds.slice (f := d_TLock) (ok := ok_TLock) (sz := 4) (by kernel_rfl) (by kernel_rfl) (by decide) (fun _ => rfl) rd_175

theorem rd_58 : Rds Try.prog 58 (fun ds => ∃ x : (List Int), (okS (inK .i64)) x ∧ ds = dS_i64 x) := Rds.slice (f := d_i64) (ok := (inK .i64)) (sz := 1) (by kernel_rfl) (by kernel_rfl) (by decide) (fun _ => rfl) rd_3

theorem rd_69 : Rds Try.prog 69 (fun ds => ∃ x : TRange, ok_TRange x ∧ ds = d_TRange x) := by
  refine (Rds.struct (Rs := [(1, fun ds => ∃ x : Int, (inK .i64) x ∧ ds = d_i64 x), (1, fun ds => ∃ x : Int, (inK .i64) x ∧ ds = d_i64 x)]) Try.underlying69 ⟨rfl, (by kernel_rfl : _ = 1), rd_3, ⟨rfl, (by kernel_rfl : _ = 1), rd_3, trivial⟩⟩ (by kernel_rfl)).mono ?_
  rintro ds ⟨_, _, rfl, ⟨x0, h0, rfl⟩, ⟨_, _, rfl, ⟨x1, h1, rfl⟩, rfl⟩⟩
  exact ⟨⟨x0, x1⟩, ⟨h0, h1⟩, rfl⟩


theorem FnExactLockAsk_lifted (os : Os) (started : os.Started) (H : Type) (enc : TypeId × Value → H) :
    ReturnsInHanded {} Try.checked os 6 .any (Rows.fnExactLockAskSpec.pre6 enc Try.prog Try.f6 Rows.fnExactLockAskRow.domain false) (Rows.fnExactLockAskSpec.post enc Try.prog Try.f6 false true false false) := by
  refine returnsInHanded_of_change (C := Try.checked) law_own started (by kernel_rfl) Try.func6
    (ChangeSpec.witness6 (enc := enc) (C := Try.checked) false ⟨#[], #[.slice none 0 0, .slice none 0 0, .int .i64 0, .agg #[.int .i64 0, .int .i64 0], .int .i64 0], []⟩ 8 (by kernel_rfl) (by kernel_rfl) (by kernel_rfl) (by kernel_rfl)) ?_
  intro W base args ds gs before hval hW hcnd _
  have hR : ArgsR Try.prog Try.f6.params.toList [fun x => ∃ a : (List TLock), (okS ok_TLock) a ∧ x = (.sl 4 (List.map d_TLock a)), fun x => ∃ a : (List Int), (okS (inK .i64)) a ∧ x = (.sl 1 (List.map d_i64 a)), fun x => ∃ a : Int, (inK .i64) a ∧ x = (.int .i64 a), fun x => ∃ ds, (∃ a : TRange, ok_TRange a ∧ ds = d_TRange a) ∧ x = .agg ds, fun x => ∃ a : Int, (inK .i64) a ∧ x = (.int .i64 a)] := by rw [Try.params6]; exact ⟨(argC (R := fun x => ∃ a : (List TLock), (okS ok_TLock) a ∧ x = (.sl 4 (List.map d_TLock a))) (by kernel_rfl) (rd_67.mono fun ds ⟨a, h, e⟩ => ⟨_, ⟨a, h, rfl⟩, rfl, e⟩)), ⟨(argC (R := fun x => ∃ a : (List Int), (okS (inK .i64)) a ∧ x = (.sl 1 (List.map d_i64 a))) (by kernel_rfl) (rd_58.mono fun ds ⟨a, h, e⟩ => ⟨_, ⟨a, h, rfl⟩, rfl, e⟩)), ⟨(argC (R := fun x => ∃ a : Int, (inK .i64) a ∧ x = (.int .i64 a)) (by kernel_rfl) (rd_3.mono fun ds ⟨a, h, e⟩ => ⟨_, ⟨a, h, rfl⟩, rfl, e⟩)), ⟨(argA Try.underlying69 rd_69), ⟨(argC (R := fun x => ∃ a : Int, (inK .i64) a ∧ x = (.int .i64 a)) (by kernel_rfl) (rd_3.mono fun ds ⟨a, h, e⟩ => ⟨_, ⟨a, h, rfl⟩, rfl, e⟩)), trivial⟩⟩⟩⟩⟩
  refine law_calls (P := Try.prog) (tb := 4) law_laid rfl (fun ds h => ?_) (by kernel_rfl) (by kernel_rfl) (by kernel_rfl) hR (fun xs h => ?_) hval hW
  · rw [Try.params6] at h
    exact match ds, h with
      | [_, _, _, _, _], _ => rfl
  · obtain ⟨_, _, rfl, ⟨a0, h0, rfl⟩, g0⟩ := DsR.cons h
    obtain ⟨_, _, rfl, ⟨a1, h1, rfl⟩, g1⟩ := DsR.cons g0
    obtain ⟨_, _, rfl, ⟨a2, h2, rfl⟩, g2⟩ := DsR.cons g1
    obtain ⟨_, _, rfl, ⟨_, ⟨a3, h3, rfl⟩, rfl⟩, g3⟩ := DsR.cons g2
    obtain ⟨_, _, rfl, ⟨a4, h4, rfl⟩, g4⟩ := DsR.cons g3
    obtain rfl := DsR.nil g4
    exact c_laws_FnExactLockAsk (p_FnExactLockAsk a0 a1 a2 a3 a4 h0 h1 h2 h3 h4)

theorem FnExactLockAsk_f25 : Try.pinned.checked.prog.stopsHeard = true := by kernel_rfl
theorem FnExactLockAsk_f26 : Try.pinned.checked.prog.mayEnter = true := by kernel_rfl
theorem FnExactLockAsk_f27 : (Rows.fnExactLockAskRow.lifted == Try.pinned.checked.prog.liftsFinal) = true := by kernel_rfl
theorem FnExactLockAsk_f28 : (Try.pinned.checked.prog.make == some Rows.fnExactLockAskRow.make) = true := by kernel_rfl
theorem FnExactLockAsk_f13 : (Rows.fnExactLockAskRow.named == Try.pinned.checked.prog.varsNamed 6) = true := by kernel_rfl
theorem FnExactLockAsk_f12 : (Rows.fnExactLockAskRow.recurses == Try.pinned.checked.prog.recurses 6) = true := by kernel_rfl
theorem FnExactLockAsk_f11 : (Rows.fnExactLockAskRow.unfollowed == Try.pinned.checked.prog.unfollowed 6) = true := by kernel_rfl
theorem FnExactLockAsk_f10 : (Rows.fnExactLockAskRow.inPlace == Try.pinned.checked.prog.inPlace 6) = true := by kernel_rfl
theorem FnExactLockAsk_bi {a b : Bool} (h : a = true) (h' : b = true) : (a && b) = true := by rw [h, h']; rfl
theorem FnExactLockAsk_facts : joinedFacts Try.pinned.checked.prog 6 Try.f6 Rows.fnExactLockAskSpec Rows.fnExactLockAskRow = true :=
  (FnExactLockAsk_bi (FnExactLockAsk_bi (FnExactLockAsk_bi (FnExactLockAsk_bi (FnExactLockAsk_bi (FnExactLockAsk_bi (FnExactLockAsk_bi (FnExactLockAsk_bi (FnExactLockAsk_bi (FnExactLockAsk_bi (FnExactLockAsk_bi (FnExactLockAsk_bi (FnExactLockAsk_bi (FnExactLockAsk_bi (FnExactLockAsk_bi (FnExactLockAsk_bi (FnExactLockAsk_bi (FnExactLockAsk_bi (FnExactLockAsk_bi (FnExactLockAsk_bi (FnExactLockAsk_bi (FnExactLockAsk_bi (FnExactLockAsk_bi (FnExactLockAsk_bi (FnExactLockAsk_bi (FnExactLockAsk_bi (FnExactLockAsk_bi (FnExactLockAsk_bi (FnExactLockAsk_bi (FnExactLockAsk_bi (FnExactLockAsk_bi (by kernel_rfl) (by kernel_rfl)) (by kernel_rfl)) (by kernel_rfl)) (by kernel_rfl)) (by kernel_rfl)) (by kernel_rfl)) (by kernel_rfl)) (by kernel_rfl)) FnExactLockAsk_f10) FnExactLockAsk_f11) FnExactLockAsk_f12) FnExactLockAsk_f13) (by kernel_rfl)) (by kernel_rfl)) (by kernel_rfl)) (by kernel_rfl)) (by kernel_rfl)) (by kernel_rfl)) (by kernel_rfl)) (by kernel_rfl)) (by kernel_rfl)) (by kernel_rfl)) (by kernel_rfl)) FnExactLockAsk_f25) FnExactLockAsk_f26) FnExactLockAsk_f27) FnExactLockAsk_f28) (by kernel_rfl)) (by kernel_rfl)) (by kernel_rfl)) (by kernel_rfl))

theorem fnExactLockAsk_holds : Rows.FnExactLockAskSaid :=
  OpenClaim.holds_of_wide 6 Try.f6 rfl rfl rfl rfl rfl rfl rfl ⟨rfl, rfl, rfl, rfl, rfl⟩ rfl rfl rfl rfl rfl (by kernel_rfl) Try.func6 FnExactLockAsk_facts
    (of_decide_eq_true (by kernel_rfl)) (by unfold Func.isWrapper; first | (rw [if_pos (by decide +kernel)]; kernel_rfl) | (rw [if_neg (by decide +kernel)]; exact ⟨rfl, rfl⟩))
    (fun os started H enc _ => FnExactLockAsk_lifted os started H enc)

end Go.Proofs.Ytnhleppnhaakgaa
