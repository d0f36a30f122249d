/- The given statement: the law returns true for every input, and its arguments read as they did. Conditions: none. -/
import Derived.Test.YtnpbflgkgjnljaaDFnSplit15a
import Derived.Test.YtnpbflgkgjnljaaDFnSplit15b
import Derived.Test.YtnpbflgkgjnljaaDFnSplit15c
import Derived.Test.YtnpbflgkgjnljaaDFnSplit15d
import Derived.Test.YtnpbflgkgjnljaaPFnSplit15
import Derived.Test.YtnpbflgkgjnljaaBr
import Derived.Test.YtnpbflgkgjnljaaRows
import Derived.ProofKit
import Derived.KernelRfl
set_option linter.unusedVariables false
set_option maxRecDepth 100000
namespace Go.Proofs.Ytnpbflgkgjnljaa
open Go.AW Go.ChangeShapes Go.WideShapes Go.ChangeAt Go.RowKit
theorem law_own : ownKnob Try.prog.godebug = none := by kernel_rfl
theorem law_laid : laidOutB Try.prog = true := by kernel_rfl
theorem rd_5 : Rds Try.prog 5 (fun ds => ∃ x : Int, (inK .u8) x ∧ ds = d_u8 x) := Rds.int (by kernel_rfl)
theorem rd_22 : Rds Try.prog 22 (fun ds => ∃ x : (List Int), (okS (inK .u8)) x ∧ ds = dS_u8 x) := Rds.slice (f := d_u8) (ok := (inK .u8)) (sz := 1) (by kernel_rfl) (by kernel_rfl) (by decide) (fun _ => rfl) rd_5
theorem FnSplit15_lifted (os : Os) (started : os.Started) (H : Type) (enc : TypeId × Value → H) :
  ReturnsInHanded {} Try.checked os 3 .any (Rows.fnSplit15Spec.pre6 enc Try.prog Try.f3 Rows.fnSplit15Row.domain false) (Rows.fnSplit15Spec.post enc Try.prog Try.f3 false true false false) := by
 refine returnsInHanded_of_change (C := Try.checked) law_own started (by kernel_rfl) Try.func3
  (ChangeSpec.witness6 (enc := enc) (C := Try.checked) false ⟨#[], #[.slice none 0 0], []⟩ 8 (by kernel_rfl) (by kernel_rfl) (by kernel_rfl) (by kernel_rfl)) ?_
 intro W base args ds gs before hval hW hcnd _
 have hR : ArgsR Try.prog Try.f3.params.toList [fun x => ∃ a : (List Int), (okS (inK .u8)) a ∧ x = (.sl 1 (List.map d_u8 a))] := by rw [Try.params3]; exact ⟨(argC (R := fun x => ∃ a : (List Int), (okS (inK .u8)) a ∧ x = (.sl 1 (List.map d_u8 a))) (by kernel_rfl) (rd_22.mono fun ds ⟨a, h, e⟩ => ⟨_, ⟨a, h, rfl⟩, rfl, e⟩)), trivial⟩
 refine law_calls (P := Try.prog) (tb := 4) law_laid rfl (fun ds h => ?_) (by kernel_rfl) (by kernel_rfl) (by kernel_rfl) hR (fun xs h => ?_) hval hW
 ·rw [Try.params3] at h
  exact match ds, h with
   | [_], _ => rfl
 ·obtain ⟨_, _, rfl, ⟨a0, h0, rfl⟩, g0⟩ := DsR.cons h
  obtain rfl := DsR.nil g0
  exact c_laws_FnSplit15 (p_FnSplit15 a0 h0)
theorem FnSplit15_f25 : Try.pinned.checked.prog.stopsHeard = true := by kernel_rfl
theorem FnSplit15_f26 : Try.pinned.checked.prog.mayEnter = true := by kernel_rfl
theorem FnSplit15_f27 : (Rows.fnSplit15Row.lifted == Try.pinned.checked.prog.liftsFinal) = true := by kernel_rfl
theorem FnSplit15_f28 : (Try.pinned.checked.prog.make == some Rows.fnSplit15Row.make) = true := by kernel_rfl
theorem FnSplit15_f13 : (Rows.fnSplit15Row.named == Try.pinned.checked.prog.varsNamed 3) = true := by kernel_rfl
theorem FnSplit15_f12 : (Rows.fnSplit15Row.recurses == Try.pinned.checked.prog.recurses 3) = true := by kernel_rfl
theorem FnSplit15_f11 : (Rows.fnSplit15Row.unfollowed == Try.pinned.checked.prog.unfollowed 3) = true := by kernel_rfl
theorem FnSplit15_f10 : (Rows.fnSplit15Row.inPlace == Try.pinned.checked.prog.inPlace 3) = true := by kernel_rfl
theorem FnSplit15_bi {a b : Bool} (h : a = true) (h' : b = true) : (a && b) = true := by rw [h, h']; rfl
theorem FnSplit15_facts : joinedFacts Try.pinned.checked.prog 3 Try.f3 Rows.fnSplit15Spec Rows.fnSplit15Row = true :=
 (FnSplit15_bi (FnSplit15_bi (FnSplit15_bi (FnSplit15_bi (FnSplit15_bi (FnSplit15_bi (FnSplit15_bi (FnSplit15_bi (FnSplit15_bi (FnSplit15_bi (FnSplit15_bi (FnSplit15_bi (FnSplit15_bi (FnSplit15_bi (FnSplit15_bi (FnSplit15_bi (FnSplit15_bi (FnSplit15_bi (FnSplit15_bi (FnSplit15_bi (FnSplit15_bi (FnSplit15_bi (FnSplit15_bi (FnSplit15_bi (FnSplit15_bi (FnSplit15_bi (FnSplit15_bi (FnSplit15_bi (FnSplit15_bi (FnSplit15_bi (FnSplit15_bi (by kernel_rfl) (by kernel_rfl)) (by kernel_rfl)) (by kernel_rfl)) (by kernel_rfl)) (by kernel_rfl)) (by kernel_rfl)) (by kernel_rfl)) (by kernel_rfl)) FnSplit15_f10) FnSplit15_f11) FnSplit15_f12) FnSplit15_f13) (by kernel_rfl)) (by kernel_rfl)) (by kernel_rfl)) (by kernel_rfl)) (by kernel_rfl)) (by kernel_rfl)) (by kernel_rfl)) (by kernel_rfl)) (by kernel_rfl)) (by kernel_rfl)) (by kernel_rfl)) FnSplit15_f25) FnSplit15_f26) FnSplit15_f27) FnSplit15_f28) (by kernel_rfl)) (by kernel_rfl)) (by kernel_rfl)) (by kernel_rfl))
theorem fnSplit15_holds : Rows.FnSplit15Said :=
 OpenClaim.holds_of_wide 3 Try.f3 rfl rfl rfl rfl rfl rfl rfl ⟨rfl, rfl, rfl, rfl, rfl⟩ rfl rfl rfl rfl rfl (by kernel_rfl) Try.func3 FnSplit15_facts
  (of_decide_eq_true (by kernel_rfl)) (by unfold Func.isWrapper; first | (rw [if_pos (by decide +kernel)]; kernel_rfl) | (rw [if_neg (by decide +kernel)]; exact ⟨rfl, rfl⟩))
  (fun os started H enc _ => FnSplit15_lifted os started H enc)
end Go.Proofs.Ytnpbflgkgjnljaa
