/- The given statement: the law returns true for every input, and its arguments read as they did. Conditions: none. -/
import Derived.Test.YtnpbflgkgjnljaaDFnWaitsa
import Derived.Test.YtnpbflgkgjnljaaDFnWaitsb
import Derived.Test.YtnpbflgkgjnljaaDFnWaitsc
import Derived.Test.YtnpbflgkgjnljaaPFnWaits
import Derived.Test.YtnpbflgkgjnljaaBr
import Derived.Test.YtnpbflgkgjnljaaRows
import Derived.ProofKit
import Derived.KernelRfl
set_option linter.unusedVariables false
set_option maxRecDepth 100000
namespace Go.Proofs.Ytnpbflgkgjnljaa
open Go.AW Go.ChangeShapes Go.WideShapes Go.ChangeAt Go.RowKit
theorem law_own : ownKnob Try.prog.godebug = none := by kernel_rfl
theorem law_laid : laidOutB Try.prog = true := by kernel_rfl
theorem rd_5 : Rds Try.prog 5 (fun ds => ∃ x : Int, (inK .u8) x ∧ ds = d_u8 x) := Rds.int (by kernel_rfl)
theorem rd_22 : Rds Try.prog 22 (fun ds => ∃ x : (List Int), (okS (inK .u8)) x ∧ ds = dS_u8 x) := Rds.slice (f := d_u8) (ok := (inK .u8)) (sz := 1) (by kernel_rfl) (by kernel_rfl) (by decide) (fun _ => rfl) rd_5
theorem FnWaits_lifted (os : Os) (started : os.Started) (H : Type) (enc : TypeId × Value → H) :
  ReturnsInHanded {} Try.checked os 6 .any (Rows.fnWaitsSpec.pre6 enc Try.prog Try.f6 Rows.fnWaitsRow.domain false) (Rows.fnWaitsSpec.post enc Try.prog Try.f6 false true false false) := by
 refine returnsInHanded_of_change (C := Try.checked) law_own started (by kernel_rfl) Try.func6
  (ChangeSpec.witness6 (enc := enc) (C := Try.checked) false ⟨#[], #[.slice none 0 0], []⟩ 8 (by kernel_rfl) (by kernel_rfl) (by kernel_rfl) (by kernel_rfl)) ?_
 intro W base args ds gs before hval hW hcnd _
 have hR : ArgsR Try.prog Try.f6.params.toList [fun x => ∃ a : (List Int), (okS (inK .u8)) a ∧ x = (.sl 1 (List.map d_u8 a))] := by rw [Try.params6]; exact ⟨(argC (R := fun x => ∃ a : (List Int), (okS (inK .u8)) a ∧ x = (.sl 1 (List.map d_u8 a))) (by kernel_rfl) (rd_22.mono fun ds ⟨a, h, e⟩ => ⟨_, ⟨a, h, rfl⟩, rfl, e⟩)), trivial⟩
 refine law_calls (P := Try.prog) (tb := 4) law_laid rfl (fun ds h => ?_) (by kernel_rfl) (by kernel_rfl) (by kernel_rfl) hR (fun xs h => ?_) hval hW
 ·rw [Try.params6] at h
  exact match ds, h with
   | [_], _ => rfl
 ·obtain ⟨_, _, rfl, ⟨a0, h0, rfl⟩, g0⟩ := DsR.cons h
  obtain rfl := DsR.nil g0
  exact c_laws_FnWaits (p_FnWaits a0 h0)
theorem FnWaits_f25 : Try.pinned.checked.prog.stopsHeard = true := by kernel_rfl
theorem FnWaits_f26 : Try.pinned.checked.prog.mayEnter = true := by kernel_rfl
theorem FnWaits_f27 : (Rows.fnWaitsRow.lifted == Try.pinned.checked.prog.liftsFinal) = true := by kernel_rfl
theorem FnWaits_f28 : (Try.pinned.checked.prog.make == some Rows.fnWaitsRow.make) = true := by kernel_rfl
theorem FnWaits_f13 : (Rows.fnWaitsRow.named == Try.pinned.checked.prog.varsNamed 6) = true := by kernel_rfl
theorem FnWaits_f12 : (Rows.fnWaitsRow.recurses == Try.pinned.checked.prog.recurses 6) = true := by kernel_rfl
theorem FnWaits_f11 : (Rows.fnWaitsRow.unfollowed == Try.pinned.checked.prog.unfollowed 6) = true := by kernel_rfl
theorem FnWaits_f10 : (Rows.fnWaitsRow.inPlace == Try.pinned.checked.prog.inPlace 6) = true := by kernel_rfl
theorem FnWaits_bi {a b : Bool} (h : a = true) (h' : b = true) : (a && b) = true := by rw [h, h']; rfl
theorem FnWaits_facts : joinedFacts Try.pinned.checked.prog 6 Try.f6 Rows.fnWaitsSpec Rows.fnWaitsRow = true :=
 (FnWaits_bi (FnWaits_bi (FnWaits_bi (FnWaits_bi (FnWaits_bi (FnWaits_bi (FnWaits_bi (FnWaits_bi (FnWaits_bi (FnWaits_bi (FnWaits_bi (FnWaits_bi (FnWaits_bi (FnWaits_bi (FnWaits_bi (FnWaits_bi (FnWaits_bi (FnWaits_bi (FnWaits_bi (FnWaits_bi (FnWaits_bi (FnWaits_bi (FnWaits_bi (FnWaits_bi (FnWaits_bi (FnWaits_bi (FnWaits_bi (FnWaits_bi (FnWaits_bi (FnWaits_bi (FnWaits_bi (by kernel_rfl) (by kernel_rfl)) (by kernel_rfl)) (by kernel_rfl)) (by kernel_rfl)) (by kernel_rfl)) (by kernel_rfl)) (by kernel_rfl)) (by kernel_rfl)) FnWaits_f10) FnWaits_f11) FnWaits_f12) FnWaits_f13) (by kernel_rfl)) (by kernel_rfl)) (by kernel_rfl)) (by kernel_rfl)) (by kernel_rfl)) (by kernel_rfl)) (by kernel_rfl)) (by kernel_rfl)) (by kernel_rfl)) (by kernel_rfl)) (by kernel_rfl)) FnWaits_f25) FnWaits_f26) FnWaits_f27) FnWaits_f28) (by kernel_rfl)) (by kernel_rfl)) (by kernel_rfl)) (by kernel_rfl))
theorem fnWaits_holds : Rows.FnWaitsSaid :=
 OpenClaim.holds_of_wide 6 Try.f6 rfl rfl rfl rfl rfl rfl rfl ⟨rfl, rfl, rfl, rfl, rfl⟩ rfl rfl rfl rfl rfl (by kernel_rfl) Try.func6 FnWaits_facts
  (of_decide_eq_true (by kernel_rfl)) (by unfold Func.isWrapper; first | (rw [if_pos (by decide +kernel)]; kernel_rfl) | (rw [if_neg (by decide +kernel)]; exact ⟨rfl, rfl⟩))
  (fun os started H enc _ => FnWaits_lifted os started H enc)
end Go.Proofs.Ytnpbflgkgjnljaa
