/- The given statement: the law returns true for every input, and its arguments read as they did. Conditions: none. -/
import Derived.Test.YtnpbflgkgjnljaaDFnNoClasha
import Derived.Test.YtnpbflgkgjnljaaDFnNoClashb
import Derived.Test.YtnpbflgkgjnljaaDFnNoClashc
import Derived.Test.YtnpbflgkgjnljaaPFnNoClash
import Derived.Test.YtnpbflgkgjnljaaBr
import Derived.Test.YtnpbflgkgjnljaaRows
import Derived.ProofKit
import Derived.KernelRfl
set_option linter.unusedVariables false
set_option maxRecDepth 100000
namespace Go.Proofs.Ytnpbflgkgjnljaa
open Go.AW Go.ChangeShapes Go.WideShapes Go.ChangeAt Go.RowKit
theorem law_own : ownKnob Try.prog.godebug = none := by kernel_rfl
theorem law_laid : laidOutB Try.prog = true := by kernel_rfl
theorem rd_5 : Rds Try.prog 5 (fun ds => ∃ x : Int, (inK .u8) x ∧ ds = d_u8 x) := Rds.int (by kernel_rfl)
theorem rd_22 : Rds Try.prog 22 (fun ds => ∃ x : (List Int), (okS (inK .u8)) x ∧ ds = dS_u8 x) := Rds.slice (f := d_u8) (ok := (inK .u8)) (sz := 1) (by kernel_rfl) (by kernel_rfl) (by decide) (fun _ => rfl) rd_5
theorem FnNoClash_lifted (os : Os) (started : os.Started) (H : Type) (enc : TypeId × Value → H) :
  ReturnsInHanded {} Try.checked os 5 .any (Rows.fnNoClashSpec.pre6 enc Try.prog Try.f5 Rows.fnNoClashRow.domain false) (Rows.fnNoClashSpec.post enc Try.prog Try.f5 false true false false) := by
 refine returnsInHanded_of_change (C := Try.checked) law_own started (by kernel_rfl) Try.func5
  (ChangeSpec.witness6 (enc := enc) (C := Try.checked) false ⟨#[], #[.slice none 0 0], []⟩ 8 (by kernel_rfl) (by kernel_rfl) (by kernel_rfl) (by kernel_rfl)) ?_
 intro W base args ds gs before hval hW hcnd _
 have hR : ArgsR Try.prog Try.f5.params.toList [fun x => ∃ a : (List Int), (okS (inK .u8)) a ∧ x = (.sl 1 (List.map d_u8 a))] := by rw [Try.params5]; exact ⟨(argC (R := fun x => ∃ a : (List Int), (okS (inK .u8)) a ∧ x = (.sl 1 (List.map d_u8 a))) (by kernel_rfl) (rd_22.mono fun ds ⟨a, h, e⟩ => ⟨_, ⟨a, h, rfl⟩, rfl, e⟩)), trivial⟩
 refine law_calls (P := Try.prog) (tb := 4) law_laid rfl (fun ds h => ?_) (by kernel_rfl) (by kernel_rfl) (by kernel_rfl) hR (fun xs h => ?_) hval hW
 ·rw [Try.params5] at h
  exact match ds, h with
   | [_], _ => rfl
 ·obtain ⟨_, _, rfl, ⟨a0, h0, rfl⟩, g0⟩ := DsR.cons h
  obtain rfl := DsR.nil g0
  exact c_laws_FnNoClash (p_FnNoClash a0 h0)
theorem FnNoClash_f25 : Try.pinned.checked.prog.stopsHeard = true := by kernel_rfl
theorem FnNoClash_f26 : Try.pinned.checked.prog.mayEnter = true := by kernel_rfl
theorem FnNoClash_f27 : (Rows.fnNoClashRow.lifted == Try.pinned.checked.prog.liftsFinal) = true := by kernel_rfl
theorem FnNoClash_f28 : (Try.pinned.checked.prog.make == some Rows.fnNoClashRow.make) = true := by kernel_rfl
theorem FnNoClash_f13 : (Rows.fnNoClashRow.named == Try.pinned.checked.prog.varsNamed 5) = true := by kernel_rfl
theorem FnNoClash_f12 : (Rows.fnNoClashRow.recurses == Try.pinned.checked.prog.recurses 5) = true := by kernel_rfl
theorem FnNoClash_f11 : (Rows.fnNoClashRow.unfollowed == Try.pinned.checked.prog.unfollowed 5) = true := by kernel_rfl
theorem FnNoClash_f10 : (Rows.fnNoClashRow.inPlace == Try.pinned.checked.prog.inPlace 5) = true := by kernel_rfl
theorem FnNoClash_bi {a b : Bool} (h : a = true) (h' : b = true) : (a && b) = true := by rw [h, h']; rfl
theorem FnNoClash_facts : joinedFacts Try.pinned.checked.prog 5 Try.f5 Rows.fnNoClashSpec Rows.fnNoClashRow = true :=
 (FnNoClash_bi (FnNoClash_bi (FnNoClash_bi (FnNoClash_bi (FnNoClash_bi (FnNoClash_bi (FnNoClash_bi (FnNoClash_bi (FnNoClash_bi (FnNoClash_bi (FnNoClash_bi (FnNoClash_bi (FnNoClash_bi (FnNoClash_bi (FnNoClash_bi (FnNoClash_bi (FnNoClash_bi (FnNoClash_bi (FnNoClash_bi (FnNoClash_bi (FnNoClash_bi (FnNoClash_bi (FnNoClash_bi (FnNoClash_bi (FnNoClash_bi (FnNoClash_bi (FnNoClash_bi (FnNoClash_bi (FnNoClash_bi (FnNoClash_bi (FnNoClash_bi (by kernel_rfl) (by kernel_rfl)) (by kernel_rfl)) (by kernel_rfl)) (by kernel_rfl)) (by kernel_rfl)) (by kernel_rfl)) (by kernel_rfl)) (by kernel_rfl)) FnNoClash_f10) FnNoClash_f11) FnNoClash_f12) FnNoClash_f13) (by kernel_rfl)) (by kernel_rfl)) (by kernel_rfl)) (by kernel_rfl)) (by kernel_rfl)) (by kernel_rfl)) (by kernel_rfl)) (by kernel_rfl)) (by kernel_rfl)) (by kernel_rfl)) (by kernel_rfl)) FnNoClash_f25) FnNoClash_f26) FnNoClash_f27) FnNoClash_f28) (by kernel_rfl)) (by kernel_rfl)) (by kernel_rfl)) (by kernel_rfl))
theorem fnNoClash_holds : Rows.FnNoClashSaid :=
 OpenClaim.holds_of_wide 5 Try.f5 rfl rfl rfl rfl rfl rfl rfl ⟨rfl, rfl, rfl, rfl, rfl⟩ rfl rfl rfl rfl rfl (by kernel_rfl) Try.func5 FnNoClash_facts
  (of_decide_eq_true (by kernel_rfl)) (by unfold Func.isWrapper; first | (rw [if_pos (by decide +kernel)]; kernel_rfl) | (rw [if_neg (by decide +kernel)]; exact ⟨rfl, rfl⟩))
  (fun os started H enc _ => FnNoClash_lifted os started H enc)
end Go.Proofs.Ytnpbflgkgjnljaa
