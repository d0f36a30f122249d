/- The given statement: the law returns true for every input, and its arguments read as they did. Conditions: none. -/
import Derived.Test.YtednnkegleoenaaDLetterOka
import Derived.Test.YtednnkegleoenaaDLetterOkb
import Derived.Test.YtednnkegleoenaaDLetterOkc
import Derived.Test.YtednnkegleoenaaDLetterOkd
import Derived.Test.YtednnkegleoenaaPLetterOk
import Derived.Test.YtednnkegleoenaaBr
import Derived.Test.YtednnkegleoenaaRows
import Derived.ProofKit
import Derived.KernelRfl
set_option linter.unusedVariables false
set_option maxRecDepth 100000
namespace Go.Proofs.Ytednnkegleoenaa
open Go.AW Go.ChangeShapes Go.WideShapes Go.ChangeAt Go.RowKit
theorem law_own : ownKnob Try.prog.godebug = none := by kernel_rfl
theorem law_laid : laidOutB Try.prog = true := by kernel_rfl
theorem rd_3 : Rds Try.prog 3 (fun ds => ∃ x : Int, (inK .i64) x ∧ ds = d_i64 x) := Rds.int (by kernel_rfl)
theorem rd_95 : Rds Try.prog 95 (fun ds => ∃ x : TCell, ok_TCell x ∧ ds = d_TCell x) := by
  refine (Rds.struct (Rs := [(1, fun ds => ∃ x : Int, (inK .i64) x ∧ ds = d_i64 x), (1, fun ds => ∃ x : Int, (inK .i64) x ∧ ds = d_i64 x)]) Try.underlying95 ⟨rfl, (by kernel_rfl : _ = 1), rd_3, ⟨rfl, (by kernel_rfl : _ = 1), rd_3, trivial⟩⟩ (by kernel_rfl)).mono ?_
  rintro ds ⟨_, _, rfl, ⟨x0, h0, rfl⟩, ⟨_, _, rfl, ⟨x1, h1, rfl⟩, rfl⟩⟩
  exact ⟨⟨x0, x1⟩, ⟨h0, h1⟩, rfl⟩
theorem rd_32 : Rds Try.prog 32 (fun ds => ∃ x : (List TCell), (okS ok_TCell) x ∧ ds = dS_TCell x) := Rds.slice (f := d_TCell) (ok := ok_TCell) (sz := 2) (by kernel_rfl) (by kernel_rfl) (by decide) (fun _ => rfl) rd_95
theorem rd_93 : Rds Try.prog 93 (fun ds => ∃ x : TRange, ok_TRange x ∧ ds = d_TRange x) := by
  refine (Rds.struct (Rs := [(1, fun ds => ∃ x : Int, (inK .i64) x ∧ ds = d_i64 x), (1, fun ds => ∃ x : Int, (inK .i64) x ∧ ds = d_i64 x)]) Try.underlying93 ⟨rfl, (by kernel_rfl : _ = 1), rd_3, ⟨rfl, (by kernel_rfl : _ = 1), rd_3, trivial⟩⟩ (by kernel_rfl)).mono ?_
  rintro ds ⟨_, _, rfl, ⟨x0, h0, rfl⟩, ⟨_, _, rfl, ⟨x1, h1, rfl⟩, rfl⟩⟩
  exact ⟨⟨x0, x1⟩, ⟨h0, h1⟩, rfl⟩
theorem rd_31 : Rds Try.prog 31 (fun ds => ∃ x : (List TRange), (okS ok_TRange) x ∧ ds = dS_TRange x) := Rds.slice (f := d_TRange) (ok := ok_TRange) (sz := 2) (by kernel_rfl) (by kernel_rfl) (by decide) (fun _ => rfl) rd_93
theorem rd_86 : Rds Try.prog 86 (fun ds => ∃ x : TShare, ok_TShare x ∧ ds = d_TShare x) := by
  refine (Rds.struct (Rs := [(1, fun ds => ∃ x : Int, (inK .i64) x ∧ ds = d_i64 x), (1, fun ds => ∃ x : (List TRange), (okS ok_TRange) x ∧ ds = dS_TRange x), (1, fun ds => ∃ x : (List TCell), (okS ok_TCell) x ∧ ds = dS_TCell x), (1, fun ds => ∃ x : Int, (inK .i64) x ∧ ds = d_i64 x)]) Try.underlying86 ⟨rfl, (by kernel_rfl : _ = 1), rd_3, ⟨rfl, (by kernel_rfl : _ = 1), rd_31, ⟨rfl, (by kernel_rfl : _ = 1), rd_32, ⟨rfl, (by kernel_rfl : _ = 1), rd_3, trivial⟩⟩⟩⟩ (by kernel_rfl)).mono ?_
  rintro ds ⟨_, _, rfl, ⟨x0, h0, rfl⟩, ⟨_, _, rfl, ⟨x1, h1, rfl⟩, ⟨_, _, rfl, ⟨x2, h2, rfl⟩, ⟨_, _, rfl, ⟨x3, h3, rfl⟩, rfl⟩⟩⟩⟩
  exact ⟨⟨x0, x1, x2, x3⟩, ⟨h0, h1, h2, h3⟩, rfl⟩
theorem rd_33 : Rds Try.prog 33 (fun ds => ∃ x : (List TShare), (okS ok_TShare) x ∧ ds = dS_TShare x) := Rds.slice (f := d_TShare) (ok := ok_TShare) (sz := 4) (by kernel_rfl) (by kernel_rfl) (by decide) (fun _ => rfl) rd_86
theorem rd_51 : Rds Try.prog 51 (fun ds => ∃ x : TCell, ok_TCell x ∧ ds = d_TCell x) := by
  refine (Rds.struct (Rs := [(1, fun ds => ∃ x : Int, (inK .i64) x ∧ ds = d_i64 x), (1, fun ds => ∃ x : Int, (inK .i64) x ∧ ds = d_i64 x)]) Try.underlying51 ⟨rfl, (by kernel_rfl : _ = 1), rd_3, ⟨rfl, (by kernel_rfl : _ = 1), rd_3, trivial⟩⟩ (by kernel_rfl)).mono ?_
  rintro ds ⟨_, _, rfl, ⟨x0, h0, rfl⟩, ⟨_, _, rfl, ⟨x1, h1, rfl⟩, rfl⟩⟩
  exact ⟨⟨x0, x1⟩, ⟨h0, h1⟩, rfl⟩
theorem rd_22 : Rds Try.prog 22 (fun ds => ∃ x : (List TCell), (okS ok_TCell) x ∧ ds = dS_TCell x) := Rds.slice (f := d_TCell) (ok := ok_TCell) (sz := 2) (by kernel_rfl) (by kernel_rfl) (by decide) (fun _ => rfl) rd_51
theorem rd_4 : Rds Try.prog 4 (fun ds => ∃ x : Bool, (fun _ : Bool => True) x ∧ ds = d_bool x) := Rds.bool (by kernel_rfl)
theorem rd_35 : Rds Try.prog 35 (fun ds => ∃ x : TLetter, ok_TLetter x ∧ ds = d_TLetter x) := by
  refine (Rds.struct (Rs := [(1, fun ds => ∃ x : Int, (inK .i64) x ∧ ds = d_i64 x), (1, fun ds => ∃ x : Int, (inK .i64) x ∧ ds = d_i64 x), (1, fun ds => ∃ x : Int, (inK .i64) x ∧ ds = d_i64 x), (1, fun ds => ∃ x : Int, (inK .i64) x ∧ ds = d_i64 x), (1, fun ds => ∃ x : Int, (inK .i64) x ∧ ds = d_i64 x), (1, fun ds => ∃ x : Int, (inK .i64) x ∧ ds = d_i64 x), (1, fun ds => ∃ x : Int, (inK .i64) x ∧ ds = d_i64 x), (1, fun ds => ∃ x : Int, (inK .i64) x ∧ ds = d_i64 x), (1, fun ds => ∃ x : Int, (inK .i64) x ∧ ds = d_i64 x), (1, fun ds => ∃ x : Bool, (fun _ : Bool => True) x ∧ ds = d_bool x), (1, fun ds => ∃ x : (List TRange), (okS ok_TRange) x ∧ ds = dS_TRange x), (1, fun ds => ∃ x : (List TCell), (okS ok_TCell) x ∧ ds = dS_TCell x), (1, fun ds => ∃ x : (List TCell), (okS ok_TCell) x ∧ ds = dS_TCell x), (1, fun ds => ∃ x : (List TShare), (okS ok_TShare) x ∧ ds = dS_TShare x)]) Try.underlying35 ⟨rfl, (by kernel_rfl : _ = 1), rd_3, ⟨rfl, (by kernel_rfl : _ = 1), rd_3, ⟨rfl, (by kernel_rfl : _ = 1), rd_3, ⟨rfl, (by kernel_rfl : _ = 1), rd_3, ⟨rfl, (by kernel_rfl : _ = 1), rd_3, ⟨rfl, (by kernel_rfl : _ = 1), rd_3, ⟨rfl, (by kernel_rfl : _ = 1), rd_3, ⟨rfl, (by kernel_rfl : _ = 1), rd_3, ⟨rfl, (by kernel_rfl : _ = 1), rd_3, ⟨rfl, (by kernel_rfl : _ = 1), rd_4, ⟨rfl, (by kernel_rfl : _ = 1), rd_31, ⟨rfl, (by kernel_rfl : _ = 1), rd_32, ⟨rfl, (by kernel_rfl : _ = 1), rd_22, ⟨rfl, (by kernel_rfl : _ = 1), rd_33, trivial⟩⟩⟩⟩⟩⟩⟩⟩⟩⟩⟩⟩⟩⟩ (by kernel_rfl)).mono ?_
  rintro ds ⟨_, _, rfl, ⟨x0, h0, rfl⟩, ⟨_, _, rfl, ⟨x1, h1, rfl⟩, ⟨_, _, rfl, ⟨x2, h2, rfl⟩, ⟨_, _, rfl, ⟨x3, h3, rfl⟩, ⟨_, _, rfl, ⟨x4, h4, rfl⟩, ⟨_, _, rfl, ⟨x5, h5, rfl⟩, ⟨_, _, rfl, ⟨x6, h6, rfl⟩, ⟨_, _, rfl, ⟨x7, h7, rfl⟩, ⟨_, _, rfl, ⟨x8, h8, rfl⟩, ⟨_, _, rfl, ⟨x9, h9, rfl⟩, ⟨_, _, rfl, ⟨x10, h10, rfl⟩, ⟨_, _, rfl, ⟨x11, h11, rfl⟩, ⟨_, _, rfl, ⟨x12, h12, rfl⟩, ⟨_, _, rfl, ⟨x13, h13, rfl⟩, rfl⟩⟩⟩⟩⟩⟩⟩⟩⟩⟩⟩⟩⟩⟩
  exact ⟨⟨x0, x1, x2, x3, x4, x5, x6, x7, x8, x9, x10, x11, x12, x13⟩, ⟨h0, h1, h2, h3, h4, h5, h6, h7, h8, h9, h10, h11, h12, h13⟩, rfl⟩
theorem FnExactLetterOk_lifted (os : Os) (started : os.Started) (H : Type) (enc : TypeId × Value → H) :
    ReturnsInHanded {} Try.checked os 4 .any (Rows.fnExactLetterOkSpec.pre6 enc Try.prog Try.f4 Rows.fnExactLetterOkRow.domain false) (Rows.fnExactLetterOkSpec.post enc Try.prog Try.f4 false true false false) := by
  refine returnsInHanded_of_change (C := Try.checked) law_own started (by kernel_rfl) Try.func4
    (ChangeSpec.witness6 (enc := enc) (C := Try.checked) false ⟨#[], #[.agg #[.int .i64 0, .int .i64 0, .int .i64 0, .int .i64 0, .int .i64 0, .int .i64 0, .int .i64 0, .int .i64 0, .int .i64 0, .bool false, .slice none 0 0, .slice none 0 0, .slice none 0 0, .slice none 0 0]], []⟩ 8 (by kernel_rfl) (by kernel_rfl) (by kernel_rfl) (by kernel_rfl)) ?_
  intro W base args ds gs before hval hW hcnd _
  have hR : ArgsR Try.prog Try.f4.params.toList [fun x => ∃ ds, (∃ a : TLetter, ok_TLetter a ∧ ds = d_TLetter a) ∧ x = .agg ds] := by rw [Try.params4]; exact ⟨(argA Try.underlying35 rd_35), trivial⟩
  refine law_calls (P := Try.prog) (tb := 4) law_laid rfl (fun ds h => ?_) (by kernel_rfl) (by kernel_rfl) (by kernel_rfl) hR (fun xs h => ?_) hval hW
  · rw [Try.params4] at h
    exact match ds, h with
      | [_], _ => rfl
  · obtain ⟨_, _, rfl, ⟨_, ⟨a0, h0, rfl⟩, rfl⟩, g0⟩ := DsR.cons h
    obtain rfl := DsR.nil g0
    exact c_laws_FnExactLetterOk (p_FnExactLetterOk a0 h0)
theorem FnExactLetterOk_f25 : Try.pinned.checked.prog.stopsHeard = true := by kernel_rfl
theorem FnExactLetterOk_f26 : Try.pinned.checked.prog.mayEnter = true := by kernel_rfl
theorem FnExactLetterOk_f27 : (Rows.fnExactLetterOkRow.lifted == Try.pinned.checked.prog.liftsFinal) = true := by kernel_rfl
theorem FnExactLetterOk_f28 : (Try.pinned.checked.prog.make == some Rows.fnExactLetterOkRow.make) = true := by kernel_rfl
theorem FnExactLetterOk_f13 : (Rows.fnExactLetterOkRow.named == Try.pinned.checked.prog.varsNamed 4) = true := by kernel_rfl
theorem FnExactLetterOk_f12 : (Rows.fnExactLetterOkRow.recurses == Try.pinned.checked.prog.recurses 4) = true := by kernel_rfl
theorem FnExactLetterOk_f11 : (Rows.fnExactLetterOkRow.unfollowed == Try.pinned.checked.prog.unfollowed 4) = true := by kernel_rfl
theorem FnExactLetterOk_f10 : (Rows.fnExactLetterOkRow.inPlace == Try.pinned.checked.prog.inPlace 4) = true := by kernel_rfl
theorem FnExactLetterOk_bi {a b : Bool} (h : a = true) (h' : b = true) : (a && b) = true := by rw [h, h']; rfl
theorem FnExactLetterOk_facts : joinedFacts Try.pinned.checked.prog 4 Try.f4 Rows.fnExactLetterOkSpec Rows.fnExactLetterOkRow = true :=
  (FnExactLetterOk_bi (FnExactLetterOk_bi (FnExactLetterOk_bi (FnExactLetterOk_bi (FnExactLetterOk_bi (FnExactLetterOk_bi (FnExactLetterOk_bi (FnExactLetterOk_bi (FnExactLetterOk_bi (FnExactLetterOk_bi (FnExactLetterOk_bi (FnExactLetterOk_bi (FnExactLetterOk_bi (FnExactLetterOk_bi (FnExactLetterOk_bi (FnExactLetterOk_bi (FnExactLetterOk_bi (FnExactLetterOk_bi (FnExactLetterOk_bi (FnExactLetterOk_bi (FnExactLetterOk_bi (FnExactLetterOk_bi (FnExactLetterOk_bi (FnExactLetterOk_bi (FnExactLetterOk_bi (FnExactLetterOk_bi (FnExactLetterOk_bi (FnExactLetterOk_bi (FnExactLetterOk_bi (FnExactLetterOk_bi (FnExactLetterOk_bi (by kernel_rfl) (by kernel_rfl)) (by kernel_rfl)) (by kernel_rfl)) (by kernel_rfl)) (by kernel_rfl)) (by kernel_rfl)) (by kernel_rfl)) (by kernel_rfl)) FnExactLetterOk_f10) FnExactLetterOk_f11) FnExactLetterOk_f12) FnExactLetterOk_f13) (by kernel_rfl)) (by kernel_rfl)) (by kernel_rfl)) (by kernel_rfl)) (by kernel_rfl)) (by kernel_rfl)) (by kernel_rfl)) (by kernel_rfl)) (by kernel_rfl)) (by kernel_rfl)) (by kernel_rfl)) FnExactLetterOk_f25) FnExactLetterOk_f26) FnExactLetterOk_f27) FnExactLetterOk_f28) (by kernel_rfl)) (by kernel_rfl)) (by kernel_rfl)) (by kernel_rfl))
theorem fnExactLetterOk_holds : Rows.FnExactLetterOkSaid :=
  OpenClaim.holds_of_wide 4 Try.f4 rfl rfl rfl rfl rfl rfl rfl ⟨rfl, rfl, rfl, rfl, rfl⟩ rfl rfl rfl rfl rfl (by kernel_rfl) Try.func4 FnExactLetterOk_facts
    (of_decide_eq_true (by kernel_rfl)) (by unfold Func.isWrapper; first | (rw [if_pos (by decide +kernel)]; kernel_rfl) | (rw [if_neg (by decide +kernel)]; exact ⟨rfl, rfl⟩))
    (fun os started H enc _ => FnExactLetterOk_lifted os started H enc)
end Go.Proofs.Ytednnkegleoenaa
