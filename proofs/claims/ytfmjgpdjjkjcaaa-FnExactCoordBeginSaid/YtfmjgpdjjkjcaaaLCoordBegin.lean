/- The given statement: the law returns true for every input, and its arguments read as they did. Conditions: none. -/
import Derived.Test.YtfmjgpdjjkjcaaaDCoordBegina
import Derived.Test.YtfmjgpdjjkjcaaaDCoordBeginb
import Derived.Test.YtfmjgpdjjkjcaaaDCoordBeginc
import Derived.Test.YtfmjgpdjjkjcaaaPCoordBegin
import Derived.Test.YtfmjgpdjjkjcaaaBr
import Derived.Test.YtfmjgpdjjkjcaaaRows
import Derived.ProofKit
import Derived.KernelRfl
set_option linter.unusedVariables false
set_option maxRecDepth 100000
namespace Go.Proofs.Ytfmjgpdjjkjcaaa
open Go.AW Go.ChangeShapes Go.WideShapes Go.ChangeAt Go.RowKit
theorem law_own : ownKnob Try.prog.godebug = none := by kernel_rfl
theorem law_laid : laidOutB Try.prog = true := by kernel_rfl
theorem rd_3 : Rds Try.prog 3 (fun ds => ∃ x : Int, (inK .i64) x ∧ ds = d_i64 x) := Rds.int (by kernel_rfl)
theorem rd_23 : Rds Try.prog 23 (fun ds => ∃ x : (List Int), (okS (inK .i64)) x ∧ ds = dS_i64 x) := Rds.slice (f := d_i64) (ok := (inK .i64)) (sz := 1) (by kernel_rfl) (by kernel_rfl) (by decide) (fun _ => rfl) rd_3
theorem rd_112 : Rds Try.prog 112 (fun ds => ∃ x : TCell, ok_TCell x ∧ ds = d_TCell x) := by
  refine (Rds.struct (Rs := [(1, fun ds => ∃ x : Int, (inK .i64) x ∧ ds = d_i64 x), (1, fun ds => ∃ x : Int, (inK .i64) x ∧ ds = d_i64 x)]) Try.underlying112 ⟨rfl, (by kernel_rfl : _ = 1), rd_3, ⟨rfl, (by kernel_rfl : _ = 1), rd_3, trivial⟩⟩ (by kernel_rfl)).mono ?_
  rintro ds ⟨_, _, rfl, ⟨x0, h0, rfl⟩, ⟨_, _, rfl, ⟨x1, h1, rfl⟩, rfl⟩⟩
  exact ⟨⟨x0, x1⟩, ⟨h0, h1⟩, rfl⟩
theorem rd_70 : Rds Try.prog 70 (fun ds => ∃ x : (List TCell), (okS ok_TCell) x ∧ ds = dS_TCell x) := Rds.slice (f := d_TCell) (ok := ok_TCell) (sz := 2) (by kernel_rfl) (by kernel_rfl) (by decide) (fun _ => rfl) rd_112
theorem rd_110 : Rds Try.prog 110 (fun ds => ∃ x : TRange, ok_TRange x ∧ ds = d_TRange x) := by
  refine (Rds.struct (Rs := [(1, fun ds => ∃ x : Int, (inK .i64) x ∧ ds = d_i64 x), (1, fun ds => ∃ x : Int, (inK .i64) x ∧ ds = d_i64 x)]) Try.underlying110 ⟨rfl, (by kernel_rfl : _ = 1), rd_3, ⟨rfl, (by kernel_rfl : _ = 1), rd_3, trivial⟩⟩ (by kernel_rfl)).mono ?_
  rintro ds ⟨_, _, rfl, ⟨x0, h0, rfl⟩, ⟨_, _, rfl, ⟨x1, h1, rfl⟩, rfl⟩⟩
  exact ⟨⟨x0, x1⟩, ⟨h0, h1⟩, rfl⟩
theorem rd_69 : Rds Try.prog 69 (fun ds => ∃ x : (List TRange), (okS ok_TRange) x ∧ ds = dS_TRange x) := Rds.slice (f := d_TRange) (ok := ok_TRange) (sz := 2) (by kernel_rfl) (by kernel_rfl) (by decide) (fun _ => rfl) rd_110
theorem rd_72 : Rds Try.prog 72 (fun ds => ∃ x : TShare, ok_TShare x ∧ ds = d_TShare x) := by
  refine (Rds.struct (Rs := [(1, fun ds => ∃ x : Int, (inK .i64) x ∧ ds = d_i64 x), (1, fun ds => ∃ x : (List TRange), (okS ok_TRange) x ∧ ds = dS_TRange x), (1, fun ds => ∃ x : (List TCell), (okS ok_TCell) x ∧ ds = dS_TCell x), (1, fun ds => ∃ x : Int, (inK .i64) x ∧ ds = d_i64 x)]) Try.underlying72 ⟨rfl, (by kernel_rfl : _ = 1), rd_3, ⟨rfl, (by kernel_rfl : _ = 1), rd_69, ⟨rfl, (by kernel_rfl : _ = 1), rd_70, ⟨rfl, (by kernel_rfl : _ = 1), rd_3, trivial⟩⟩⟩⟩ (by kernel_rfl)).mono ?_
  rintro ds ⟨_, _, rfl, ⟨x0, h0, rfl⟩, ⟨_, _, rfl, ⟨x1, h1, rfl⟩, ⟨_, _, rfl, ⟨x2, h2, rfl⟩, ⟨_, _, rfl, ⟨x3, h3, rfl⟩, rfl⟩⟩⟩⟩
  exact ⟨⟨x0, x1, x2, x3⟩, ⟨h0, h1, h2, h3⟩, rfl⟩
theorem rd_39 : Rds Try.prog 39 (fun ds => ∃ x : (List TShare), (okS ok_TShare) x ∧ ds = dS_TShare x) := Rds.slice (f := d_TShare) (ok := ok_TShare) (sz := 4) (by kernel_rfl) (by kernel_rfl) (by decide) (fun _ => rfl) rd_72
theorem rd_86 : Rds Try.prog 86 (fun ds => ∃ x : TRec, ok_TRec x ∧ ds = d_TRec x) := by
  refine (Rds.struct (Rs := [(1, fun ds => ∃ x : Int, (inK .i64) x ∧ ds = d_i64 x), (1, fun ds => ∃ x : Int, (inK .i64) x ∧ ds = d_i64 x), (1, fun ds => ∃ x : Int, (inK .i64) x ∧ ds = d_i64 x), (1, fun ds => ∃ x : Int, (inK .i64) x ∧ ds = d_i64 x), (1, fun ds => ∃ x : (List TShare), (okS ok_TShare) x ∧ ds = dS_TShare x)]) Try.underlying86 ⟨rfl, (by kernel_rfl : _ = 1), rd_3, ⟨rfl, (by kernel_rfl : _ = 1), rd_3, ⟨rfl, (by kernel_rfl : _ = 1), rd_3, ⟨rfl, (by kernel_rfl : _ = 1), rd_3, ⟨rfl, (by kernel_rfl : _ = 1), rd_39, trivial⟩⟩⟩⟩⟩ (by kernel_rfl)).mono ?_
  rintro ds ⟨_, _, rfl, ⟨x0, h0, rfl⟩, ⟨_, _, rfl, ⟨x1, h1, rfl⟩, ⟨_, _, rfl, ⟨x2, h2, rfl⟩, ⟨_, _, rfl, ⟨x3, h3, rfl⟩, ⟨_, _, rfl, ⟨x4, h4, rfl⟩, rfl⟩⟩⟩⟩⟩
  exact ⟨⟨x0, x1, x2, x3, x4⟩, ⟨h0, h1, h2, h3, h4⟩, rfl⟩
theorem rd_22 : Rds Try.prog 22 (fun ds => ∃ x : (List TRec), (okS ok_TRec) x ∧ ds = dS_TRec x) := Rds.slice (f := d_TRec) (ok := ok_TRec) (sz := 5) (by kernel_rfl) (by kernel_rfl) (by decide) (fun _ => rfl) rd_86
theorem rd_25 : Rds Try.prog 25 (fun ds => ∃ x : TCoord, ok_TCoord x ∧ ds = d_TCoord x) := by
  refine (Rds.struct (Rs := [(1, fun ds => ∃ x : (List TRec), (okS ok_TRec) x ∧ ds = dS_TRec x), (1, fun ds => ∃ x : (List Int), (okS (inK .i64)) x ∧ ds = dS_i64 x)]) Try.underlying25 ⟨rfl, (by kernel_rfl : _ = 1), rd_22, ⟨rfl, (by kernel_rfl : _ = 1), rd_23, trivial⟩⟩ (by kernel_rfl)).mono ?_
  rintro ds ⟨_, _, rfl, ⟨x0, h0, rfl⟩, ⟨_, _, rfl, ⟨x1, h1, rfl⟩, rfl⟩⟩
  exact ⟨⟨x0, x1⟩, ⟨h0, h1⟩, rfl⟩
theorem FnExactCoordBegin_lifted (os : Os) (started : os.Started) (H : Type) (enc : TypeId × Value → H) :
    ReturnsInHanded {} Try.checked os 6 .any (Rows.fnExactCoordBeginSpec.pre6 enc Try.prog Try.f6 Rows.fnExactCoordBeginRow.domain false) (Rows.fnExactCoordBeginSpec.post enc Try.prog Try.f6 false true false false) := by
  refine returnsInHanded_of_change (C := Try.checked) law_own started (by kernel_rfl) Try.func6
    (ChangeSpec.witness6 (enc := enc) (C := Try.checked) false ⟨#[], #[.agg #[.slice none 0 0, .slice none 0 0], .int .i64 0, .int .i64 0], []⟩ 8 (by kernel_rfl) (by kernel_rfl) (by kernel_rfl) (by kernel_rfl)) ?_
  intro W base args ds gs before hval hW hcnd _
  have hR : ArgsR Try.prog Try.f6.params.toList [fun x => ∃ ds, (∃ a : TCoord, ok_TCoord a ∧ ds = d_TCoord a) ∧ x = .agg ds, fun x => ∃ a : Int, (inK .i64) a ∧ x = (.int .i64 a), fun x => ∃ a : Int, (inK .i64) a ∧ x = (.int .i64 a)] := by rw [Try.params6]; exact ⟨(argA Try.underlying25 rd_25), ⟨(argC (R := fun x => ∃ a : Int, (inK .i64) a ∧ x = (.int .i64 a)) (by kernel_rfl) (rd_3.mono fun ds ⟨a, h, e⟩ => ⟨_, ⟨a, h, rfl⟩, rfl, e⟩)), ⟨(argC (R := fun x => ∃ a : Int, (inK .i64) a ∧ x = (.int .i64 a)) (by kernel_rfl) (rd_3.mono fun ds ⟨a, h, e⟩ => ⟨_, ⟨a, h, rfl⟩, rfl, e⟩)), trivial⟩⟩⟩
  refine law_calls (P := Try.prog) (tb := 4) law_laid rfl (fun ds h => ?_) (by kernel_rfl) (by kernel_rfl) (by kernel_rfl) hR (fun xs h => ?_) hval hW
  · rw [Try.params6] at h
    exact match ds, h with
      | [_, _, _], _ => rfl
  · obtain ⟨_, _, rfl, ⟨_, ⟨a0, h0, rfl⟩, rfl⟩, g0⟩ := DsR.cons h
    obtain ⟨_, _, rfl, ⟨a1, h1, rfl⟩, g1⟩ := DsR.cons g0
    obtain ⟨_, _, rfl, ⟨a2, h2, rfl⟩, g2⟩ := DsR.cons g1
    obtain rfl := DsR.nil g2
    exact c_laws_FnExactCoordBegin (p_FnExactCoordBegin a0 a1 a2 h0 h1 h2)
theorem FnExactCoordBegin_f25 : Try.pinned.checked.prog.stopsHeard = true := by kernel_rfl
theorem FnExactCoordBegin_f26 : Try.pinned.checked.prog.mayEnter = true := by kernel_rfl
theorem FnExactCoordBegin_f27 : (Rows.fnExactCoordBeginRow.lifted == Try.pinned.checked.prog.liftsFinal) = true := by kernel_rfl
theorem FnExactCoordBegin_f28 : (Try.pinned.checked.prog.make == some Rows.fnExactCoordBeginRow.make) = true := by kernel_rfl
theorem FnExactCoordBegin_f13 : (Rows.fnExactCoordBeginRow.named == Try.pinned.checked.prog.varsNamed 6) = true := by kernel_rfl
theorem FnExactCoordBegin_f12 : (Rows.fnExactCoordBeginRow.recurses == Try.pinned.checked.prog.recurses 6) = true := by kernel_rfl
theorem FnExactCoordBegin_f11 : (Rows.fnExactCoordBeginRow.unfollowed == Try.pinned.checked.prog.unfollowed 6) = true := by kernel_rfl
theorem FnExactCoordBegin_f10 : (Rows.fnExactCoordBeginRow.inPlace == Try.pinned.checked.prog.inPlace 6) = true := by kernel_rfl
theorem FnExactCoordBegin_bi {a b : Bool} (h : a = true) (h' : b = true) : (a && b) = true := by rw [h, h']; rfl
theorem FnExactCoordBegin_facts : joinedFacts Try.pinned.checked.prog 6 Try.f6 Rows.fnExactCoordBeginSpec Rows.fnExactCoordBeginRow = true :=
  (FnExactCoordBegin_bi (FnExactCoordBegin_bi (FnExactCoordBegin_bi (FnExactCoordBegin_bi (FnExactCoordBegin_bi (FnExactCoordBegin_bi (FnExactCoordBegin_bi (FnExactCoordBegin_bi (FnExactCoordBegin_bi (FnExactCoordBegin_bi (FnExactCoordBegin_bi (FnExactCoordBegin_bi (FnExactCoordBegin_bi (FnExactCoordBegin_bi (FnExactCoordBegin_bi (FnExactCoordBegin_bi (FnExactCoordBegin_bi (FnExactCoordBegin_bi (FnExactCoordBegin_bi (FnExactCoordBegin_bi (FnExactCoordBegin_bi (FnExactCoordBegin_bi (FnExactCoordBegin_bi (FnExactCoordBegin_bi (FnExactCoordBegin_bi (FnExactCoordBegin_bi (FnExactCoordBegin_bi (FnExactCoordBegin_bi (FnExactCoordBegin_bi (FnExactCoordBegin_bi (FnExactCoordBegin_bi (by kernel_rfl) (by kernel_rfl)) (by kernel_rfl)) (by kernel_rfl)) (by kernel_rfl)) (by kernel_rfl)) (by kernel_rfl)) (by kernel_rfl)) (by kernel_rfl)) FnExactCoordBegin_f10) FnExactCoordBegin_f11) FnExactCoordBegin_f12) FnExactCoordBegin_f13) (by kernel_rfl)) (by kernel_rfl)) (by kernel_rfl)) (by kernel_rfl)) (by kernel_rfl)) (by kernel_rfl)) (by kernel_rfl)) (by kernel_rfl)) (by kernel_rfl)) (by kernel_rfl)) (by kernel_rfl)) FnExactCoordBegin_f25) FnExactCoordBegin_f26) FnExactCoordBegin_f27) FnExactCoordBegin_f28) (by kernel_rfl)) (by kernel_rfl)) (by kernel_rfl)) (by kernel_rfl))
theorem fnExactCoordBegin_holds : Rows.FnExactCoordBeginSaid :=
  OpenClaim.holds_of_wide 6 Try.f6 rfl rfl rfl rfl rfl rfl rfl ⟨rfl, rfl, rfl, rfl, rfl⟩ rfl rfl rfl rfl rfl (by kernel_rfl) Try.func6 FnExactCoordBegin_facts
    (of_decide_eq_true (by kernel_rfl)) (by unfold Func.isWrapper; first | (rw [if_pos (by decide +kernel)]; kernel_rfl) | (rw [if_neg (by decide +kernel)]; exact ⟨rfl, rfl⟩))
    (fun os started H enc _ => FnExactCoordBegin_lifted os started H enc)
end Go.Proofs.Ytfmjgpdjjkjcaaa
