/- The given statement: the law returns true for every input, and its arguments read as they did. Conditions: none. -/
import Derived.Test.YtnhleppnhaakgaaDAtlasSplita
import Derived.Test.YtnhleppnhaakgaaDAtlasSplitb
import Derived.Test.YtnhleppnhaakgaaPAtlasSplit
import Derived.Test.YtnhleppnhaakgaaBr
import Derived.Test.YtnhleppnhaakgaaRows
import Derived.ProofKit
import Derived.KernelRfl
set_option linter.unusedVariables false
set_option maxRecDepth 100000
namespace Go.Proofs.Ytnhleppnhaakgaa
open Go.AW Go.ChangeShapes Go.WideShapes Go.ChangeAt Go.RowKit

theorem law_own : ownKnob Try.prog.godebug = none := by kernel_rfl
theorem law_laid : laidOutB Try.prog = true := by kernel_rfl

theorem rd_3 : Rds Try.prog 3 (fun ds => ∃ x : Int, (inK .i64) x ∧ ds = d_i64 x) := Rds.int (by kernel_rfl)

theorem rd_212 : Rds Try.prog 212 (fun ds => ∃ x : TCell, ok_TCell x ∧ ds = d_TCell x) := by
  refine (Rds.struct (Rs := [(1, fun ds => ∃ x : Int, (inK .i64) x ∧ ds = d_i64 x), (1, fun ds => ∃ x : Int, (inK .i64) x ∧ ds = d_i64 x)]) Try.underlying212 ⟨rfl, (by kernel_rfl : _ = 1), rd_3, ⟨rfl, (by kernel_rfl : _ = 1), rd_3, trivial⟩⟩ (by kernel_rfl)).mono ?_
  rintro ds ⟨_, _, rfl, ⟨x0, h0, rfl⟩, ⟨_, _, rfl, ⟨x1, h1, rfl⟩, rfl⟩⟩
  exact ⟨⟨x0, x1⟩, ⟨h0, h1⟩, rfl⟩

theorem rd_24 : Rds Try.prog 24 (fun ds => ∃ x : (List TCell), (okS ok_TCell) x ∧ ds = dS_TCell x) := Rds.slice (f := d_TCell) (ok := ok_TCell) (sz := 2) (by kernel_rfl) (by kernel_rfl) (by decide) (fun _ => rfl) rd_212

theorem rd_92 : Rds Try.prog 92 (fun ds => ∃ x : TMove, ok_TMove x ∧ ds = d_TMove x) := by
  refine (Rds.struct (Rs := [(1, fun ds => ∃ x : Int, (inK .i64) x ∧ ds = d_i64 x), (1, fun ds => ∃ x : Int, (inK .i64) x ∧ ds = d_i64 x), (1, fun ds => ∃ x : Int, (inK .i64) x ∧ ds = d_i64 x), (1, fun ds => ∃ x : Int, (inK .i64) x ∧ ds = d_i64 x), (1, fun ds => ∃ x : Int, (inK .i64) x ∧ ds = d_i64 x), (1, fun ds => ∃ x : Int, (inK .i64) x ∧ ds = d_i64 x), (1, fun ds => ∃ x : (List TCell), (okS ok_TCell) x ∧ ds = dS_TCell x)]) Try.underlying92 ⟨rfl, (by kernel_rfl : _ = 1), rd_3, ⟨rfl, (by kernel_rfl : _ = 1), rd_3, ⟨rfl, (by kernel_rfl : _ = 1), rd_3, ⟨rfl, (by kernel_rfl : _ = 1), rd_3, ⟨rfl, (by kernel_rfl : _ = 1), rd_3, ⟨rfl, (by kernel_rfl : _ = 1), rd_3, ⟨rfl, (by kernel_rfl : _ = 1), rd_24, trivial⟩⟩⟩⟩⟩⟩⟩ (by kernel_rfl)).mono ?_
  rintro ds ⟨_, _, rfl, ⟨x0, h0, rfl⟩, ⟨_, _, rfl, ⟨x1, h1, rfl⟩, ⟨_, _, rfl, ⟨x2, h2, rfl⟩, ⟨_, _, rfl, ⟨x3, h3, rfl⟩, ⟨_, _, rfl, ⟨x4, h4, rfl⟩, ⟨_, _, rfl, ⟨x5, h5, rfl⟩, ⟨_, _, rfl, ⟨x6, h6, rfl⟩, rfl⟩⟩⟩⟩⟩⟩⟩
  exact ⟨⟨x0, x1, x2, x3, x4, x5, x6⟩, ⟨h0, h1, h2, h3, h4, h5, h6⟩, rfl⟩

theorem rd_236 : Rds Try.prog 236 (fun ds => ∃ x : TPart, ok_TPart x ∧ ds = d_TPart x) := by
  refine (Rds.struct (Rs := [(1, fun ds => ∃ x : Int, (inK .i64) x ∧ ds = d_i64 x), (1, fun ds => ∃ x : Int, (inK .i64) x ∧ ds = d_i64 x), (1, fun ds => ∃ x : Int, (inK .i64) x ∧ ds = d_i64 x)]) Try.underlying236 ⟨rfl, (by kernel_rfl : _ = 1), rd_3, ⟨rfl, (by kernel_rfl : _ = 1), rd_3, ⟨rfl, (by kernel_rfl : _ = 1), rd_3, trivial⟩⟩⟩ (by kernel_rfl)).mono ?_
  rintro ds ⟨_, _, rfl, ⟨x0, h0, rfl⟩, ⟨_, _, rfl, ⟨x1, h1, rfl⟩, ⟨_, _, rfl, ⟨x2, h2, rfl⟩, rfl⟩⟩⟩
  exact ⟨⟨x0, x1, x2⟩, ⟨h0, h1, h2⟩, rfl⟩

theorem rd_90 : Rds Try.prog 90 (fun ds => ∃ x : (List TPart), (okS ok_TPart) x ∧ ds = dS_TPart x) := Rds.slice (f := d_TPart) (ok := ok_TPart) (sz := 3) (by kernel_rfl) (by kernel_rfl) (by decide) (fun _ => rfl) rd_236

theorem rd_94 : Rds Try.prog 94 (fun ds => ∃ x : TAtlas, ok_TAtlas x ∧ ds = d_TAtlas x) := by
  refine (Rds.struct (Rs := [(1, fun ds => ∃ x : Int, (inK .i64) x ∧ ds = d_i64 x), (1, fun ds => ∃ x : (List TPart), (okS ok_TPart) x ∧ ds = dS_TPart x), (7, fun ds => ∃ x : TMove, ok_TMove x ∧ ds = d_TMove x)]) Try.underlying94 ⟨rfl, (by kernel_rfl : _ = 1), rd_3, ⟨rfl, (by kernel_rfl : _ = 1), rd_90, ⟨rfl, (by kernel_rfl : _ = 7), rd_92, trivial⟩⟩⟩ (by kernel_rfl)).mono ?_
  rintro ds ⟨_, _, rfl, ⟨x0, h0, rfl⟩, ⟨_, _, rfl, ⟨x1, h1, rfl⟩, ⟨_, _, rfl, ⟨x2, h2, rfl⟩, rfl⟩⟩⟩
  exact ⟨⟨x0, x1, x2⟩, ⟨h0, h1, h2⟩, rfl⟩


theorem FnExactAtlasSplit_lifted (os : Os) (started : os.Started) (H : Type) (enc : TypeId × Value → H) :
    ReturnsInHanded {} Try.checked os 8 .any (Rows.fnExactAtlasSplitSpec.pre6 enc Try.prog Try.f8 Rows.fnExactAtlasSplitRow.domain false) (Rows.fnExactAtlasSplitSpec.post enc Try.prog Try.f8 false true false false) := by
  refine returnsInHanded_of_change (C := Try.checked) law_own started (by kernel_rfl) Try.func8
    (ChangeSpec.witness6 (enc := enc) (C := Try.checked) false ⟨#[], #[.agg #[.int .i64 0, .slice none 0 0, .int .i64 0, .int .i64 0, .int .i64 0, .int .i64 0, .int .i64 0, .int .i64 0, .slice none 0 0], .int .i64 0], []⟩ 8 (by kernel_rfl) (by kernel_rfl) (by kernel_rfl) (by kernel_rfl)) ?_
  intro W base args ds gs before hval hW hcnd _
  have hR : ArgsR Try.prog Try.f8.params.toList [fun x => ∃ ds, (∃ a : TAtlas, ok_TAtlas a ∧ ds = d_TAtlas a) ∧ x = .agg ds, fun x => ∃ a : Int, (inK .i64) a ∧ x = (.int .i64 a)] := by rw [Try.params8]; exact ⟨(argA Try.underlying94 rd_94), ⟨(argC (R := fun x => ∃ a : Int, (inK .i64) a ∧ x = (.int .i64 a)) (by kernel_rfl) (rd_3.mono fun ds ⟨a, h, e⟩ => ⟨_, ⟨a, h, rfl⟩, rfl, e⟩)), trivial⟩⟩
  refine law_calls (P := Try.prog) (tb := 4) law_laid rfl (fun ds h => ?_) (by kernel_rfl) (by kernel_rfl) (by kernel_rfl) hR (fun xs h => ?_) hval hW
  · rw [Try.params8] at h
    exact match ds, h with
      | [_, _], _ => rfl
  · obtain ⟨_, _, rfl, ⟨_, ⟨a0, h0, rfl⟩, rfl⟩, g0⟩ := DsR.cons h
    obtain ⟨_, _, rfl, ⟨a1, h1, rfl⟩, g1⟩ := DsR.cons g0
    obtain rfl := DsR.nil g1
    exact c_laws_FnExactAtlasSplit (p_FnExactAtlasSplit a0 a1 h0 h1)

theorem FnExactAtlasSplit_f25 : Try.pinned.checked.prog.stopsHeard = true := by kernel_rfl
theorem FnExactAtlasSplit_f26 : Try.pinned.checked.prog.mayEnter = true := by kernel_rfl
theorem FnExactAtlasSplit_f27 : (Rows.fnExactAtlasSplitRow.lifted == Try.pinned.checked.prog.liftsFinal) = true := by kernel_rfl
theorem FnExactAtlasSplit_f28 : (Try.pinned.checked.prog.make == some Rows.fnExactAtlasSplitRow.make) = true := by kernel_rfl
theorem FnExactAtlasSplit_f13 : (Rows.fnExactAtlasSplitRow.named == Try.pinned.checked.prog.varsNamed 8) = true := by kernel_rfl
theorem FnExactAtlasSplit_f12 : (Rows.fnExactAtlasSplitRow.recurses == Try.pinned.checked.prog.recurses 8) = true := by kernel_rfl
theorem FnExactAtlasSplit_f11 : (Rows.fnExactAtlasSplitRow.unfollowed == Try.pinned.checked.prog.unfollowed 8) = true := by kernel_rfl
theorem FnExactAtlasSplit_f10 : (Rows.fnExactAtlasSplitRow.inPlace == Try.pinned.checked.prog.inPlace 8) = true := by kernel_rfl
theorem FnExactAtlasSplit_bi {a b : Bool} (h : a = true) (h' : b = true) : (a && b) = true := by rw [h, h']; rfl
theorem FnExactAtlasSplit_facts : joinedFacts Try.pinned.checked.prog 8 Try.f8 Rows.fnExactAtlasSplitSpec Rows.fnExactAtlasSplitRow = true :=
  (FnExactAtlasSplit_bi (FnExactAtlasSplit_bi (FnExactAtlasSplit_bi (FnExactAtlasSplit_bi (FnExactAtlasSplit_bi (FnExactAtlasSplit_bi (FnExactAtlasSplit_bi (FnExactAtlasSplit_bi (FnExactAtlasSplit_bi (FnExactAtlasSplit_bi (FnExactAtlasSplit_bi (FnExactAtlasSplit_bi (FnExactAtlasSplit_bi (FnExactAtlasSplit_bi (FnExactAtlasSplit_bi (FnExactAtlasSplit_bi (FnExactAtlasSplit_bi (FnExactAtlasSplit_bi (FnExactAtlasSplit_bi (FnExactAtlasSplit_bi (FnExactAtlasSplit_bi (FnExactAtlasSplit_bi (FnExactAtlasSplit_bi (FnExactAtlasSplit_bi (FnExactAtlasSplit_bi (FnExactAtlasSplit_bi (FnExactAtlasSplit_bi (FnExactAtlasSplit_bi (FnExactAtlasSplit_bi (FnExactAtlasSplit_bi (FnExactAtlasSplit_bi (by kernel_rfl) (by kernel_rfl)) (by kernel_rfl)) (by kernel_rfl)) (by kernel_rfl)) (by kernel_rfl)) (by kernel_rfl)) (by kernel_rfl)) (by kernel_rfl)) FnExactAtlasSplit_f10) FnExactAtlasSplit_f11) FnExactAtlasSplit_f12) FnExactAtlasSplit_f13) (by kernel_rfl)) (by kernel_rfl)) (by kernel_rfl)) (by kernel_rfl)) (by kernel_rfl)) (by kernel_rfl)) (by kernel_rfl)) (by kernel_rfl)) (by kernel_rfl)) (by kernel_rfl)) (by kernel_rfl)) FnExactAtlasSplit_f25) FnExactAtlasSplit_f26) FnExactAtlasSplit_f27) FnExactAtlasSplit_f28) (by kernel_rfl)) (by kernel_rfl)) (by kernel_rfl)) (by kernel_rfl))

theorem fnExactAtlasSplit_holds : Rows.FnExactAtlasSplitSaid :=
  OpenClaim.holds_of_wide 8 Try.f8 rfl rfl rfl rfl rfl rfl rfl ⟨rfl, rfl, rfl, rfl, rfl⟩ rfl rfl rfl rfl rfl (by kernel_rfl) Try.func8 FnExactAtlasSplit_facts
    (of_decide_eq_true (by kernel_rfl)) (by unfold Func.isWrapper; first | (rw [if_pos (by decide +kernel)]; kernel_rfl) | (rw [if_neg (by decide +kernel)]; exact ⟨rfl, rfl⟩))
    (fun os started H enc _ => FnExactAtlasSplit_lifted os started H enc)

end Go.Proofs.Ytnhleppnhaakgaa
