/- That functions of the program compute what the plain functions say: printed by a program of the prover's own (tool/dec.py). Conditions: each theorem's own. -/
import Derived.Test.YtnhleppnhaakgaaMAtlasSplit
import Derived.Test.YtnhleppnhaakgaaGAtlasSplit
import Derived.Test.YtnhleppnhaakgaaDAtlasSplita
set_option linter.unusedVariables false
set_option linter.unusedSimpArgs false
set_option maxRecDepth 100000
namespace Go.AW
open Go.Proofs

theorem c_impl_PartAt {a1 : (List TPart)} {a2 : Int} {r : Int} (H : m_impl_PartAt a1 a2 = some r) : Fn Try.prog k_impl_PartAt (lent [(.sl 3 (List.map d_TPart a1)), (.int .i64 a2)]) true [(.int .i64 r)] := by
  refine i_impl_PartAt_fn (Nat.le_of_ble_eq_true rfl) ?_
  rw [init_mk]
  refine AW.weaken (wk_mk [] (SL.cons (v := (.one (.d (.sl 3 (List.map d_TPart a1))))) eZ rfl VWk.rfl (SL.cons (v := (.one (.d (.int .i64 a2)))) (eS rfl eZ) rfl VWk.rfl SL.nil)) BL.nil BK.nil) ?_
  unfold m_impl_PartAt at H
  unfold i_impl_PartAt
  refine AW.seq ?_
  refine AW.regs ?_
  refine oMov eC ?_
  refine xNil ?_
  refine TQ.qn ?_
  refine AW.seq ?_
  refine AW.seq ?_
  refine AW.regs ?_
  refine oMov (eS rfl eZ) ?_
  obtain ⟨v3, h4, H⟩ := obind H
  refine oCall (u := (.one (.d (.bool v3)))) eC Cl.fn (c_impl_PartsOk h4) (Evs.cons eZ Evs.nil) (VDs.cons VD.plain VDs.nil) rfl ?_
  refine oInv eZ ?_
  refine xNil ?_
  refine TQ.qn ?_
  rcases oite H with ⟨h5, H⟩ | ⟨h5, H⟩
  · refine AW.condF eZ (congrArg Bool.not h5) ?_
    refine AW.skip ?_
    refine TQ.qn ?_
    refine AW.seq ?_
    refine AW.regs ?_
    refine oMov (eR rfl) ?_
    refine oMov (eR rfl) ?_
    obtain ⟨v6, h7, H⟩ := obind H
    refine oCall (u := (.one (.d (.int .i64 v6)))) eC Cl.fn (c_impl_partAt h7) (Evs.cons (eS rfl eZ) (Evs.cons eZ Evs.nil)) (VDs.cons VD.plain (VDs.cons VD.plain VDs.nil)) rfl ?_
    refine oMov eZ ?_
    refine xNil ?_
    refine TQ.qn ?_
    refine AW.ret ?_
    obtain rfl := Option.some.inj H
    exact endsR (RL.cons (RV.tmp eZ) (VO.flat rfl) RL.nil) List.nodup_nil
  · refine AW.condT eZ (congrArg Bool.not (nt h5)) ?_
    refine AW.seq ?_
    refine AW.regs ?_
    refine oMov eC ?_
    refine xNil ?_
    refine TQ.qn ?_
    refine AW.ret ?_
    refine TQ.qr ?_
    obtain rfl := Option.some.inj H
    exact endsR (RL.cons (RV.tmp eZ) (VO.flat rfl) RL.nil) List.nodup_nil

theorem c_slices_Insert_Part {a1 : List TPart} {a2 : Int} {a3 r : List TPart} (H : m_slices_Insert_Part a1 a2 a3 = some r) : Fn Try.prog k_slices_Insert___impl_Part_impl_Part_ [⟨(.sl 3 (List.map d_TPart a1)), .g⟩, ⟨(.int .i64 a2), .b⟩, ⟨(.sl 3 (List.map d_TPart a3)), .g⟩] true [(.sl 3 (List.map d_TPart r))] := by
  obtain ⟨⟨h1, h2, h3, h4⟩, H⟩ := oguard H
  obtain rfl := Option.some.inj H
  obtain ⟨i, rfl⟩ : ∃ i : Nat, a2 = (i : Int) := ⟨Int.toNat a2, by omega⟩
  obtain ⟨x, rfl⟩ := List.length_eq_one_iff.1 h3
  rw [Int.toNat_natCast]
  refine i_slices_Insert___impl_Part_impl_Part__fnM (Nat.le_of_ble_eq_true rfl) (fC nZ rfl (fC nZ rfl fN)) rfl ?_
  rw [initM_mk]
  refine AW.weaken (t := mk [(0, .one (.sl 0 0 a1.length)), (1, .one (.d (.int .i64 (i : Int)))), (2, .one (.sl 128 0 1))] [(128, .data 3 (List.map d_TPart [x]) true none), (0, .data 3 (List.map d_TPart a1) true none)] (lk [])) (wk_mkG (gl := []) [] (SL.cons (v := (.one (.sl 0 0 a1.length))) eZ rfl (VWk.one (CWk.len (by simp))) (SL.cons (v := (.one (.d (.int .i64 (i : Int))))) (eS rfl eZ) rfl VWk.rfl (SL.cons (v := (.one (.sl 128 0 1))) (eS rfl (eS rfl eZ)) rfl (VWk.one (CWk.len (by simp))) SL.nil))) (BL.keep rfl (BL.keep rfl BL.nil)) (BK.cons (n := 128) rfl bZ rfl rfl (BK.cons (n := 0) rfl (bS rfl bZ) rfl rfl BK.nil)) GK.nil) ?_
  exact insAW (f := d_TPart) (zv := (TPart.mk 0 0 0)) (sz := 3) (bytes := 24) (zs := [(.int .i64 0), (.int .i64 0), (.int .i64 0)]) (ov := k_slices_overlaps_impl_Part_) (sx := k_slices_rotateRight_impl_Part_) (fun _ => rfl) rfl (by decide) (by decide) (by omega) (by omega) (ovlOk (fn := Try.f270) (tS := 41) (tR := 4) (e := 155) Try.func270 (by kernel_rfl) (by kernel_rfl) (by kernel_rfl) (by kernel_rfl) Try.underlying41 (Option.some_get (by kernel_rfl : (Try.prog.info? 155).isSome = true)).symm)

theorem c_impl_SplitAt {a1 : (List TPart)} {a2 : Int} {r : ((List TPart) × Bool)} (H : m_impl_SplitAt a1 a2 = some r) : Fn Try.prog k_impl_SplitAt (lent [(.sl 3 (List.map d_TPart a1)), (.int .i64 a2)]) true [(.sl 3 (List.map d_TPart r.1)), (.bool r.2)] := by
  refine i_impl_SplitAt_fn (Nat.le_of_ble_eq_true rfl) ?_
  rw [init_mk]
  refine AW.weaken (t := mk [(0, (.one (.d (.sl 3 (List.map d_TPart a1))))), (1, (.one (.d (.int .i64 a2))))] [] (lk [])) (wk_mk [] (SL.cons (v := (.one (.d (.sl 3 (List.map d_TPart a1))))) eZ rfl VWk.rfl (SL.cons (v := (.one (.d (.int .i64 a2)))) (eS rfl eZ) rfl VWk.rfl SL.nil)) BL.nil BK.nil) ?_
  unfold m_impl_SplitAt at H
  unfold i_impl_SplitAt
  refine AW.seq ?_
  refine AW.regs ?_
  refine oMov eC ?_
  refine oMov eC ?_
  refine xNil ?_
  refine TQ.qn ?_
  refine AW.seq ?_
  refine AW.regs ?_
  refine oMov (eR rfl) ?_
  refine oMov (eR rfl) ?_
  obtain ⟨v3, h4, H⟩ := obind H
  refine oCall (u := (.one (.d (.int .i64 v3)))) eC Cl.fn (c_impl_PartAt h4) (Evs.cons (eS rfl eZ) (Evs.cons eZ Evs.nil)) (VDs.cons VD.plain (VDs.cons VD.plain VDs.nil)) rfl ?_
  refine oMov eZ ?_
  refine xNil ?_
  refine TQ.qn ?_
  refine AW.seq ?_
  refine AW.seqJ (fun t5 : Bool => (impl_SplitAt_j5 a1 v3 a2) t5 = some r) (fun t5 => mk [(0, (.one (.d (.sl 3 (List.map d_TPart a1))))), (1, (.one (.d (.int .i64 a2)))), (6, (.one (.d (.int .i64 v3)))), (26, (.one (.d (.bool t5))))] [] (lk [])) ?_ ?_
  · intro t5 H
    unfold impl_SplitAt_j5 at H
    rcases oite H with ⟨h7, H⟩ | ⟨h7, H⟩
    · refine AW.condT (eR rfl) h7 ?_
      refine AW.seq ?_
      refine AW.regs ?_
      refine oMov eC ?_
      refine oMov eC ?_
      refine xNil ?_
      refine TQ.qn ?_
      refine AW.ret ?_
      refine TQ.qr ?_
      obtain rfl := Option.some.inj H
      exact endsR (RL.cons (RV.tmp (eS rfl eZ)) VO.zs (RL.cons (RV.tmp eZ) (VO.flat rfl) RL.nil)) List.nodup_nil
    · refine AW.condF (eR rfl) (nt h7) ?_
      refine AW.skip ?_
      refine TQ.qn ?_
      refine AW.seq ?_
      refine AW.regt ?_
      refine oMov eZ ?_
      obtain ⟨v8, h9, H⟩ := obind H
      refine oCallN (u := (.one (.sl 1792 0 v8.length))) (bs := [(1792, (.data 3 (List.map d_TPart v8) true none))]) eC Cl.fn (c_slices_Clone_Part h9) (Evs.cons eZ Evs.nil) (VDs.cons VD.plain VDs.nil) (by simp [bindR, bindV, bindVs, bindC, bindCs]) rfl (fC (hN nZ) rfl (fC (hN nZ) rfl fN)) ?_
      refine oMov (eR rfl) ?_
      refine oAdd eZ eC ?_
      refine oMov (eR rfl) ?_
      refine oMov (eR rfl) ?_
      refine oMov (eR rfl) ?_
      obtain ⟨v10, h11, H⟩ := obind H
      refine oAtD (eS rfl eZ) eZ h11 ?_
      refine oFaddrB (m := 1) eZ rfl ?_
      refine oLoadB (e := (.int .i64 v10.Hi)) eZ rfl ?_
      refine oMov (eR rfl) ?_
      refine oMov (eR rfl) ?_
      obtain ⟨v12, h13, H⟩ := obind H
      refine oAtD (eS rfl eZ) eZ h13 ?_
      refine oFaddrB (m := 2) eZ rfl ?_
      refine oLoadB (e := (.int .i64 v12.Owner)) eZ rfl ?_
      refine oBuild (cs := [(.d (.int .i64 a2)), (.d (.int .i64 v10.Hi)), (.d (.int .i64 v12.Owner))]) (PsCons (eR rfl) (PsCons (eR rfl) (PsCons eZ PsNil))) rfl ?_
      refine oBslice (m := 2752) (q := 1) (cs := [(.d (.int .i64 a2)), (.d (.int .i64 v10.Hi)), (.d (.int .i64 v12.Owner))]) rfl (PsCons eZ PsNil) rfl (List.cons_ne_nil _ _) (by simp) (hN (nS rfl nZ)) ?_
      refine xNil ?_
      obtain ⟨v14, h15, H⟩ := obind H
      refine rmWeaken (wk_dataF 2752 (zs := []) (f := d_TPart) (t := (TPart.mk a2 v10.Hi v12.Owner)) bZ rfl rfl) ?_
      refine rmCall (ON := [1792, 2752]) (ls := []) (G := [1792, 2752]) (E := [1792, 2752]) (MB := []) (u := (.one (.sl 2816 0 v14.length))) (bs := [(2816, (.data 3 (List.map d_TPart v14) true none))]) eC Cl.fn (c_slices_Insert_Part h15) (Evs.cons (eR rfl) (Evs.cons (eR rfl) (Evs.cons eZ Evs.nil))) (AO.give (VO.sl (bS rfl (bS rfl bZ)) (List.length_map _) (allFlat fun _ => rfl)) (AO.lent VD.plain rfl (AO.give (VO.sl bZ rfl (allFlat fun _ => rfl)) AO.nil))) rfl rfl rfl SZ.nil (erL.cons (v' := (.one .any)) rfl (erL.cons (v' := (.agg [(.d (.int .i64 a2)), (.d (.int .i64 v10.Hi)), (.d (.int .i64 v12.Owner))])) rfl (erL.cons (v' := (.one (.d (.int .i64 v12.Owner)))) rfl (erL.cons (v' := (.one (.ptr (.bd (d_TPart v12) 2)))) rfl (erL.cons (v' := (.one (.ptr (.bd (d_TPart v12) 0)))) rfl (erL.cons (v' := (.one (.d (.int .i64 v3)))) rfl (erL.cons (v' := (.one (.d (.sl 3 (List.map d_TPart a1))))) rfl (erL.cons (v' := (.one (.d (.int .i64 v10.Hi)))) rfl (erL.cons (v' := (.one (.ptr (.bd (d_TPart v10) 1)))) rfl (erL.cons (v' := (.one (.ptr (.bd (d_TPart v10) 0)))) rfl (erL.cons (v' := (.one (.d (.int .i64 v3)))) rfl (erL.cons (v' := (.one (.d (.sl 3 (List.map d_TPart a1))))) rfl (erL.cons (v' := (.one (.d (.int .i64 a2)))) rfl (erL.cons (v' := (.one (.d (.int .i64 (IntKind.wrap .i64 (v3 + 1)))))) rfl (erL.cons (v' := (.one (.d (.int .i64 v3)))) rfl (erL.cons (v' := (.one .any)) rfl (erL.cons (v' := (.one (.d (.sl 3 (List.map d_TPart a1))))) rfl (erL.cons (v' := (.one (.d (.sl 3 (List.map d_TPart a1))))) rfl (erL.cons (v' := (.one (.d (.int .i64 a2)))) rfl (erL.cons (v' := (.one (.d (.int .i64 v3)))) rfl (erL.cons (v' := (.one (.d (.bool t5)))) rfl erL.nil))))))))))))))))))))) (erH.drop rfl (erH.drop rfl (erH.drop rfl erH.nil))) erL.nil (by simp [bindR, bindV, bindVs, bindC, bindCs]) rfl (fC nZ rfl (fC nZ rfl fN)) ?_
      refine rmRest ?_
      refine oMov eZ ?_
      refine xNil ?_
      refine TQ.qn ?_
      refine AW.weaken (wk_mkG [] (SL.cons (k := 7) eZ rfl VWk.rfl (SL.cons (k := 1) (eR rfl) rfl VWk.rfl (SL.cons (k := 6) (eR rfl) rfl VWk.rfl SL.nil))) (BL.keep rfl BL.nil) (BK.cons (n := 2816) rfl bZ rfl rfl BK.nil) GK.nil) ?_
      refine AW.seq ?_
      refine AW.regs ?_
      refine oMov eZ ?_
      refine oMov (eR rfl) ?_
      refine oMov (eR rfl) ?_
      obtain ⟨v16, h17, H⟩ := obind H
      refine oAtN (eR rfl) (eS rfl eZ) bZ rfl h17 ?_
      refine oFaddrN (m := 1) eZ rfl ?_
      refine oStoreD (t := v16) (t' := (TPart.mk v16.Lo a2 v16.Owner)) (es := [(.int .i64 a2)]) eZ (eR rfl) rfl rfl bZ (idx_at h17) rfl rfl ?_
      refine xNil ?_
      refine TQ.qn ?_
      refine AW.seq ?_
      refine AW.regs ?_
      refine oMov (eR rfl) ?_
      refine oMov eZ ?_
      refine oMov eC ?_
      refine xNil ?_
      refine TQ.qn ?_
      refine AW.ret ?_
      obtain rfl := Option.some.inj H
      exact endsR (RL.cons (RV.tmp (eS rfl eZ)) (VO.sl bZ (by first | (simp; done) | (simp; omega) | omega) (allFlat fun _ => rfl)) (RL.cons (RV.tmp eZ) (VO.flat rfl) RL.nil)) (by decide)
  · refine AW.regs ?_
    refine oMov eZ ?_
    refine oLss eZ eC ?_
    refine oMov eZ ?_
    rcases oite H with ⟨h18, H⟩ | ⟨h18, H⟩
    · refine gSkip eZ (decide_eq_true h18) rfl ?_
      refine gSkip (eS rfl eZ) (decide_eq_true h18) rfl ?_
      refine gSkip (eR rfl) (decide_eq_true h18) rfl ?_
      refine gSkip (eR rfl) (decide_eq_true h18) rfl ?_
      refine gSkip (eR rfl) (decide_eq_true h18) rfl ?_
      refine gSkip (eR rfl) (decide_eq_true h18) rfl ?_
      refine gSkip (eR rfl) (decide_eq_true h18) rfl ?_
      refine oPickT (eR rfl) (decide_eq_true h18) eC ?_
      refine oMov eZ ?_
      refine gSkip eZ rfl rfl ?_
      refine gSkip (eS rfl eZ) rfl rfl ?_
      refine gSkip (eR rfl) rfl rfl ?_
      refine oPickT (eR rfl) rfl eC ?_
      refine xNil ?_
      exact TQ.qn ⟨true, H, (wk_mkG [] (SL.cons (eR rfl) rfl VWk.rfl (SL.cons (eR rfl) rfl VWk.rfl (SL.cons (eR rfl) rfl VWk.rfl (SL.cons eZ rfl VWk.rfl SL.nil)))) BL.nil BK.nil GK.nil)⟩
    · refine gDo eZ (decide_eq_false h18) ?_
      refine oMov (eR rfl) ?_
      refine gDo (eS rfl eZ) (decide_eq_false h18) ?_
      refine oMov (eR rfl) ?_
      refine gDo (eR rfl) (decide_eq_false h18) ?_
      obtain ⟨v19, h20, H⟩ := obind H
      refine oAtD (eS rfl eZ) eZ h20 ?_
      refine gDo (eR rfl) (decide_eq_false h18) ?_
      refine oFaddrB (m := 0) eZ rfl ?_
      refine gDo (eR rfl) (decide_eq_false h18) ?_
      refine oLoadB (e := (.int .i64 v19.Lo)) eZ rfl ?_
      refine gDo (eR rfl) (decide_eq_false h18) ?_
      refine oMov (eR rfl) ?_
      refine gDo (eR rfl) (decide_eq_false h18) ?_
      refine oEql (eS rfl eZ) eZ ?_
      refine oPickF (eR rfl) (decide_eq_false h18) eZ ?_
      refine oMov eZ ?_
      rcases oite H with ⟨h21, H⟩ | ⟨h21, H⟩
      · refine gSkip eZ (decide_eq_true h21) rfl ?_
        refine gSkip (eS rfl eZ) (decide_eq_true h21) rfl ?_
        refine gSkip (eR rfl) (decide_eq_true h21) rfl ?_
        refine oPickT (eR rfl) (decide_eq_true h21) eC ?_
        refine xNil ?_
        exact TQ.qn ⟨true, H, (wk_mkG [] (SL.cons (eR rfl) rfl VWk.rfl (SL.cons (eR rfl) rfl VWk.rfl (SL.cons (eR rfl) rfl VWk.rfl (SL.cons eZ rfl VWk.rfl SL.nil)))) BL.nil BK.nil GK.nil)⟩
      · refine gDo eZ (decide_eq_false h21) ?_
        refine oMov (eR rfl) ?_
        refine gDo (eS rfl eZ) (decide_eq_false h21) ?_
        refine oLenD eZ (n := a1.length) (List.length_map _) ?_
        refine gDo (eR rfl) (decide_eq_false h21) ?_
        refine oEql eZ eC ?_
        refine oPickF (eR rfl) (decide_eq_false h21) eZ ?_
        refine xNil ?_
        exact TQ.qn ⟨(decide ((a1.length : Int) = 16)), H, (wk_mkG [] (SL.cons (eR rfl) rfl VWk.rfl (SL.cons (eR rfl) rfl VWk.rfl (SL.cons (eR rfl) rfl VWk.rfl (SL.cons eZ rfl VWk.rfl SL.nil)))) BL.nil BK.nil GK.nil)⟩

theorem c_impl_AtlasSplit {a1 : TAtlas} {a2 : Int} {r : (TAtlas × Int)} (H : m_impl_AtlasSplit a1 a2 = some r) : Fn Try.prog k_impl_AtlasSplit (lent [(.agg (d_TAtlas a1)), (.int .i64 a2)]) true [(.agg (d_TAtlas r.1)), (.int .i64 r.2)] := by
  refine i_impl_AtlasSplit_fn (Nat.le_of_ble_eq_true rfl) ?_
  rw [init_mk]
  refine AW.weaken (wk_mk [] (SL.cons (v := (.agg [(.d (.int .i64 a1.Epoch)), (.d (.sl 3 (List.map d_TPart a1.Parts))), (.d (.int .i64 a1.Move.No)), (.d (.int .i64 a1.Move.Stage)), (.d (.int .i64 a1.Move.Lo)), (.d (.int .i64 a1.Move.Hi)), (.d (.int .i64 a1.Move.From)), (.d (.int .i64 a1.Move.To)), (.d (.sl 2 (List.map d_TCell a1.Move.Cells)))])) eZ rfl VWk.rfl (SL.cons (v := (.one (.d (.int .i64 a2)))) (eS rfl eZ) rfl VWk.rfl SL.nil)) BL.nil BK.nil) ?_
  unfold m_impl_AtlasSplit at H
  unfold i_impl_AtlasSplit
  refine AW.seq ?_
  refine AW.regs ?_
  refine oBox (n := 128) (m := 9) (cs := [(.d (.int .i64 a1.Epoch)), (.d (.sl 3 (List.map d_TPart a1.Parts))), (.d (.int .i64 a1.Move.No)), (.d (.int .i64 a1.Move.Stage)), (.d (.int .i64 a1.Move.Lo)), (.d (.int .i64 a1.Move.Hi)), (.d (.int .i64 a1.Move.From)), (.d (.int .i64 a1.Move.To)), (.d (.sl 2 (List.map d_TCell a1.Move.Cells)))]) rfl eZ rfl rfl nZ ?_
  refine oVar (n := 256) (m := 9) rfl rfl (nS rfl nZ) ?_
  refine oMov eC ?_
  refine xNil ?_
  refine TQ.qn ?_
  refine AW.seq ?_
  refine AW.seq ?_
  refine AW.regs ?_
  refine oLoadVA (es := [(.d (.int .i64 a1.Epoch)), (.d (.sl 3 (List.map d_TPart a1.Parts))), (.d (.int .i64 a1.Move.No)), (.d (.int .i64 a1.Move.Stage)), (.d (.int .i64 a1.Move.Lo)), (.d (.int .i64 a1.Move.Hi)), (.d (.int .i64 a1.Move.From)), (.d (.int .i64 a1.Move.To)), (.d (.sl 2 (List.map d_TCell a1.Move.Cells)))]) (eR rfl) (bS rfl bZ) rfl ?_
  obtain ⟨v3, h4, H⟩ := obind H
  refine oCall (u := (.one (.d (.bool v3)))) eC Cl.fn (c_impl_AtlasOk h4) (Evs.cons eZ Evs.nil) (VDs.cons (VD.agg rfl) VDs.nil) rfl ?_
  refine oInv eZ ?_
  refine xNil ?_
  refine TQ.qn ?_
  rcases oite H with ⟨h5, H⟩ | ⟨h5, H⟩
  · refine AW.condF eZ (congrArg Bool.not h5) ?_
    refine AW.skip ?_
    refine TQ.qn ?_
    refine AW.seq ?_
    refine AW.regs ?_
    refine oLoadVA (es := [(.d (.int .i64 a1.Epoch)), (.d (.sl 3 (List.map d_TPart a1.Parts))), (.d (.int .i64 a1.Move.No)), (.d (.int .i64 a1.Move.Stage)), (.d (.int .i64 a1.Move.Lo)), (.d (.int .i64 a1.Move.Hi)), (.d (.int .i64 a1.Move.From)), (.d (.int .i64 a1.Move.To)), (.d (.sl 2 (List.map d_TCell a1.Move.Cells)))]) (eR rfl) (bS rfl bZ) rfl ?_
    obtain ⟨v6, h7, H⟩ := obind H
    refine oCallN (u := (.agg [(.d (.int .i64 v6.Epoch)), (.sl 897 0 v6.Parts.length), (.d (.int .i64 v6.Move.No)), (.d (.int .i64 v6.Move.Stage)), (.d (.int .i64 v6.Move.Lo)), (.d (.int .i64 v6.Move.Hi)), (.d (.int .i64 v6.Move.From)), (.d (.int .i64 v6.Move.To)), (.sl 904 0 v6.Move.Cells.length)])) (bs := [(897, (.data 3 (List.map d_TPart v6.Parts) true none)), (904, (.data 2 (List.map d_TCell v6.Move.Cells) true none))]) eC Cl.fn (c_impl_copyAtlas h7) (Evs.cons eZ Evs.nil) (VDs.cons (VD.agg rfl) VDs.nil) (by simp [bindR, bindV, bindVs, bindC, bindCs]) rfl (fC (nS rfl (nS rfl nZ)) rfl (fC (nS rfl (nS rfl nZ)) rfl (fC (nS rfl (nS rfl nZ)) rfl fN))) ?_
    refine oVar (n := 384) (m := 9) rfl rfl (nS rfl (nS rfl (nS rfl (nS rfl nZ)))) ?_
    refine oStoreV (es := [(.d (.int .i64 v6.Epoch)), (.sl 897 0 v6.Parts.length), (.d (.int .i64 v6.Move.No)), (.d (.int .i64 v6.Move.Stage)), (.d (.int .i64 v6.Move.Lo)), (.d (.int .i64 v6.Move.Hi)), (.d (.int .i64 v6.Move.From)), (.d (.int .i64 v6.Move.To)), (.sl 904 0 v6.Move.Cells.length)]) eZ (eS rfl eZ) rfl rfl bZ rfl ?_
    refine xNil ?_
    refine TQ.qn ?_
    refine AW.seq ?_
    refine AW.regs ?_
    refine oFaddrN (m := 1) (eR rfl) rfl ?_
    refine oLoadV (q := 1) (c := (.d (.sl 3 (List.map d_TPart a1.Parts)))) eZ (bS rfl (bS rfl (bS rfl (bS rfl (bS rfl bZ))))) rfl rfl ?_
    refine oMov (eR rfl) ?_
    obtain ⟨v8, h9, H⟩ := obind H
    refine oCallN (u := (.tup [(.one (.sl 1216 0 v8.1.length)), (.one (.d (.bool v8.2)))])) (bs := [(1216, (.data 3 (List.map d_TPart v8.1) true none))]) eC Cl.fn (c_impl_SplitAt h9) (Evs.cons (eS rfl eZ) (Evs.cons eZ Evs.nil)) (VDs.cons VD.plain (VDs.cons VD.plain VDs.nil)) (by simp [bindR, bindV, bindVs, bindC, bindCs]) rfl (fC (nS rfl (nS rfl (nS rfl (nS rfl (nS rfl (nS rfl nZ)))))) rfl (fC (nS rfl (nS rfl (nS rfl (nS rfl (nS rfl (nS rfl nZ)))))) rfl fN)) ?_
    refine oMov eZ ?_
    refine oExt (v := (.one (.sl 1216 0 v8.1.length))) eZ rfl ?_
    refine oExt (v := (.one (.d (.bool v8.2)))) (eS rfl eZ) rfl ?_
    refine oMov (eS rfl eZ) ?_
    refine oMov (eS rfl eZ) ?_
    refine xNil ?_
    refine TQ.qn ?_
    refine AW.weaken (wk_mk [] (SL.cons (k := 8) eZ rfl VWk.rfl (SL.cons (k := 7) (eS rfl eZ) rfl VWk.rfl (SL.cons (k := 6) (eR rfl) rfl VWk.rfl (SL.cons (k := 4) (eR rfl) rfl VWk.rfl (SL.cons (k := 2) (eR rfl) rfl VWk.rfl SL.nil))))) (BL.keep rfl (BL.keep rfl (BL.keep rfl (BL.keep rfl (BL.keep rfl (BL.keep rfl (BL.keep rfl BL.nil))))))) (BK.cons (n := 1216) rfl bZ rfl rfl (BK.cons (n := 384) rfl (bS rfl bZ) rfl rfl (BK.cons (n := 904) rfl (bS rfl (bS rfl (bS rfl bZ))) rfl rfl (BK.cons (n := 897) rfl (bS rfl (bS rfl (bS rfl (bS rfl bZ)))) rfl rfl (BK.cons (n := 256) rfl (bS rfl (bS rfl (bS rfl (bS rfl (bS rfl bZ))))) rfl rfl (BK.cons (n := 128) rfl (bS rfl (bS rfl (bS rfl (bS rfl (bS rfl (bS rfl bZ)))))) rfl rfl BK.nil))))))) ?_
    refine AW.seq ?_
    refine AW.seqJ (fun t10 : Bool => (impl_AtlasSplit_j10 v6 v8) t10 = some r) (fun t10 => mk [(4, (.one (.ptr (.nm 256 0 0)))), (6, (.one (.ptr (.nm 384 0 0)))), (7, (.one (.sl 1216 0 v8.1.length))), (28, (.one (.d (.bool t10))))] [(256, (.vars 9 [(.d (.int .i64 0)), .zs, (.d (.int .i64 0)), (.d (.int .i64 0)), (.d (.int .i64 0)), (.d (.int .i64 0)), (.d (.int .i64 0)), (.d (.int .i64 0)), .zs])), (384, (.vars 9 [(.d (.int .i64 v6.Epoch)), (.sl 897 0 v6.Parts.length), (.d (.int .i64 v6.Move.No)), (.d (.int .i64 v6.Move.Stage)), (.d (.int .i64 v6.Move.Lo)), (.d (.int .i64 v6.Move.Hi)), (.d (.int .i64 v6.Move.From)), (.d (.int .i64 v6.Move.To)), (.sl 904 0 v6.Move.Cells.length)])), (897, (.data 3 (List.map d_TPart v6.Parts) true none)), (904, (.data 2 (List.map d_TCell v6.Move.Cells) true none)), (1216, (.data 3 (List.map d_TPart v8.1) true none))] noG) ?_ ?_
    · intro t10 H
      unfold impl_AtlasSplit_j10 at H
      rcases oite H with ⟨h12, H⟩ | ⟨h12, H⟩
      · refine AW.condT (eR rfl) h12 ?_
        refine AW.seq ?_
        refine AW.regs ?_
        refine oLoadVA (es := [(.d (.int .i64 v6.Epoch)), (.sl 897 0 v6.Parts.length), (.d (.int .i64 v6.Move.No)), (.d (.int .i64 v6.Move.Stage)), (.d (.int .i64 v6.Move.Lo)), (.d (.int .i64 v6.Move.Hi)), (.d (.int .i64 v6.Move.From)), (.d (.int .i64 v6.Move.To)), (.sl 904 0 v6.Move.Cells.length)]) (eS rfl eZ) (bS rfl bZ) rfl ?_
        refine oStoreV (es := [(.d (.int .i64 v6.Epoch)), (.sl 897 0 v6.Parts.length), (.d (.int .i64 v6.Move.No)), (.d (.int .i64 v6.Move.Stage)), (.d (.int .i64 v6.Move.Lo)), (.d (.int .i64 v6.Move.Hi)), (.d (.int .i64 v6.Move.From)), (.d (.int .i64 v6.Move.To)), (.sl 904 0 v6.Move.Cells.length)]) (eS rfl eZ) eZ rfl rfl bZ rfl ?_
        refine oMov eC ?_
        refine xNil ?_
        refine TQ.qn ?_
        refine AW.ret ?_
        refine TQ.qr ?_
        obtain rfl := Option.some.inj H
        exact endsR (RL.cons (RV.cellA (es := [(.d (.int .i64 v6.Epoch)), (.sl 897 0 v6.Parts.length), (.d (.int .i64 v6.Move.No)), (.d (.int .i64 v6.Move.Stage)), (.d (.int .i64 v6.Move.Lo)), (.d (.int .i64 v6.Move.Hi)), (.d (.int .i64 v6.Move.From)), (.d (.int .i64 v6.Move.To)), (.sl 904 0 v6.Move.Cells.length)]) (eR rfl) bZ rfl) (VO.aggs (VOs.cons (VO.flat rfl) (VOs.cons (VO.sl (bS rfl (bS rfl (bS rfl bZ))) (List.length_map _) (allFlat fun _ => rfl)) (VOs.cons (VO.flat rfl) (VOs.cons (VO.flat rfl) (VOs.cons (VO.flat rfl) (VOs.cons (VO.flat rfl) (VOs.cons (VO.flat rfl) (VOs.cons (VO.flat rfl) (VOs.cons (VO.sl (bS rfl (bS rfl (bS rfl (bS rfl bZ)))) (List.length_map _) (allFlat fun _ => rfl)) VOs.nil)))))))))) (RL.cons (RV.tmp eZ) (VO.flat rfl) RL.nil)) (by decide)
      · refine AW.condF (eR rfl) (nt h12) ?_
        refine AW.skip ?_
        refine TQ.qn ?_
        refine AW.seq ?_
        refine AW.regs ?_
        refine oMov (eR rfl) ?_
        refine oFaddrN (m := 1) (eR rfl) rfl ?_
        refine oStoreV (es := [(.d (.int .i64 v6.Epoch)), (.sl 1216 0 v8.1.length), (.d (.int .i64 v6.Move.No)), (.d (.int .i64 v6.Move.Stage)), (.d (.int .i64 v6.Move.Lo)), (.d (.int .i64 v6.Move.Hi)), (.d (.int .i64 v6.Move.From)), (.d (.int .i64 v6.Move.To)), (.sl 904 0 v6.Move.Cells.length)]) eZ (eS rfl eZ) rfl rfl (bS rfl bZ) rfl ?_
        refine xNil ?_
        refine TQ.qn ?_
        refine AW.seq ?_
        refine AW.regs ?_
        refine oFaddrN (m := 0) (eR rfl) rfl ?_
        refine oLoadV (q := 0) (c := (.d (.int .i64 v6.Epoch))) eZ bZ rfl rfl ?_
        refine oAdd eZ eC ?_
        refine oFaddrN (m := 0) (eR rfl) rfl ?_
        refine oStoreV (es := [(.d (.int .i64 (IntKind.wrap .i64 (v6.Epoch + 1)))), (.sl 1216 0 v8.1.length), (.d (.int .i64 v6.Move.No)), (.d (.int .i64 v6.Move.Stage)), (.d (.int .i64 v6.Move.Lo)), (.d (.int .i64 v6.Move.Hi)), (.d (.int .i64 v6.Move.From)), (.d (.int .i64 v6.Move.To)), (.sl 904 0 v6.Move.Cells.length)]) eZ (eS rfl eZ) rfl rfl bZ rfl ?_
        refine xNil ?_
        refine TQ.qn ?_
        refine AW.seq ?_
        refine AW.regs ?_
        refine oLoadVA (es := [(.d (.int .i64 (IntKind.wrap .i64 (v6.Epoch + 1)))), (.sl 1216 0 v8.1.length), (.d (.int .i64 v6.Move.No)), (.d (.int .i64 v6.Move.Stage)), (.d (.int .i64 v6.Move.Lo)), (.d (.int .i64 v6.Move.Hi)), (.d (.int .i64 v6.Move.From)), (.d (.int .i64 v6.Move.To)), (.sl 904 0 v6.Move.Cells.length)]) (eR rfl) bZ rfl ?_
        refine oStoreV (es := [(.d (.int .i64 (IntKind.wrap .i64 (v6.Epoch + 1)))), (.sl 1216 0 v8.1.length), (.d (.int .i64 v6.Move.No)), (.d (.int .i64 v6.Move.Stage)), (.d (.int .i64 v6.Move.Lo)), (.d (.int .i64 v6.Move.Hi)), (.d (.int .i64 v6.Move.From)), (.d (.int .i64 v6.Move.To)), (.sl 904 0 v6.Move.Cells.length)]) (eR rfl) eZ rfl rfl (bS rfl (bS rfl bZ)) rfl ?_
        refine oMov eC ?_
        refine xNil ?_
        refine TQ.qn ?_
        refine AW.ret ?_
        obtain rfl := Option.some.inj H
        exact endsR (RL.cons (RV.cellA (es := [(.d (.int .i64 (IntKind.wrap .i64 (v6.Epoch + 1)))), (.sl 1216 0 v8.1.length), (.d (.int .i64 v6.Move.No)), (.d (.int .i64 v6.Move.Stage)), (.d (.int .i64 v6.Move.Lo)), (.d (.int .i64 v6.Move.Hi)), (.d (.int .i64 v6.Move.From)), (.d (.int .i64 v6.Move.To)), (.sl 904 0 v6.Move.Cells.length)]) (eR rfl) bZ rfl) (VO.aggs (VOs.cons (VO.flat rfl) (VOs.cons (VO.sl (bS rfl (bS rfl (bS rfl (bS rfl (bS rfl (bS rfl (bS rfl bZ))))))) (List.length_map _) (allFlat fun _ => rfl)) (VOs.cons (VO.flat rfl) (VOs.cons (VO.flat rfl) (VOs.cons (VO.flat rfl) (VOs.cons (VO.flat rfl) (VOs.cons (VO.flat rfl) (VOs.cons (VO.flat rfl) (VOs.cons (VO.sl (bS rfl (bS rfl (bS rfl (bS rfl (bS rfl (bS rfl bZ)))))) (List.length_map _) (allFlat fun _ => rfl)) VOs.nil)))))))))) (RL.cons (RV.tmp eZ) (VO.flat rfl) RL.nil)) (by decide)
    · refine AW.regs ?_
      refine oMov eZ ?_
      refine oInv eZ ?_
      refine oMov eZ ?_
      rcases oite H with ⟨h13, H⟩ | ⟨h13, H⟩
      · refine gDo eZ (congrArg Bool.not h13) ?_
        refine oFaddrN (m := 0) (eR rfl) rfl ?_
        refine gDo (eS rfl eZ) (congrArg Bool.not h13) ?_
        refine oLoadV (q := 0) (c := (.d (.int .i64 a1.Epoch))) eZ (bS rfl (bS rfl (bS rfl (bS rfl (bS rfl bZ))))) rfl rfl ?_
        refine gDo (eR rfl) (congrArg Bool.not h13) ?_
        refine oEql eZ eC ?_
        refine oPickF (eR rfl) (congrArg Bool.not h13) eZ ?_
        refine xNil ?_
        exact TQ.qn ⟨(decide (a1.Epoch = 1000000)), H, (wk_mk [128] (SL.cons (eR rfl) rfl VWk.rfl (SL.cons (eR rfl) rfl VWk.rfl (SL.cons (eR rfl) rfl VWk.rfl (SL.cons eZ rfl VWk.rfl SL.nil)))) (BL.keep rfl (BL.keep rfl (BL.keep rfl (BL.keep rfl (BL.keep rfl (BL.drop rfl BL.nil)))))) (BK.cons rfl (bS rfl (bS rfl (bS rfl (bS rfl bZ)))) rfl rfl (BK.cons rfl (bS rfl bZ) rfl (by first | rfl | simp) (BK.cons rfl (bS rfl (bS rfl (bS rfl bZ))) rfl rfl (BK.cons rfl (bS rfl (bS rfl bZ)) rfl rfl (BK.cons rfl bZ rfl rfl BK.nil))))))⟩
      · refine gSkip eZ (congrArg Bool.not (nt h13)) rfl ?_
        refine gSkip (eS rfl eZ) (congrArg Bool.not (nt h13)) rfl ?_
        refine gSkip (eR rfl) (congrArg Bool.not (nt h13)) rfl ?_
        refine oPickT (eR rfl) (congrArg Bool.not (nt h13)) eC ?_
        refine xNil ?_
        exact TQ.qn ⟨true, H, (wk_mk [128] (SL.cons (eR rfl) rfl VWk.rfl (SL.cons (eR rfl) rfl VWk.rfl (SL.cons (eR rfl) rfl VWk.rfl (SL.cons eZ rfl VWk.rfl SL.nil)))) (BL.keep rfl (BL.keep rfl (BL.keep rfl (BL.keep rfl (BL.keep rfl (BL.drop rfl BL.nil)))))) (BK.cons rfl (bS rfl (bS rfl (bS rfl (bS rfl bZ)))) rfl rfl (BK.cons rfl (bS rfl bZ) rfl (by first | rfl | simp) (BK.cons rfl (bS rfl (bS rfl (bS rfl bZ))) rfl rfl (BK.cons rfl (bS rfl (bS rfl bZ)) rfl rfl (BK.cons rfl bZ rfl rfl BK.nil))))))⟩
  · refine AW.condT eZ (congrArg Bool.not (nt h5)) ?_
    refine AW.seq ?_
    refine AW.regs ?_
    refine oBuild (cs := [(.d (.int .i64 0)), .zs, (.d (.int .i64 0)), (.d (.int .i64 0)), (.d (.int .i64 0)), (.d (.int .i64 0)), (.d (.int .i64 0)), (.d (.int .i64 0)), .zs]) PsNil rfl ?_
    refine oStoreV (es := [(.d (.int .i64 0)), .zs, (.d (.int .i64 0)), (.d (.int .i64 0)), (.d (.int .i64 0)), (.d (.int .i64 0)), (.d (.int .i64 0)), (.d (.int .i64 0)), .zs]) (eR rfl) eZ rfl rfl bZ rfl ?_
    refine oMov eC ?_
    refine xNil ?_
    refine TQ.qn ?_
    refine AW.ret ?_
    refine TQ.qr ?_
    obtain rfl := Option.some.inj H
    exact endsR (RL.cons (RV.cellA (es := [(.d (.int .i64 0)), .zs, (.d (.int .i64 0)), (.d (.int .i64 0)), (.d (.int .i64 0)), (.d (.int .i64 0)), (.d (.int .i64 0)), (.d (.int .i64 0)), .zs]) (eR rfl) bZ rfl) (VO.aggs (VOs.cons (VO.flat rfl) (VOs.cons VO.zs (VOs.cons (VO.flat rfl) (VOs.cons (VO.flat rfl) (VOs.cons (VO.flat rfl) (VOs.cons (VO.flat rfl) (VOs.cons (VO.flat rfl) (VOs.cons (VO.flat rfl) (VOs.cons VO.zs VOs.nil)))))))))) (RL.cons (RV.tmp eZ) (VO.flat rfl) RL.nil)) List.nodup_nil

theorem c_laws_eqPart {a1 : TPart} {a2 : TPart} {r : Bool} (H : m_laws_eqPart a1 a2 = some r) : Fn Try.prog k_laws_eqPart (lent [(.agg (d_TPart a1)), (.agg (d_TPart a2))]) true [(.bool r)] := by
  refine i_laws_eqPart_fn (Nat.le_of_ble_eq_true rfl) ?_
  rw [init_mk]
  refine AW.weaken (wk_mk [] (SL.cons (v := (.agg [(.d (.int .i64 a1.Lo)), (.d (.int .i64 a1.Hi)), (.d (.int .i64 a1.Owner))])) eZ rfl VWk.rfl (SL.cons (v := (.agg [(.d (.int .i64 a2.Lo)), (.d (.int .i64 a2.Hi)), (.d (.int .i64 a2.Owner))])) (eS rfl eZ) rfl VWk.rfl SL.nil)) BL.nil BK.nil) ?_
  unfold m_laws_eqPart at H
  unfold i_laws_eqPart
  refine AW.seq ?_
  refine AW.regs ?_
  refine oBox (n := 128) (m := 3) (cs := [(.d (.int .i64 a1.Lo)), (.d (.int .i64 a1.Hi)), (.d (.int .i64 a1.Owner))]) rfl eZ rfl rfl nZ ?_
  refine oBox (n := 192) (m := 3) (cs := [(.d (.int .i64 a2.Lo)), (.d (.int .i64 a2.Hi)), (.d (.int .i64 a2.Owner))]) rfl (eR rfl) rfl rfl (nS rfl nZ) ?_
  refine oMov eC ?_
  refine xNil ?_
  refine TQ.qn ?_
  refine AW.seq ?_
  refine AW.seq ?_
  refine AW.regs ?_
  refine oFaddrN (m := 0) (eR rfl) rfl ?_
  refine oLoadV (q := 0) (c := (.d (.int .i64 a1.Lo))) eZ (bS rfl bZ) rfl rfl ?_
  refine oFaddrN (m := 0) (eR rfl) rfl ?_
  refine oLoadV (q := 0) (c := (.d (.int .i64 a2.Lo))) eZ bZ rfl rfl ?_
  refine oNeq (eR rfl) eZ ?_
  refine xNil ?_
  refine TQ.qn ?_
  rcases oite H with ⟨h3, H⟩ | ⟨h3, H⟩
  · refine AW.condT eZ (decide_eq_true h3) ?_
    refine AW.seq ?_
    refine AW.regs ?_
    refine oMov eC ?_
    refine xNil ?_
    refine TQ.qn ?_
    refine AW.ret ?_
    refine TQ.qr ?_
    obtain rfl := Option.some.inj H
    exact endsR (RL.cons (RV.tmp eZ) (VO.flat rfl) RL.nil) List.nodup_nil
  · refine AW.condF eZ (decide_eq_false h3) ?_
    refine AW.skip ?_
    refine TQ.qn ?_
    refine AW.seq ?_
    refine AW.seq ?_
    refine AW.regs ?_
    refine oFaddrN (m := 1) (eR rfl) rfl ?_
    refine oLoadV (q := 1) (c := (.d (.int .i64 a1.Hi))) eZ (bS rfl bZ) rfl rfl ?_
    refine oFaddrN (m := 1) (eR rfl) rfl ?_
    refine oLoadV (q := 1) (c := (.d (.int .i64 a2.Hi))) eZ bZ rfl rfl ?_
    refine oNeq (eR rfl) eZ ?_
    refine xNil ?_
    refine TQ.qn ?_
    rcases oite H with ⟨h4, H⟩ | ⟨h4, H⟩
    · refine AW.condT eZ (decide_eq_true h4) ?_
      refine AW.seq ?_
      refine AW.regs ?_
      refine oMov eC ?_
      refine xNil ?_
      refine TQ.qn ?_
      refine AW.weaken (wk_mk [192, 128] (SL.cons (k := 4) eZ rfl VWk.rfl SL.nil) (BL.drop rfl (BL.drop rfl BL.nil)) BK.nil) ?_
      refine AW.ret ?_
      refine TQ.qr ?_
      obtain rfl := Option.some.inj H
      exact endsR (RL.cons (RV.tmp eZ) (VO.flat rfl) RL.nil) List.nodup_nil
    · refine AW.condF eZ (decide_eq_false h4) ?_
      refine AW.skip ?_
      refine TQ.qn ?_
      refine AW.seq ?_
      refine AW.seq ?_
      refine AW.regs ?_
      refine oFaddrN (m := 2) (eR rfl) rfl ?_
      refine oLoadV (q := 2) (c := (.d (.int .i64 a1.Owner))) eZ (bS rfl bZ) rfl rfl ?_
      refine oFaddrN (m := 2) (eR rfl) rfl ?_
      refine oLoadV (q := 2) (c := (.d (.int .i64 a2.Owner))) eZ bZ rfl rfl ?_
      refine oNeq (eR rfl) eZ ?_
      refine xNil ?_
      refine TQ.qn ?_
      refine AW.weaken (wk_mk [192, 128] (SL.cons (k := 19) eZ rfl VWk.rfl SL.nil) (BL.drop rfl (BL.drop rfl BL.nil)) BK.nil) ?_
      rcases oite H with ⟨h5, H⟩ | ⟨h5, H⟩
      · refine AW.condT eZ (decide_eq_true h5) ?_
        refine AW.seq ?_
        refine AW.regs ?_
        refine oMov eC ?_
        refine xNil ?_
        refine TQ.qn ?_
        refine AW.ret ?_
        refine TQ.qr ?_
        obtain rfl := Option.some.inj H
        exact endsR (RL.cons (RV.tmp eZ) (VO.flat rfl) RL.nil) List.nodup_nil
      · refine AW.condF eZ (decide_eq_false h5) ?_
        refine AW.skip ?_
        refine TQ.qn ?_
        refine AW.seq ?_
        refine AW.regs ?_
        refine oMov eC ?_
        refine xNil ?_
        refine TQ.qn ?_
        refine AW.ret ?_
        obtain rfl := Option.some.inj H
        exact endsR (RL.cons (RV.tmp eZ) (VO.flat rfl) RL.nil) List.nodup_nil

theorem c_laws_eqPartS {a1 : (List TPart)} {a2 : (List TPart)} {r : Bool} (H : m_laws_eqPartS a1 a2 = some r) : Fn Try.prog k_laws_eqPartS (lent [(.sl 3 (List.map d_TPart a1)), (.sl 3 (List.map d_TPart a2))]) true [(.bool r)] := by
  refine i_laws_eqPartS_fn (Nat.le_of_ble_eq_true rfl) ?_
  rw [init_mk]
  refine AW.weaken (wk_mk [] (SL.cons (v := (.one (.d (.sl 3 (List.map d_TPart a1))))) eZ rfl VWk.rfl (SL.cons (v := (.one (.d (.sl 3 (List.map d_TPart a2))))) (eS rfl eZ) rfl VWk.rfl SL.nil)) BL.nil BK.nil) ?_
  unfold m_laws_eqPartS at H
  unfold i_laws_eqPartS
  refine AW.seq ?_
  refine AW.regs ?_
  refine oMov eC ?_
  refine xNil ?_
  refine TQ.qn ?_
  refine AW.seq ?_
  refine AW.seq ?_
  refine AW.regs ?_
  refine oMov (eS rfl eZ) ?_
  refine oLenD eZ (n := a1.length) (List.length_map _) ?_
  refine oMov (eR rfl) ?_
  refine oLenD eZ (n := a2.length) (List.length_map _) ?_
  refine oNeq (eR rfl) eZ ?_
  refine xNil ?_
  refine TQ.qn ?_
  rcases oite H with ⟨h3, H⟩ | ⟨h3, H⟩
  · refine AW.condT eZ (decide_eq_true h3) ?_
    refine AW.seq ?_
    refine AW.regs ?_
    refine oMov eC ?_
    refine xNil ?_
    refine TQ.qn ?_
    refine AW.ret ?_
    refine TQ.qr ?_
    obtain rfl := Option.some.inj H
    exact endsR (RL.cons (RV.tmp eZ) (VO.flat rfl) RL.nil) List.nodup_nil
  · refine AW.condF eZ (decide_eq_false h3) ?_
    refine AW.skip ?_
    refine TQ.qn ?_
    refine AW.seqJ (fun t4 : Unit => laws_eqPartS_j4 t4 = some r) (fun t4 => mk [] [] noG) ?_ ?_
    · intro t4 H
      unfold laws_eqPartS_j4 at H
      refine AW.seq ?_
      refine AW.regs ?_
      refine oMov eC ?_
      refine xNil ?_
      refine TQ.qn ?_
      refine AW.ret ?_
      obtain rfl := Option.some.inj H
      exact endsR (RL.cons (RV.tmp eZ) (VO.flat rfl) RL.nil) List.nodup_nil
    · refine AW.seq ?_
      refine AW.regs ?_
      refine oMov eC ?_
      refine xNil ?_
      refine TQ.qn ?_
      refine AW.block ?_
      refine AW.iter (fun s6 : Int => mk [(0, (.one (.d (.sl 3 (List.map d_TPart a1))))), (1, (.one (.d (.sl 3 (List.map d_TPart a2))))), (5, (.one (.d (.int .i64 s6))))] [] noG) H (wk_mk [] (SL.cons (eR rfl) rfl VWk.rfl (SL.cons (eR rfl) rfl VWk.rfl (SL.cons eZ rfl VWk.rfl SL.nil))) BL.nil BK.nil) ?_
      intro kb7 s6 H
      unfold laws_eqPartS_b6 at H
      refine AW.seq ?_
      refine AW.seq ?_
      refine AW.regs ?_
      refine oMov (eR rfl) ?_
      refine oMov (eS rfl eZ) ?_
      refine oLenD eZ (n := a1.length) (List.length_map _) ?_
      refine oLss (eR rfl) eZ ?_
      refine xNil ?_
      refine TQ.qn ?_
      rcases oite H with ⟨h8, H⟩ | ⟨h8, H⟩
      · refine AW.condT eZ (decide_eq_true h8) ?_
        refine AW.skip ?_
        refine TQ.qn ?_
        refine AW.seq ?_
        refine AW.block ?_
        refine AW.seq ?_
        refine AW.regd ?_
        refine oMov (eR rfl) ?_
        refine oMov (eR rfl) ?_
        obtain ⟨v9, h10, H⟩ := obind H
        refine oAtD (eS rfl eZ) eZ h10 ?_
        refine oLoadBA (es := [(.d (.int .i64 v9.Lo)), (.d (.int .i64 v9.Hi)), (.d (.int .i64 v9.Owner))]) eZ rfl ?_
        refine oMov (eR rfl) ?_
        refine oMov (eR rfl) ?_
        obtain ⟨v11, h12, H⟩ := obind H
        refine oAtD (eS rfl eZ) eZ h12 ?_
        refine oLoadBA (es := [(.d (.int .i64 v11.Lo)), (.d (.int .i64 v11.Hi)), (.d (.int .i64 v11.Owner))]) eZ rfl ?_
        obtain ⟨v13, h14, H⟩ := obind H
        refine oCall (u := (.one (.d (.bool v13)))) eC Cl.fn (c_laws_eqPart h14) (Evs.cons (eR rfl) (Evs.cons eZ Evs.nil)) (VDs.cons (VD.agg rfl) (VDs.cons (VD.agg rfl) VDs.nil)) rfl ?_
        refine oInv eZ ?_
        refine xNil ?_
        refine TQ.qn ?_
        refine AW.weaken (wk_mk [] (SL.cons (k := 26) eZ rfl VWk.rfl (SL.cons (k := 0) (eR rfl) rfl VWk.rfl (SL.cons (k := 1) (eR rfl) rfl VWk.rfl (SL.cons (k := 5) (eR rfl) rfl VWk.rfl SL.nil)))) BL.nil BK.nil) ?_
        rcases oite H with ⟨h15, H⟩ | ⟨h15, H⟩
        · refine AW.condF eZ (congrArg Bool.not h15) ?_
          refine AW.skip ?_
          refine BQ.qn ?_
          refine TQ.qn ?_
          refine AW.regs ?_
          refine oMov (eR rfl) ?_
          refine oAdd eZ eC ?_
          refine oMov eZ ?_
          refine xNil ?_
          exact TQ.qn ⟨(IntKind.wrap .i64 (s6 + 1)), H, (wk_mk [] (SL.cons (eR rfl) rfl VWk.rfl (SL.cons (eR rfl) rfl VWk.rfl (SL.cons eZ rfl VWk.rfl SL.nil))) BL.nil BK.nil)⟩
        · refine AW.condT eZ (congrArg Bool.not (nt h15)) ?_
          refine AW.seq ?_
          refine AW.regs ?_
          refine oMov eC ?_
          refine xNil ?_
          refine TQ.qn ?_
          refine AW.ret ?_
          refine BQ.qr ?_
          refine TQ.qr ?_
          refine TQ.qr ?_
          refine BQ.qr ?_
          refine TQ.qr ?_
          obtain rfl := Option.some.inj H
          exact endsR (RL.cons (RV.tmp eZ) (VO.flat rfl) RL.nil) List.nodup_nil
      · refine AW.condF eZ (decide_eq_false h8) ?_
        refine AW.exit ?_
        refine TQ.qe ?_
        refine TQ.qe ?_
        refine BQ.qe ?_
        exact TQ.qn ⟨(), H, (wk_mk [] SL.nil BL.nil BK.nil)⟩

theorem c_laws_eqCell {a1 : TCell} {a2 : TCell} {r : Bool} (H : m_laws_eqCell a1 a2 = some r) : Fn Try.prog k_laws_eqCell (lent [(.agg (d_TCell a1)), (.agg (d_TCell a2))]) true [(.bool r)] := by
  refine i_laws_eqCell_fn (Nat.le_of_ble_eq_true rfl) ?_
  rw [init_mk]
  refine AW.weaken (wk_mk [] (SL.cons (v := (.agg [(.d (.int .i64 a1.Key)), (.d (.int .i64 a1.Value))])) eZ rfl VWk.rfl (SL.cons (v := (.agg [(.d (.int .i64 a2.Key)), (.d (.int .i64 a2.Value))])) (eS rfl eZ) rfl VWk.rfl SL.nil)) BL.nil BK.nil) ?_
  unfold m_laws_eqCell at H
  unfold i_laws_eqCell
  refine AW.seq ?_
  refine AW.regs ?_
  refine oBox (n := 128) (m := 2) (cs := [(.d (.int .i64 a1.Key)), (.d (.int .i64 a1.Value))]) rfl eZ rfl rfl nZ ?_
  refine oBox (n := 192) (m := 2) (cs := [(.d (.int .i64 a2.Key)), (.d (.int .i64 a2.Value))]) rfl (eR rfl) rfl rfl (nS rfl nZ) ?_
  refine oMov eC ?_
  refine xNil ?_
  refine TQ.qn ?_
  refine AW.seq ?_
  refine AW.seq ?_
  refine AW.regs ?_
  refine oFaddrN (m := 0) (eR rfl) rfl ?_
  refine oLoadV (q := 0) (c := (.d (.int .i64 a1.Key))) eZ (bS rfl bZ) rfl rfl ?_
  refine oFaddrN (m := 0) (eR rfl) rfl ?_
  refine oLoadV (q := 0) (c := (.d (.int .i64 a2.Key))) eZ bZ rfl rfl ?_
  refine oNeq (eR rfl) eZ ?_
  refine xNil ?_
  refine TQ.qn ?_
  rcases oite H with ⟨h3, H⟩ | ⟨h3, H⟩
  · refine AW.condT eZ (decide_eq_true h3) ?_
    refine AW.seq ?_
    refine AW.regs ?_
    refine oMov eC ?_
    refine xNil ?_
    refine TQ.qn ?_
    refine AW.ret ?_
    refine TQ.qr ?_
    obtain rfl := Option.some.inj H
    exact endsR (RL.cons (RV.tmp eZ) (VO.flat rfl) RL.nil) List.nodup_nil
  · refine AW.condF eZ (decide_eq_false h3) ?_
    refine AW.skip ?_
    refine TQ.qn ?_
    refine AW.seq ?_
    refine AW.seq ?_
    refine AW.regs ?_
    refine oFaddrN (m := 1) (eR rfl) rfl ?_
    refine oLoadV (q := 1) (c := (.d (.int .i64 a1.Value))) eZ (bS rfl bZ) rfl rfl ?_
    refine oFaddrN (m := 1) (eR rfl) rfl ?_
    refine oLoadV (q := 1) (c := (.d (.int .i64 a2.Value))) eZ bZ rfl rfl ?_
    refine oNeq (eR rfl) eZ ?_
    refine xNil ?_
    refine TQ.qn ?_
    rcases oite H with ⟨h4, H⟩ | ⟨h4, H⟩
    · refine AW.condT eZ (decide_eq_true h4) ?_
      refine AW.seq ?_
      refine AW.regs ?_
      refine oMov eC ?_
      refine xNil ?_
      refine TQ.qn ?_
      refine AW.weaken (wk_mk [192, 128] (SL.cons (k := 4) eZ rfl VWk.rfl SL.nil) (BL.drop rfl (BL.drop rfl BL.nil)) BK.nil) ?_
      refine AW.ret ?_
      refine TQ.qr ?_
      obtain rfl := Option.some.inj H
      exact endsR (RL.cons (RV.tmp eZ) (VO.flat rfl) RL.nil) List.nodup_nil
    · refine AW.condF eZ (decide_eq_false h4) ?_
      refine AW.skip ?_
      refine TQ.qn ?_
      refine AW.seq ?_
      refine AW.regs ?_
      refine oMov eC ?_
      refine xNil ?_
      refine TQ.qn ?_
      refine AW.weaken (wk_mk [192, 128] (SL.cons (k := 4) eZ rfl VWk.rfl SL.nil) (BL.drop rfl (BL.drop rfl BL.nil)) BK.nil) ?_
      refine AW.ret ?_
      obtain rfl := Option.some.inj H
      exact endsR (RL.cons (RV.tmp eZ) (VO.flat rfl) RL.nil) List.nodup_nil

theorem c_laws_eqCellS {a1 : (List TCell)} {a2 : (List TCell)} {r : Bool} (H : m_laws_eqCellS a1 a2 = some r) : Fn Try.prog k_laws_eqCellS (lent [(.sl 2 (List.map d_TCell a1)), (.sl 2 (List.map d_TCell a2))]) true [(.bool r)] := by
  refine i_laws_eqCellS_fn (Nat.le_of_ble_eq_true rfl) ?_
  rw [init_mk]
  refine AW.weaken (wk_mk [] (SL.cons (v := (.one (.d (.sl 2 (List.map d_TCell a1))))) eZ rfl VWk.rfl (SL.cons (v := (.one (.d (.sl 2 (List.map d_TCell a2))))) (eS rfl eZ) rfl VWk.rfl SL.nil)) BL.nil BK.nil) ?_
  unfold m_laws_eqCellS at H
  unfold i_laws_eqCellS
  refine AW.seq ?_
  refine AW.regs ?_
  refine oMov eC ?_
  refine xNil ?_
  refine TQ.qn ?_
  refine AW.seq ?_
  refine AW.seq ?_
  refine AW.regs ?_
  refine oMov (eS rfl eZ) ?_
  refine oLenD eZ (n := a1.length) (List.length_map _) ?_
  refine oMov (eR rfl) ?_
  refine oLenD eZ (n := a2.length) (List.length_map _) ?_
  refine oNeq (eR rfl) eZ ?_
  refine xNil ?_
  refine TQ.qn ?_
  rcases oite H with ⟨h3, H⟩ | ⟨h3, H⟩
  · refine AW.condT eZ (decide_eq_true h3) ?_
    refine AW.seq ?_
    refine AW.regs ?_
    refine oMov eC ?_
    refine xNil ?_
    refine TQ.qn ?_
    refine AW.ret ?_
    refine TQ.qr ?_
    obtain rfl := Option.some.inj H
    exact endsR (RL.cons (RV.tmp eZ) (VO.flat rfl) RL.nil) List.nodup_nil
  · refine AW.condF eZ (decide_eq_false h3) ?_
    refine AW.skip ?_
    refine TQ.qn ?_
    refine AW.seqJ (fun t4 : Unit => laws_eqCellS_j4 t4 = some r) (fun t4 => mk [] [] noG) ?_ ?_
    · intro t4 H
      unfold laws_eqCellS_j4 at H
      refine AW.seq ?_
      refine AW.regs ?_
      refine oMov eC ?_
      refine xNil ?_
      refine TQ.qn ?_
      refine AW.ret ?_
      obtain rfl := Option.some.inj H
      exact endsR (RL.cons (RV.tmp eZ) (VO.flat rfl) RL.nil) List.nodup_nil
    · refine AW.seq ?_
      refine AW.regs ?_
      refine oMov eC ?_
      refine xNil ?_
      refine TQ.qn ?_
      refine AW.block ?_
      refine AW.iter (fun s6 : Int => mk [(0, (.one (.d (.sl 2 (List.map d_TCell a1))))), (1, (.one (.d (.sl 2 (List.map d_TCell a2))))), (5, (.one (.d (.int .i64 s6))))] [] noG) H (wk_mk [] (SL.cons (eR rfl) rfl VWk.rfl (SL.cons (eR rfl) rfl VWk.rfl (SL.cons eZ rfl VWk.rfl SL.nil))) BL.nil BK.nil) ?_
      intro kb7 s6 H
      unfold laws_eqCellS_b6 at H
      refine AW.seq ?_
      refine AW.seq ?_
      refine AW.regs ?_
      refine oMov (eR rfl) ?_
      refine oMov (eS rfl eZ) ?_
      refine oLenD eZ (n := a1.length) (List.length_map _) ?_
      refine oLss (eR rfl) eZ ?_
      refine xNil ?_
      refine TQ.qn ?_
      rcases oite H with ⟨h8, H⟩ | ⟨h8, H⟩
      · refine AW.condT eZ (decide_eq_true h8) ?_
        refine AW.skip ?_
        refine TQ.qn ?_
        refine AW.seq ?_
        refine AW.block ?_
        refine AW.seq ?_
        refine AW.regd ?_
        refine oMov (eR rfl) ?_
        refine oMov (eR rfl) ?_
        obtain ⟨v9, h10, H⟩ := obind H
        refine oAtD (eS rfl eZ) eZ h10 ?_
        refine oLoadBA (es := [(.d (.int .i64 v9.Key)), (.d (.int .i64 v9.Value))]) eZ rfl ?_
        refine oMov (eR rfl) ?_
        refine oMov (eR rfl) ?_
        obtain ⟨v11, h12, H⟩ := obind H
        refine oAtD (eS rfl eZ) eZ h12 ?_
        refine oLoadBA (es := [(.d (.int .i64 v11.Key)), (.d (.int .i64 v11.Value))]) eZ rfl ?_
        obtain ⟨v13, h14, H⟩ := obind H
        refine oCall (u := (.one (.d (.bool v13)))) eC Cl.fn (c_laws_eqCell h14) (Evs.cons (eR rfl) (Evs.cons eZ Evs.nil)) (VDs.cons (VD.agg rfl) (VDs.cons (VD.agg rfl) VDs.nil)) rfl ?_
        refine oInv eZ ?_
        refine xNil ?_
        refine TQ.qn ?_
        refine AW.weaken (wk_mk [] (SL.cons (k := 26) eZ rfl VWk.rfl (SL.cons (k := 0) (eR rfl) rfl VWk.rfl (SL.cons (k := 1) (eR rfl) rfl VWk.rfl (SL.cons (k := 5) (eR rfl) rfl VWk.rfl SL.nil)))) BL.nil BK.nil) ?_
        rcases oite H with ⟨h15, H⟩ | ⟨h15, H⟩
        · refine AW.condF eZ (congrArg Bool.not h15) ?_
          refine AW.skip ?_
          refine BQ.qn ?_
          refine TQ.qn ?_
          refine AW.regs ?_
          refine oMov (eR rfl) ?_
          refine oAdd eZ eC ?_
          refine oMov eZ ?_
          refine xNil ?_
          exact TQ.qn ⟨(IntKind.wrap .i64 (s6 + 1)), H, (wk_mk [] (SL.cons (eR rfl) rfl VWk.rfl (SL.cons (eR rfl) rfl VWk.rfl (SL.cons eZ rfl VWk.rfl SL.nil))) BL.nil BK.nil)⟩
        · refine AW.condT eZ (congrArg Bool.not (nt h15)) ?_
          refine AW.seq ?_
          refine AW.regs ?_
          refine oMov eC ?_
          refine xNil ?_
          refine TQ.qn ?_
          refine AW.ret ?_
          refine BQ.qr ?_
          refine TQ.qr ?_
          refine TQ.qr ?_
          refine BQ.qr ?_
          refine TQ.qr ?_
          obtain rfl := Option.some.inj H
          exact endsR (RL.cons (RV.tmp eZ) (VO.flat rfl) RL.nil) List.nodup_nil
      · refine AW.condF eZ (decide_eq_false h8) ?_
        refine AW.exit ?_
        refine TQ.qe ?_
        refine TQ.qe ?_
        refine BQ.qe ?_
        exact TQ.qn ⟨(), H, (wk_mk [] SL.nil BL.nil BK.nil)⟩

theorem c_laws_eqMove {a1 : TMove} {a2 : TMove} {r : Bool} (H : m_laws_eqMove a1 a2 = some r) : Fn Try.prog k_laws_eqMove (lent [(.agg (d_TMove a1)), (.agg (d_TMove a2))]) true [(.bool r)] := by
  refine i_laws_eqMove_fn (Nat.le_of_ble_eq_true rfl) ?_
  rw [init_mk]
  refine AW.weaken (wk_mk [] (SL.cons (v := (.agg [(.d (.int .i64 a1.No)), (.d (.int .i64 a1.Stage)), (.d (.int .i64 a1.Lo)), (.d (.int .i64 a1.Hi)), (.d (.int .i64 a1.From)), (.d (.int .i64 a1.To)), (.d (.sl 2 (List.map d_TCell a1.Cells)))])) eZ rfl VWk.rfl (SL.cons (v := (.agg [(.d (.int .i64 a2.No)), (.d (.int .i64 a2.Stage)), (.d (.int .i64 a2.Lo)), (.d (.int .i64 a2.Hi)), (.d (.int .i64 a2.From)), (.d (.int .i64 a2.To)), (.d (.sl 2 (List.map d_TCell a2.Cells)))])) (eS rfl eZ) rfl VWk.rfl SL.nil)) BL.nil BK.nil) ?_
  unfold m_laws_eqMove at H
  unfold i_laws_eqMove
  refine AW.seq ?_
  refine AW.regs ?_
  refine oBox (n := 128) (m := 7) (cs := [(.d (.int .i64 a1.No)), (.d (.int .i64 a1.Stage)), (.d (.int .i64 a1.Lo)), (.d (.int .i64 a1.Hi)), (.d (.int .i64 a1.From)), (.d (.int .i64 a1.To)), (.d (.sl 2 (List.map d_TCell a1.Cells)))]) rfl eZ rfl rfl nZ ?_
  refine oBox (n := 192) (m := 7) (cs := [(.d (.int .i64 a2.No)), (.d (.int .i64 a2.Stage)), (.d (.int .i64 a2.Lo)), (.d (.int .i64 a2.Hi)), (.d (.int .i64 a2.From)), (.d (.int .i64 a2.To)), (.d (.sl 2 (List.map d_TCell a2.Cells)))]) rfl (eR rfl) rfl rfl (nS rfl nZ) ?_
  refine oMov eC ?_
  refine xNil ?_
  refine TQ.qn ?_
  refine AW.seq ?_
  refine AW.seq ?_
  refine AW.regs ?_
  refine oFaddrN (m := 0) (eR rfl) rfl ?_
  refine oLoadV (q := 0) (c := (.d (.int .i64 a1.No))) eZ (bS rfl bZ) rfl rfl ?_
  refine oFaddrN (m := 0) (eR rfl) rfl ?_
  refine oLoadV (q := 0) (c := (.d (.int .i64 a2.No))) eZ bZ rfl rfl ?_
  refine oNeq (eR rfl) eZ ?_
  refine xNil ?_
  refine TQ.qn ?_
  rcases oite H with ⟨h3, H⟩ | ⟨h3, H⟩
  · refine AW.condT eZ (decide_eq_true h3) ?_
    refine AW.seq ?_
    refine AW.regs ?_
    refine oMov eC ?_
    refine xNil ?_
    refine TQ.qn ?_
    refine AW.ret ?_
    refine TQ.qr ?_
    obtain rfl := Option.some.inj H
    exact endsR (RL.cons (RV.tmp eZ) (VO.flat rfl) RL.nil) List.nodup_nil
  · refine AW.condF eZ (decide_eq_false h3) ?_
    refine AW.skip ?_
    refine TQ.qn ?_
    refine AW.seq ?_
    refine AW.seq ?_
    refine AW.regs ?_
    refine oFaddrN (m := 1) (eR rfl) rfl ?_
    refine oLoadV (q := 1) (c := (.d (.int .i64 a1.Stage))) eZ (bS rfl bZ) rfl rfl ?_
    refine oFaddrN (m := 1) (eR rfl) rfl ?_
    refine oLoadV (q := 1) (c := (.d (.int .i64 a2.Stage))) eZ bZ rfl rfl ?_
    refine oNeq (eR rfl) eZ ?_
    refine xNil ?_
    refine TQ.qn ?_
    rcases oite H with ⟨h4, H⟩ | ⟨h4, H⟩
    · refine AW.condT eZ (decide_eq_true h4) ?_
      refine AW.seq ?_
      refine AW.regs ?_
      refine oMov eC ?_
      refine xNil ?_
      refine TQ.qn ?_
      refine AW.weaken (wk_mk [192, 128] (SL.cons (k := 4) eZ rfl VWk.rfl SL.nil) (BL.drop rfl (BL.drop rfl BL.nil)) BK.nil) ?_
      refine AW.ret ?_
      refine TQ.qr ?_
      obtain rfl := Option.some.inj H
      exact endsR (RL.cons (RV.tmp eZ) (VO.flat rfl) RL.nil) List.nodup_nil
    · refine AW.condF eZ (decide_eq_false h4) ?_
      refine AW.skip ?_
      refine TQ.qn ?_
      refine AW.seq ?_
      refine AW.seq ?_
      refine AW.regs ?_
      refine oFaddrN (m := 2) (eR rfl) rfl ?_
      refine oLoadV (q := 2) (c := (.d (.int .i64 a1.Lo))) eZ (bS rfl bZ) rfl rfl ?_
      refine oFaddrN (m := 2) (eR rfl) rfl ?_
      refine oLoadV (q := 2) (c := (.d (.int .i64 a2.Lo))) eZ bZ rfl rfl ?_
      refine oNeq (eR rfl) eZ ?_
      refine xNil ?_
      refine TQ.qn ?_
      refine AW.weaken (wk_mk [] (SL.cons (k := 19) eZ rfl VWk.rfl (SL.cons (k := 3) (eR rfl) rfl VWk.rfl (SL.cons (k := 2) (eR rfl) rfl VWk.rfl SL.nil))) (BL.keep rfl (BL.keep rfl BL.nil)) (BK.cons (n := 192) rfl bZ rfl rfl (BK.cons (n := 128) rfl (bS rfl bZ) rfl rfl BK.nil))) ?_
      rcases oite H with ⟨h5, H⟩ | ⟨h5, H⟩
      · refine AW.condT eZ (decide_eq_true h5) ?_
        refine AW.seq ?_
        refine AW.regs ?_
        refine oMov eC ?_
        refine xNil ?_
        refine TQ.qn ?_
        refine AW.ret ?_
        refine TQ.qr ?_
        obtain rfl := Option.some.inj H
        exact endsR (RL.cons (RV.tmp eZ) (VO.flat rfl) RL.nil) List.nodup_nil
      · refine AW.condF eZ (decide_eq_false h5) ?_
        refine AW.skip ?_
        refine TQ.qn ?_
        refine AW.seq ?_
        refine AW.seq ?_
        refine AW.regs ?_
        refine oFaddrN (m := 3) (eR rfl) rfl ?_
        refine oLoadV (q := 3) (c := (.d (.int .i64 a1.Hi))) eZ (bS rfl bZ) rfl rfl ?_
        refine oFaddrN (m := 3) (eR rfl) rfl ?_
        refine oLoadV (q := 3) (c := (.d (.int .i64 a2.Hi))) eZ bZ rfl rfl ?_
        refine oNeq (eR rfl) eZ ?_
        refine xNil ?_
        refine TQ.qn ?_
        rcases oite H with ⟨h6, H⟩ | ⟨h6, H⟩
        · refine AW.condT eZ (decide_eq_true h6) ?_
          refine AW.seq ?_
          refine AW.regs ?_
          refine oMov eC ?_
          refine xNil ?_
          refine TQ.qn ?_
          refine AW.ret ?_
          refine TQ.qr ?_
          obtain rfl := Option.some.inj H
          exact endsR (RL.cons (RV.tmp eZ) (VO.flat rfl) RL.nil) List.nodup_nil
        · refine AW.condF eZ (decide_eq_false h6) ?_
          refine AW.skip ?_
          refine TQ.qn ?_
          refine AW.seq ?_
          refine AW.seq ?_
          refine AW.regs ?_
          refine oFaddrN (m := 4) (eR rfl) rfl ?_
          refine oLoadV (q := 4) (c := (.d (.int .i64 a1.From))) eZ (bS rfl bZ) rfl rfl ?_
          refine oFaddrN (m := 4) (eR rfl) rfl ?_
          refine oLoadV (q := 4) (c := (.d (.int .i64 a2.From))) eZ bZ rfl rfl ?_
          refine oNeq (eR rfl) eZ ?_
          refine xNil ?_
          refine TQ.qn ?_
          rcases oite H with ⟨h7, H⟩ | ⟨h7, H⟩
          · refine AW.condT eZ (decide_eq_true h7) ?_
            refine AW.seq ?_
            refine AW.regs ?_
            refine oMov eC ?_
            refine xNil ?_
            refine TQ.qn ?_
            refine AW.ret ?_
            refine TQ.qr ?_
            obtain rfl := Option.some.inj H
            exact endsR (RL.cons (RV.tmp eZ) (VO.flat rfl) RL.nil) List.nodup_nil
          · refine AW.condF eZ (decide_eq_false h7) ?_
            refine AW.skip ?_
            refine TQ.qn ?_
            refine AW.seq ?_
            refine AW.seq ?_
            refine AW.regs ?_
            refine oFaddrN (m := 5) (eR rfl) rfl ?_
            refine oLoadV (q := 5) (c := (.d (.int .i64 a1.To))) eZ (bS rfl bZ) rfl rfl ?_
            refine oFaddrN (m := 5) (eR rfl) rfl ?_
            refine oLoadV (q := 5) (c := (.d (.int .i64 a2.To))) eZ bZ rfl rfl ?_
            refine oNeq (eR rfl) eZ ?_
            refine xNil ?_
            refine TQ.qn ?_
            refine AW.weaken (wk_mk [] (SL.cons (k := 34) eZ rfl VWk.rfl (SL.cons (k := 3) (eR rfl) rfl VWk.rfl (SL.cons (k := 2) (eR rfl) rfl VWk.rfl SL.nil))) (BL.keep rfl (BL.keep rfl BL.nil)) (BK.cons (n := 192) rfl bZ rfl rfl (BK.cons (n := 128) rfl (bS rfl bZ) rfl rfl BK.nil))) ?_
            rcases oite H with ⟨h8, H⟩ | ⟨h8, H⟩
            · refine AW.condT eZ (decide_eq_true h8) ?_
              refine AW.seq ?_
              refine AW.regs ?_
              refine oMov eC ?_
              refine xNil ?_
              refine TQ.qn ?_
              refine AW.ret ?_
              refine TQ.qr ?_
              obtain rfl := Option.some.inj H
              exact endsR (RL.cons (RV.tmp eZ) (VO.flat rfl) RL.nil) List.nodup_nil
            · refine AW.condF eZ (decide_eq_false h8) ?_
              refine AW.skip ?_
              refine TQ.qn ?_
              refine AW.seq ?_
              refine AW.seq ?_
              refine AW.regs ?_
              refine oFaddrN (m := 6) (eR rfl) rfl ?_
              refine oLoadV (q := 6) (c := (.d (.sl 2 (List.map d_TCell a1.Cells)))) eZ (bS rfl bZ) rfl rfl ?_
              refine oFaddrN (m := 6) (eR rfl) rfl ?_
              refine oLoadV (q := 6) (c := (.d (.sl 2 (List.map d_TCell a2.Cells)))) eZ bZ rfl rfl ?_
              obtain ⟨v9, h10, H⟩ := obind H
              refine oCall (u := (.one (.d (.bool v9)))) eC Cl.fn (c_laws_eqCellS h10) (Evs.cons (eR rfl) (Evs.cons eZ Evs.nil)) (VDs.cons VD.plain (VDs.cons VD.plain VDs.nil)) rfl ?_
              refine oInv eZ ?_
              refine xNil ?_
              refine TQ.qn ?_
              rcases oite H with ⟨h11, H⟩ | ⟨h11, H⟩
              · refine AW.condF eZ (congrArg Bool.not h11) ?_
                refine AW.skip ?_
                refine TQ.qn ?_
                refine AW.seq ?_
                refine AW.regs ?_
                refine oMov eC ?_
                refine xNil ?_
                refine TQ.qn ?_
                refine AW.ret ?_
                obtain rfl := Option.some.inj H
                exact endsR (RL.cons (RV.tmp eZ) (VO.flat rfl) RL.nil) List.nodup_nil
              · refine AW.condT eZ (congrArg Bool.not (nt h11)) ?_
                refine AW.seq ?_
                refine AW.regs ?_
                refine oMov eC ?_
                refine xNil ?_
                refine TQ.qn ?_
                refine AW.ret ?_
                refine TQ.qr ?_
                obtain rfl := Option.some.inj H
                exact endsR (RL.cons (RV.tmp eZ) (VO.flat rfl) RL.nil) List.nodup_nil

theorem c_laws_eqAtlas {a1 : TAtlas} {a2 : TAtlas} {r : Bool} (H : m_laws_eqAtlas a1 a2 = some r) : Fn Try.prog k_laws_eqAtlas (lent [(.agg (d_TAtlas a1)), (.agg (d_TAtlas a2))]) true [(.bool r)] := by
  refine i_laws_eqAtlas_fn (Nat.le_of_ble_eq_true rfl) ?_
  rw [init_mk]
  refine AW.weaken (wk_mk [] (SL.cons (v := (.agg [(.d (.int .i64 a1.Epoch)), (.d (.sl 3 (List.map d_TPart a1.Parts))), (.d (.int .i64 a1.Move.No)), (.d (.int .i64 a1.Move.Stage)), (.d (.int .i64 a1.Move.Lo)), (.d (.int .i64 a1.Move.Hi)), (.d (.int .i64 a1.Move.From)), (.d (.int .i64 a1.Move.To)), (.d (.sl 2 (List.map d_TCell a1.Move.Cells)))])) eZ rfl VWk.rfl (SL.cons (v := (.agg [(.d (.int .i64 a2.Epoch)), (.d (.sl 3 (List.map d_TPart a2.Parts))), (.d (.int .i64 a2.Move.No)), (.d (.int .i64 a2.Move.Stage)), (.d (.int .i64 a2.Move.Lo)), (.d (.int .i64 a2.Move.Hi)), (.d (.int .i64 a2.Move.From)), (.d (.int .i64 a2.Move.To)), (.d (.sl 2 (List.map d_TCell a2.Move.Cells)))])) (eS rfl eZ) rfl VWk.rfl SL.nil)) BL.nil BK.nil) ?_
  unfold m_laws_eqAtlas at H
  unfold i_laws_eqAtlas
  refine AW.seq ?_
  refine AW.regs ?_
  refine oBox (n := 128) (m := 9) (cs := [(.d (.int .i64 a1.Epoch)), (.d (.sl 3 (List.map d_TPart a1.Parts))), (.d (.int .i64 a1.Move.No)), (.d (.int .i64 a1.Move.Stage)), (.d (.int .i64 a1.Move.Lo)), (.d (.int .i64 a1.Move.Hi)), (.d (.int .i64 a1.Move.From)), (.d (.int .i64 a1.Move.To)), (.d (.sl 2 (List.map d_TCell a1.Move.Cells)))]) rfl eZ rfl rfl nZ ?_
  refine oBox (n := 192) (m := 9) (cs := [(.d (.int .i64 a2.Epoch)), (.d (.sl 3 (List.map d_TPart a2.Parts))), (.d (.int .i64 a2.Move.No)), (.d (.int .i64 a2.Move.Stage)), (.d (.int .i64 a2.Move.Lo)), (.d (.int .i64 a2.Move.Hi)), (.d (.int .i64 a2.Move.From)), (.d (.int .i64 a2.Move.To)), (.d (.sl 2 (List.map d_TCell a2.Move.Cells)))]) rfl (eR rfl) rfl rfl (nS rfl nZ) ?_
  refine oMov eC ?_
  refine xNil ?_
  refine TQ.qn ?_
  refine AW.seq ?_
  refine AW.seq ?_
  refine AW.regs ?_
  refine oFaddrN (m := 0) (eR rfl) rfl ?_
  refine oLoadV (q := 0) (c := (.d (.int .i64 a1.Epoch))) eZ (bS rfl bZ) rfl rfl ?_
  refine oFaddrN (m := 0) (eR rfl) rfl ?_
  refine oLoadV (q := 0) (c := (.d (.int .i64 a2.Epoch))) eZ bZ rfl rfl ?_
  refine oNeq (eR rfl) eZ ?_
  refine xNil ?_
  refine TQ.qn ?_
  rcases oite H with ⟨h3, H⟩ | ⟨h3, H⟩
  · refine AW.condT eZ (decide_eq_true h3) ?_
    refine AW.seq ?_
    refine AW.regs ?_
    refine oMov eC ?_
    refine xNil ?_
    refine TQ.qn ?_
    refine AW.ret ?_
    refine TQ.qr ?_
    obtain rfl := Option.some.inj H
    exact endsR (RL.cons (RV.tmp eZ) (VO.flat rfl) RL.nil) List.nodup_nil
  · refine AW.condF eZ (decide_eq_false h3) ?_
    refine AW.skip ?_
    refine TQ.qn ?_
    refine AW.seq ?_
    refine AW.seq ?_
    refine AW.regs ?_
    refine oFaddrN (m := 1) (eR rfl) rfl ?_
    refine oLoadV (q := 1) (c := (.d (.sl 3 (List.map d_TPart a1.Parts)))) eZ (bS rfl bZ) rfl rfl ?_
    refine oFaddrN (m := 1) (eR rfl) rfl ?_
    refine oLoadV (q := 1) (c := (.d (.sl 3 (List.map d_TPart a2.Parts)))) eZ bZ rfl rfl ?_
    obtain ⟨v4, h5, H⟩ := obind H
    refine oCall (u := (.one (.d (.bool v4)))) eC Cl.fn (c_laws_eqPartS h5) (Evs.cons (eR rfl) (Evs.cons eZ Evs.nil)) (VDs.cons VD.plain (VDs.cons VD.plain VDs.nil)) rfl ?_
    refine oInv eZ ?_
    refine xNil ?_
    refine TQ.qn ?_
    refine AW.weaken (wk_mk [] (SL.cons (k := 15) eZ rfl VWk.rfl (SL.cons (k := 3) (eR rfl) rfl VWk.rfl (SL.cons (k := 2) (eR rfl) rfl VWk.rfl SL.nil))) (BL.keep rfl (BL.keep rfl BL.nil)) (BK.cons (n := 192) rfl bZ rfl rfl (BK.cons (n := 128) rfl (bS rfl bZ) rfl rfl BK.nil))) ?_
    rcases oite H with ⟨h6, H⟩ | ⟨h6, H⟩
    · refine AW.condF eZ (congrArg Bool.not h6) ?_
      refine AW.skip ?_
      refine TQ.qn ?_
      refine AW.seq ?_
      refine AW.seq ?_
      refine AW.regs ?_
      refine oFaddrN (m := 2) (eR rfl) rfl ?_
      refine oLoadVA (es := [(.d (.int .i64 a1.Move.No)), (.d (.int .i64 a1.Move.Stage)), (.d (.int .i64 a1.Move.Lo)), (.d (.int .i64 a1.Move.Hi)), (.d (.int .i64 a1.Move.From)), (.d (.int .i64 a1.Move.To)), (.d (.sl 2 (List.map d_TCell a1.Move.Cells)))]) eZ (bS rfl bZ) rfl ?_
      refine oFaddrN (m := 2) (eR rfl) rfl ?_
      refine oLoadVA (es := [(.d (.int .i64 a2.Move.No)), (.d (.int .i64 a2.Move.Stage)), (.d (.int .i64 a2.Move.Lo)), (.d (.int .i64 a2.Move.Hi)), (.d (.int .i64 a2.Move.From)), (.d (.int .i64 a2.Move.To)), (.d (.sl 2 (List.map d_TCell a2.Move.Cells)))]) eZ bZ rfl ?_
      obtain ⟨v7, h8, H⟩ := obind H
      refine oCall (u := (.one (.d (.bool v7)))) eC Cl.fn (c_laws_eqMove h8) (Evs.cons (eR rfl) (Evs.cons eZ Evs.nil)) (VDs.cons (VD.agg rfl) (VDs.cons (VD.agg rfl) VDs.nil)) rfl ?_
      refine oInv eZ ?_
      refine xNil ?_
      refine TQ.qn ?_
      rcases oite H with ⟨h9, H⟩ | ⟨h9, H⟩
      · refine AW.condF eZ (congrArg Bool.not h9) ?_
        refine AW.skip ?_
        refine TQ.qn ?_
        refine AW.seq ?_
        refine AW.regs ?_
        refine oMov eC ?_
        refine xNil ?_
        refine TQ.qn ?_
        refine AW.ret ?_
        obtain rfl := Option.some.inj H
        exact endsR (RL.cons (RV.tmp eZ) (VO.flat rfl) RL.nil) List.nodup_nil
      · refine AW.condT eZ (congrArg Bool.not (nt h9)) ?_
        refine AW.seq ?_
        refine AW.regs ?_
        refine oMov eC ?_
        refine xNil ?_
        refine TQ.qn ?_
        refine AW.ret ?_
        refine TQ.qr ?_
        obtain rfl := Option.some.inj H
        exact endsR (RL.cons (RV.tmp eZ) (VO.flat rfl) RL.nil) List.nodup_nil
    · refine AW.condT eZ (congrArg Bool.not (nt h6)) ?_
      refine AW.seq ?_
      refine AW.regs ?_
      refine oMov eC ?_
      refine xNil ?_
      refine TQ.qn ?_
      refine AW.ret ?_
      refine TQ.qr ?_
      obtain rfl := Option.some.inj H
      exact endsR (RL.cons (RV.tmp eZ) (VO.flat rfl) RL.nil) List.nodup_nil

theorem c_laws_markPartS {a1 : (List TPart)} {a2 : Int} {r : (Int × (List TPart))} (H : m_laws_markPartS a1 a2 = some r) : Fn Try.prog k_laws_markPartS [⟨(.sl 3 (List.map d_TPart a1)), .m (.sl 3 (List.map d_TPart r.2))⟩, ⟨(.int .i64 a2), .b⟩] true [(.int .i64 r.1)] := by
  refine i_laws_markPartS_fnM (Nat.le_of_ble_eq_true rfl) (fC nZ rfl fN) rfl ?_
  rw [initM_mk]
  refine AW.weaken (t := mk [(0, (.one (.sl 0 0 a1.length))), (1, (.one (.d (.int .i64 a2))))] [(0, (.data 3 (List.map d_TPart a1) true none))] (lk [(0, (.one (.sl 0 0 ((List.map d_TPart a1).length))))])) (wk_mkG (gl := [(0, (.one (.sl 0 0 ((List.map d_TPart a1).length))))]) [] (SL.cons (v := (.one (.sl 0 0 a1.length))) eZ rfl (VWk.one (CWk.len (List.length_map _))) (SL.cons (v := (.one (.d (.int .i64 a2)))) (eS rfl eZ) rfl VWk.rfl SL.nil)) (BL.keep rfl BL.nil) (BK.cons (n := 0) rfl bZ rfl rfl BK.nil) (GK.cons rfl GK.nil)) ?_
  unfold m_laws_markPartS at H
  unfold i_laws_markPartS
  refine AW.seq ?_
  refine AW.regs ?_
  refine oMov eC ?_
  refine xNil ?_
  refine TQ.qn ?_
  refine AW.seqJ (fun t3 : ((List TPart) × Int) => (laws_markPartS_j3 a1) t3 = some r) (fun t3 => mk [(1, (.one (.d (.int .i64 t3.2))))] [(0, (.data 3 (List.map d_TPart t3.1) true none))] (lk [(0, (.one (.sl 0 0 ((List.map d_TPart a1).length))))])) ?_ ?_
  · intro t3 H
    unfold laws_markPartS_j3 at H
    refine AW.seq ?_
    refine AW.regs ?_
    refine oMov eZ ?_
    refine oMov eZ ?_
    refine xNil ?_
    refine TQ.qn ?_
    refine AW.ret ?_
    obtain ⟨h5, H⟩ := oguard H
    obtain rfl := Option.some.inj H
    exact endsRM (RL.cons (RV.tmp eZ) (VO.flat rfl) RL.nil) (ML.mut eZ (VO.sl bZ (by first | (simp; done) | (simp; omega) | omega) (allFlat fun _ => rfl)) (ML.lent ML.nil)) (by decide)
  · refine AW.seq ?_
    refine AW.regs ?_
    refine oMov eC ?_
    refine xNil ?_
    refine TQ.qn ?_
    refine AW.block ?_
    refine AW.iter (fun s6 : ((List TPart) × Int × Int) => mk [(0, (.one (.sl 0 0 s6.1.length))), (1, (.one (.d (.int .i64 s6.2.1)))), (5, (.one (.d (.int .i64 s6.2.2))))] [(0, (.data 3 (List.map d_TPart s6.1) true none))] (lk [(0, (.one (.sl 0 0 ((List.map d_TPart a1).length))))])) H (wk_mkG [] (SL.cons (eR rfl) rfl VWk.rfl (SL.cons (eR rfl) rfl VWk.rfl (SL.cons eZ rfl VWk.rfl SL.nil))) (BL.keep rfl BL.nil) (BK.cons rfl bZ rfl rfl BK.nil) (GK.cons rfl GK.nil)) ?_
    intro kb7 s6 H
    unfold laws_markPartS_b6 at H
    refine AW.seq ?_
    refine AW.seq ?_
    refine AW.regs ?_
    refine oMov (eR rfl) ?_
    refine oMov (eS rfl eZ) ?_
    refine oLenN eZ ?_
    refine oLss (eR rfl) eZ ?_
    refine xNil ?_
    refine TQ.qn ?_
    rcases oite H with ⟨h8, H⟩ | ⟨h8, H⟩
    · refine AW.condT eZ (decide_eq_true h8) ?_
      refine AW.skip ?_
      refine TQ.qn ?_
      refine AW.seq ?_
      refine AW.block ?_
      refine AW.seq ?_
      refine AW.regs ?_
      refine oMov (eR rfl) ?_
      refine oMov (eR rfl) ?_
      refine oMov (eR rfl) ?_
      obtain ⟨v9, h10, H⟩ := obind H
      refine oAtN (eR rfl) (eS rfl eZ) bZ rfl h10 ?_
      refine oFaddrN (m := 0) eZ rfl ?_
      refine oStoreD (t := v9) (t' := (TPart.mk s6.2.1 v9.Hi v9.Owner)) (es := [(.int .i64 s6.2.1)]) eZ (eR rfl) rfl rfl bZ (idx_at h10) rfl rfl ?_
      refine xNil ?_
      refine TQ.qn ?_
      refine AW.seq ?_
      refine AW.regs ?_
      refine oMov (eR rfl) ?_
      refine oAdd eZ eC ?_
      refine oMov eZ ?_
      refine xNil ?_
      refine TQ.qn ?_
      refine AW.seq ?_
      refine AW.regs ?_
      refine oMov (eR rfl) ?_
      refine oMov (eR rfl) ?_
      refine oMov (eR rfl) ?_
      obtain ⟨v11, h12, H⟩ := obind H
      refine oAtN (eR rfl) (eS rfl eZ) bZ (by first | (simp; done) | (simp; omega) | omega) h12 ?_
      refine oFaddrN (m := 1) eZ rfl ?_
      refine oStoreD (t := v11) (t' := (TPart.mk v11.Lo (IntKind.wrap .i64 (s6.2.1 + 1)) v11.Owner)) (es := [(.int .i64 (IntKind.wrap .i64 (s6.2.1 + 1)))]) eZ (eR rfl) rfl rfl bZ (idx_at h12) rfl rfl ?_
      refine xNil ?_
      refine TQ.qn ?_
      refine AW.weaken (wk_mkG [] (SL.cons (k := 1) (eR rfl) rfl VWk.rfl (SL.cons (k := 0) (eR rfl) rfl VWk.rfl (SL.cons (k := 5) (eR rfl) rfl VWk.rfl SL.nil))) (BL.keep rfl (BL.keep rfl (BL.keep rfl BL.nil))) (BK.cons (n := 0) rfl bZ rfl rfl BK.nil) (GK.cons rfl GK.nil)) ?_
      refine AW.seq ?_
      refine AW.regs ?_
      refine oMov eZ ?_
      refine oAdd eZ eC ?_
      refine oMov eZ ?_
      refine xNil ?_
      refine TQ.qn ?_
      refine AW.seq ?_
      refine AW.regs ?_
      refine oMov (eR rfl) ?_
      refine oMov (eR rfl) ?_
      refine oMov (eR rfl) ?_
      obtain ⟨v13, h14, H⟩ := obind H
      refine oAtN (eR rfl) (eS rfl eZ) bZ (by first | (simp; done) | (simp; omega) | omega) h14 ?_
      refine oFaddrN (m := 2) eZ rfl ?_
      refine oStoreD (t := v13) (t' := (TPart.mk v13.Lo v13.Hi (IntKind.wrap .i64 ((IntKind.wrap .i64 (s6.2.1 + 1)) + 1)))) (es := [(.int .i64 (IntKind.wrap .i64 ((IntKind.wrap .i64 (s6.2.1 + 1)) + 1)))]) eZ (eR rfl) rfl rfl bZ (idx_at h14) rfl rfl ?_
      refine xNil ?_
      refine TQ.qn ?_
      refine AW.regs ?_
      refine oMov (eR rfl) ?_
      refine oAdd eZ eC ?_
      refine oMov eZ ?_
      refine xNil ?_
      refine BQ.qn ?_
      refine TQ.qn ?_
      refine AW.regs ?_
      refine oMov (eR rfl) ?_
      refine oAdd eZ eC ?_
      refine oMov eZ ?_
      refine xNil ?_
      exact TQ.qn ⟨(((s6.1.set (Int.toNat s6.2.2) (TPart.mk s6.2.1 v9.Hi v9.Owner)).set (Int.toNat s6.2.2) (TPart.mk v11.Lo (IntKind.wrap .i64 (s6.2.1 + 1)) v11.Owner)).set (Int.toNat s6.2.2) (TPart.mk v13.Lo v13.Hi (IntKind.wrap .i64 ((IntKind.wrap .i64 (s6.2.1 + 1)) + 1))), (IntKind.wrap .i64 ((IntKind.wrap .i64 ((IntKind.wrap .i64 (s6.2.1 + 1)) + 1)) + 1)), (IntKind.wrap .i64 (s6.2.2 + 1))), H, (wk_mkG [] (SL.cons (eR rfl) rfl (VWk.one (CWk.len (by first | (simp; done) | (simp; omega) | omega))) (SL.cons (eR rfl) rfl VWk.rfl (SL.cons eZ rfl VWk.rfl SL.nil))) (BL.keep rfl (BL.keep rfl BL.nil)) (BK.cons rfl bZ rfl rfl BK.nil) (GK.cons rfl GK.nil))⟩
    · refine AW.condF eZ (decide_eq_false h8) ?_
      refine AW.exit ?_
      refine TQ.qe ?_
      refine TQ.qe ?_
      refine BQ.qe ?_
      exact TQ.qn ⟨(s6.1, s6.2.1), H, (wk_mkG [] (SL.cons (eR rfl) rfl VWk.rfl SL.nil) (BL.keep rfl BL.nil) (BK.cons rfl bZ rfl rfl BK.nil) (GK.cons rfl GK.nil))⟩

theorem c_laws_markCellS {a1 : (List TCell)} {a2 : Int} {r : (Int × (List TCell))} (H : m_laws_markCellS a1 a2 = some r) : Fn Try.prog k_laws_markCellS [⟨(.sl 2 (List.map d_TCell a1)), .m (.sl 2 (List.map d_TCell r.2))⟩, ⟨(.int .i64 a2), .b⟩] true [(.int .i64 r.1)] := by
  refine i_laws_markCellS_fnM (Nat.le_of_ble_eq_true rfl) (fC nZ rfl fN) rfl ?_
  rw [initM_mk]
  refine AW.weaken (t := mk [(0, (.one (.sl 0 0 a1.length))), (1, (.one (.d (.int .i64 a2))))] [(0, (.data 2 (List.map d_TCell a1) true none))] (lk [(0, (.one (.sl 0 0 ((List.map d_TCell a1).length))))])) (wk_mkG (gl := [(0, (.one (.sl 0 0 ((List.map d_TCell a1).length))))]) [] (SL.cons (v := (.one (.sl 0 0 a1.length))) eZ rfl (VWk.one (CWk.len (List.length_map _))) (SL.cons (v := (.one (.d (.int .i64 a2)))) (eS rfl eZ) rfl VWk.rfl SL.nil)) (BL.keep rfl BL.nil) (BK.cons (n := 0) rfl bZ rfl rfl BK.nil) (GK.cons rfl GK.nil)) ?_
  unfold m_laws_markCellS at H
  unfold i_laws_markCellS
  refine AW.seq ?_
  refine AW.regs ?_
  refine oMov eC ?_
  refine xNil ?_
  refine TQ.qn ?_
  refine AW.seqJ (fun t3 : ((List TCell) × Int) => (laws_markCellS_j3 a1) t3 = some r) (fun t3 => mk [(1, (.one (.d (.int .i64 t3.2))))] [(0, (.data 2 (List.map d_TCell t3.1) true none))] (lk [(0, (.one (.sl 0 0 ((List.map d_TCell a1).length))))])) ?_ ?_
  · intro t3 H
    unfold laws_markCellS_j3 at H
    refine AW.seq ?_
    refine AW.regs ?_
    refine oMov eZ ?_
    refine oMov eZ ?_
    refine xNil ?_
    refine TQ.qn ?_
    refine AW.ret ?_
    obtain ⟨h5, H⟩ := oguard H
    obtain rfl := Option.some.inj H
    exact endsRM (RL.cons (RV.tmp eZ) (VO.flat rfl) RL.nil) (ML.mut eZ (VO.sl bZ (by first | (simp; done) | (simp; omega) | omega) (allFlat fun _ => rfl)) (ML.lent ML.nil)) (by decide)
  · refine AW.seq ?_
    refine AW.regs ?_
    refine oMov eC ?_
    refine xNil ?_
    refine TQ.qn ?_
    refine AW.block ?_
    refine AW.iter (fun s6 : ((List TCell) × Int × Int) => mk [(0, (.one (.sl 0 0 s6.1.length))), (1, (.one (.d (.int .i64 s6.2.1)))), (5, (.one (.d (.int .i64 s6.2.2))))] [(0, (.data 2 (List.map d_TCell s6.1) true none))] (lk [(0, (.one (.sl 0 0 ((List.map d_TCell a1).length))))])) H (wk_mkG [] (SL.cons (eR rfl) rfl VWk.rfl (SL.cons (eR rfl) rfl VWk.rfl (SL.cons eZ rfl VWk.rfl SL.nil))) (BL.keep rfl BL.nil) (BK.cons rfl bZ rfl rfl BK.nil) (GK.cons rfl GK.nil)) ?_
    intro kb7 s6 H
    unfold laws_markCellS_b6 at H
    refine AW.seq ?_
    refine AW.seq ?_
    refine AW.regs ?_
    refine oMov (eR rfl) ?_
    refine oMov (eS rfl eZ) ?_
    refine oLenN eZ ?_
    refine oLss (eR rfl) eZ ?_
    refine xNil ?_
    refine TQ.qn ?_
    rcases oite H with ⟨h8, H⟩ | ⟨h8, H⟩
    · refine AW.condT eZ (decide_eq_true h8) ?_
      refine AW.skip ?_
      refine TQ.qn ?_
      refine AW.seq ?_
      refine AW.block ?_
      refine AW.seq ?_
      refine AW.regs ?_
      refine oMov (eR rfl) ?_
      refine oMov (eR rfl) ?_
      refine oMov (eR rfl) ?_
      obtain ⟨v9, h10, H⟩ := obind H
      refine oAtN (eR rfl) (eS rfl eZ) bZ rfl h10 ?_
      refine oFaddrN (m := 0) eZ rfl ?_
      refine oStoreD (t := v9) (t' := (TCell.mk s6.2.1 v9.Value)) (es := [(.int .i64 s6.2.1)]) eZ (eR rfl) rfl rfl bZ (idx_at h10) rfl rfl ?_
      refine xNil ?_
      refine TQ.qn ?_
      refine AW.seq ?_
      refine AW.regs ?_
      refine oMov (eR rfl) ?_
      refine oAdd eZ eC ?_
      refine oMov eZ ?_
      refine xNil ?_
      refine TQ.qn ?_
      refine AW.seq ?_
      refine AW.regs ?_
      refine oMov (eR rfl) ?_
      refine oMov (eR rfl) ?_
      refine oMov (eR rfl) ?_
      obtain ⟨v11, h12, H⟩ := obind H
      refine oAtN (eR rfl) (eS rfl eZ) bZ (by first | (simp; done) | (simp; omega) | omega) h12 ?_
      refine oFaddrN (m := 1) eZ rfl ?_
      refine oStoreD (t := v11) (t' := (TCell.mk v11.Key (IntKind.wrap .i64 (s6.2.1 + 1)))) (es := [(.int .i64 (IntKind.wrap .i64 (s6.2.1 + 1)))]) eZ (eR rfl) rfl rfl bZ (idx_at h12) rfl rfl ?_
      refine xNil ?_
      refine TQ.qn ?_
      refine AW.weaken (wk_mkG [] (SL.cons (k := 1) (eR rfl) rfl VWk.rfl (SL.cons (k := 0) (eR rfl) rfl VWk.rfl (SL.cons (k := 5) (eR rfl) rfl VWk.rfl SL.nil))) (BL.keep rfl (BL.keep rfl (BL.keep rfl BL.nil))) (BK.cons (n := 0) rfl bZ rfl rfl BK.nil) (GK.cons rfl GK.nil)) ?_
      refine AW.regs ?_
      refine oMov eZ ?_
      refine oAdd eZ eC ?_
      refine oMov eZ ?_
      refine xNil ?_
      refine BQ.qn ?_
      refine TQ.qn ?_
      refine AW.regs ?_
      refine oMov (eR rfl) ?_
      refine oAdd eZ eC ?_
      refine oMov eZ ?_
      refine xNil ?_
      exact TQ.qn ⟨((s6.1.set (Int.toNat s6.2.2) (TCell.mk s6.2.1 v9.Value)).set (Int.toNat s6.2.2) (TCell.mk v11.Key (IntKind.wrap .i64 (s6.2.1 + 1))), (IntKind.wrap .i64 ((IntKind.wrap .i64 (s6.2.1 + 1)) + 1)), (IntKind.wrap .i64 (s6.2.2 + 1))), H, (wk_mkG [] (SL.cons (eR rfl) rfl (VWk.one (CWk.len (by first | (simp; done) | (simp; omega) | omega))) (SL.cons (eR rfl) rfl VWk.rfl (SL.cons eZ rfl VWk.rfl SL.nil))) (BL.keep rfl BL.nil) (BK.cons rfl bZ rfl rfl BK.nil) (GK.cons rfl GK.nil))⟩
    · refine AW.condF eZ (decide_eq_false h8) ?_
      refine AW.exit ?_
      refine TQ.qe ?_
      refine TQ.qe ?_
      refine BQ.qe ?_
      exact TQ.qn ⟨(s6.1, s6.2.1), H, (wk_mkG [] (SL.cons (eR rfl) rfl VWk.rfl SL.nil) (BL.keep rfl BL.nil) (BK.cons rfl bZ rfl rfl BK.nil) (GK.cons rfl GK.nil))⟩

theorem c_laws_markMove {a1 : TMove} {a2 : Int} {r : (Int × TMove)} (H : m_laws_markMove a1 a2 = some r) : Fn Try.prog k_laws_markMove [⟨(.agg (d_TMove a1)), .m (.agg (d_TMove r.2))⟩, ⟨(.int .i64 a2), .b⟩] true [(.int .i64 r.1)] := by
  refine i_laws_markMove_fnM (Nat.le_of_ble_eq_true rfl) (fC nZ rfl fN) rfl ?_
  rw [initM_mk]
  refine AW.weaken (t := mk [(0, (.agg [(.d (.int .i64 a1.No)), (.d (.int .i64 a1.Stage)), (.d (.int .i64 a1.Lo)), (.d (.int .i64 a1.Hi)), (.d (.int .i64 a1.From)), (.d (.int .i64 a1.To)), (.sl 6 0 a1.Cells.length)])), (1, (.one (.d (.int .i64 a2))))] [(6, (.data 2 (List.map d_TCell a1.Cells) true none))] (lk [(0, (.agg [(.d (.int .i64 a1.No)), (.d (.int .i64 a1.Stage)), (.d (.int .i64 a1.Lo)), (.d (.int .i64 a1.Hi)), (.d (.int .i64 a1.From)), (.d (.int .i64 a1.To)), (.sl 6 0 ((List.map d_TCell a1.Cells).length))]))])) (wk_mkG (gl := [(0, (.agg [(.d (.int .i64 a1.No)), (.d (.int .i64 a1.Stage)), (.d (.int .i64 a1.Lo)), (.d (.int .i64 a1.Hi)), (.d (.int .i64 a1.From)), (.d (.int .i64 a1.To)), (.sl 6 0 ((List.map d_TCell a1.Cells).length))]))]) [] (SL.cons (v := (.agg [(.d (.int .i64 a1.No)), (.d (.int .i64 a1.Stage)), (.d (.int .i64 a1.Lo)), (.d (.int .i64 a1.Hi)), (.d (.int .i64 a1.From)), (.d (.int .i64 a1.To)), (.sl 6 0 a1.Cells.length)])) eZ rfl (VWk.agg (CsWk.cons CWk.rfl (CsWk.cons CWk.rfl (CsWk.cons CWk.rfl (CsWk.cons CWk.rfl (CsWk.cons CWk.rfl (CsWk.cons CWk.rfl (CsWk.cons (CWk.len (List.length_map _)) CsWk.nil)))))))) (SL.cons (v := (.one (.d (.int .i64 a2)))) (eS rfl eZ) rfl VWk.rfl SL.nil)) (BL.keep rfl BL.nil) (BK.cons (n := 6) rfl bZ rfl rfl BK.nil) (GK.cons rfl GK.nil)) ?_
  unfold m_laws_markMove at H
  unfold i_laws_markMove
  refine AW.seq ?_
  refine AW.regs ?_
  refine oBox (n := 128) (m := 7) (cs := [(.d (.int .i64 a1.No)), (.d (.int .i64 a1.Stage)), (.d (.int .i64 a1.Lo)), (.d (.int .i64 a1.Hi)), (.d (.int .i64 a1.From)), (.d (.int .i64 a1.To)), (.sl 6 0 a1.Cells.length)]) rfl eZ rfl rfl (nS rfl nZ) ?_
  refine oMov eC ?_
  refine xNil ?_
  refine TQ.qn ?_
  refine AW.seq ?_
  refine AW.regm ?_
  refine rmOne ?_
  refine oFaddrN (m := 6) (eS rfl eZ) rfl ?_
  refine xNil ?_
  refine rmOne ?_
  refine oLoadV (q := 6) (c := (.sl 6 0 a1.Cells.length)) eZ bZ rfl rfl ?_
  refine xNil ?_
  refine rmOne ?_
  refine oMov (eR rfl) ?_
  refine xNil ?_
  obtain ⟨v3, h4, H⟩ := obind H
  obtain ⟨h5, H⟩ := oguard H
  refine rmCallI (ON := [6]) (ls := []) (G := []) (E := [subKey 6]) (MB := [(6, (.data 2 (List.map d_TCell v3.2) true none))]) (u := (.one (.d (.int .i64 v3.1)))) eC Cl.fn (c_laws_markCellS h4) (Evs.cons (eS rfl eZ) (Evs.cons eZ Evs.nil)) (AO.mut (VO.sl (bS rfl bZ) (List.length_map _) (allFlat fun _ => rfl)) (AO.lent VD.plain rfl AO.nil)) rfl rfl rfl (SZ.cons (bS rfl bZ) (allFlat fun _ => rfl) SZ.nil) (erL.cons (v' := (.one (.d (.int .i64 a2)))) rfl (erL.cons (v' := (.one (.sl 6 0 a1.Cells.length))) rfl (erL.cons (v' := (.one (.ptr (.nm 128 0 6)))) rfl (erL.cons (v' := (.one (.d (.int .i64 0)))) rfl (erL.cons (v' := (.one (.ptr (.nm 128 0 0)))) rfl (erL.cons (v' := (.agg [(.d (.int .i64 a1.No)), (.d (.int .i64 a1.Stage)), (.d (.int .i64 a1.Lo)), (.d (.int .i64 a1.Hi)), (.d (.int .i64 a1.From)), (.d (.int .i64 a1.To)), (.sl 6 0 a1.Cells.length)])) rfl (erL.cons (v' := (.one (.d (.int .i64 a2)))) rfl erL.nil))))))) (erH.cons (v' := (.vars 7 [(.d (.int .i64 a1.No)), (.d (.int .i64 a1.Stage)), (.d (.int .i64 a1.Lo)), (.d (.int .i64 a1.Hi)), (.d (.int .i64 a1.From)), (.d (.int .i64 a1.To)), (.sl 6 0 a1.Cells.length)])) rfl rfl (erH.cons (v' := (.data 2 (List.map d_TCell a1.Cells) true none)) rfl rfl erH.nil)) (erL.cons (v' := (.agg [(.d (.int .i64 a1.No)), (.d (.int .i64 a1.Stage)), (.d (.int .i64 a1.Lo)), (.d (.int .i64 a1.Hi)), (.d (.int .i64 a1.From)), (.d (.int .i64 a1.To)), (.sl 6 0 ((List.map d_TCell a1.Cells).length))])) rfl erL.nil) rfl rfl ?_
  refine rmRest ?_
  refine oMov eZ ?_
  refine xNil ?_
  refine TQ.qn ?_
  refine AW.seq ?_
  refine AW.regs ?_
  refine oMov eZ ?_
  refine oMov eZ ?_
  refine xNil ?_
  refine TQ.qn ?_
  refine AW.ret ?_
  obtain ⟨h6, H⟩ := oguard H
  obtain rfl := Option.some.inj H
  exact endsRM (RL.cons (RV.tmp eZ) (VO.flat rfl) RL.nil) (ML.mut eZ (VO.aggs (VOs.cons (VO.flat rfl) (VOs.cons (VO.flat rfl) (VOs.cons (VO.flat rfl) (VOs.cons (VO.flat rfl) (VOs.cons (VO.flat rfl) (VOs.cons (VO.flat rfl) (VOs.cons (VO.sl bZ (by first | (simp; done) | (simp; omega) | omega) (allFlat fun _ => rfl)) VOs.nil)))))))) (ML.lent ML.nil)) (by decide)

theorem c_laws_markAtlas {a1 : TAtlas} {a2 : Int} {r : (Int × TAtlas)} (H : m_laws_markAtlas a1 a2 = some r) : Fn Try.prog k_laws_markAtlas [⟨(.agg (d_TAtlas a1)), .m (.agg (d_TAtlas r.2))⟩, ⟨(.int .i64 a2), .b⟩] true [(.int .i64 r.1)] := by
  refine i_laws_markAtlas_fnM (Nat.le_of_ble_eq_true rfl) (fC nZ rfl (fC nZ rfl fN)) rfl ?_
  rw [initM_mk]
  refine AW.weaken (t := mk [(0, (.agg [(.d (.int .i64 a1.Epoch)), (.sl 1 0 a1.Parts.length), (.d (.int .i64 a1.Move.No)), (.d (.int .i64 a1.Move.Stage)), (.d (.int .i64 a1.Move.Lo)), (.d (.int .i64 a1.Move.Hi)), (.d (.int .i64 a1.Move.From)), (.d (.int .i64 a1.Move.To)), (.sl 8 0 a1.Move.Cells.length)])), (1, (.one (.d (.int .i64 a2))))] [(8, (.data 2 (List.map d_TCell a1.Move.Cells) true none)), (1, (.data 3 (List.map d_TPart a1.Parts) true none))] (lk [(0, (.agg [(.d (.int .i64 a1.Epoch)), (.sl 1 0 ((List.map d_TPart a1.Parts).length)), (.d (.int .i64 a1.Move.No)), (.d (.int .i64 a1.Move.Stage)), (.d (.int .i64 a1.Move.Lo)), (.d (.int .i64 a1.Move.Hi)), (.d (.int .i64 a1.Move.From)), (.d (.int .i64 a1.Move.To)), (.sl 8 0 ((List.map d_TCell a1.Move.Cells).length))]))])) (wk_mkG (gl := [(0, (.agg [(.d (.int .i64 a1.Epoch)), (.sl 1 0 ((List.map d_TPart a1.Parts).length)), (.d (.int .i64 a1.Move.No)), (.d (.int .i64 a1.Move.Stage)), (.d (.int .i64 a1.Move.Lo)), (.d (.int .i64 a1.Move.Hi)), (.d (.int .i64 a1.Move.From)), (.d (.int .i64 a1.Move.To)), (.sl 8 0 ((List.map d_TCell a1.Move.Cells).length))]))]) [] (SL.cons (v := (.agg [(.d (.int .i64 a1.Epoch)), (.sl 1 0 a1.Parts.length), (.d (.int .i64 a1.Move.No)), (.d (.int .i64 a1.Move.Stage)), (.d (.int .i64 a1.Move.Lo)), (.d (.int .i64 a1.Move.Hi)), (.d (.int .i64 a1.Move.From)), (.d (.int .i64 a1.Move.To)), (.sl 8 0 a1.Move.Cells.length)])) eZ rfl (VWk.agg (CsWk.cons CWk.rfl (CsWk.cons (CWk.len (List.length_map _)) (CsWk.cons CWk.rfl (CsWk.cons CWk.rfl (CsWk.cons CWk.rfl (CsWk.cons CWk.rfl (CsWk.cons CWk.rfl (CsWk.cons CWk.rfl (CsWk.cons (CWk.len (List.length_map _)) CsWk.nil)))))))))) (SL.cons (v := (.one (.d (.int .i64 a2)))) (eS rfl eZ) rfl VWk.rfl SL.nil)) (BL.keep rfl (BL.keep rfl BL.nil)) (BK.cons (n := 8) rfl bZ rfl rfl (BK.cons (n := 1) rfl (bS rfl bZ) rfl rfl BK.nil)) (GK.cons rfl GK.nil)) ?_
  unfold m_laws_markAtlas at H
  unfold i_laws_markAtlas
  refine AW.seq ?_
  refine AW.regs ?_
  refine oBox (n := 128) (m := 9) (cs := [(.d (.int .i64 a1.Epoch)), (.sl 1 0 a1.Parts.length), (.d (.int .i64 a1.Move.No)), (.d (.int .i64 a1.Move.Stage)), (.d (.int .i64 a1.Move.Lo)), (.d (.int .i64 a1.Move.Hi)), (.d (.int .i64 a1.Move.From)), (.d (.int .i64 a1.Move.To)), (.sl 8 0 a1.Move.Cells.length)]) rfl eZ rfl rfl (nS rfl (nS rfl nZ)) ?_
  refine oMov eC ?_
  refine xNil ?_
  refine TQ.qn ?_
  refine AW.seq ?_
  refine AW.regm ?_
  refine rmOne ?_
  refine oFaddrN (m := 1) (eS rfl eZ) rfl ?_
  refine xNil ?_
  refine rmOne ?_
  refine oLoadV (q := 1) (c := (.sl 1 0 a1.Parts.length)) eZ bZ rfl rfl ?_
  refine xNil ?_
  refine rmOne ?_
  refine oMov (eR rfl) ?_
  refine xNil ?_
  obtain ⟨v3, h4, H⟩ := obind H
  obtain ⟨h5, H⟩ := oguard H
  refine rmCallI (ON := [1]) (ls := []) (G := []) (E := [subKey 1]) (MB := [(1, (.data 3 (List.map d_TPart v3.2) true none))]) (u := (.one (.d (.int .i64 v3.1)))) eC Cl.fn (c_laws_markPartS h4) (Evs.cons (eS rfl eZ) (Evs.cons eZ Evs.nil)) (AO.mut (VO.sl (bS rfl (bS rfl bZ)) (List.length_map _) (allFlat fun _ => rfl)) (AO.lent VD.plain rfl AO.nil)) rfl rfl rfl (SZ.cons (bS rfl (bS rfl bZ)) (allFlat fun _ => rfl) SZ.nil) (erL.cons (v' := (.one (.d (.int .i64 a2)))) rfl (erL.cons (v' := (.one (.sl 1 0 a1.Parts.length))) rfl (erL.cons (v' := (.one (.ptr (.nm 128 0 1)))) rfl (erL.cons (v' := (.one (.d (.int .i64 0)))) rfl (erL.cons (v' := (.one (.ptr (.nm 128 0 0)))) rfl (erL.cons (v' := (.agg [(.d (.int .i64 a1.Epoch)), (.sl 1 0 a1.Parts.length), (.d (.int .i64 a1.Move.No)), (.d (.int .i64 a1.Move.Stage)), (.d (.int .i64 a1.Move.Lo)), (.d (.int .i64 a1.Move.Hi)), (.d (.int .i64 a1.Move.From)), (.d (.int .i64 a1.Move.To)), (.sl 8 0 a1.Move.Cells.length)])) rfl (erL.cons (v' := (.one (.d (.int .i64 a2)))) rfl erL.nil))))))) (erH.cons (v' := (.vars 9 [(.d (.int .i64 a1.Epoch)), (.sl 1 0 a1.Parts.length), (.d (.int .i64 a1.Move.No)), (.d (.int .i64 a1.Move.Stage)), (.d (.int .i64 a1.Move.Lo)), (.d (.int .i64 a1.Move.Hi)), (.d (.int .i64 a1.Move.From)), (.d (.int .i64 a1.Move.To)), (.sl 8 0 a1.Move.Cells.length)])) rfl rfl (erH.cons (v' := (.data 2 (List.map d_TCell a1.Move.Cells) true none)) rfl rfl (erH.cons (v' := (.data 3 (List.map d_TPart a1.Parts) true none)) rfl rfl erH.nil))) (erL.cons (v' := (.agg [(.d (.int .i64 a1.Epoch)), (.sl 1 0 ((List.map d_TPart a1.Parts).length)), (.d (.int .i64 a1.Move.No)), (.d (.int .i64 a1.Move.Stage)), (.d (.int .i64 a1.Move.Lo)), (.d (.int .i64 a1.Move.Hi)), (.d (.int .i64 a1.Move.From)), (.d (.int .i64 a1.Move.To)), (.sl 8 0 ((List.map d_TCell a1.Move.Cells).length))])) rfl erL.nil) rfl rfl ?_
  refine rmRest ?_
  refine oMov eZ ?_
  refine xNil ?_
  refine TQ.qn ?_
  refine AW.seq ?_
  refine AW.regm ?_
  refine rmOne ?_
  refine oFaddrN (m := 2) (eR rfl) rfl ?_
  refine xNil ?_
  refine rmOne ?_
  refine oLoadVA (es := [(.d (.int .i64 a1.Move.No)), (.d (.int .i64 a1.Move.Stage)), (.d (.int .i64 a1.Move.Lo)), (.d (.int .i64 a1.Move.Hi)), (.d (.int .i64 a1.Move.From)), (.d (.int .i64 a1.Move.To)), (.sl 8 0 a1.Move.Cells.length)]) eZ (bS rfl bZ) rfl ?_
  refine xNil ?_
  refine rmOne ?_
  refine oMov (eR rfl) ?_
  refine xNil ?_
  obtain ⟨v6, h7, H⟩ := obind H
  obtain ⟨h8, H⟩ := oguard H
  refine rmCallI (ON := [8]) (ls := []) (G := []) (E := [subKey 8]) (MB := [(8, (.data 2 (List.map d_TCell v6.2.Cells) true none))]) (u := (.one (.d (.int .i64 v6.1)))) eC Cl.fn (c_laws_markMove h7) (Evs.cons (eS rfl eZ) (Evs.cons eZ Evs.nil)) (AO.mut (VO.aggs (VOs.cons (VO.flat rfl) (VOs.cons (VO.flat rfl) (VOs.cons (VO.flat rfl) (VOs.cons (VO.flat rfl) (VOs.cons (VO.flat rfl) (VOs.cons (VO.flat rfl) (VOs.cons (VO.sl (bS rfl (bS rfl bZ)) (List.length_map _) (allFlat fun _ => rfl)) VOs.nil)))))))) (AO.lent VD.plain rfl AO.nil)) rfl rfl rfl (SZ.cons (bS rfl (bS rfl bZ)) (allFlat fun _ => rfl) SZ.nil) (erL.cons (v' := (.one (.d (.int .i64 v3.1)))) rfl (erL.cons (v' := (.agg [(.d (.int .i64 a1.Move.No)), (.d (.int .i64 a1.Move.Stage)), (.d (.int .i64 a1.Move.Lo)), (.d (.int .i64 a1.Move.Hi)), (.d (.int .i64 a1.Move.From)), (.d (.int .i64 a1.Move.To)), (.sl 8 0 a1.Move.Cells.length)])) rfl (erL.cons (v' := (.one (.ptr (.nm 128 0 2)))) rfl (erL.cons (v' := (.one (.d (.int .i64 v3.1)))) rfl (erL.cons (v' := (.one (.d (.int .i64 v3.1)))) rfl (erL.cons (v' := (.one (.d (.int .i64 a2)))) rfl (erL.cons (v' := (.one (.sl 1 0 a1.Parts.length))) rfl (erL.cons (v' := (.one (.ptr (.nm 128 0 1)))) rfl (erL.cons (v' := (.one (.d (.int .i64 0)))) rfl (erL.cons (v' := (.one (.ptr (.nm 128 0 0)))) rfl (erL.cons (v' := (.agg [(.d (.int .i64 a1.Epoch)), (.sl 1 0 a1.Parts.length), (.d (.int .i64 a1.Move.No)), (.d (.int .i64 a1.Move.Stage)), (.d (.int .i64 a1.Move.Lo)), (.d (.int .i64 a1.Move.Hi)), (.d (.int .i64 a1.Move.From)), (.d (.int .i64 a1.Move.To)), (.sl 8 0 a1.Move.Cells.length)])) rfl (erL.cons (v' := (.one (.d (.int .i64 a2)))) rfl erL.nil)))))))))))) (erH.cons (v' := (.data 3 (List.map d_TPart v3.2) true none)) rfl rfl (erH.cons (v' := (.vars 9 [(.d (.int .i64 a1.Epoch)), (.sl 1 0 a1.Parts.length), (.d (.int .i64 a1.Move.No)), (.d (.int .i64 a1.Move.Stage)), (.d (.int .i64 a1.Move.Lo)), (.d (.int .i64 a1.Move.Hi)), (.d (.int .i64 a1.Move.From)), (.d (.int .i64 a1.Move.To)), (.sl 8 0 a1.Move.Cells.length)])) rfl rfl (erH.cons (v' := (.data 2 (List.map d_TCell a1.Move.Cells) true none)) rfl rfl (erH.cons (v' := (.data 3 (List.map d_TPart a1.Parts) true none)) rfl rfl erH.nil)))) (erL.cons (v' := (.agg [(.d (.int .i64 a1.Epoch)), (.sl 1 0 ((List.map d_TPart a1.Parts).length)), (.d (.int .i64 a1.Move.No)), (.d (.int .i64 a1.Move.Stage)), (.d (.int .i64 a1.Move.Lo)), (.d (.int .i64 a1.Move.Hi)), (.d (.int .i64 a1.Move.From)), (.d (.int .i64 a1.Move.To)), (.sl 8 0 ((List.map d_TCell a1.Move.Cells).length))])) rfl erL.nil) rfl rfl ?_
  refine rmRest ?_
  refine oMov eZ ?_
  refine xNil ?_
  refine TQ.qn ?_
  refine AW.seq ?_
  refine AW.regs ?_
  refine oMov eZ ?_
  refine oMov eZ ?_
  refine xNil ?_
  refine TQ.qn ?_
  refine AW.weaken (wk_mkG [128] (SL.cons (k := 4) eZ rfl VWk.rfl SL.nil) (BL.keep rfl (BL.keep rfl (BL.drop rfl (BL.keep rfl (BL.keep rfl BL.nil))))) (BK.cons (n := 8) rfl bZ rfl rfl (BK.cons (n := 1) rfl (bS rfl bZ) rfl rfl BK.nil)) (GK.cons rfl GK.nil)) ?_
  refine AW.ret ?_
  obtain ⟨h9, H⟩ := oguard H
  obtain ⟨h10, H⟩ := oguard H
  obtain rfl := Option.some.inj H
  exact endsRM (RL.cons (RV.tmp eZ) (VO.flat rfl) RL.nil) (ML.mut eZ (VO.aggs (VOs.cons (VO.flat rfl) (VOs.cons (VO.sl (bS rfl bZ) (by first | (simp; done) | (simp; omega) | omega) (allFlat fun _ => rfl)) (VOs.cons (VO.flat rfl) (VOs.cons (VO.flat rfl) (VOs.cons (VO.flat rfl) (VOs.cons (VO.flat rfl) (VOs.cons (VO.flat rfl) (VOs.cons (VO.flat rfl) (VOs.cons (VO.sl bZ (by first | (simp; done) | (simp; omega) | omega) (allFlat fun _ => rfl)) VOs.nil)))))))))) (ML.lent ML.nil)) (by decide)

theorem c_laws_heldPartS {a1 : (List TPart)} {a2 : Int} {r : Int} (H : m_laws_heldPartS a1 a2 = some r) : Fn Try.prog k_laws_heldPartS (lent [(.sl 3 (List.map d_TPart a1)), (.int .i64 a2)]) true [(.int .i64 r)] := by
  refine i_laws_heldPartS_fn (Nat.le_of_ble_eq_true rfl) ?_
  rw [init_mk]
  refine AW.weaken (wk_mk [] (SL.cons (v := (.one (.d (.sl 3 (List.map d_TPart a1))))) eZ rfl VWk.rfl (SL.cons (v := (.one (.d (.int .i64 a2)))) (eS rfl eZ) rfl VWk.rfl SL.nil)) BL.nil BK.nil) ?_
  unfold m_laws_heldPartS at H
  unfold i_laws_heldPartS
  refine AW.seq ?_
  refine AW.regs ?_
  refine oMov eC ?_
  refine xNil ?_
  refine TQ.qn ?_
  refine AW.seqJ (fun t3 : Int => laws_heldPartS_j3 t3 = some r) (fun t3 => mk [(1, (.one (.d (.int .i64 t3))))] [] noG) ?_ ?_
  · intro t3 H
    unfold laws_heldPartS_j3 at H
    refine AW.seq ?_
    refine AW.regs ?_
    refine oMov eZ ?_
    refine oMov eZ ?_
    refine xNil ?_
    refine TQ.qn ?_
    refine AW.ret ?_
    obtain rfl := Option.some.inj H
    exact endsR (RL.cons (RV.tmp eZ) (VO.flat rfl) RL.nil) List.nodup_nil
  · refine AW.seq ?_
    refine AW.regs ?_
    refine oMov eC ?_
    refine xNil ?_
    refine TQ.qn ?_
    refine AW.block ?_
    refine AW.iter (fun s5 : (Int × Int) => mk [(0, (.one (.d (.sl 3 (List.map d_TPart a1))))), (1, (.one (.d (.int .i64 s5.1)))), (5, (.one (.d (.int .i64 s5.2))))] [] noG) H (wk_mk [] (SL.cons (eR rfl) rfl VWk.rfl (SL.cons (eR rfl) rfl VWk.rfl (SL.cons eZ rfl VWk.rfl SL.nil))) BL.nil BK.nil) ?_
    intro kb6 s5 H
    unfold laws_heldPartS_b5 at H
    refine AW.seq ?_
    refine AW.seq ?_
    refine AW.regs ?_
    refine oMov (eR rfl) ?_
    refine oMov (eS rfl eZ) ?_
    refine oLenD eZ (n := a1.length) (List.length_map _) ?_
    refine oLss (eR rfl) eZ ?_
    refine xNil ?_
    refine TQ.qn ?_
    rcases oite H with ⟨h7, H⟩ | ⟨h7, H⟩
    · refine AW.condT eZ (decide_eq_true h7) ?_
      refine AW.skip ?_
      refine TQ.qn ?_
      refine AW.seq ?_
      refine AW.block ?_
      refine AW.seq ?_
      refine AW.seq ?_
      refine AW.regs ?_
      refine oMov (eR rfl) ?_
      refine oMov (eR rfl) ?_
      obtain ⟨v8, h9, H⟩ := obind H
      refine oAtD (eS rfl eZ) eZ h9 ?_
      refine oFaddrB (m := 0) eZ rfl ?_
      refine oLoadB (e := (.int .i64 v8.Lo)) eZ rfl ?_
      refine oMov (eR rfl) ?_
      refine oNeq (eS rfl eZ) eZ ?_
      refine xNil ?_
      refine TQ.qn ?_
      rcases oite H with ⟨h10, H⟩ | ⟨h10, H⟩
      · refine AW.condT eZ (decide_eq_true h10) ?_
        refine AW.seq ?_
        refine AW.regs ?_
        refine oMov eC ?_
        refine xNil ?_
        refine TQ.qn ?_
        refine AW.ret ?_
        refine TQ.qr ?_
        refine BQ.qr ?_
        refine TQ.qr ?_
        refine TQ.qr ?_
        refine BQ.qr ?_
        refine TQ.qr ?_
        obtain rfl := Option.some.inj H
        exact endsR (RL.cons (RV.tmp eZ) (VO.flat rfl) RL.nil) List.nodup_nil
      · refine AW.condF eZ (decide_eq_false h10) ?_
        refine AW.skip ?_
        refine TQ.qn ?_
        refine AW.seq ?_
        refine AW.regs ?_
        refine oMov (eR rfl) ?_
        refine oAdd eZ eC ?_
        refine oMov eZ ?_
        refine xNil ?_
        refine TQ.qn ?_
        refine AW.weaken (wk_mk [] (SL.cons (k := 1) eZ rfl VWk.rfl (SL.cons (k := 0) (eR rfl) rfl VWk.rfl (SL.cons (k := 5) (eR rfl) rfl VWk.rfl SL.nil))) BL.nil BK.nil) ?_
        refine AW.seq ?_
        refine AW.seq ?_
        refine AW.regs ?_
        refine oMov (eS rfl eZ) ?_
        refine oMov (eR rfl) ?_
        obtain ⟨v11, h12, H⟩ := obind H
        refine oAtD (eS rfl eZ) eZ h12 ?_
        refine oFaddrB (m := 1) eZ rfl ?_
        refine oLoadB (e := (.int .i64 v11.Hi)) eZ rfl ?_
        refine oMov (eR rfl) ?_
        refine oNeq (eS rfl eZ) eZ ?_
        refine xNil ?_
        refine TQ.qn ?_
        rcases oite H with ⟨h13, H⟩ | ⟨h13, H⟩
        · refine AW.condT eZ (decide_eq_true h13) ?_
          refine AW.seq ?_
          refine AW.regs ?_
          refine oMov eC ?_
          refine xNil ?_
          refine TQ.qn ?_
          refine AW.ret ?_
          refine TQ.qr ?_
          refine BQ.qr ?_
          refine TQ.qr ?_
          refine TQ.qr ?_
          refine BQ.qr ?_
          refine TQ.qr ?_
          obtain rfl := Option.some.inj H
          exact endsR (RL.cons (RV.tmp eZ) (VO.flat rfl) RL.nil) List.nodup_nil
        · refine AW.condF eZ (decide_eq_false h13) ?_
          refine AW.skip ?_
          refine TQ.qn ?_
          refine AW.seq ?_
          refine AW.regs ?_
          refine oMov (eR rfl) ?_
          refine oAdd eZ eC ?_
          refine oMov eZ ?_
          refine xNil ?_
          refine TQ.qn ?_
          refine AW.seq ?_
          refine AW.seq ?_
          refine AW.regs ?_
          refine oMov (eR rfl) ?_
          refine oMov (eR rfl) ?_
          obtain ⟨v14, h15, H⟩ := obind H
          refine oAtD (eS rfl eZ) eZ h15 ?_
          refine oFaddrB (m := 2) eZ rfl ?_
          refine oLoadB (e := (.int .i64 v14.Owner)) eZ rfl ?_
          refine oMov (eR rfl) ?_
          refine oNeq (eS rfl eZ) eZ ?_
          refine xNil ?_
          refine TQ.qn ?_
          refine AW.weaken (wk_mk [] (SL.cons (k := 36) eZ rfl VWk.rfl (SL.cons (k := 1) (eR rfl) rfl VWk.rfl (SL.cons (k := 0) (eR rfl) rfl VWk.rfl (SL.cons (k := 5) (eR rfl) rfl VWk.rfl SL.nil)))) BL.nil BK.nil) ?_
          rcases oite H with ⟨h16, H⟩ | ⟨h16, H⟩
          · refine AW.condT eZ (decide_eq_true h16) ?_
            refine AW.seq ?_
            refine AW.regs ?_
            refine oMov eC ?_
            refine xNil ?_
            refine TQ.qn ?_
            refine AW.ret ?_
            refine TQ.qr ?_
            refine BQ.qr ?_
            refine TQ.qr ?_
            refine TQ.qr ?_
            refine BQ.qr ?_
            refine TQ.qr ?_
            obtain rfl := Option.some.inj H
            exact endsR (RL.cons (RV.tmp eZ) (VO.flat rfl) RL.nil) List.nodup_nil
          · refine AW.condF eZ (decide_eq_false h16) ?_
            refine AW.skip ?_
            refine TQ.qn ?_
            refine AW.regs ?_
            refine oMov (eS rfl eZ) ?_
            refine oAdd eZ eC ?_
            refine oMov eZ ?_
            refine xNil ?_
            refine BQ.qn ?_
            refine TQ.qn ?_
            refine AW.regs ?_
            refine oMov (eR rfl) ?_
            refine oAdd eZ eC ?_
            refine oMov eZ ?_
            refine xNil ?_
            exact TQ.qn ⟨((IntKind.wrap .i64 ((IntKind.wrap .i64 ((IntKind.wrap .i64 (s5.1 + 1)) + 1)) + 1)), (IntKind.wrap .i64 (s5.2 + 1))), H, (wk_mk [] (SL.cons (eR rfl) rfl VWk.rfl (SL.cons (eR rfl) rfl VWk.rfl (SL.cons eZ rfl VWk.rfl SL.nil))) BL.nil BK.nil)⟩
    · refine AW.condF eZ (decide_eq_false h7) ?_
      refine AW.exit ?_
      refine TQ.qe ?_
      refine TQ.qe ?_
      refine BQ.qe ?_
      exact TQ.qn ⟨s5.1, H, (wk_mk [] (SL.cons (eR rfl) rfl VWk.rfl SL.nil) BL.nil BK.nil)⟩

theorem c_laws_heldCellS {a1 : (List TCell)} {a2 : Int} {r : Int} (H : m_laws_heldCellS a1 a2 = some r) : Fn Try.prog k_laws_heldCellS (lent [(.sl 2 (List.map d_TCell a1)), (.int .i64 a2)]) true [(.int .i64 r)] := by
  refine i_laws_heldCellS_fn (Nat.le_of_ble_eq_true rfl) ?_
  rw [init_mk]
  refine AW.weaken (wk_mk [] (SL.cons (v := (.one (.d (.sl 2 (List.map d_TCell a1))))) eZ rfl VWk.rfl (SL.cons (v := (.one (.d (.int .i64 a2)))) (eS rfl eZ) rfl VWk.rfl SL.nil)) BL.nil BK.nil) ?_
  unfold m_laws_heldCellS at H
  unfold i_laws_heldCellS
  refine AW.seq ?_
  refine AW.regs ?_
  refine oMov eC ?_
  refine xNil ?_
  refine TQ.qn ?_
  refine AW.seqJ (fun t3 : Int => laws_heldCellS_j3 t3 = some r) (fun t3 => mk [(1, (.one (.d (.int .i64 t3))))] [] noG) ?_ ?_
  · intro t3 H
    unfold laws_heldCellS_j3 at H
    refine AW.seq ?_
    refine AW.regs ?_
    refine oMov eZ ?_
    refine oMov eZ ?_
    refine xNil ?_
    refine TQ.qn ?_
    refine AW.ret ?_
    obtain rfl := Option.some.inj H
    exact endsR (RL.cons (RV.tmp eZ) (VO.flat rfl) RL.nil) List.nodup_nil
  · refine AW.seq ?_
    refine AW.regs ?_
    refine oMov eC ?_
    refine xNil ?_
    refine TQ.qn ?_
    refine AW.block ?_
    refine AW.iter (fun s5 : (Int × Int) => mk [(0, (.one (.d (.sl 2 (List.map d_TCell a1))))), (1, (.one (.d (.int .i64 s5.1)))), (5, (.one (.d (.int .i64 s5.2))))] [] noG) H (wk_mk [] (SL.cons (eR rfl) rfl VWk.rfl (SL.cons (eR rfl) rfl VWk.rfl (SL.cons eZ rfl VWk.rfl SL.nil))) BL.nil BK.nil) ?_
    intro kb6 s5 H
    unfold laws_heldCellS_b5 at H
    refine AW.seq ?_
    refine AW.seq ?_
    refine AW.regs ?_
    refine oMov (eR rfl) ?_
    refine oMov (eS rfl eZ) ?_
    refine oLenD eZ (n := a1.length) (List.length_map _) ?_
    refine oLss (eR rfl) eZ ?_
    refine xNil ?_
    refine TQ.qn ?_
    rcases oite H with ⟨h7, H⟩ | ⟨h7, H⟩
    · refine AW.condT eZ (decide_eq_true h7) ?_
      refine AW.skip ?_
      refine TQ.qn ?_
      refine AW.seq ?_
      refine AW.block ?_
      refine AW.seq ?_
      refine AW.seq ?_
      refine AW.regs ?_
      refine oMov (eR rfl) ?_
      refine oMov (eR rfl) ?_
      obtain ⟨v8, h9, H⟩ := obind H
      refine oAtD (eS rfl eZ) eZ h9 ?_
      refine oFaddrB (m := 0) eZ rfl ?_
      refine oLoadB (e := (.int .i64 v8.Key)) eZ rfl ?_
      refine oMov (eR rfl) ?_
      refine oNeq (eS rfl eZ) eZ ?_
      refine xNil ?_
      refine TQ.qn ?_
      rcases oite H with ⟨h10, H⟩ | ⟨h10, H⟩
      · refine AW.condT eZ (decide_eq_true h10) ?_
        refine AW.seq ?_
        refine AW.regs ?_
        refine oMov eC ?_
        refine xNil ?_
        refine TQ.qn ?_
        refine AW.ret ?_
        refine TQ.qr ?_
        refine BQ.qr ?_
        refine TQ.qr ?_
        refine TQ.qr ?_
        refine BQ.qr ?_
        refine TQ.qr ?_
        obtain rfl := Option.some.inj H
        exact endsR (RL.cons (RV.tmp eZ) (VO.flat rfl) RL.nil) List.nodup_nil
      · refine AW.condF eZ (decide_eq_false h10) ?_
        refine AW.skip ?_
        refine TQ.qn ?_
        refine AW.seq ?_
        refine AW.regs ?_
        refine oMov (eR rfl) ?_
        refine oAdd eZ eC ?_
        refine oMov eZ ?_
        refine xNil ?_
        refine TQ.qn ?_
        refine AW.weaken (wk_mk [] (SL.cons (k := 1) eZ rfl VWk.rfl (SL.cons (k := 0) (eR rfl) rfl VWk.rfl (SL.cons (k := 5) (eR rfl) rfl VWk.rfl SL.nil))) BL.nil BK.nil) ?_
        refine AW.seq ?_
        refine AW.seq ?_
        refine AW.regs ?_
        refine oMov (eS rfl eZ) ?_
        refine oMov (eR rfl) ?_
        obtain ⟨v11, h12, H⟩ := obind H
        refine oAtD (eS rfl eZ) eZ h12 ?_
        refine oFaddrB (m := 1) eZ rfl ?_
        refine oLoadB (e := (.int .i64 v11.Value)) eZ rfl ?_
        refine oMov (eR rfl) ?_
        refine oNeq (eS rfl eZ) eZ ?_
        refine xNil ?_
        refine TQ.qn ?_
        rcases oite H with ⟨h13, H⟩ | ⟨h13, H⟩
        · refine AW.condT eZ (decide_eq_true h13) ?_
          refine AW.seq ?_
          refine AW.regs ?_
          refine oMov eC ?_
          refine xNil ?_
          refine TQ.qn ?_
          refine AW.ret ?_
          refine TQ.qr ?_
          refine BQ.qr ?_
          refine TQ.qr ?_
          refine TQ.qr ?_
          refine BQ.qr ?_
          refine TQ.qr ?_
          obtain rfl := Option.some.inj H
          exact endsR (RL.cons (RV.tmp eZ) (VO.flat rfl) RL.nil) List.nodup_nil
        · refine AW.condF eZ (decide_eq_false h13) ?_
          refine AW.skip ?_
          refine TQ.qn ?_
          refine AW.regs ?_
          refine oMov (eR rfl) ?_
          refine oAdd eZ eC ?_
          refine oMov eZ ?_
          refine xNil ?_
          refine BQ.qn ?_
          refine TQ.qn ?_
          refine AW.regs ?_
          refine oMov (eR rfl) ?_
          refine oAdd eZ eC ?_
          refine oMov eZ ?_
          refine xNil ?_
          exact TQ.qn ⟨((IntKind.wrap .i64 ((IntKind.wrap .i64 (s5.1 + 1)) + 1)), (IntKind.wrap .i64 (s5.2 + 1))), H, (wk_mk [] (SL.cons (eR rfl) rfl VWk.rfl (SL.cons (eR rfl) rfl VWk.rfl (SL.cons eZ rfl VWk.rfl SL.nil))) BL.nil BK.nil)⟩
    · refine AW.condF eZ (decide_eq_false h7) ?_
      refine AW.exit ?_
      refine TQ.qe ?_
      refine TQ.qe ?_
      refine BQ.qe ?_
      exact TQ.qn ⟨s5.1, H, (wk_mk [] (SL.cons (eR rfl) rfl VWk.rfl SL.nil) BL.nil BK.nil)⟩

theorem c_laws_heldMove {a1 : TMove} {a2 : Int} {r : Int} (H : m_laws_heldMove a1 a2 = some r) : Fn Try.prog k_laws_heldMove (lent [(.agg (d_TMove a1)), (.int .i64 a2)]) true [(.int .i64 r)] := by
  refine i_laws_heldMove_fn (Nat.le_of_ble_eq_true rfl) ?_
  rw [init_mk]
  refine AW.weaken (wk_mk [] (SL.cons (v := (.agg [(.d (.int .i64 a1.No)), (.d (.int .i64 a1.Stage)), (.d (.int .i64 a1.Lo)), (.d (.int .i64 a1.Hi)), (.d (.int .i64 a1.From)), (.d (.int .i64 a1.To)), (.d (.sl 2 (List.map d_TCell a1.Cells)))])) eZ rfl VWk.rfl (SL.cons (v := (.one (.d (.int .i64 a2)))) (eS rfl eZ) rfl VWk.rfl SL.nil)) BL.nil BK.nil) ?_
  unfold m_laws_heldMove at H
  unfold i_laws_heldMove
  refine AW.seq ?_
  refine AW.regs ?_
  refine oBox (n := 128) (m := 7) (cs := [(.d (.int .i64 a1.No)), (.d (.int .i64 a1.Stage)), (.d (.int .i64 a1.Lo)), (.d (.int .i64 a1.Hi)), (.d (.int .i64 a1.From)), (.d (.int .i64 a1.To)), (.d (.sl 2 (List.map d_TCell a1.Cells)))]) rfl eZ rfl rfl nZ ?_
  refine oMov eC ?_
  refine xNil ?_
  refine TQ.qn ?_
  refine AW.seq ?_
  refine AW.regs ?_
  refine oFaddrN (m := 6) (eS rfl eZ) rfl ?_
  refine oLoadV (q := 6) (c := (.d (.sl 2 (List.map d_TCell a1.Cells)))) eZ bZ rfl rfl ?_
  refine oMov (eR rfl) ?_
  obtain ⟨v3, h4, H⟩ := obind H
  refine oCall (u := (.one (.d (.int .i64 v3)))) eC Cl.fn (c_laws_heldCellS h4) (Evs.cons (eS rfl eZ) (Evs.cons eZ Evs.nil)) (VDs.cons VD.plain (VDs.cons VD.plain VDs.nil)) rfl ?_
  refine oMov eZ ?_
  refine xNil ?_
  refine TQ.qn ?_
  refine AW.seq ?_
  refine AW.seq ?_
  refine AW.regs ?_
  refine oMov eZ ?_
  refine oLss eZ eC ?_
  refine xNil ?_
  refine TQ.qn ?_
  rcases oite H with ⟨h5, H⟩ | ⟨h5, H⟩
  · refine AW.condT eZ (decide_eq_true h5) ?_
    refine AW.seq ?_
    refine AW.regs ?_
    refine oMov eC ?_
    refine xNil ?_
    refine TQ.qn ?_
    refine AW.ret ?_
    refine TQ.qr ?_
    obtain rfl := Option.some.inj H
    exact endsR (RL.cons (RV.tmp eZ) (VO.flat rfl) RL.nil) List.nodup_nil
  · refine AW.condF eZ (decide_eq_false h5) ?_
    refine AW.skip ?_
    refine TQ.qn ?_
    refine AW.seq ?_
    refine AW.regs ?_
    refine oMov (eR rfl) ?_
    refine oMov eZ ?_
    refine xNil ?_
    refine TQ.qn ?_
    refine AW.ret ?_
    obtain rfl := Option.some.inj H
    exact endsR (RL.cons (RV.tmp eZ) (VO.flat rfl) RL.nil) List.nodup_nil

theorem c_laws_heldAtlas {a1 : TAtlas} {a2 : Int} {r : Int} (H : m_laws_heldAtlas a1 a2 = some r) : Fn Try.prog k_laws_heldAtlas (lent [(.agg (d_TAtlas a1)), (.int .i64 a2)]) true [(.int .i64 r)] := by
  refine i_laws_heldAtlas_fn (Nat.le_of_ble_eq_true rfl) ?_
  rw [init_mk]
  refine AW.weaken (wk_mk [] (SL.cons (v := (.agg [(.d (.int .i64 a1.Epoch)), (.d (.sl 3 (List.map d_TPart a1.Parts))), (.d (.int .i64 a1.Move.No)), (.d (.int .i64 a1.Move.Stage)), (.d (.int .i64 a1.Move.Lo)), (.d (.int .i64 a1.Move.Hi)), (.d (.int .i64 a1.Move.From)), (.d (.int .i64 a1.Move.To)), (.d (.sl 2 (List.map d_TCell a1.Move.Cells)))])) eZ rfl VWk.rfl (SL.cons (v := (.one (.d (.int .i64 a2)))) (eS rfl eZ) rfl VWk.rfl SL.nil)) BL.nil BK.nil) ?_
  unfold m_laws_heldAtlas at H
  unfold i_laws_heldAtlas
  refine AW.seq ?_
  refine AW.regs ?_
  refine oBox (n := 128) (m := 9) (cs := [(.d (.int .i64 a1.Epoch)), (.d (.sl 3 (List.map d_TPart a1.Parts))), (.d (.int .i64 a1.Move.No)), (.d (.int .i64 a1.Move.Stage)), (.d (.int .i64 a1.Move.Lo)), (.d (.int .i64 a1.Move.Hi)), (.d (.int .i64 a1.Move.From)), (.d (.int .i64 a1.Move.To)), (.d (.sl 2 (List.map d_TCell a1.Move.Cells)))]) rfl eZ rfl rfl nZ ?_
  refine oMov eC ?_
  refine xNil ?_
  refine TQ.qn ?_
  refine AW.seq ?_
  refine AW.regs ?_
  refine oFaddrN (m := 1) (eS rfl eZ) rfl ?_
  refine oLoadV (q := 1) (c := (.d (.sl 3 (List.map d_TPart a1.Parts)))) eZ bZ rfl rfl ?_
  refine oMov (eR rfl) ?_
  obtain ⟨v3, h4, H⟩ := obind H
  refine oCall (u := (.one (.d (.int .i64 v3)))) eC Cl.fn (c_laws_heldPartS h4) (Evs.cons (eS rfl eZ) (Evs.cons eZ Evs.nil)) (VDs.cons VD.plain (VDs.cons VD.plain VDs.nil)) rfl ?_
  refine oMov eZ ?_
  refine xNil ?_
  refine TQ.qn ?_
  refine AW.seq ?_
  refine AW.seq ?_
  refine AW.regs ?_
  refine oMov eZ ?_
  refine oLss eZ eC ?_
  refine xNil ?_
  refine TQ.qn ?_
  rcases oite H with ⟨h5, H⟩ | ⟨h5, H⟩
  · refine AW.condT eZ (decide_eq_true h5) ?_
    refine AW.seq ?_
    refine AW.regs ?_
    refine oMov eC ?_
    refine xNil ?_
    refine TQ.qn ?_
    refine AW.ret ?_
    refine TQ.qr ?_
    obtain rfl := Option.some.inj H
    exact endsR (RL.cons (RV.tmp eZ) (VO.flat rfl) RL.nil) List.nodup_nil
  · refine AW.condF eZ (decide_eq_false h5) ?_
    refine AW.skip ?_
    refine TQ.qn ?_
    refine AW.seq ?_
    refine AW.regs ?_
    refine oFaddrN (m := 2) (eR rfl) rfl ?_
    refine oLoadVA (es := [(.d (.int .i64 a1.Move.No)), (.d (.int .i64 a1.Move.Stage)), (.d (.int .i64 a1.Move.Lo)), (.d (.int .i64 a1.Move.Hi)), (.d (.int .i64 a1.Move.From)), (.d (.int .i64 a1.Move.To)), (.d (.sl 2 (List.map d_TCell a1.Move.Cells)))]) eZ bZ rfl ?_
    refine oMov (eR rfl) ?_
    obtain ⟨v6, h7, H⟩ := obind H
    refine oCall (u := (.one (.d (.int .i64 v6)))) eC Cl.fn (c_laws_heldMove h7) (Evs.cons (eS rfl eZ) (Evs.cons eZ Evs.nil)) (VDs.cons (VD.agg rfl) (VDs.cons VD.plain VDs.nil)) rfl ?_
    refine oMov eZ ?_
    refine xNil ?_
    refine TQ.qn ?_
    refine AW.weaken (wk_mk [128] (SL.cons (k := 1) eZ rfl VWk.rfl SL.nil) (BL.drop rfl BL.nil) BK.nil) ?_
    refine AW.seq ?_
    refine AW.seq ?_
    refine AW.regs ?_
    refine oMov eZ ?_
    refine oLss eZ eC ?_
    refine xNil ?_
    refine TQ.qn ?_
    rcases oite H with ⟨h8, H⟩ | ⟨h8, H⟩
    · refine AW.condT eZ (decide_eq_true h8) ?_
      refine AW.seq ?_
      refine AW.regs ?_
      refine oMov eC ?_
      refine xNil ?_
      refine TQ.qn ?_
      refine AW.ret ?_
      refine TQ.qr ?_
      obtain rfl := Option.some.inj H
      exact endsR (RL.cons (RV.tmp eZ) (VO.flat rfl) RL.nil) List.nodup_nil
    · refine AW.condF eZ (decide_eq_false h8) ?_
      refine AW.skip ?_
      refine TQ.qn ?_
      refine AW.seq ?_
      refine AW.regs ?_
      refine oMov (eR rfl) ?_
      refine oMov eZ ?_
      refine xNil ?_
      refine TQ.qn ?_
      refine AW.ret ?_
      obtain rfl := Option.some.inj H
      exact endsR (RL.cons (RV.tmp eZ) (VO.flat rfl) RL.nil) List.nodup_nil

theorem c_laws_FnExactAtlasSplit {a1 : TAtlas} {a2 : Int} {r : Bool} (H : m_laws_FnExactAtlasSplit a1 a2 = some r) : Fn Try.prog k_laws_FnExactAtlasSplit (lent [(.agg (d_TAtlas a1)), (.int .i64 a2)]) true [(.bool r)] := by
  refine i_laws_FnExactAtlasSplit_fn (Nat.le_of_ble_eq_true rfl) ?_
  rw [init_mk]
  refine AW.weaken (t := mk [(0, (.agg [(.d (.int .i64 a1.Epoch)), (.d (.sl 3 (List.map d_TPart a1.Parts))), (.d (.int .i64 a1.Move.No)), (.d (.int .i64 a1.Move.Stage)), (.d (.int .i64 a1.Move.Lo)), (.d (.int .i64 a1.Move.Hi)), (.d (.int .i64 a1.Move.From)), (.d (.int .i64 a1.Move.To)), (.d (.sl 2 (List.map d_TCell a1.Move.Cells)))])), (1, (.one (.d (.int .i64 a2))))] [] (lk [])) (wk_mk [] (SL.cons (v := (.agg [(.d (.int .i64 a1.Epoch)), (.d (.sl 3 (List.map d_TPart a1.Parts))), (.d (.int .i64 a1.Move.No)), (.d (.int .i64 a1.Move.Stage)), (.d (.int .i64 a1.Move.Lo)), (.d (.int .i64 a1.Move.Hi)), (.d (.int .i64 a1.Move.From)), (.d (.int .i64 a1.Move.To)), (.d (.sl 2 (List.map d_TCell a1.Move.Cells)))])) eZ rfl VWk.rfl (SL.cons (v := (.one (.d (.int .i64 a2)))) (eS rfl eZ) rfl VWk.rfl SL.nil)) BL.nil BK.nil) ?_
  unfold m_laws_FnExactAtlasSplit at H
  unfold i_laws_FnExactAtlasSplit
  refine AW.seq ?_
  refine AW.regs ?_
  refine oBox (n := 128) (m := 9) (cs := [(.d (.int .i64 a1.Epoch)), (.d (.sl 3 (List.map d_TPart a1.Parts))), (.d (.int .i64 a1.Move.No)), (.d (.int .i64 a1.Move.Stage)), (.d (.int .i64 a1.Move.Lo)), (.d (.int .i64 a1.Move.Hi)), (.d (.int .i64 a1.Move.From)), (.d (.int .i64 a1.Move.To)), (.d (.sl 2 (List.map d_TCell a1.Move.Cells)))]) rfl eZ rfl rfl nZ ?_
  refine oMov eC ?_
  refine xNil ?_
  refine TQ.qn ?_
  refine AW.seq ?_
  refine AW.regs ?_
  refine oMov eC ?_
  refine xNil ?_
  refine TQ.qn ?_
  refine AW.seq ?_
  refine AW.regs ?_
  refine oLoadVA (es := [(.d (.int .i64 a1.Epoch)), (.d (.sl 3 (List.map d_TPart a1.Parts))), (.d (.int .i64 a1.Move.No)), (.d (.int .i64 a1.Move.Stage)), (.d (.int .i64 a1.Move.Lo)), (.d (.int .i64 a1.Move.Hi)), (.d (.int .i64 a1.Move.From)), (.d (.int .i64 a1.Move.To)), (.d (.sl 2 (List.map d_TCell a1.Move.Cells)))]) (eR rfl) bZ rfl ?_
  refine oMov (eS rfl eZ) ?_
  obtain ⟨v3, h4, H⟩ := obind H
  refine oCall (u := (.one (.d (.int .i64 v3)))) eC Cl.fn (c_laws_szAtlas h4) (Evs.cons (eS rfl eZ) (Evs.cons eZ Evs.nil)) (VDs.cons (VD.agg rfl) (VDs.cons VD.plain VDs.nil)) rfl ?_
  refine oMov eZ ?_
  refine xNil ?_
  refine TQ.qn ?_
  refine AW.seq ?_
  refine AW.seq ?_
  refine AW.regs ?_
  refine oMov eZ ?_
  refine oLss eZ eC ?_
  refine xNil ?_
  refine TQ.qn ?_
  rcases oite H with ⟨h5, H⟩ | ⟨h5, H⟩
  · refine AW.condT eZ (decide_eq_true h5) ?_
    refine AW.seq ?_
    refine AW.regs ?_
    refine oMov eC ?_
    refine xNil ?_
    refine TQ.qn ?_
    refine AW.ret ?_
    refine TQ.qr ?_
    obtain rfl := Option.some.inj H
    exact endsR (RL.cons (RV.tmp eZ) (VO.flat rfl) RL.nil) List.nodup_nil
  · refine AW.condF eZ (decide_eq_false h5) ?_
    refine AW.skip ?_
    refine TQ.qn ?_
    refine AW.seq ?_
    refine AW.regs ?_
    refine oLoadVA (es := [(.d (.int .i64 a1.Epoch)), (.d (.sl 3 (List.map d_TPart a1.Parts))), (.d (.int .i64 a1.Move.No)), (.d (.int .i64 a1.Move.Stage)), (.d (.int .i64 a1.Move.Lo)), (.d (.int .i64 a1.Move.Hi)), (.d (.int .i64 a1.Move.From)), (.d (.int .i64 a1.Move.To)), (.d (.sl 2 (List.map d_TCell a1.Move.Cells)))]) (eR rfl) bZ rfl ?_
    obtain ⟨v6, h7, H⟩ := obind H
    refine oCall (u := (.agg [(.d (.int .i64 v6.Epoch)), (.d (.sl 3 (List.map d_TPart v6.Parts))), (.d (.int .i64 v6.Move.No)), (.d (.int .i64 v6.Move.Stage)), (.d (.int .i64 v6.Move.Lo)), (.d (.int .i64 v6.Move.Hi)), (.d (.int .i64 v6.Move.From)), (.d (.int .i64 v6.Move.To)), (.d (.sl 2 (List.map d_TCell v6.Move.Cells)))])) eC Cl.fn (c_laws_toAtlas h7) (Evs.cons eZ Evs.nil) (VDs.cons (VD.agg rfl) VDs.nil) rfl ?_
    refine oMov (eR rfl) ?_
    obtain ⟨v8, h9, H⟩ := obind H
    refine oCall (u := (.tup [(.agg [(.d (.int .i64 v8.1.Epoch)), (.d (.sl 3 (List.map d_TPart v8.1.Parts))), (.d (.int .i64 v8.1.Move.No)), (.d (.int .i64 v8.1.Move.Stage)), (.d (.int .i64 v8.1.Move.Lo)), (.d (.int .i64 v8.1.Move.Hi)), (.d (.int .i64 v8.1.Move.From)), (.d (.int .i64 v8.1.Move.To)), (.d (.sl 2 (List.map d_TCell v8.1.Move.Cells)))]), (.one (.d (.int .i64 v8.2)))])) eC Cl.fn (c_spec_AtlasSplit h9) (Evs.cons (eS rfl eZ) (Evs.cons eZ Evs.nil)) (VDs.cons (VD.agg rfl) (VDs.cons VD.plain VDs.nil)) rfl ?_
    refine oMov eZ ?_
    refine oExt (v := (.agg [(.d (.int .i64 v8.1.Epoch)), (.d (.sl 3 (List.map d_TPart v8.1.Parts))), (.d (.int .i64 v8.1.Move.No)), (.d (.int .i64 v8.1.Move.Stage)), (.d (.int .i64 v8.1.Move.Lo)), (.d (.int .i64 v8.1.Move.Hi)), (.d (.int .i64 v8.1.Move.From)), (.d (.int .i64 v8.1.Move.To)), (.d (.sl 2 (List.map d_TCell v8.1.Move.Cells)))])) eZ rfl ?_
    refine oExt (v := (.one (.d (.int .i64 v8.2)))) (eS rfl eZ) rfl ?_
    refine oVar (n := 384) (m := 9) rfl rfl (nS rfl nZ) ?_
    refine oStoreV (es := [(.d (.int .i64 v8.1.Epoch)), (.d (.sl 3 (List.map d_TPart v8.1.Parts))), (.d (.int .i64 v8.1.Move.No)), (.d (.int .i64 v8.1.Move.Stage)), (.d (.int .i64 v8.1.Move.Lo)), (.d (.int .i64 v8.1.Move.Hi)), (.d (.int .i64 v8.1.Move.From)), (.d (.int .i64 v8.1.Move.To)), (.d (.sl 2 (List.map d_TCell v8.1.Move.Cells)))]) eZ (eR rfl) rfl rfl bZ rfl ?_
    refine oMov (eS rfl eZ) ?_
    refine xNil ?_
    refine TQ.qn ?_
    refine AW.weaken (wk_mkG [] (SL.cons (k := 7) eZ rfl VWk.rfl (SL.cons (k := 6) (eS rfl eZ) rfl VWk.rfl (SL.cons (k := 2) (eR rfl) rfl VWk.rfl (SL.cons (k := 1) (eR rfl) rfl VWk.rfl SL.nil)))) (BL.keep rfl (BL.keep rfl (BL.keep rfl BL.nil))) (BK.cons (n := 384) rfl bZ rfl rfl (BK.cons (n := 128) rfl (bS rfl (bS rfl bZ)) rfl rfl BK.nil)) GK.nil) ?_
    refine AW.seq ?_
    refine AW.regs ?_
    refine oLoadVA (es := [(.d (.int .i64 a1.Epoch)), (.d (.sl 3 (List.map d_TPart a1.Parts))), (.d (.int .i64 a1.Move.No)), (.d (.int .i64 a1.Move.Stage)), (.d (.int .i64 a1.Move.Lo)), (.d (.int .i64 a1.Move.Hi)), (.d (.int .i64 a1.Move.From)), (.d (.int .i64 a1.Move.To)), (.d (.sl 2 (List.map d_TCell a1.Move.Cells)))]) (eR rfl) (bS rfl bZ) rfl ?_
    obtain ⟨v10, h11, H⟩ := obind H
    refine oCallN (u := (.agg [(.d (.int .i64 v10.Epoch)), (.sl 1857 0 v10.Parts.length), (.d (.int .i64 v10.Move.No)), (.d (.int .i64 v10.Move.Stage)), (.d (.int .i64 v10.Move.Lo)), (.d (.int .i64 v10.Move.Hi)), (.d (.int .i64 v10.Move.From)), (.d (.int .i64 v10.Move.To)), (.sl 1864 0 v10.Move.Cells.length)])) (bs := [(1857, (.data 3 (List.map d_TPart v10.Parts) true none)), (1864, (.data 2 (List.map d_TCell v10.Move.Cells) true none))]) eC Cl.fn (c_laws_toAtlas h11) (Evs.cons eZ Evs.nil) (VDs.cons (VD.agg rfl) VDs.nil) (by simp [bindR, bindV, bindVs, bindC, bindCs]) rfl (fC (nS rfl (nS rfl nZ)) rfl (fC (nS rfl (nS rfl nZ)) rfl (fC (nS rfl (nS rfl nZ)) rfl fN))) ?_
    refine oVar (n := 512) (m := 9) rfl rfl (nS rfl (nS rfl (nS rfl (nS rfl nZ)))) ?_
    refine oStoreV (es := [(.d (.int .i64 v10.Epoch)), (.sl 1857 0 v10.Parts.length), (.d (.int .i64 v10.Move.No)), (.d (.int .i64 v10.Move.Stage)), (.d (.int .i64 v10.Move.Lo)), (.d (.int .i64 v10.Move.Hi)), (.d (.int .i64 v10.Move.From)), (.d (.int .i64 v10.Move.To)), (.sl 1864 0 v10.Move.Cells.length)]) eZ (eS rfl eZ) rfl rfl bZ rfl ?_
    refine xNil ?_
    refine TQ.qn ?_
    refine AW.seq ?_
    refine AW.regs ?_
    refine oLoadVA (es := [(.d (.int .i64 v10.Epoch)), (.sl 1857 0 v10.Parts.length), (.d (.int .i64 v10.Move.No)), (.d (.int .i64 v10.Move.Stage)), (.d (.int .i64 v10.Move.Lo)), (.d (.int .i64 v10.Move.Hi)), (.d (.int .i64 v10.Move.From)), (.d (.int .i64 v10.Move.To)), (.sl 1864 0 v10.Move.Cells.length)]) eZ bZ rfl ?_
    refine oMov (eR rfl) ?_
    obtain ⟨v12, h13, H⟩ := obind H
    refine oCallN (u := (.tup [(.agg [(.d (.int .i64 v12.1.Epoch)), (.sl 2113 0 v12.1.Parts.length), (.d (.int .i64 v12.1.Move.No)), (.d (.int .i64 v12.1.Move.Stage)), (.d (.int .i64 v12.1.Move.Lo)), (.d (.int .i64 v12.1.Move.Hi)), (.d (.int .i64 v12.1.Move.From)), (.d (.int .i64 v12.1.Move.To)), (.sl 2120 0 v12.1.Move.Cells.length)]), (.one (.d (.int .i64 v12.2)))])) (bs := [(2113, (.data 3 (List.map d_TPart v12.1.Parts) true none)), (2120, (.data 2 (List.map d_TCell v12.1.Move.Cells) true none))]) eC Cl.fn (c_impl_AtlasSplit h13) (Evs.cons (eS rfl eZ) (Evs.cons eZ Evs.nil)) (VDs.cons (VD.aggs (CDs.plain (CDs.sl (bS rfl (bS rfl (bS rfl bZ))) (List.length_map _) (CDs.plain (CDs.plain (CDs.plain (CDs.plain (CDs.plain (CDs.plain (CDs.sl (bS rfl (bS rfl bZ)) (List.length_map _) CDs.nil)))))))))) (VDs.cons VD.plain VDs.nil)) (by simp [bindR, bindV, bindVs, bindC, bindCs]) rfl (fC (nS rfl (nS rfl (nS rfl (nS rfl (nS rfl (nS rfl nZ)))))) rfl (fC (nS rfl (nS rfl (nS rfl (nS rfl (nS rfl (nS rfl nZ)))))) rfl (fC (nS rfl (nS rfl (nS rfl (nS rfl (nS rfl (nS rfl nZ)))))) rfl fN))) ?_
    refine oMov eZ ?_
    refine oExt (v := (.agg [(.d (.int .i64 v12.1.Epoch)), (.sl 2113 0 v12.1.Parts.length), (.d (.int .i64 v12.1.Move.No)), (.d (.int .i64 v12.1.Move.Stage)), (.d (.int .i64 v12.1.Move.Lo)), (.d (.int .i64 v12.1.Move.Hi)), (.d (.int .i64 v12.1.Move.From)), (.d (.int .i64 v12.1.Move.To)), (.sl 2120 0 v12.1.Move.Cells.length)])) eZ rfl ?_
    refine oExt (v := (.one (.d (.int .i64 v12.2)))) (eS rfl eZ) rfl ?_
    refine oVar (n := 576) (m := 9) rfl rfl (nS rfl (nS rfl (nS rfl (nS rfl (nS rfl (nS rfl (nS rfl (nS rfl nZ)))))))) ?_
    refine oStoreV (es := [(.d (.int .i64 v12.1.Epoch)), (.sl 2113 0 v12.1.Parts.length), (.d (.int .i64 v12.1.Move.No)), (.d (.int .i64 v12.1.Move.Stage)), (.d (.int .i64 v12.1.Move.Lo)), (.d (.int .i64 v12.1.Move.Hi)), (.d (.int .i64 v12.1.Move.From)), (.d (.int .i64 v12.1.Move.To)), (.sl 2120 0 v12.1.Move.Cells.length)]) eZ (eR rfl) rfl rfl bZ rfl ?_
    refine oMov (eS rfl eZ) ?_
    refine xNil ?_
    refine TQ.qn ?_
    refine AW.seq ?_
    refine AW.seqJ (fun t14 : Bool => (laws_FnExactAtlasSplit_j14 a1 v10 v12 a2 v8) t14 = some r) (fun t14 => mk [(1, (.one (.d (.int .i64 a2)))), (2, (.one (.ptr (.nm 128 0 0)))), (6, (.one (.ptr (.nm 384 0 0)))), (7, (.one (.d (.int .i64 v8.2)))), (8, (.one (.ptr (.nm 512 0 0)))), (9, (.one (.ptr (.nm 576 0 0)))), (10, (.one (.d (.int .i64 v12.2)))), (44, (.one (.d (.bool t14))))] [(128, (.vars 9 [(.d (.int .i64 a1.Epoch)), (.d (.sl 3 (List.map d_TPart a1.Parts))), (.d (.int .i64 a1.Move.No)), (.d (.int .i64 a1.Move.Stage)), (.d (.int .i64 a1.Move.Lo)), (.d (.int .i64 a1.Move.Hi)), (.d (.int .i64 a1.Move.From)), (.d (.int .i64 a1.Move.To)), (.d (.sl 2 (List.map d_TCell a1.Move.Cells)))])), (384, (.vars 9 [(.d (.int .i64 v8.1.Epoch)), (.d (.sl 3 (List.map d_TPart v8.1.Parts))), (.d (.int .i64 v8.1.Move.No)), (.d (.int .i64 v8.1.Move.Stage)), (.d (.int .i64 v8.1.Move.Lo)), (.d (.int .i64 v8.1.Move.Hi)), (.d (.int .i64 v8.1.Move.From)), (.d (.int .i64 v8.1.Move.To)), (.d (.sl 2 (List.map d_TCell v8.1.Move.Cells)))])), (512, (.vars 9 [(.d (.int .i64 v10.Epoch)), (.sl 1857 0 v10.Parts.length), (.d (.int .i64 v10.Move.No)), (.d (.int .i64 v10.Move.Stage)), (.d (.int .i64 v10.Move.Lo)), (.d (.int .i64 v10.Move.Hi)), (.d (.int .i64 v10.Move.From)), (.d (.int .i64 v10.Move.To)), (.sl 1864 0 v10.Move.Cells.length)])), (576, (.vars 9 [(.d (.int .i64 v12.1.Epoch)), (.sl 2113 0 v12.1.Parts.length), (.d (.int .i64 v12.1.Move.No)), (.d (.int .i64 v12.1.Move.Stage)), (.d (.int .i64 v12.1.Move.Lo)), (.d (.int .i64 v12.1.Move.Hi)), (.d (.int .i64 v12.1.Move.From)), (.d (.int .i64 v12.1.Move.To)), (.sl 2120 0 v12.1.Move.Cells.length)])), (1857, (.data 3 (List.map d_TPart v10.Parts) true none)), (1864, (.data 2 (List.map d_TCell v10.Move.Cells) true none)), (2113, (.data 3 (List.map d_TPart v12.1.Parts) true none)), (2120, (.data 2 (List.map d_TCell v12.1.Move.Cells) true none))] (lk [])) ?_ ?_
    · intro t14 H
      unfold laws_FnExactAtlasSplit_j14 at H
      rcases oite H with ⟨h16, H⟩ | ⟨h16, H⟩
      · refine AW.condT (eR rfl) h16 ?_
        refine AW.seq ?_
        refine AW.regs ?_
        refine oMov eC ?_
        refine xNil ?_
        refine TQ.qn ?_
        refine AW.ret ?_
        refine TQ.qr ?_
        obtain rfl := Option.some.inj H
        exact endsR (RL.cons (RV.tmp eZ) (VO.flat rfl) RL.nil) List.nodup_nil
      · refine AW.condF (eR rfl) (nt h16) ?_
        refine AW.skip ?_
        refine TQ.qn ?_
        refine AW.seq ?_
        refine AW.seq ?_
        refine AW.regd ?_
        refine oLoadVA (es := [(.d (.int .i64 v10.Epoch)), (.sl 1857 0 v10.Parts.length), (.d (.int .i64 v10.Move.No)), (.d (.int .i64 v10.Move.Stage)), (.d (.int .i64 v10.Move.Lo)), (.d (.int .i64 v10.Move.Hi)), (.d (.int .i64 v10.Move.From)), (.d (.int .i64 v10.Move.To)), (.sl 1864 0 v10.Move.Cells.length)]) (eR rfl) (hB rfl (bS rfl (bS rfl bZ))) rfl ?_
        refine oLoadVA (es := [(.d (.int .i64 a1.Epoch)), (.d (.sl 3 (List.map d_TPart a1.Parts))), (.d (.int .i64 a1.Move.No)), (.d (.int .i64 a1.Move.Stage)), (.d (.int .i64 a1.Move.Lo)), (.d (.int .i64 a1.Move.Hi)), (.d (.int .i64 a1.Move.From)), (.d (.int .i64 a1.Move.To)), (.d (.sl 2 (List.map d_TCell a1.Move.Cells)))]) (eR rfl) bZ rfl ?_
        obtain ⟨v17, h18, H⟩ := obind H
        refine oCall (u := (.agg [(.d (.int .i64 v17.Epoch)), (.d (.sl 3 (List.map d_TPart v17.Parts))), (.d (.int .i64 v17.Move.No)), (.d (.int .i64 v17.Move.Stage)), (.d (.int .i64 v17.Move.Lo)), (.d (.int .i64 v17.Move.Hi)), (.d (.int .i64 v17.Move.From)), (.d (.int .i64 v17.Move.To)), (.d (.sl 2 (List.map d_TCell v17.Move.Cells)))])) eC Cl.fn (c_laws_toAtlas h18) (Evs.cons eZ Evs.nil) (VDs.cons (VD.agg rfl) VDs.nil) rfl ?_
        obtain ⟨v19, h20, H⟩ := obind H
        refine oCall (u := (.one (.d (.bool v19)))) eC Cl.fn (c_laws_eqAtlas h20) (Evs.cons (eR rfl) (Evs.cons eZ Evs.nil)) (VDs.cons (VD.aggs (CDs.plain (CDs.sl (bS rfl (bS rfl (bS rfl (bS rfl bZ)))) (List.length_map _) (CDs.plain (CDs.plain (CDs.plain (CDs.plain (CDs.plain (CDs.plain (CDs.sl (bS rfl (bS rfl (bS rfl (bS rfl (bS rfl bZ))))) (List.length_map _) CDs.nil)))))))))) (VDs.cons (VD.agg rfl) VDs.nil)) rfl ?_
        refine oInv eZ ?_
        refine xNil ?_
        refine TQ.qn ?_
        rcases oite H with ⟨h21, H⟩ | ⟨h21, H⟩
        · refine AW.condF eZ (congrArg Bool.not h21) ?_
          refine AW.skip ?_
          refine TQ.qn ?_
          refine AW.seq ?_
          refine AW.regs ?_
          refine oMov eC ?_
          refine xNil ?_
          refine TQ.qn ?_
          refine AW.seq ?_
          refine AW.regm ?_
          refine rmOne ?_
          refine oLoadVA (es := [(.d (.int .i64 v10.Epoch)), (.sl 1857 0 v10.Parts.length), (.d (.int .i64 v10.Move.No)), (.d (.int .i64 v10.Move.Stage)), (.d (.int .i64 v10.Move.Lo)), (.d (.int .i64 v10.Move.Hi)), (.d (.int .i64 v10.Move.From)), (.d (.int .i64 v10.Move.To)), (.sl 1864 0 v10.Move.Cells.length)]) (eR rfl) (bS rfl (bS rfl bZ)) rfl ?_
          refine xNil ?_
          refine rmOne ?_
          refine oMov (eS rfl eZ) ?_
          refine xNil ?_
          obtain ⟨v22, h23, H⟩ := obind H
          obtain ⟨h24, H⟩ := oguard H
          obtain ⟨h25, H⟩ := oguard H
          refine rmCallI (ON := [1857, 1864]) (ls := []) (G := []) (E := [subKey 1857, subKey 1864]) (MB := [(1857, (.data 3 (List.map d_TPart v22.2.Parts) true none)), (1864, (.data 2 (List.map d_TCell v22.2.Move.Cells) true none))]) (u := (.one (.d (.int .i64 v22.1)))) eC Cl.fn (c_laws_markAtlas h23) (Evs.cons (eS rfl eZ) (Evs.cons eZ Evs.nil)) (AO.mut (VO.aggs (VOs.cons (VO.flat rfl) (VOs.cons (VO.sl (bS rfl (bS rfl (bS rfl (bS rfl bZ)))) (List.length_map _) (allFlat fun _ => rfl)) (VOs.cons (VO.flat rfl) (VOs.cons (VO.flat rfl) (VOs.cons (VO.flat rfl) (VOs.cons (VO.flat rfl) (VOs.cons (VO.flat rfl) (VOs.cons (VO.flat rfl) (VOs.cons (VO.sl (bS rfl (bS rfl (bS rfl (bS rfl (bS rfl bZ))))) (List.length_map _) (allFlat fun _ => rfl)) VOs.nil)))))))))) (AO.lent VD.plain rfl AO.nil)) rfl rfl rfl (SZ.cons (bS rfl (bS rfl (bS rfl (bS rfl bZ)))) (allFlat fun _ => rfl) (SZ.cons (bS rfl (bS rfl (bS rfl (bS rfl (bS rfl bZ))))) (allFlat fun _ => rfl) SZ.nil)) (erL.cons (v' := (.one (.d (.int .i64 1)))) rfl (erL.cons (v' := (.agg [(.d (.int .i64 v10.Epoch)), (.sl 1857 0 v10.Parts.length), (.d (.int .i64 v10.Move.No)), (.d (.int .i64 v10.Move.Stage)), (.d (.int .i64 v10.Move.Lo)), (.d (.int .i64 v10.Move.Hi)), (.d (.int .i64 v10.Move.From)), (.d (.int .i64 v10.Move.To)), (.sl 1864 0 v10.Move.Cells.length)])) rfl (erL.cons (v' := (.one (.d (.int .i64 1)))) rfl (erL.cons (v' := (.one (.d (.bool (!v19))))) rfl (erL.cons (v' := (.one (.d (.bool v19)))) rfl (erL.cons (v' := (.agg [(.d (.int .i64 v17.Epoch)), (.d (.sl 3 (List.map d_TPart v17.Parts))), (.d (.int .i64 v17.Move.No)), (.d (.int .i64 v17.Move.Stage)), (.d (.int .i64 v17.Move.Lo)), (.d (.int .i64 v17.Move.Hi)), (.d (.int .i64 v17.Move.From)), (.d (.int .i64 v17.Move.To)), (.d (.sl 2 (List.map d_TCell v17.Move.Cells)))])) rfl (erL.cons (v' := (.agg [(.d (.int .i64 a1.Epoch)), (.d (.sl 3 (List.map d_TPart a1.Parts))), (.d (.int .i64 a1.Move.No)), (.d (.int .i64 a1.Move.Stage)), (.d (.int .i64 a1.Move.Lo)), (.d (.int .i64 a1.Move.Hi)), (.d (.int .i64 a1.Move.From)), (.d (.int .i64 a1.Move.To)), (.d (.sl 2 (List.map d_TCell a1.Move.Cells)))])) rfl (erL.cons (v' := (.agg [(.d (.int .i64 v10.Epoch)), (.sl 1857 0 v10.Parts.length), (.d (.int .i64 v10.Move.No)), (.d (.int .i64 v10.Move.Stage)), (.d (.int .i64 v10.Move.Lo)), (.d (.int .i64 v10.Move.Hi)), (.d (.int .i64 v10.Move.From)), (.d (.int .i64 v10.Move.To)), (.sl 1864 0 v10.Move.Cells.length)])) rfl (erL.cons (v' := (.one (.d (.int .i64 a2)))) rfl (erL.cons (v' := (.one (.ptr (.nm 128 0 0)))) rfl (erL.cons (v' := (.one (.ptr (.nm 384 0 0)))) rfl (erL.cons (v' := (.one (.d (.int .i64 v8.2)))) rfl (erL.cons (v' := (.one (.ptr (.nm 512 0 0)))) rfl (erL.cons (v' := (.one (.ptr (.nm 576 0 0)))) rfl (erL.cons (v' := (.one (.d (.int .i64 v12.2)))) rfl (erL.cons (v' := (.one (.d (.bool t14)))) rfl erL.nil)))))))))))))))) (erH.cons (v' := (.vars 9 [(.d (.int .i64 a1.Epoch)), (.d (.sl 3 (List.map d_TPart a1.Parts))), (.d (.int .i64 a1.Move.No)), (.d (.int .i64 a1.Move.Stage)), (.d (.int .i64 a1.Move.Lo)), (.d (.int .i64 a1.Move.Hi)), (.d (.int .i64 a1.Move.From)), (.d (.int .i64 a1.Move.To)), (.d (.sl 2 (List.map d_TCell a1.Move.Cells)))])) rfl rfl (erH.cons (v' := (.vars 9 [(.d (.int .i64 v8.1.Epoch)), (.d (.sl 3 (List.map d_TPart v8.1.Parts))), (.d (.int .i64 v8.1.Move.No)), (.d (.int .i64 v8.1.Move.Stage)), (.d (.int .i64 v8.1.Move.Lo)), (.d (.int .i64 v8.1.Move.Hi)), (.d (.int .i64 v8.1.Move.From)), (.d (.int .i64 v8.1.Move.To)), (.d (.sl 2 (List.map d_TCell v8.1.Move.Cells)))])) rfl rfl (erH.cons (v' := (.vars 9 [(.d (.int .i64 v10.Epoch)), (.sl 1857 0 v10.Parts.length), (.d (.int .i64 v10.Move.No)), (.d (.int .i64 v10.Move.Stage)), (.d (.int .i64 v10.Move.Lo)), (.d (.int .i64 v10.Move.Hi)), (.d (.int .i64 v10.Move.From)), (.d (.int .i64 v10.Move.To)), (.sl 1864 0 v10.Move.Cells.length)])) rfl rfl (erH.cons (v' := (.vars 9 [(.d (.int .i64 v12.1.Epoch)), (.sl 2113 0 v12.1.Parts.length), (.d (.int .i64 v12.1.Move.No)), (.d (.int .i64 v12.1.Move.Stage)), (.d (.int .i64 v12.1.Move.Lo)), (.d (.int .i64 v12.1.Move.Hi)), (.d (.int .i64 v12.1.Move.From)), (.d (.int .i64 v12.1.Move.To)), (.sl 2120 0 v12.1.Move.Cells.length)])) rfl rfl (erH.cons (v' := (.data 3 (List.map d_TPart v10.Parts) true none)) rfl rfl (erH.cons (v' := (.data 2 (List.map d_TCell v10.Move.Cells) true none)) rfl rfl (erH.cons (v' := (.data 3 (List.map d_TPart v12.1.Parts) true none)) rfl rfl (erH.cons (v' := (.data 2 (List.map d_TCell v12.1.Move.Cells) true none)) rfl rfl erH.nil)))))))) erL.nil rfl rfl ?_
          refine rmRest ?_
          refine oMov eZ ?_
          refine xNil ?_
          refine TQ.qn ?_
          refine AW.weaken (wk_mkG [1864, 1857, 512] (SL.cons (k := 11) eZ rfl VWk.rfl (SL.cons (k := 1) (eR rfl) rfl VWk.rfl (SL.cons (k := 2) (eR rfl) rfl VWk.rfl (SL.cons (k := 6) (eR rfl) rfl VWk.rfl (SL.cons (k := 7) (eR rfl) rfl VWk.rfl (SL.cons (k := 9) (eR rfl) rfl VWk.rfl (SL.cons (k := 10) (eR rfl) rfl VWk.rfl SL.nil))))))) (BL.drop rfl (BL.drop rfl (BL.keep rfl (BL.keep rfl (BL.drop rfl (BL.keep rfl (BL.drop rfl (BL.drop rfl (BL.keep rfl (BL.keep rfl BL.nil)))))))))) (BK.cons (n := 128) rfl (bS rfl (bS rfl bZ)) rfl rfl (BK.cons (n := 384) rfl (bS rfl (bS rfl (bS rfl bZ))) rfl rfl (BK.cons (n := 576) rfl (bS rfl (bS rfl (bS rfl (bS rfl (bS rfl bZ))))) rfl rfl (BK.cons (n := 2113) rfl (bS rfl (bS rfl (bS rfl (bS rfl (bS rfl (bS rfl (bS rfl (bS rfl bZ)))))))) rfl rfl (BK.cons (n := 2120) rfl (bS rfl (bS rfl (bS rfl (bS rfl (bS rfl (bS rfl (bS rfl (bS rfl (bS rfl bZ))))))))) rfl rfl BK.nil))))) GK.nil) ?_
          refine AW.seq ?_
          refine AW.seqJ (fun t26 : Bool => (laws_FnExactAtlasSplit_j26 v12 a1 a2 v8) t26 = some r) (fun t26 => mk [(1, (.one (.d (.int .i64 a2)))), (2, (.one (.ptr (.nm 128 0 0)))), (6, (.one (.ptr (.nm 384 0 0)))), (7, (.one (.d (.int .i64 v8.2)))), (9, (.one (.ptr (.nm 576 0 0)))), (65, (.one (.d (.bool t26))))] [(128, (.vars 9 [(.d (.int .i64 a1.Epoch)), (.d (.sl 3 (List.map d_TPart a1.Parts))), (.d (.int .i64 a1.Move.No)), (.d (.int .i64 a1.Move.Stage)), (.d (.int .i64 a1.Move.Lo)), (.d (.int .i64 a1.Move.Hi)), (.d (.int .i64 a1.Move.From)), (.d (.int .i64 a1.Move.To)), (.d (.sl 2 (List.map d_TCell a1.Move.Cells)))])), (384, (.vars 9 [(.d (.int .i64 v8.1.Epoch)), (.d (.sl 3 (List.map d_TPart v8.1.Parts))), (.d (.int .i64 v8.1.Move.No)), (.d (.int .i64 v8.1.Move.Stage)), (.d (.int .i64 v8.1.Move.Lo)), (.d (.int .i64 v8.1.Move.Hi)), (.d (.int .i64 v8.1.Move.From)), (.d (.int .i64 v8.1.Move.To)), (.d (.sl 2 (List.map d_TCell v8.1.Move.Cells)))])), (576, (.vars 9 [(.d (.int .i64 v12.1.Epoch)), (.sl 2113 0 v12.1.Parts.length), (.d (.int .i64 v12.1.Move.No)), (.d (.int .i64 v12.1.Move.Stage)), (.d (.int .i64 v12.1.Move.Lo)), (.d (.int .i64 v12.1.Move.Hi)), (.d (.int .i64 v12.1.Move.From)), (.d (.int .i64 v12.1.Move.To)), (.sl 2120 0 v12.1.Move.Cells.length)])), (2113, (.data 3 (List.map d_TPart v12.1.Parts) true none)), (2120, (.data 2 (List.map d_TCell v12.1.Move.Cells) true none))] (lk [])) ?_ ?_
          · intro t26 H
            unfold laws_FnExactAtlasSplit_j26 at H
            rcases oite H with ⟨h28, H⟩ | ⟨h28, H⟩
            · refine AW.condT (eR rfl) h28 ?_
              refine AW.seq ?_
              refine AW.regs ?_
              refine oMov eC ?_
              refine xNil ?_
              refine TQ.qn ?_
              refine AW.ret ?_
              refine TQ.qr ?_
              obtain rfl := Option.some.inj H
              exact endsR (RL.cons (RV.tmp eZ) (VO.flat rfl) RL.nil) List.nodup_nil
            · refine AW.condF (eR rfl) (nt h28) ?_
              refine AW.skip ?_
              refine TQ.qn ?_
              refine AW.seq ?_
              refine AW.regs ?_
              refine oMov eC ?_
              refine xNil ?_
              refine TQ.qn ?_
              refine AW.seq ?_
              refine AW.regm ?_
              refine rmOne ?_
              refine oLoadVA (es := [(.d (.int .i64 v12.1.Epoch)), (.sl 2113 0 v12.1.Parts.length), (.d (.int .i64 v12.1.Move.No)), (.d (.int .i64 v12.1.Move.Stage)), (.d (.int .i64 v12.1.Move.Lo)), (.d (.int .i64 v12.1.Move.Hi)), (.d (.int .i64 v12.1.Move.From)), (.d (.int .i64 v12.1.Move.To)), (.sl 2120 0 v12.1.Move.Cells.length)]) (eR rfl) (bS rfl (bS rfl bZ)) rfl ?_
              refine xNil ?_
              refine rmOne ?_
              refine oMov (eS rfl eZ) ?_
              refine xNil ?_
              obtain ⟨v29, h30, H⟩ := obind H
              obtain ⟨h31, H⟩ := oguard H
              obtain ⟨h32, H⟩ := oguard H
              refine rmCallI (ON := [2113, 2120]) (ls := []) (G := []) (E := [subKey 2113, subKey 2120]) (MB := [(2113, (.data 3 (List.map d_TPart v29.2.Parts) true none)), (2120, (.data 2 (List.map d_TCell v29.2.Move.Cells) true none))]) (u := (.one (.d (.int .i64 v29.1)))) eC Cl.fn (c_laws_markAtlas h30) (Evs.cons (eS rfl eZ) (Evs.cons eZ Evs.nil)) (AO.mut (VO.aggs (VOs.cons (VO.flat rfl) (VOs.cons (VO.sl (bS rfl (bS rfl (bS rfl bZ))) (List.length_map _) (allFlat fun _ => rfl)) (VOs.cons (VO.flat rfl) (VOs.cons (VO.flat rfl) (VOs.cons (VO.flat rfl) (VOs.cons (VO.flat rfl) (VOs.cons (VO.flat rfl) (VOs.cons (VO.flat rfl) (VOs.cons (VO.sl (bS rfl (bS rfl (bS rfl (bS rfl bZ)))) (List.length_map _) (allFlat fun _ => rfl)) VOs.nil)))))))))) (AO.lent VD.plain rfl AO.nil)) rfl rfl rfl (SZ.cons (bS rfl (bS rfl (bS rfl bZ))) (allFlat fun _ => rfl) (SZ.cons (bS rfl (bS rfl (bS rfl (bS rfl bZ)))) (allFlat fun _ => rfl) SZ.nil)) (erL.cons (v' := (.one (.d (.int .i64 1)))) rfl (erL.cons (v' := (.agg [(.d (.int .i64 v12.1.Epoch)), (.sl 2113 0 v12.1.Parts.length), (.d (.int .i64 v12.1.Move.No)), (.d (.int .i64 v12.1.Move.Stage)), (.d (.int .i64 v12.1.Move.Lo)), (.d (.int .i64 v12.1.Move.Hi)), (.d (.int .i64 v12.1.Move.From)), (.d (.int .i64 v12.1.Move.To)), (.sl 2120 0 v12.1.Move.Cells.length)])) rfl (erL.cons (v' := (.one (.d (.int .i64 1)))) rfl (erL.cons (v' := (.one (.d (.int .i64 a2)))) rfl (erL.cons (v' := (.one (.ptr (.nm 128 0 0)))) rfl (erL.cons (v' := (.one (.ptr (.nm 384 0 0)))) rfl (erL.cons (v' := (.one (.d (.int .i64 v8.2)))) rfl (erL.cons (v' := (.one (.ptr (.nm 576 0 0)))) rfl (erL.cons (v' := (.one (.d (.bool t26)))) rfl erL.nil))))))))) (erH.cons (v' := (.vars 9 [(.d (.int .i64 a1.Epoch)), (.d (.sl 3 (List.map d_TPart a1.Parts))), (.d (.int .i64 a1.Move.No)), (.d (.int .i64 a1.Move.Stage)), (.d (.int .i64 a1.Move.Lo)), (.d (.int .i64 a1.Move.Hi)), (.d (.int .i64 a1.Move.From)), (.d (.int .i64 a1.Move.To)), (.d (.sl 2 (List.map d_TCell a1.Move.Cells)))])) rfl rfl (erH.cons (v' := (.vars 9 [(.d (.int .i64 v8.1.Epoch)), (.d (.sl 3 (List.map d_TPart v8.1.Parts))), (.d (.int .i64 v8.1.Move.No)), (.d (.int .i64 v8.1.Move.Stage)), (.d (.int .i64 v8.1.Move.Lo)), (.d (.int .i64 v8.1.Move.Hi)), (.d (.int .i64 v8.1.Move.From)), (.d (.int .i64 v8.1.Move.To)), (.d (.sl 2 (List.map d_TCell v8.1.Move.Cells)))])) rfl rfl (erH.cons (v' := (.vars 9 [(.d (.int .i64 v12.1.Epoch)), (.sl 2113 0 v12.1.Parts.length), (.d (.int .i64 v12.1.Move.No)), (.d (.int .i64 v12.1.Move.Stage)), (.d (.int .i64 v12.1.Move.Lo)), (.d (.int .i64 v12.1.Move.Hi)), (.d (.int .i64 v12.1.Move.From)), (.d (.int .i64 v12.1.Move.To)), (.sl 2120 0 v12.1.Move.Cells.length)])) rfl rfl (erH.cons (v' := (.data 3 (List.map d_TPart v12.1.Parts) true none)) rfl rfl (erH.cons (v' := (.data 2 (List.map d_TCell v12.1.Move.Cells) true none)) rfl rfl erH.nil))))) erL.nil rfl rfl ?_
              refine rmRest ?_
              refine oMov eZ ?_
              refine xNil ?_
              refine TQ.qn ?_
              refine AW.seq ?_
              refine AW.regs ?_
              refine oMov eC ?_
              refine xNil ?_
              refine TQ.qn ?_
              refine AW.seq ?_
              refine AW.regs ?_
              refine oLoadVA (es := [(.d (.int .i64 v12.1.Epoch)), (.sl 2113 0 v12.1.Parts.length), (.d (.int .i64 v12.1.Move.No)), (.d (.int .i64 v12.1.Move.Stage)), (.d (.int .i64 v12.1.Move.Lo)), (.d (.int .i64 v12.1.Move.Hi)), (.d (.int .i64 v12.1.Move.From)), (.d (.int .i64 v12.1.Move.To)), (.sl 2120 0 v12.1.Move.Cells.length)]) (eR rfl) (bS rfl (bS rfl (bS rfl (bS rfl bZ)))) rfl ?_
              refine oMov (eS rfl eZ) ?_
              obtain ⟨v33, h34, H⟩ := obind H
              refine oCall (u := (.one (.d (.int .i64 v33)))) eC Cl.fn (c_laws_heldAtlas h34) (Evs.cons (eS rfl eZ) (Evs.cons eZ Evs.nil)) (VDs.cons (VD.aggs (CDs.plain (CDs.sl (bS rfl bZ) (by first | (simp; done) | (simp; omega) | omega) (CDs.plain (CDs.plain (CDs.plain (CDs.plain (CDs.plain (CDs.plain (CDs.sl bZ (by first | (simp; done) | (simp; omega) | omega) CDs.nil)))))))))) (VDs.cons VD.plain VDs.nil)) rfl ?_
              refine oMov eZ ?_
              refine xNil ?_
              refine TQ.qn ?_
              refine AW.weaken (wk_mkG [] (SL.cons (k := 13) eZ rfl VWk.rfl (SL.cons (k := 12) (eR rfl) rfl VWk.rfl (SL.cons (k := 1) (eR rfl) rfl VWk.rfl (SL.cons (k := 2) (eR rfl) rfl VWk.rfl (SL.cons (k := 6) (eR rfl) rfl VWk.rfl (SL.cons (k := 7) (eR rfl) rfl VWk.rfl (SL.cons (k := 9) (eR rfl) rfl VWk.rfl SL.nil))))))) (BL.keep rfl (BL.keep rfl (BL.keep rfl (BL.keep rfl (BL.keep rfl (BL.keep rfl (BL.keep rfl BL.nil))))))) (BK.cons (n := 2120) rfl bZ rfl rfl (BK.cons (n := 2113) rfl (bS rfl bZ) rfl rfl (BK.cons (n := 128) rfl (bS rfl (bS rfl bZ)) rfl rfl (BK.cons (n := 384) rfl (bS rfl (bS rfl (bS rfl bZ))) rfl rfl (BK.cons (n := 576) rfl (bS rfl (bS rfl (bS rfl (bS rfl bZ)))) rfl rfl BK.nil))))) GK.nil) ?_
              refine AW.seq ?_
              refine AW.seq ?_
              refine AW.regs ?_
              refine oMov eZ ?_
              refine oLss eZ eC ?_
              refine xNil ?_
              refine TQ.qn ?_
              rcases oite H with ⟨h35, H⟩ | ⟨h35, H⟩
              · refine AW.condT eZ (decide_eq_true h35) ?_
                refine AW.seq ?_
                refine AW.regs ?_
                refine oMov eC ?_
                refine xNil ?_
                refine TQ.qn ?_
                refine AW.ret ?_
                refine TQ.qr ?_
                obtain rfl := Option.some.inj H
                exact endsR (RL.cons (RV.tmp eZ) (VO.flat rfl) RL.nil) List.nodup_nil
              · refine AW.condF eZ (decide_eq_false h35) ?_
                refine AW.skip ?_
                refine TQ.qn ?_
                refine AW.seq ?_
                refine AW.seq ?_
                refine AW.regs ?_
                refine oMov (eR rfl) ?_
                refine oMov (eR rfl) ?_
                refine oNeq (eS rfl eZ) eZ ?_
                refine xNil ?_
                refine TQ.qn ?_
                rcases oite H with ⟨h36, H⟩ | ⟨h36, H⟩
                · refine AW.condT eZ (decide_eq_true h36) ?_
                  refine AW.seq ?_
                  refine AW.regs ?_
                  refine oMov eC ?_
                  refine xNil ?_
                  refine TQ.qn ?_
                  refine AW.ret ?_
                  refine TQ.qr ?_
                  obtain rfl := Option.some.inj H
                  exact endsR (RL.cons (RV.tmp eZ) (VO.flat rfl) RL.nil) List.nodup_nil
                · refine AW.condF eZ (decide_eq_false h36) ?_
                  refine AW.skip ?_
                  refine TQ.qn ?_
                  refine AW.seq ?_
                  refine AW.regs ?_
                  refine oLoadVA (es := [(.d (.int .i64 a1.Epoch)), (.d (.sl 3 (List.map d_TPart a1.Parts))), (.d (.int .i64 a1.Move.No)), (.d (.int .i64 a1.Move.Stage)), (.d (.int .i64 a1.Move.Lo)), (.d (.int .i64 a1.Move.Hi)), (.d (.int .i64 a1.Move.From)), (.d (.int .i64 a1.Move.To)), (.d (.sl 2 (List.map d_TCell a1.Move.Cells)))]) (eR rfl) (bS rfl (bS rfl bZ)) rfl ?_
                  obtain ⟨v37, h38, H⟩ := obind H
                  refine oCall (u := (.agg [(.d (.int .i64 v37.Epoch)), (.d (.sl 3 (List.map d_TPart v37.Parts))), (.d (.int .i64 v37.Move.No)), (.d (.int .i64 v37.Move.Stage)), (.d (.int .i64 v37.Move.Lo)), (.d (.int .i64 v37.Move.Hi)), (.d (.int .i64 v37.Move.From)), (.d (.int .i64 v37.Move.To)), (.d (.sl 2 (List.map d_TCell v37.Move.Cells)))])) eC Cl.fn (c_laws_toAtlas h38) (Evs.cons eZ Evs.nil) (VDs.cons (VD.agg rfl) VDs.nil) rfl ?_
                  refine oMov (eR rfl) ?_
                  obtain ⟨v39, h40, H⟩ := obind H
                  refine oCall (u := (.tup [(.agg [(.d (.int .i64 v39.1.Epoch)), (.d (.sl 3 (List.map d_TPart v39.1.Parts))), (.d (.int .i64 v39.1.Move.No)), (.d (.int .i64 v39.1.Move.Stage)), (.d (.int .i64 v39.1.Move.Lo)), (.d (.int .i64 v39.1.Move.Hi)), (.d (.int .i64 v39.1.Move.From)), (.d (.int .i64 v39.1.Move.To)), (.d (.sl 2 (List.map d_TCell v39.1.Move.Cells)))]), (.one (.d (.int .i64 v39.2)))])) eC Cl.fn (c_impl_AtlasSplit h40) (Evs.cons (eS rfl eZ) (Evs.cons eZ Evs.nil)) (VDs.cons (VD.agg rfl) (VDs.cons VD.plain VDs.nil)) rfl ?_
                  refine oMov eZ ?_
                  refine oExt (v := (.agg [(.d (.int .i64 v39.1.Epoch)), (.d (.sl 3 (List.map d_TPart v39.1.Parts))), (.d (.int .i64 v39.1.Move.No)), (.d (.int .i64 v39.1.Move.Stage)), (.d (.int .i64 v39.1.Move.Lo)), (.d (.int .i64 v39.1.Move.Hi)), (.d (.int .i64 v39.1.Move.From)), (.d (.int .i64 v39.1.Move.To)), (.d (.sl 2 (List.map d_TCell v39.1.Move.Cells)))])) eZ rfl ?_
                  refine oExt (v := (.one (.d (.int .i64 v39.2)))) (eS rfl eZ) rfl ?_
                  refine oVar (n := 896) (m := 9) rfl rfl (nS rfl (nS rfl (nS rfl (nS rfl (nS rfl nZ))))) ?_
                  refine oStoreV (es := [(.d (.int .i64 v39.1.Epoch)), (.d (.sl 3 (List.map d_TPart v39.1.Parts))), (.d (.int .i64 v39.1.Move.No)), (.d (.int .i64 v39.1.Move.Stage)), (.d (.int .i64 v39.1.Move.Lo)), (.d (.int .i64 v39.1.Move.Hi)), (.d (.int .i64 v39.1.Move.From)), (.d (.int .i64 v39.1.Move.To)), (.d (.sl 2 (List.map d_TCell v39.1.Move.Cells)))]) eZ (eR rfl) rfl rfl bZ rfl ?_
                  refine oMov (eS rfl eZ) ?_
                  refine xNil ?_
                  refine TQ.qn ?_
                  refine AW.weaken (wk_mkG [128] (SL.cons (k := 15) eZ rfl VWk.rfl (SL.cons (k := 14) (eS rfl eZ) rfl VWk.rfl (SL.cons (k := 12) (eR rfl) rfl VWk.rfl (SL.cons (k := 6) (eR rfl) rfl VWk.rfl (SL.cons (k := 7) (eR rfl) rfl VWk.rfl (SL.cons (k := 9) (eR rfl) rfl VWk.rfl SL.nil)))))) (BL.keep rfl (BL.keep rfl (BL.keep rfl (BL.keep rfl (BL.drop rfl (BL.keep rfl (BL.keep rfl BL.nil))))))) (BK.cons (n := 896) rfl bZ rfl rfl (BK.cons (n := 2120) rfl (bS rfl (bS rfl bZ)) rfl rfl (BK.cons (n := 2113) rfl (bS rfl (bS rfl (bS rfl bZ))) rfl rfl (BK.cons (n := 384) rfl (bS rfl (bS rfl (bS rfl (bS rfl (bS rfl bZ))))) rfl rfl (BK.cons (n := 576) rfl (bS rfl (bS rfl (bS rfl (bS rfl (bS rfl (bS rfl bZ)))))) rfl rfl BK.nil))))) GK.nil) ?_
                  refine AW.seq ?_
                  refine AW.seqJ (fun t41 : Bool => (laws_FnExactAtlasSplit_j41 v12 v29) t41 = some r) (fun t41 => mk [(9, (.one (.ptr (.nm 576 0 0)))), (12, (.one (.d (.int .i64 v29.1)))), (92, (.one (.d (.bool t41))))] [(576, (.vars 9 [(.d (.int .i64 v12.1.Epoch)), (.sl 2113 0 v12.1.Parts.length), (.d (.int .i64 v12.1.Move.No)), (.d (.int .i64 v12.1.Move.Stage)), (.d (.int .i64 v12.1.Move.Lo)), (.d (.int .i64 v12.1.Move.Hi)), (.d (.int .i64 v12.1.Move.From)), (.d (.int .i64 v12.1.Move.To)), (.sl 2120 0 v12.1.Move.Cells.length)])), (2113, (.data 3 (List.map d_TPart v29.2.Parts) true none)), (2120, (.data 2 (List.map d_TCell v29.2.Move.Cells) true none))] (lk [])) ?_ ?_
                  · intro t41 H
                    unfold laws_FnExactAtlasSplit_j41 at H
                    rcases oite H with ⟨h43, H⟩ | ⟨h43, H⟩
                    · refine AW.condT (eR rfl) h43 ?_
                      refine AW.seq ?_
                      refine AW.regs ?_
                      refine oMov eC ?_
                      refine xNil ?_
                      refine TQ.qn ?_
                      refine AW.ret ?_
                      refine TQ.qr ?_
                      obtain rfl := Option.some.inj H
                      exact endsR (RL.cons (RV.tmp eZ) (VO.flat rfl) RL.nil) List.nodup_nil
                    · refine AW.condF (eR rfl) (nt h43) ?_
                      refine AW.skip ?_
                      refine TQ.qn ?_
                      refine AW.seq ?_
                      refine AW.regs ?_
                      refine oMov eC ?_
                      refine xNil ?_
                      refine TQ.qn ?_
                      refine AW.seq ?_
                      refine AW.regs ?_
                      refine oLoadVA (es := [(.d (.int .i64 v12.1.Epoch)), (.sl 2113 0 v12.1.Parts.length), (.d (.int .i64 v12.1.Move.No)), (.d (.int .i64 v12.1.Move.Stage)), (.d (.int .i64 v12.1.Move.Lo)), (.d (.int .i64 v12.1.Move.Hi)), (.d (.int .i64 v12.1.Move.From)), (.d (.int .i64 v12.1.Move.To)), (.sl 2120 0 v12.1.Move.Cells.length)]) (eS rfl eZ) bZ rfl ?_
                      refine oMov (eS rfl eZ) ?_
                      obtain ⟨v44, h45, H⟩ := obind H
                      refine oCall (u := (.one (.d (.int .i64 v44)))) eC Cl.fn (c_laws_heldAtlas h45) (Evs.cons (eS rfl eZ) (Evs.cons eZ Evs.nil)) (VDs.cons (VD.aggs (CDs.plain (CDs.sl (bS rfl bZ) (by first | (simp; done) | (simp; omega) | omega) (CDs.plain (CDs.plain (CDs.plain (CDs.plain (CDs.plain (CDs.plain (CDs.sl (bS rfl (bS rfl bZ)) (by first | (simp; done) | (simp; omega) | omega) CDs.nil)))))))))) (VDs.cons VD.plain VDs.nil)) rfl ?_
                      refine oMov eZ ?_
                      refine xNil ?_
                      refine TQ.qn ?_
                      refine AW.seq ?_
                      refine AW.seq ?_
                      refine AW.regs ?_
                      refine oMov eZ ?_
                      refine oLss eZ eC ?_
                      refine xNil ?_
                      refine TQ.qn ?_
                      rcases oite H with ⟨h46, H⟩ | ⟨h46, H⟩
                      · refine AW.condT eZ (decide_eq_true h46) ?_
                        refine AW.seq ?_
                        refine AW.regs ?_
                        refine oMov eC ?_
                        refine xNil ?_
                        refine TQ.qn ?_
                        refine AW.ret ?_
                        refine TQ.qr ?_
                        obtain rfl := Option.some.inj H
                        exact endsR (RL.cons (RV.tmp eZ) (VO.flat rfl) RL.nil) List.nodup_nil
                      · refine AW.condF eZ (decide_eq_false h46) ?_
                        refine AW.skip ?_
                        refine TQ.qn ?_
                        refine AW.seq ?_
                        refine AW.seq ?_
                        refine AW.regs ?_
                        refine oMov (eR rfl) ?_
                        refine oMov (eR rfl) ?_
                        refine oNeq (eS rfl eZ) eZ ?_
                        refine xNil ?_
                        refine TQ.qn ?_
                        rcases oite H with ⟨h47, H⟩ | ⟨h47, H⟩
                        · refine AW.condT eZ (decide_eq_true h47) ?_
                          refine AW.seq ?_
                          refine AW.regs ?_
                          refine oMov eC ?_
                          refine xNil ?_
                          refine TQ.qn ?_
                          refine AW.ret ?_
                          refine TQ.qr ?_
                          obtain rfl := Option.some.inj H
                          exact endsR (RL.cons (RV.tmp eZ) (VO.flat rfl) RL.nil) List.nodup_nil
                        · refine AW.condF eZ (decide_eq_false h47) ?_
                          refine AW.skip ?_
                          refine TQ.qn ?_
                          refine AW.seq ?_
                          refine AW.regs ?_
                          refine oMov eC ?_
                          refine xNil ?_
                          refine TQ.qn ?_
                          refine AW.ret ?_
                          obtain rfl := Option.some.inj H
                          exact endsR (RL.cons (RV.tmp eZ) (VO.flat rfl) RL.nil) List.nodup_nil
                  · refine AW.regs ?_
                    refine oLoadVA (es := [(.d (.int .i64 v39.1.Epoch)), (.d (.sl 3 (List.map d_TPart v39.1.Parts))), (.d (.int .i64 v39.1.Move.No)), (.d (.int .i64 v39.1.Move.Stage)), (.d (.int .i64 v39.1.Move.Lo)), (.d (.int .i64 v39.1.Move.Hi)), (.d (.int .i64 v39.1.Move.From)), (.d (.int .i64 v39.1.Move.To)), (.d (.sl 2 (List.map d_TCell v39.1.Move.Cells)))]) (eS rfl eZ) bZ rfl ?_
                    refine oLoadVA (es := [(.d (.int .i64 v8.1.Epoch)), (.d (.sl 3 (List.map d_TPart v8.1.Parts))), (.d (.int .i64 v8.1.Move.No)), (.d (.int .i64 v8.1.Move.Stage)), (.d (.int .i64 v8.1.Move.Lo)), (.d (.int .i64 v8.1.Move.Hi)), (.d (.int .i64 v8.1.Move.From)), (.d (.int .i64 v8.1.Move.To)), (.d (.sl 2 (List.map d_TCell v8.1.Move.Cells)))]) (eR rfl) (bS rfl (bS rfl (bS rfl bZ))) rfl ?_
                    obtain ⟨v48, h49, H⟩ := obind H
                    refine oCall (u := (.one (.d (.bool v48)))) eC Cl.fn (c_laws_eqAtlas h49) (Evs.cons (eS rfl eZ) (Evs.cons eZ Evs.nil)) (VDs.cons (VD.agg rfl) (VDs.cons (VD.agg rfl) VDs.nil)) rfl ?_
                    refine oInv eZ ?_
                    refine oMov eZ ?_
                    rcases oite H with ⟨h50, H⟩ | ⟨h50, H⟩
                    · refine gDo eZ (congrArg Bool.not h50) ?_
                      refine oMov (eR rfl) ?_
                      refine gDo (eS rfl eZ) (congrArg Bool.not h50) ?_
                      refine oMov (eR rfl) ?_
                      refine gDo (eR rfl) (congrArg Bool.not h50) ?_
                      refine oNeq (eS rfl eZ) eZ ?_
                      refine oPickF (eR rfl) (congrArg Bool.not h50) eZ ?_
                      refine xNil ?_
                      exact TQ.qn ⟨(decide (¬ v39.2 = v8.2)), H, (wk_mkG [896, 384] (SL.cons (eR rfl) rfl VWk.rfl (SL.cons (eR rfl) rfl VWk.rfl (SL.cons eZ rfl VWk.rfl SL.nil))) (BL.drop rfl (BL.keep rfl (BL.keep rfl (BL.drop rfl (BL.keep rfl BL.nil))))) (BK.cons rfl (bS rfl (bS rfl (bS rfl (bS rfl bZ)))) rfl (by first | rfl | simp) (BK.cons rfl (bS rfl (bS rfl bZ)) rfl rfl (BK.cons rfl (bS rfl bZ) rfl rfl BK.nil))) GK.nil)⟩
                    · refine gSkip eZ (congrArg Bool.not (nt h50)) rfl ?_
                      refine gSkip (eS rfl eZ) (congrArg Bool.not (nt h50)) rfl ?_
                      refine gSkip (eR rfl) (congrArg Bool.not (nt h50)) rfl ?_
                      refine oPickT (eR rfl) (congrArg Bool.not (nt h50)) eC ?_
                      refine xNil ?_
                      exact TQ.qn ⟨true, H, (wk_mkG [896, 384] (SL.cons (eR rfl) rfl VWk.rfl (SL.cons (eR rfl) rfl VWk.rfl (SL.cons eZ rfl VWk.rfl SL.nil))) (BL.drop rfl (BL.keep rfl (BL.keep rfl (BL.drop rfl (BL.keep rfl BL.nil))))) (BK.cons rfl (bS rfl (bS rfl (bS rfl (bS rfl bZ)))) rfl (by first | rfl | simp) (BK.cons rfl (bS rfl (bS rfl bZ)) rfl rfl (BK.cons rfl (bS rfl bZ) rfl rfl BK.nil))) GK.nil)⟩
          · refine AW.regs ?_
            refine oMov eZ ?_
            refine oLss eZ eC ?_
            refine oMov eZ ?_
            rcases oite H with ⟨h51, H⟩ | ⟨h51, H⟩
            · refine gSkip eZ (decide_eq_true h51) rfl ?_
              refine gSkip (eS rfl eZ) (decide_eq_true h51) rfl ?_
              refine gSkip (eR rfl) (decide_eq_true h51) rfl ?_
              refine gSkip (eR rfl) (decide_eq_true h51) rfl ?_
              refine oPickT (eR rfl) (decide_eq_true h51) eC ?_
              refine oMov eZ ?_
              refine gSkip eZ rfl rfl ?_
              refine gSkip (eS rfl eZ) rfl rfl ?_
              refine gSkip (eR rfl) rfl rfl ?_
              refine oPickT (eR rfl) rfl eC ?_
              refine xNil ?_
              exact TQ.qn ⟨true, H, (wk_mkG [] (SL.cons (eR rfl) rfl VWk.rfl (SL.cons (eR rfl) rfl VWk.rfl (SL.cons (eR rfl) rfl VWk.rfl (SL.cons (eR rfl) rfl VWk.rfl (SL.cons (eR rfl) rfl VWk.rfl (SL.cons eZ rfl VWk.rfl SL.nil)))))) (BL.keep rfl (BL.keep rfl (BL.keep rfl (BL.keep rfl (BL.keep rfl BL.nil))))) (BK.cons rfl bZ rfl rfl (BK.cons rfl (bS rfl bZ) rfl rfl (BK.cons rfl (bS rfl (bS rfl bZ)) rfl (by first | rfl | simp) (BK.cons rfl (bS rfl (bS rfl (bS rfl bZ))) rfl rfl (BK.cons rfl (bS rfl (bS rfl (bS rfl (bS rfl bZ)))) rfl rfl BK.nil))))) GK.nil)⟩
            · refine gDo eZ (decide_eq_false h51) ?_
              refine oLoadVA (es := [(.d (.int .i64 v12.1.Epoch)), (.sl 2113 0 v12.1.Parts.length), (.d (.int .i64 v12.1.Move.No)), (.d (.int .i64 v12.1.Move.Stage)), (.d (.int .i64 v12.1.Move.Lo)), (.d (.int .i64 v12.1.Move.Hi)), (.d (.int .i64 v12.1.Move.From)), (.d (.int .i64 v12.1.Move.To)), (.sl 2120 0 v12.1.Move.Cells.length)]) (eR rfl) (bS rfl (bS rfl bZ)) rfl ?_
              refine gDo (eS rfl eZ) (decide_eq_false h51) ?_
              refine oLoadVA (es := [(.d (.int .i64 v8.1.Epoch)), (.d (.sl 3 (List.map d_TPart v8.1.Parts))), (.d (.int .i64 v8.1.Move.No)), (.d (.int .i64 v8.1.Move.Stage)), (.d (.int .i64 v8.1.Move.Lo)), (.d (.int .i64 v8.1.Move.Hi)), (.d (.int .i64 v8.1.Move.From)), (.d (.int .i64 v8.1.Move.To)), (.d (.sl 2 (List.map d_TCell v8.1.Move.Cells)))]) (eR rfl) (bS rfl bZ) rfl ?_
              refine gDo (eR rfl) (decide_eq_false h51) ?_
              obtain ⟨v52, h53, H⟩ := obind H
              refine oCall (u := (.one (.d (.bool v52)))) eC Cl.fn (c_laws_eqAtlas h53) (Evs.cons (eS rfl eZ) (Evs.cons eZ Evs.nil)) (VDs.cons (VD.aggs (CDs.plain (CDs.sl (bS rfl (bS rfl (bS rfl bZ))) (List.length_map _) (CDs.plain (CDs.plain (CDs.plain (CDs.plain (CDs.plain (CDs.plain (CDs.sl (bS rfl (bS rfl (bS rfl (bS rfl bZ)))) (List.length_map _) CDs.nil)))))))))) (VDs.cons (VD.agg rfl) VDs.nil)) rfl ?_
              refine gDo (eR rfl) (decide_eq_false h51) ?_
              refine oInv eZ ?_
              refine oPickF (eR rfl) (decide_eq_false h51) eZ ?_
              refine oMov eZ ?_
              rcases oite H with ⟨h54, H⟩ | ⟨h54, H⟩
              · refine gDo eZ (congrArg Bool.not h54) ?_
                refine oMov (eR rfl) ?_
                refine gDo (eS rfl eZ) (congrArg Bool.not h54) ?_
                refine oMov (eR rfl) ?_
                refine gDo (eR rfl) (congrArg Bool.not h54) ?_
                refine oNeq (eS rfl eZ) eZ ?_
                refine oPickF (eR rfl) (congrArg Bool.not h54) eZ ?_
                refine xNil ?_
                exact TQ.qn ⟨(decide (¬ v12.2 = v8.2)), H, (wk_mkG [] (SL.cons (eR rfl) rfl VWk.rfl (SL.cons (eR rfl) rfl VWk.rfl (SL.cons (eR rfl) rfl VWk.rfl (SL.cons (eR rfl) rfl VWk.rfl (SL.cons (eR rfl) rfl VWk.rfl (SL.cons eZ rfl VWk.rfl SL.nil)))))) (BL.keep rfl (BL.keep rfl (BL.keep rfl (BL.keep rfl (BL.keep rfl BL.nil))))) (BK.cons rfl bZ rfl rfl (BK.cons rfl (bS rfl bZ) rfl rfl (BK.cons rfl (bS rfl (bS rfl bZ)) rfl (by first | rfl | simp) (BK.cons rfl (bS rfl (bS rfl (bS rfl bZ))) rfl rfl (BK.cons rfl (bS rfl (bS rfl (bS rfl (bS rfl bZ)))) rfl rfl BK.nil))))) GK.nil)⟩
              · refine gSkip eZ (congrArg Bool.not (nt h54)) rfl ?_
                refine gSkip (eS rfl eZ) (congrArg Bool.not (nt h54)) rfl ?_
                refine gSkip (eR rfl) (congrArg Bool.not (nt h54)) rfl ?_
                refine oPickT (eR rfl) (congrArg Bool.not (nt h54)) eC ?_
                refine xNil ?_
                exact TQ.qn ⟨true, H, (wk_mkG [] (SL.cons (eR rfl) rfl VWk.rfl (SL.cons (eR rfl) rfl VWk.rfl (SL.cons (eR rfl) rfl VWk.rfl (SL.cons (eR rfl) rfl VWk.rfl (SL.cons (eR rfl) rfl VWk.rfl (SL.cons eZ rfl VWk.rfl SL.nil)))))) (BL.keep rfl (BL.keep rfl (BL.keep rfl (BL.keep rfl (BL.keep rfl BL.nil))))) (BK.cons rfl bZ rfl rfl (BK.cons rfl (bS rfl bZ) rfl rfl (BK.cons rfl (bS rfl (bS rfl bZ)) rfl (by first | rfl | simp) (BK.cons rfl (bS rfl (bS rfl (bS rfl bZ))) rfl rfl (BK.cons rfl (bS rfl (bS rfl (bS rfl (bS rfl bZ)))) rfl rfl BK.nil))))) GK.nil)⟩
        · refine AW.condT eZ (congrArg Bool.not (nt h21)) ?_
          refine AW.seq ?_
          refine AW.regs ?_
          refine oMov eC ?_
          refine xNil ?_
          refine TQ.qn ?_
          refine AW.ret ?_
          refine TQ.qr ?_
          obtain rfl := Option.some.inj H
          exact endsR (RL.cons (RV.tmp eZ) (VO.flat rfl) RL.nil) List.nodup_nil
    · refine AW.regs ?_
      refine oLoadVA (es := [(.d (.int .i64 v12.1.Epoch)), (.sl 2113 0 v12.1.Parts.length), (.d (.int .i64 v12.1.Move.No)), (.d (.int .i64 v12.1.Move.Stage)), (.d (.int .i64 v12.1.Move.Lo)), (.d (.int .i64 v12.1.Move.Hi)), (.d (.int .i64 v12.1.Move.From)), (.d (.int .i64 v12.1.Move.To)), (.sl 2120 0 v12.1.Move.Cells.length)]) (eS rfl eZ) bZ rfl ?_
      refine oLoadVA (es := [(.d (.int .i64 v8.1.Epoch)), (.d (.sl 3 (List.map d_TPart v8.1.Parts))), (.d (.int .i64 v8.1.Move.No)), (.d (.int .i64 v8.1.Move.Stage)), (.d (.int .i64 v8.1.Move.Lo)), (.d (.int .i64 v8.1.Move.Hi)), (.d (.int .i64 v8.1.Move.From)), (.d (.int .i64 v8.1.Move.To)), (.d (.sl 2 (List.map d_TCell v8.1.Move.Cells)))]) (eR rfl) (bS rfl (bS rfl (bS rfl (bS rfl (bS rfl (bS rfl (bS rfl (bS rfl bZ)))))))) rfl ?_
      obtain ⟨v55, h56, H⟩ := obind H
      refine oCall (u := (.one (.d (.bool v55)))) eC Cl.fn (c_laws_eqAtlas h56) (Evs.cons (eS rfl eZ) (Evs.cons eZ Evs.nil)) (VDs.cons (VD.aggs (CDs.plain (CDs.sl (bS rfl (bS rfl (bS rfl bZ))) (List.length_map _) (CDs.plain (CDs.plain (CDs.plain (CDs.plain (CDs.plain (CDs.plain (CDs.sl (bS rfl (bS rfl bZ)) (List.length_map _) CDs.nil)))))))))) (VDs.cons (VD.agg rfl) VDs.nil)) rfl ?_
      refine oInv eZ ?_
      refine oMov eZ ?_
      rcases oite H with ⟨h57, H⟩ | ⟨h57, H⟩
      · refine gDo eZ (congrArg Bool.not h57) ?_
        refine oMov (eR rfl) ?_
        refine gDo (eS rfl eZ) (congrArg Bool.not h57) ?_
        refine oMov (eR rfl) ?_
        refine gDo (eR rfl) (congrArg Bool.not h57) ?_
        refine oNeq (eS rfl eZ) eZ ?_
        refine oPickF (eR rfl) (congrArg Bool.not h57) eZ ?_
        refine xNil ?_
        exact TQ.qn ⟨(decide (¬ v12.2 = v8.2)), H, (wk_mkG [] (SL.cons (eR rfl) rfl VWk.rfl (SL.cons (eR rfl) rfl VWk.rfl (SL.cons (eR rfl) rfl VWk.rfl (SL.cons (eR rfl) rfl VWk.rfl (SL.cons (eR rfl) rfl VWk.rfl (SL.cons (eR rfl) rfl VWk.rfl (SL.cons (eR rfl) rfl VWk.rfl (SL.cons eZ rfl VWk.rfl SL.nil)))))))) (BL.keep rfl (BL.keep rfl (BL.keep rfl (BL.keep rfl (BL.keep rfl (BL.keep rfl (BL.keep rfl (BL.keep rfl (BL.keep rfl (BL.keep rfl BL.nil)))))))))) (BK.cons rfl (bS rfl (bS rfl (bS rfl (bS rfl (bS rfl (bS rfl (bS rfl (bS rfl (bS rfl bZ))))))))) rfl rfl (BK.cons rfl (bS rfl (bS rfl (bS rfl (bS rfl (bS rfl (bS rfl (bS rfl (bS rfl bZ)))))))) rfl rfl (BK.cons rfl (bS rfl (bS rfl (bS rfl (bS rfl bZ)))) rfl (by first | rfl | simp) (BK.cons rfl bZ rfl (by first | rfl | simp) (BK.cons rfl (bS rfl (bS rfl (bS rfl (bS rfl (bS rfl (bS rfl (bS rfl bZ))))))) rfl rfl (BK.cons rfl (bS rfl (bS rfl (bS rfl (bS rfl (bS rfl (bS rfl bZ)))))) rfl rfl (BK.cons rfl (bS rfl (bS rfl (bS rfl bZ))) rfl rfl (BK.cons rfl (bS rfl (bS rfl bZ)) rfl rfl BK.nil)))))))) GK.nil)⟩
      · refine gSkip eZ (congrArg Bool.not (nt h57)) rfl ?_
        refine gSkip (eS rfl eZ) (congrArg Bool.not (nt h57)) rfl ?_
        refine gSkip (eR rfl) (congrArg Bool.not (nt h57)) rfl ?_
        refine oPickT (eR rfl) (congrArg Bool.not (nt h57)) eC ?_
        refine xNil ?_
        exact TQ.qn ⟨true, H, (wk_mkG [] (SL.cons (eR rfl) rfl VWk.rfl (SL.cons (eR rfl) rfl VWk.rfl (SL.cons (eR rfl) rfl VWk.rfl (SL.cons (eR rfl) rfl VWk.rfl (SL.cons (eR rfl) rfl VWk.rfl (SL.cons (eR rfl) rfl VWk.rfl (SL.cons (eR rfl) rfl VWk.rfl (SL.cons eZ rfl VWk.rfl SL.nil)))))))) (BL.keep rfl (BL.keep rfl (BL.keep rfl (BL.keep rfl (BL.keep rfl (BL.keep rfl (BL.keep rfl (BL.keep rfl (BL.keep rfl (BL.keep rfl BL.nil)))))))))) (BK.cons rfl (bS rfl (bS rfl (bS rfl (bS rfl (bS rfl (bS rfl (bS rfl (bS rfl (bS rfl bZ))))))))) rfl rfl (BK.cons rfl (bS rfl (bS rfl (bS rfl (bS rfl (bS rfl (bS rfl (bS rfl (bS rfl bZ)))))))) rfl rfl (BK.cons rfl (bS rfl (bS rfl (bS rfl (bS rfl bZ)))) rfl (by first | rfl | simp) (BK.cons rfl bZ rfl (by first | rfl | simp) (BK.cons rfl (bS rfl (bS rfl (bS rfl (bS rfl (bS rfl (bS rfl (bS rfl bZ))))))) rfl rfl (BK.cons rfl (bS rfl (bS rfl (bS rfl (bS rfl (bS rfl (bS rfl bZ)))))) rfl rfl (BK.cons rfl (bS rfl (bS rfl (bS rfl bZ))) rfl rfl (BK.cons rfl (bS rfl (bS rfl bZ)) rfl rfl BK.nil)))))))) GK.nil)⟩

end Go.AW
