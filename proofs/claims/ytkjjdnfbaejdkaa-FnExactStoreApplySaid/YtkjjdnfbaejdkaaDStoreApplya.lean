/- That functions of the program compute what the plain functions say: printed by a program of the prover's own (tool/dec.py). Conditions: each theorem's own. -/
import Derived.Test.YtkjjdnfbaejdkaaMStoreApply
import Derived.Test.YtkjjdnfbaejdkaaGStoreApply
set_option linter.unusedVariables false
set_option linter.unusedSimpArgs false
set_option maxRecDepth 100000
namespace Go.AW
open Go.Proofs

theorem c_laws_szCellS {a1 : (List TCell)} {a2 : Int} {r : Int} (H : m_laws_szCellS a1 a2 = some r) : Fn Try.prog k_laws_szCellS (lent [(.sl 2 (List.map d_TCell a1)), (.int .i64 a2)]) true [(.int .i64 r)] := by
  refine i_laws_szCellS_fn (Nat.le_of_ble_eq_true rfl) ?_
  rw [init_mk]
  refine AW.weaken (wk_mk [] (SL.cons (v := (.one (.d (.sl 2 (List.map d_TCell a1))))) eZ rfl VWk.rfl (SL.cons (v := (.one (.d (.int .i64 a2)))) (eS rfl eZ) rfl VWk.rfl SL.nil)) BL.nil BK.nil) ?_
  unfold m_laws_szCellS at H
  unfold i_laws_szCellS
  refine AW.seq ?_
  refine AW.regs ?_
  refine oMov eC ?_
  refine xNil ?_
  refine TQ.qn ?_
  refine AW.seq ?_
  refine AW.regs ?_
  refine oMov (eS rfl (eS rfl eZ)) ?_
  refine oMov (eS rfl (eS rfl eZ)) ?_
  refine oLenD eZ (n := a1.length) (List.length_map _) ?_
  refine oSub (eS rfl (eS rfl eZ)) eZ ?_
  refine oMov eZ ?_
  refine xNil ?_
  refine TQ.qn ?_
  refine AW.seq ?_
  refine AW.seq ?_
  refine AW.regs ?_
  refine oMov eZ ?_
  refine oLss eZ eC ?_
  refine xNil ?_
  refine TQ.qn ?_
  rcases oite H with ⟨h3, H⟩ | ⟨h3, H⟩
  · refine AW.condT eZ (decide_eq_true h3) ?_
    refine AW.seq ?_
    refine AW.regs ?_
    refine oMov eC ?_
    refine xNil ?_
    refine TQ.qn ?_
    refine AW.ret ?_
    refine TQ.qr ?_
    obtain rfl := Option.some.inj H
    exact endsR (RL.cons (RV.tmp eZ) (VO.flat rfl) RL.nil) List.nodup_nil
  · refine AW.condF eZ (decide_eq_false h3) ?_
    refine AW.skip ?_
    refine TQ.qn ?_
    refine AW.seq ?_
    refine AW.regs ?_
    refine oMov (eS rfl (eS rfl eZ)) ?_
    refine oMov eZ ?_
    refine xNil ?_
    refine TQ.qn ?_
    refine AW.ret ?_
    obtain rfl := Option.some.inj H
    exact endsR (RL.cons (RV.tmp eZ) (VO.flat rfl) RL.nil) List.nodup_nil

theorem c_laws_szWriteS {a1 : (List TCell)} {a2 : Int} {r : Int} (H : m_laws_szWriteS a1 a2 = some r) : Fn Try.prog k_laws_szWriteS (lent [(.sl 2 (List.map d_TCell a1)), (.int .i64 a2)]) true [(.int .i64 r)] := by
  refine i_laws_szWriteS_fn (Nat.le_of_ble_eq_true rfl) ?_
  rw [init_mk]
  refine AW.weaken (wk_mk [] (SL.cons (v := (.one (.d (.sl 2 (List.map d_TCell a1))))) eZ rfl VWk.rfl (SL.cons (v := (.one (.d (.int .i64 a2)))) (eS rfl eZ) rfl VWk.rfl SL.nil)) BL.nil BK.nil) ?_
  unfold m_laws_szWriteS at H
  unfold i_laws_szWriteS
  refine AW.seq ?_
  refine AW.regs ?_
  refine oMov eC ?_
  refine xNil ?_
  refine TQ.qn ?_
  refine AW.seq ?_
  refine AW.regs ?_
  refine oMov (eS rfl (eS rfl eZ)) ?_
  refine oMov (eS rfl (eS rfl eZ)) ?_
  refine oLenD eZ (n := a1.length) (List.length_map _) ?_
  refine oSub (eS rfl (eS rfl eZ)) eZ ?_
  refine oMov eZ ?_
  refine xNil ?_
  refine TQ.qn ?_
  refine AW.seq ?_
  refine AW.seq ?_
  refine AW.regs ?_
  refine oMov eZ ?_
  refine oLss eZ eC ?_
  refine xNil ?_
  refine TQ.qn ?_
  rcases oite H with ⟨h3, H⟩ | ⟨h3, H⟩
  · refine AW.condT eZ (decide_eq_true h3) ?_
    refine AW.seq ?_
    refine AW.regs ?_
    refine oMov eC ?_
    refine xNil ?_
    refine TQ.qn ?_
    refine AW.ret ?_
    refine TQ.qr ?_
    obtain rfl := Option.some.inj H
    exact endsR (RL.cons (RV.tmp eZ) (VO.flat rfl) RL.nil) List.nodup_nil
  · refine AW.condF eZ (decide_eq_false h3) ?_
    refine AW.skip ?_
    refine TQ.qn ?_
    refine AW.seq ?_
    refine AW.regs ?_
    refine oMov (eS rfl (eS rfl eZ)) ?_
    refine oMov eZ ?_
    refine xNil ?_
    refine TQ.qn ?_
    refine AW.ret ?_
    obtain rfl := Option.some.inj H
    exact endsR (RL.cons (RV.tmp eZ) (VO.flat rfl) RL.nil) List.nodup_nil

theorem c_laws_toCell {a1 : TCell} {r : TCell} (H : m_laws_toCell a1 = some r) : Fn Try.prog k_laws_toCell (lent [(.agg (d_TCell a1))]) true [(.agg (d_TCell r))] := by
  refine i_laws_toCell_fn (Nat.le_of_ble_eq_true rfl) ?_
  rw [init_mk]
  refine AW.weaken (wk_mk [] (SL.cons (v := (.agg [(.d (.int .i64 a1.Key)), (.d (.int .i64 a1.Value))])) eZ rfl VWk.rfl SL.nil) BL.nil BK.nil) ?_
  unfold m_laws_toCell at H
  unfold i_laws_toCell
  refine AW.seq ?_
  refine AW.regs ?_
  refine oBox (n := 64) (m := 2) (cs := [(.d (.int .i64 a1.Key)), (.d (.int .i64 a1.Value))]) rfl eZ rfl rfl nZ ?_
  refine oVar (n := 128) (m := 2) rfl rfl (nS rfl nZ) ?_
  refine xNil ?_
  refine TQ.qn ?_
  refine AW.seq ?_
  refine AW.regs ?_
  refine oVar (n := 192) (m := 2) rfl rfl (nS rfl (nS rfl nZ)) ?_
  refine xNil ?_
  refine TQ.qn ?_
  refine AW.seq ?_
  refine AW.regs ?_
  refine oFaddrN (m := 0) (eS rfl (eS rfl eZ)) rfl ?_
  refine oLoadV (q := 0) (c := (.d (.int .i64 a1.Key))) eZ (bS rfl (bS rfl bZ)) rfl rfl ?_
  refine oFaddrN (m := 0) (eS rfl (eS rfl eZ)) rfl ?_
  refine oStoreV (es := [(.d (.int .i64 a1.Key)), (.d (.int .i64 0))]) eZ (eS rfl eZ) rfl rfl bZ rfl ?_
  refine xNil ?_
  refine TQ.qn ?_
  refine AW.seq ?_
  refine AW.regs ?_
  refine oFaddrN (m := 1) (eS rfl (eS rfl (eS rfl (eS rfl (eS rfl eZ))))) rfl ?_
  refine oLoadV (q := 1) (c := (.d (.int .i64 a1.Value))) eZ (bS rfl (bS rfl (bS rfl bZ))) rfl rfl ?_
  refine oFaddrN (m := 1) (eS rfl (eS rfl (eS rfl (eS rfl (eS rfl eZ))))) rfl ?_
  refine oStoreV (es := [(.d (.int .i64 a1.Key)), (.d (.int .i64 a1.Value))]) eZ (eS rfl eZ) rfl rfl bZ rfl ?_
  refine xNil ?_
  refine TQ.qn ?_
  refine AW.seq ?_
  refine AW.regs ?_
  refine oLoadVA (es := [(.d (.int .i64 a1.Key)), (.d (.int .i64 a1.Value))]) (eS rfl (eS rfl (eS rfl (eS rfl (eS rfl (eS rfl eZ)))))) bZ rfl ?_
  refine oStoreV (es := [(.d (.int .i64 a1.Key)), (.d (.int .i64 a1.Value))]) (eS rfl (eS rfl (eS rfl (eS rfl (eS rfl (eS rfl (eS rfl (eS rfl eZ)))))))) eZ rfl rfl (bS rfl (bS rfl (bS rfl bZ))) rfl ?_
  refine xNil ?_
  refine TQ.qn ?_
  refine AW.ret ?_
  obtain rfl := Option.some.inj H
  exact endsR (RL.cons (RV.cellA (es := [(.d (.int .i64 a1.Key)), (.d (.int .i64 a1.Value))]) (eS rfl (eS rfl (eS rfl (eS rfl (eS rfl (eS rfl (eS rfl (eS rfl eZ)))))))) bZ rfl) (VO.agg (ds := [(.int .i64 a1.Key), (.int .i64 a1.Value)]) rfl rfl) RL.nil) List.nodup_nil

theorem c_laws_toCellS {a1 : (List TCell)} {r : (List TCell)} (H : m_laws_toCellS a1 = some r) : Fn Try.prog k_laws_toCellS (lent [(.sl 2 (List.map d_TCell a1))]) true [(.sl 2 (List.map d_TCell r))] := by
  refine i_laws_toCellS_fn (Nat.le_of_ble_eq_true rfl) ?_
  rw [init_mk]
  refine AW.weaken (wk_mk [] (SL.cons (v := (.one (.d (.sl 2 (List.map d_TCell a1))))) eZ rfl VWk.rfl SL.nil) BL.nil BK.nil) ?_
  unfold m_laws_toCellS at H
  unfold i_laws_toCellS
  refine AW.seq ?_
  refine AW.regs ?_
  refine oMov eC ?_
  refine xNil ?_
  refine TQ.qn ?_
  refine AW.seq ?_
  refine AW.regs ?_
  refine oMov (eS rfl eZ) ?_
  refine oLenD eZ (n := a1.length) (List.length_map _) ?_
  obtain ⟨h2, H⟩ := oguard H
  refine oMksl (f := d_TCell) (zv := (TCell.mk 0 0)) (own := true) (m := 448) (q := (Int.toNat (a1.length : Int))) rfl rfl eZ eZ h2.1 h2.2 rfl (by decide) rfl nZ ?_
  refine oMov eZ ?_
  refine xNil ?_
  refine TQ.qn ?_
  refine AW.seqJ (fun t3 : (List TCell) => laws_toCellS_j3 t3 = some r) (fun t3 => mk [(3, (.one (.sl 320128 0 t3.length)))] [(320128, (.data 2 (List.map d_TCell t3) true none))] noG) ?_ ?_
  · intro t3 H
    unfold laws_toCellS_j3 at H
    refine AW.seq ?_
    refine AW.regs ?_
    refine oMov eZ ?_
    refine oMov eZ ?_
    refine xNil ?_
    refine TQ.qn ?_
    refine AW.ret ?_
    obtain rfl := Option.some.inj H
    exact endsR (RL.cons (RV.tmp eZ) (VO.sl bZ (List.length_map _) (allFlat fun _ => rfl)) RL.nil) (by decide)
  · refine AW.seq ?_
    refine AW.regs ?_
    refine oMov eC ?_
    refine xNil ?_
    refine TQ.qn ?_
    refine AW.block ?_
    refine AW.iter (fun s5 : ((List TCell) × Int) => mk [(0, (.one (.d (.sl 2 (List.map d_TCell a1))))), (3, (.one (.sl 320192 0 s5.1.length))), (4, (.one (.d (.int .i64 s5.2))))] [(320192, (.data 2 (List.map d_TCell s5.1) true none))] noG) H ((wk_mk [] (SL.cons (eS rfl (eS rfl (eS rfl (eS rfl (eS rfl (eS rfl eZ)))))) rfl VWk.rfl (SL.cons (eS rfl eZ) rfl (VWk.one (CWk.len (by first | (simp; done) | (simp; omega) | omega))) (SL.cons eZ rfl VWk.rfl SL.nil))) (BL.keep rfl BL.nil) (BK.cons rfl bZ rfl rfl BK.nil)).trans (wk_ren 448 320192 rfl rfl (nS rfl nZ))) ?_
    intro kb6 s5 H
    unfold laws_toCellS_b5 at H
    refine AW.seq ?_
    refine AW.seq ?_
    refine AW.regs ?_
    refine oMov (eS rfl (eS rfl eZ)) ?_
    refine oMov (eS rfl eZ) ?_
    refine oLenD eZ (n := a1.length) (List.length_map _) ?_
    refine oLss (eS rfl (eS rfl eZ)) eZ ?_
    refine xNil ?_
    refine TQ.qn ?_
    rcases oite H with ⟨h7, H⟩ | ⟨h7, H⟩
    · refine AW.condT eZ (decide_eq_true h7) ?_
      refine AW.skip ?_
      refine TQ.qn ?_
      refine AW.seq ?_
      refine AW.block ?_
      refine AW.regs ?_
      refine oMov (eS rfl (eS rfl (eS rfl (eS rfl (eS rfl eZ))))) ?_
      refine oMov (eS rfl (eS rfl (eS rfl (eS rfl (eS rfl (eS rfl (eS rfl eZ))))))) ?_
      refine oMov (eS rfl (eS rfl (eS rfl (eS rfl (eS rfl (eS rfl eZ)))))) ?_
      refine oMov (eS rfl (eS rfl (eS rfl (eS rfl (eS rfl (eS rfl (eS rfl (eS rfl (eS rfl eZ))))))))) ?_
      obtain ⟨v8, h9, H⟩ := obind H
      refine oAtD (eS rfl eZ) eZ h9 ?_
      refine oLoadBA (es := [(.d (.int .i64 v8.Key)), (.d (.int .i64 v8.Value))]) eZ rfl ?_
      obtain ⟨v10, h11, H⟩ := obind H
      refine oCall (u := (.agg [(.d (.int .i64 v10.Key)), (.d (.int .i64 v10.Value))])) eC Cl.fn (c_laws_toCell h11) (Evs.cons eZ Evs.nil) (VDs.cons (VD.agg rfl) VDs.nil) rfl ?_
      obtain ⟨v12, h13, H⟩ := obind H
      refine oAtN (eS rfl (eS rfl (eS rfl (eS rfl (eS rfl (eS rfl eZ)))))) (eS rfl (eS rfl (eS rfl (eS rfl (eS rfl eZ))))) bZ rfl h13 ?_
      refine oStoreD (t := v12) (t' := v10) (es := [(.int .i64 v10.Key), (.int .i64 v10.Value)]) eZ (eS rfl eZ) rfl rfl bZ (idx_at h13) rfl rfl ?_
      refine xNil ?_
      refine BQ.qn ?_
      refine TQ.qn ?_
      refine AW.regs ?_
      refine oMov (eS rfl (eS rfl (eS rfl (eS rfl (eS rfl (eS rfl (eS rfl (eS rfl (eS rfl (eS rfl (eS rfl (eS rfl (eS rfl (eS rfl eZ)))))))))))))) ?_
      refine oAdd eZ eC ?_
      refine oMov eZ ?_
      refine xNil ?_
      exact TQ.qn ⟨(s5.1.set (Int.toNat s5.2) v10, (IntKind.wrap .i64 (s5.2 + 1))), H, (wk_mk [] (SL.cons (eS rfl (eS rfl (eS rfl (eS rfl (eS rfl (eS rfl (eS rfl (eS rfl (eS rfl (eS rfl (eS rfl (eS rfl (eS rfl (eS rfl (eS rfl eZ))))))))))))))) rfl VWk.rfl (SL.cons (eS rfl (eS rfl (eS rfl (eS rfl (eS rfl (eS rfl (eS rfl (eS rfl (eS rfl (eS rfl (eS rfl (eS rfl (eS rfl (eS rfl (eS rfl (eS rfl eZ)))))))))))))))) rfl (VWk.one (CWk.len (by first | (simp; done) | (simp; omega) | omega))) (SL.cons eZ rfl VWk.rfl SL.nil))) (BL.keep rfl (BL.keep rfl BL.nil)) (BK.cons rfl bZ rfl rfl BK.nil))⟩
    · refine AW.condF eZ (decide_eq_false h7) ?_
      refine AW.exit ?_
      refine TQ.qe ?_
      refine TQ.qe ?_
      refine BQ.qe ?_
      exact TQ.qn ⟨s5.1, H, ((wk_mk [] (SL.cons (eS rfl (eS rfl (eS rfl (eS rfl (eS rfl eZ))))) rfl VWk.rfl SL.nil) (BL.keep rfl BL.nil) (BK.cons rfl bZ rfl rfl BK.nil)).trans (wk_ren 320192 320128 rfl rfl (nS rfl nZ)))⟩

theorem c_laws_toWrite {a1 : TCell} {r : TCell} (H : m_laws_toWrite a1 = some r) : Fn Try.prog k_laws_toWrite (lent [(.agg (d_TCell a1))]) true [(.agg (d_TCell r))] := by
  refine i_laws_toWrite_fn (Nat.le_of_ble_eq_true rfl) ?_
  rw [init_mk]
  refine AW.weaken (wk_mk [] (SL.cons (v := (.agg [(.d (.int .i64 a1.Key)), (.d (.int .i64 a1.Value))])) eZ rfl VWk.rfl SL.nil) BL.nil BK.nil) ?_
  unfold m_laws_toWrite at H
  unfold i_laws_toWrite
  refine AW.seq ?_
  refine AW.regs ?_
  refine oBox (n := 64) (m := 2) (cs := [(.d (.int .i64 a1.Key)), (.d (.int .i64 a1.Value))]) rfl eZ rfl rfl nZ ?_
  refine oVar (n := 128) (m := 2) rfl rfl (nS rfl nZ) ?_
  refine xNil ?_
  refine TQ.qn ?_
  refine AW.seq ?_
  refine AW.regs ?_
  refine oVar (n := 192) (m := 2) rfl rfl (nS rfl (nS rfl nZ)) ?_
  refine xNil ?_
  refine TQ.qn ?_
  refine AW.seq ?_
  refine AW.regs ?_
  refine oFaddrN (m := 0) (eS rfl (eS rfl eZ)) rfl ?_
  refine oLoadV (q := 0) (c := (.d (.int .i64 a1.Key))) eZ (bS rfl (bS rfl bZ)) rfl rfl ?_
  refine oFaddrN (m := 0) (eS rfl (eS rfl eZ)) rfl ?_
  refine oStoreV (es := [(.d (.int .i64 a1.Key)), (.d (.int .i64 0))]) eZ (eS rfl eZ) rfl rfl bZ rfl ?_
  refine xNil ?_
  refine TQ.qn ?_
  refine AW.seq ?_
  refine AW.regs ?_
  refine oFaddrN (m := 1) (eS rfl (eS rfl (eS rfl (eS rfl (eS rfl eZ))))) rfl ?_
  refine oLoadV (q := 1) (c := (.d (.int .i64 a1.Value))) eZ (bS rfl (bS rfl (bS rfl bZ))) rfl rfl ?_
  refine oFaddrN (m := 1) (eS rfl (eS rfl (eS rfl (eS rfl (eS rfl eZ))))) rfl ?_
  refine oStoreV (es := [(.d (.int .i64 a1.Key)), (.d (.int .i64 a1.Value))]) eZ (eS rfl eZ) rfl rfl bZ rfl ?_
  refine xNil ?_
  refine TQ.qn ?_
  refine AW.seq ?_
  refine AW.regs ?_
  refine oLoadVA (es := [(.d (.int .i64 a1.Key)), (.d (.int .i64 a1.Value))]) (eS rfl (eS rfl (eS rfl (eS rfl (eS rfl (eS rfl eZ)))))) bZ rfl ?_
  refine oStoreV (es := [(.d (.int .i64 a1.Key)), (.d (.int .i64 a1.Value))]) (eS rfl (eS rfl (eS rfl (eS rfl (eS rfl (eS rfl (eS rfl (eS rfl eZ)))))))) eZ rfl rfl (bS rfl (bS rfl (bS rfl bZ))) rfl ?_
  refine xNil ?_
  refine TQ.qn ?_
  refine AW.ret ?_
  obtain rfl := Option.some.inj H
  exact endsR (RL.cons (RV.cellA (es := [(.d (.int .i64 a1.Key)), (.d (.int .i64 a1.Value))]) (eS rfl (eS rfl (eS rfl (eS rfl (eS rfl (eS rfl (eS rfl (eS rfl eZ)))))))) bZ rfl) (VO.agg (ds := [(.int .i64 a1.Key), (.int .i64 a1.Value)]) rfl rfl) RL.nil) List.nodup_nil

theorem c_laws_toWriteS {a1 : (List TCell)} {r : (List TCell)} (H : m_laws_toWriteS a1 = some r) : Fn Try.prog k_laws_toWriteS (lent [(.sl 2 (List.map d_TCell a1))]) true [(.sl 2 (List.map d_TCell r))] := by
  refine i_laws_toWriteS_fn (Nat.le_of_ble_eq_true rfl) ?_
  rw [init_mk]
  refine AW.weaken (wk_mk [] (SL.cons (v := (.one (.d (.sl 2 (List.map d_TCell a1))))) eZ rfl VWk.rfl SL.nil) BL.nil BK.nil) ?_
  unfold m_laws_toWriteS at H
  unfold i_laws_toWriteS
  refine AW.seq ?_
  refine AW.regs ?_
  refine oMov eC ?_
  refine xNil ?_
  refine TQ.qn ?_
  refine AW.seq ?_
  refine AW.regs ?_
  refine oMov (eS rfl eZ) ?_
  refine oLenD eZ (n := a1.length) (List.length_map _) ?_
  obtain ⟨h2, H⟩ := oguard H
  refine oMksl (f := d_TCell) (zv := (TCell.mk 0 0)) (own := true) (m := 448) (q := (Int.toNat (a1.length : Int))) rfl rfl eZ eZ h2.1 h2.2 rfl (by decide) rfl nZ ?_
  refine oMov eZ ?_
  refine xNil ?_
  refine TQ.qn ?_
  refine AW.seqJ (fun t3 : (List TCell) => laws_toWriteS_j3 t3 = some r) (fun t3 => mk [(3, (.one (.sl 320128 0 t3.length)))] [(320128, (.data 2 (List.map d_TCell t3) true none))] noG) ?_ ?_
  · intro t3 H
    unfold laws_toWriteS_j3 at H
    refine AW.seq ?_
    refine AW.regs ?_
    refine oMov eZ ?_
    refine oMov eZ ?_
    refine xNil ?_
    refine TQ.qn ?_
    refine AW.ret ?_
    obtain rfl := Option.some.inj H
    exact endsR (RL.cons (RV.tmp eZ) (VO.sl bZ (List.length_map _) (allFlat fun _ => rfl)) RL.nil) (by decide)
  · refine AW.seq ?_
    refine AW.regs ?_
    refine oMov eC ?_
    refine xNil ?_
    refine TQ.qn ?_
    refine AW.block ?_
    refine AW.iter (fun s5 : ((List TCell) × Int) => mk [(0, (.one (.d (.sl 2 (List.map d_TCell a1))))), (3, (.one (.sl 320192 0 s5.1.length))), (4, (.one (.d (.int .i64 s5.2))))] [(320192, (.data 2 (List.map d_TCell s5.1) true none))] noG) H ((wk_mk [] (SL.cons (eS rfl (eS rfl (eS rfl (eS rfl (eS rfl (eS rfl eZ)))))) rfl VWk.rfl (SL.cons (eS rfl eZ) rfl (VWk.one (CWk.len (by first | (simp; done) | (simp; omega) | omega))) (SL.cons eZ rfl VWk.rfl SL.nil))) (BL.keep rfl BL.nil) (BK.cons rfl bZ rfl rfl BK.nil)).trans (wk_ren 448 320192 rfl rfl (nS rfl nZ))) ?_
    intro kb6 s5 H
    unfold laws_toWriteS_b5 at H
    refine AW.seq ?_
    refine AW.seq ?_
    refine AW.regs ?_
    refine oMov (eS rfl (eS rfl eZ)) ?_
    refine oMov (eS rfl eZ) ?_
    refine oLenD eZ (n := a1.length) (List.length_map _) ?_
    refine oLss (eS rfl (eS rfl eZ)) eZ ?_
    refine xNil ?_
    refine TQ.qn ?_
    rcases oite H with ⟨h7, H⟩ | ⟨h7, H⟩
    · refine AW.condT eZ (decide_eq_true h7) ?_
      refine AW.skip ?_
      refine TQ.qn ?_
      refine AW.seq ?_
      refine AW.block ?_
      refine AW.regs ?_
      refine oMov (eS rfl (eS rfl (eS rfl (eS rfl (eS rfl eZ))))) ?_
      refine oMov (eS rfl (eS rfl (eS rfl (eS rfl (eS rfl (eS rfl (eS rfl eZ))))))) ?_
      refine oMov (eS rfl (eS rfl (eS rfl (eS rfl (eS rfl (eS rfl eZ)))))) ?_
      refine oMov (eS rfl (eS rfl (eS rfl (eS rfl (eS rfl (eS rfl (eS rfl (eS rfl (eS rfl eZ))))))))) ?_
      obtain ⟨v8, h9, H⟩ := obind H
      refine oAtD (eS rfl eZ) eZ h9 ?_
      refine oLoadBA (es := [(.d (.int .i64 v8.Key)), (.d (.int .i64 v8.Value))]) eZ rfl ?_
      obtain ⟨v10, h11, H⟩ := obind H
      refine oCall (u := (.agg [(.d (.int .i64 v10.Key)), (.d (.int .i64 v10.Value))])) eC Cl.fn (c_laws_toWrite h11) (Evs.cons eZ Evs.nil) (VDs.cons (VD.agg rfl) VDs.nil) rfl ?_
      obtain ⟨v12, h13, H⟩ := obind H
      refine oAtN (eS rfl (eS rfl (eS rfl (eS rfl (eS rfl (eS rfl eZ)))))) (eS rfl (eS rfl (eS rfl (eS rfl (eS rfl eZ))))) bZ rfl h13 ?_
      refine oStoreD (t := v12) (t' := v10) (es := [(.int .i64 v10.Key), (.int .i64 v10.Value)]) eZ (eS rfl eZ) rfl rfl bZ (idx_at h13) rfl rfl ?_
      refine xNil ?_
      refine BQ.qn ?_
      refine TQ.qn ?_
      refine AW.regs ?_
      refine oMov (eS rfl (eS rfl (eS rfl (eS rfl (eS rfl (eS rfl (eS rfl (eS rfl (eS rfl (eS rfl (eS rfl (eS rfl (eS rfl (eS rfl eZ)))))))))))))) ?_
      refine oAdd eZ eC ?_
      refine oMov eZ ?_
      refine xNil ?_
      exact TQ.qn ⟨(s5.1.set (Int.toNat s5.2) v10, (IntKind.wrap .i64 (s5.2 + 1))), H, (wk_mk [] (SL.cons (eS rfl (eS rfl (eS rfl (eS rfl (eS rfl (eS rfl (eS rfl (eS rfl (eS rfl (eS rfl (eS rfl (eS rfl (eS rfl (eS rfl (eS rfl eZ))))))))))))))) rfl VWk.rfl (SL.cons (eS rfl (eS rfl (eS rfl (eS rfl (eS rfl (eS rfl (eS rfl (eS rfl (eS rfl (eS rfl (eS rfl (eS rfl (eS rfl (eS rfl (eS rfl (eS rfl eZ)))))))))))))))) rfl (VWk.one (CWk.len (by first | (simp; done) | (simp; omega) | omega))) (SL.cons eZ rfl VWk.rfl SL.nil))) (BL.keep rfl (BL.keep rfl BL.nil)) (BK.cons rfl bZ rfl rfl BK.nil))⟩
    · refine AW.condF eZ (decide_eq_false h7) ?_
      refine AW.exit ?_
      refine TQ.qe ?_
      refine TQ.qe ?_
      refine BQ.qe ?_
      exact TQ.qn ⟨s5.1, H, ((wk_mk [] (SL.cons (eS rfl (eS rfl (eS rfl (eS rfl (eS rfl eZ))))) rfl VWk.rfl SL.nil) (BL.keep rfl BL.nil) (BK.cons rfl bZ rfl rfl BK.nil)).trans (wk_ren 320192 320128 rfl rfl (nS rfl nZ)))⟩

theorem c_spec_l1In {a1 : Int} {a2 : Int} {a3 : Int} {r : Bool} (H : m_spec_l1In a1 a2 a3 = some r) : Fn Try.prog k_spec_l1In (lent [(.int .i64 a1), (.int .i64 a2), (.int .i64 a3)]) true [(.bool r)] := by
  refine i_spec_l1In_fn (Nat.le_of_ble_eq_true rfl) ?_
  rw [init_mk]
  refine AW.weaken (wk_mk [] (SL.cons (v := (.one (.d (.int .i64 a1)))) eZ rfl VWk.rfl (SL.cons (v := (.one (.d (.int .i64 a2)))) (eS rfl eZ) rfl VWk.rfl (SL.cons (v := (.one (.d (.int .i64 a3)))) (eS rfl (eS rfl eZ)) rfl VWk.rfl SL.nil))) BL.nil BK.nil) ?_
  unfold m_spec_l1In at H
  unfold i_spec_l1In
  refine AW.seq ?_
  refine AW.regs ?_
  refine oMov eC ?_
  refine xNil ?_
  refine TQ.qn ?_
  refine AW.seq ?_
  refine AW.regs ?_
  refine oMov (eS rfl eZ) ?_
  refine oMov (eS rfl (eS rfl (eS rfl eZ))) ?_
  refine oGeq (eS rfl eZ) eZ ?_
  refine oMov eZ ?_
  rcases oite H with ⟨h4, H⟩ | ⟨h4, H⟩
  · refine gDo eZ (decide_eq_true h4) ?_
    refine oMov (eS rfl (eS rfl (eS rfl (eS rfl (eS rfl eZ))))) ?_
    refine gDo (eS rfl eZ) (decide_eq_true h4) ?_
    refine oMov (eS rfl (eS rfl (eS rfl (eS rfl (eS rfl (eS rfl (eS rfl (eS rfl eZ)))))))) ?_
    refine gDo (eS rfl (eS rfl eZ)) (decide_eq_true h4) ?_
    refine oLeq (eS rfl eZ) eZ ?_
    refine oPickT (eS rfl (eS rfl (eS rfl eZ))) (decide_eq_true h4) eZ ?_
    refine oMov eZ ?_
    refine xNil ?_
    refine TQ.qn ?_
    refine AW.ret ?_
    obtain rfl := Option.some.inj H
    exact endsR (RL.cons (RV.tmp eZ) (VO.flat rfl) RL.nil) List.nodup_nil
  · refine gSkip eZ (decide_eq_false h4) rfl ?_
    refine gSkip (eS rfl eZ) (decide_eq_false h4) rfl ?_
    refine gSkip (eS rfl (eS rfl eZ)) (decide_eq_false h4) rfl ?_
    refine oPickF (eS rfl (eS rfl (eS rfl eZ))) (decide_eq_false h4) eC ?_
    refine oMov eZ ?_
    refine xNil ?_
    refine TQ.qn ?_
    refine AW.ret ?_
    obtain rfl := Option.some.inj H
    exact endsR (RL.cons (RV.tmp eZ) (VO.flat rfl) RL.nil) List.nodup_nil

theorem c_spec_l10Key {a1 : Int} {r : Bool} (H : m_spec_l10Key a1 = some r) : Fn Try.prog k_spec_l10Key (lent [(.int .i64 a1)]) true [(.bool r)] := by
  refine i_spec_l10Key_fn (Nat.le_of_ble_eq_true rfl) ?_
  rw [init_mk]
  refine AW.weaken (wk_mk [] (SL.cons (v := (.one (.d (.int .i64 a1)))) eZ rfl VWk.rfl SL.nil) BL.nil BK.nil) ?_
  unfold m_spec_l10Key at H
  unfold i_spec_l10Key
  refine AW.seq ?_
  refine AW.regs ?_
  refine oMov eC ?_
  refine xNil ?_
  refine TQ.qn ?_
  refine AW.seq ?_
  refine AW.regs ?_
  refine oMov (eS rfl eZ) ?_
  obtain ⟨v2, h3, H⟩ := obind H
  refine oCall (u := (.one (.d (.bool v2)))) eC Cl.fn (c_spec_l1In h3) (Evs.cons eZ (Evs.cons eC (Evs.cons eC Evs.nil))) (VDs.cons VD.plain (VDs.cons VD.plain (VDs.cons VD.plain VDs.nil))) rfl ?_
  refine oMov eZ ?_
  refine xNil ?_
  refine TQ.qn ?_
  refine AW.ret ?_
  obtain rfl := Option.some.inj H
  exact endsR (RL.cons (RV.tmp eZ) (VO.flat rfl) RL.nil) List.nodup_nil

theorem c_spec_l1Whole {a1 : Int} {r : Bool} (H : m_spec_l1Whole a1 = some r) : Fn Try.prog k_spec_l1Whole (lent [(.int .i64 a1)]) true [(.bool r)] := by
  refine i_spec_l1Whole_fn (Nat.le_of_ble_eq_true rfl) ?_
  rw [init_mk]
  refine AW.weaken (wk_mk [] (SL.cons (v := (.one (.d (.int .i64 a1)))) eZ rfl VWk.rfl SL.nil) BL.nil BK.nil) ?_
  unfold m_spec_l1Whole at H
  unfold i_spec_l1Whole
  refine AW.seq ?_
  refine AW.regs ?_
  refine oMov eC ?_
  refine xNil ?_
  refine TQ.qn ?_
  refine AW.seq ?_
  refine AW.regs ?_
  refine oMov (eS rfl eZ) ?_
  obtain ⟨v2, h3, H⟩ := obind H
  refine oCall (u := (.one (.d (.bool v2)))) eC Cl.fn (c_spec_l1In h3) (Evs.cons eZ (Evs.cons eC (Evs.cons eC Evs.nil))) (VDs.cons VD.plain (VDs.cons VD.plain (VDs.cons VD.plain VDs.nil))) rfl ?_
  refine oMov eZ ?_
  refine xNil ?_
  refine TQ.qn ?_
  refine AW.ret ?_
  obtain rfl := Option.some.inj H
  exact endsR (RL.cons (RV.tmp eZ) (VO.flat rfl) RL.nil) List.nodup_nil

theorem c_spec_StoreOk {a1 : (List TCell)} {r : Bool} (H : m_spec_StoreOk a1 = some r) : Fn Try.prog k_spec_StoreOk (lent [(.sl 2 (List.map d_TCell a1))]) true [(.bool r)] := by
  refine i_spec_StoreOk_fn (Nat.le_of_ble_eq_true rfl) ?_
  rw [init_mk]
  refine AW.weaken (wk_mk [] (SL.cons (v := (.one (.d (.sl 2 (List.map d_TCell a1))))) eZ rfl VWk.rfl SL.nil) BL.nil BK.nil) ?_
  unfold m_spec_StoreOk at H
  unfold i_spec_StoreOk
  refine AW.seq ?_
  refine AW.regs ?_
  refine oMov eC ?_
  refine xNil ?_
  refine TQ.qn ?_
  refine AW.seq ?_
  refine AW.seq ?_
  refine AW.regs ?_
  refine oMov (eS rfl eZ) ?_
  refine oLenD eZ (n := a1.length) (List.length_map _) ?_
  refine oGtr eZ eC ?_
  refine xNil ?_
  refine TQ.qn ?_
  rcases oite H with ⟨h2, H⟩ | ⟨h2, H⟩
  · refine AW.condT eZ (decide_eq_true h2) ?_
    refine AW.seq ?_
    refine AW.regs ?_
    refine oMov eC ?_
    refine xNil ?_
    refine TQ.qn ?_
    refine AW.ret ?_
    refine TQ.qr ?_
    obtain rfl := Option.some.inj H
    exact endsR (RL.cons (RV.tmp eZ) (VO.flat rfl) RL.nil) List.nodup_nil
  · refine AW.condF eZ (decide_eq_false h2) ?_
    refine AW.skip ?_
    refine TQ.qn ?_
    refine AW.seqJ (fun t3 : Unit => spec_StoreOk_j3 t3 = some r) (fun t3 => mk [] [] noG) ?_ ?_
    · intro t3 H
      unfold spec_StoreOk_j3 at H
      refine AW.seq ?_
      refine AW.regs ?_
      refine oMov eC ?_
      refine xNil ?_
      refine TQ.qn ?_
      refine AW.ret ?_
      obtain rfl := Option.some.inj H
      exact endsR (RL.cons (RV.tmp eZ) (VO.flat rfl) RL.nil) List.nodup_nil
    · refine AW.seq ?_
      refine AW.regs ?_
      refine oMov eC ?_
      refine xNil ?_
      refine TQ.qn ?_
      refine AW.block ?_
      refine AW.iter (fun s5 : Int => mk [(0, (.one (.d (.sl 2 (List.map d_TCell a1))))), (3, (.one (.d (.int .i64 s5))))] [] noG) H (wk_mk [] (SL.cons (eS rfl (eS rfl (eS rfl (eS rfl (eS rfl eZ))))) rfl VWk.rfl (SL.cons eZ rfl VWk.rfl SL.nil)) BL.nil BK.nil) ?_
      intro kb6 s5 H
      unfold spec_StoreOk_b5 at H
      refine AW.seq ?_
      refine AW.seq ?_
      refine AW.regs ?_
      refine oMov (eS rfl eZ) ?_
      refine oMov (eS rfl eZ) ?_
      refine oLenD eZ (n := a1.length) (List.length_map _) ?_
      refine oLss (eS rfl (eS rfl eZ)) eZ ?_
      refine xNil ?_
      refine TQ.qn ?_
      rcases oite H with ⟨h7, H⟩ | ⟨h7, H⟩
      · refine AW.condT eZ (decide_eq_true h7) ?_
        refine AW.skip ?_
        refine TQ.qn ?_
        refine AW.seq ?_
        refine AW.block ?_
        refine AW.seqJ (fun t8 : Bool => (spec_StoreOk_j8 kb6 s5) t8 = some r) (fun t8 => mk [(0, (.one (.d (.sl 2 (List.map d_TCell a1))))), (3, (.one (.d (.int .i64 s5)))), (46, (.one (.d (.bool t8))))] [] noG) ?_ ?_
        · intro t8 H
          unfold spec_StoreOk_j8 at H
          rcases oite H with ⟨h10, H⟩ | ⟨h10, H⟩
          · refine AW.condT (eS rfl (eS rfl eZ)) h10 ?_
            refine AW.seq ?_
            refine AW.regs ?_
            refine oMov eC ?_
            refine xNil ?_
            refine TQ.qn ?_
            refine AW.ret ?_
            refine BQ.qr ?_
            refine TQ.qr ?_
            refine TQ.qr ?_
            refine BQ.qr ?_
            refine TQ.qr ?_
            obtain rfl := Option.some.inj H
            exact endsR (RL.cons (RV.tmp eZ) (VO.flat rfl) RL.nil) List.nodup_nil
          · refine AW.condF (eS rfl (eS rfl eZ)) (nt h10) ?_
            refine AW.skip ?_
            refine BQ.qn ?_
            refine TQ.qn ?_
            refine AW.regs ?_
            refine oMov (eS rfl eZ) ?_
            refine oAdd eZ eC ?_
            refine oMov eZ ?_
            refine xNil ?_
            exact TQ.qn ⟨(IntKind.wrap .i64 (s5 + 1)), H, (wk_mk [] (SL.cons (eS rfl (eS rfl (eS rfl eZ))) rfl VWk.rfl (SL.cons eZ rfl VWk.rfl SL.nil)) BL.nil BK.nil)⟩
        · refine AW.regd ?_
          refine oMov (eS rfl (eS rfl (eS rfl (eS rfl eZ)))) ?_
          refine oMov (eS rfl (eS rfl (eS rfl (eS rfl (eS rfl (eS rfl eZ)))))) ?_
          obtain ⟨v11, h12, H⟩ := obind H
          refine oAtD (eS rfl eZ) eZ h12 ?_
          refine oFaddrB (m := 0) eZ rfl ?_
          refine oLoadB (e := (.int .i64 v11.Key)) eZ rfl ?_
          obtain ⟨v13, h14, H⟩ := obind H
          refine oCall (u := (.one (.d (.bool v13)))) eC Cl.fn (c_spec_l10Key h14) (Evs.cons eZ Evs.nil) (VDs.cons VD.plain VDs.nil) rfl ?_
          refine oInv eZ ?_
          refine oMov eZ ?_
          rcases oite H with ⟨h15, H⟩ | ⟨h15, H⟩
          · refine gDo eZ (congrArg Bool.not h15) ?_
            refine oMov (eS rfl (eS rfl (eS rfl (eS rfl (eS rfl (eS rfl (eS rfl (eS rfl (eS rfl (eS rfl (eS rfl (eS rfl eZ)))))))))))) ?_
            refine gDo (eS rfl eZ) (congrArg Bool.not h15) ?_
            refine oMov (eS rfl (eS rfl (eS rfl (eS rfl (eS rfl (eS rfl (eS rfl (eS rfl (eS rfl (eS rfl (eS rfl (eS rfl (eS rfl (eS rfl eZ)))))))))))))) ?_
            refine gDo (eS rfl (eS rfl eZ)) (congrArg Bool.not h15) ?_
            obtain ⟨v16, h17, H⟩ := obind H
            refine oAtD (eS rfl eZ) eZ h17 ?_
            refine gDo (eS rfl (eS rfl (eS rfl eZ))) (congrArg Bool.not h15) ?_
            refine oFaddrB (m := 1) eZ rfl ?_
            refine gDo (eS rfl (eS rfl (eS rfl (eS rfl eZ)))) (congrArg Bool.not h15) ?_
            refine oLoadB (e := (.int .i64 v16.Value)) eZ rfl ?_
            refine gDo (eS rfl (eS rfl (eS rfl (eS rfl (eS rfl eZ))))) (congrArg Bool.not h15) ?_
            obtain ⟨v18, h19, H⟩ := obind H
            refine oCall (u := (.one (.d (.bool v18)))) eC Cl.fn (c_spec_l1Whole h19) (Evs.cons eZ Evs.nil) (VDs.cons VD.plain VDs.nil) rfl ?_
            refine gDo (eS rfl (eS rfl (eS rfl (eS rfl (eS rfl (eS rfl eZ)))))) (congrArg Bool.not h15) ?_
            refine oInv eZ ?_
            refine oPickF (eS rfl (eS rfl (eS rfl (eS rfl (eS rfl (eS rfl (eS rfl eZ))))))) (congrArg Bool.not h15) eZ ?_
            refine oMov eZ ?_
            rcases oite H with ⟨h20, H⟩ | ⟨h20, H⟩
            · refine gDo eZ (congrArg Bool.not h20) ?_
              refine oMov (eS rfl (eS rfl (eS rfl (eS rfl (eS rfl (eS rfl (eS rfl (eS rfl (eS rfl (eS rfl (eS rfl (eS rfl (eS rfl (eS rfl (eS rfl (eS rfl (eS rfl (eS rfl (eS rfl (eS rfl (eS rfl (eS rfl eZ)))))))))))))))))))))) ?_
              refine gDo (eS rfl eZ) (congrArg Bool.not h20) ?_
              refine oGtr eZ eC ?_
              refine gDo (eS rfl (eS rfl eZ)) (congrArg Bool.not h20) ?_
              refine oMov eZ ?_
              rcases oite H with ⟨h21, H⟩ | ⟨h21, H⟩
              · refine gDo eZ (decide_eq_true h21) ?_
                refine oMov (eS rfl (eS rfl (eS rfl (eS rfl (eS rfl (eS rfl (eS rfl (eS rfl (eS rfl (eS rfl (eS rfl (eS rfl (eS rfl (eS rfl (eS rfl (eS rfl (eS rfl (eS rfl (eS rfl (eS rfl (eS rfl (eS rfl (eS rfl (eS rfl eZ)))))))))))))))))))))))) ?_
                refine gDo (eS rfl eZ) (decide_eq_true h21) ?_
                refine oMov (eS rfl (eS rfl (eS rfl (eS rfl (eS rfl (eS rfl (eS rfl (eS rfl (eS rfl (eS rfl (eS rfl (eS rfl (eS rfl (eS rfl (eS rfl (eS rfl (eS rfl (eS rfl (eS rfl (eS rfl (eS rfl (eS rfl (eS rfl (eS rfl (eS rfl (eS rfl eZ)))))))))))))))))))))))))) ?_
                refine gDo (eS rfl (eS rfl eZ)) (decide_eq_true h21) ?_
                refine oSub eZ eC ?_
                refine gDo (eS rfl (eS rfl (eS rfl eZ))) (decide_eq_true h21) ?_
                obtain ⟨v22, h23, H⟩ := obind H
                refine oAtD (eS rfl (eS rfl eZ)) eZ h23 ?_
                refine gDo (eS rfl (eS rfl (eS rfl (eS rfl eZ)))) (decide_eq_true h21) ?_
                refine oFaddrB (m := 0) eZ rfl ?_
                refine gDo (eS rfl (eS rfl (eS rfl (eS rfl (eS rfl eZ))))) (decide_eq_true h21) ?_
                refine oLoadB (e := (.int .i64 v22.Key)) eZ rfl ?_
                refine gDo (eS rfl (eS rfl (eS rfl (eS rfl (eS rfl (eS rfl eZ)))))) (decide_eq_true h21) ?_
                refine oMov (eS rfl (eS rfl (eS rfl (eS rfl (eS rfl (eS rfl (eS rfl (eS rfl (eS rfl (eS rfl (eS rfl (eS rfl (eS rfl (eS rfl (eS rfl (eS rfl (eS rfl (eS rfl (eS rfl (eS rfl (eS rfl (eS rfl (eS rfl (eS rfl (eS rfl (eS rfl (eS rfl (eS rfl (eS rfl (eS rfl eZ)))))))))))))))))))))))))))))) ?_
                refine gDo (eS rfl (eS rfl (eS rfl (eS rfl (eS rfl (eS rfl (eS rfl eZ))))))) (decide_eq_true h21) ?_
                refine oMov (eS rfl (eS rfl (eS rfl (eS rfl (eS rfl (eS rfl (eS rfl (eS rfl (eS rfl (eS rfl (eS rfl (eS rfl (eS rfl (eS rfl (eS rfl (eS rfl (eS rfl (eS rfl (eS rfl (eS rfl (eS rfl (eS rfl (eS rfl (eS rfl (eS rfl (eS rfl (eS rfl (eS rfl (eS rfl (eS rfl (eS rfl (eS rfl eZ)))))))))))))))))))))))))))))))) ?_
                refine gDo (eS rfl (eS rfl (eS rfl (eS rfl (eS rfl (eS rfl (eS rfl (eS rfl eZ)))))))) (decide_eq_true h21) ?_
                obtain ⟨v24, h25, H⟩ := obind H
                refine oAtD (eS rfl eZ) eZ h25 ?_
                refine gDo (eS rfl (eS rfl (eS rfl (eS rfl (eS rfl (eS rfl (eS rfl (eS rfl (eS rfl eZ))))))))) (decide_eq_true h21) ?_
                refine oFaddrB (m := 0) eZ rfl ?_
                refine gDo (eS rfl (eS rfl (eS rfl (eS rfl (eS rfl (eS rfl (eS rfl (eS rfl (eS rfl (eS rfl eZ)))))))))) (decide_eq_true h21) ?_
                refine oLoadB (e := (.int .i64 v24.Key)) eZ rfl ?_
                refine gDo (eS rfl (eS rfl (eS rfl (eS rfl (eS rfl (eS rfl (eS rfl (eS rfl (eS rfl (eS rfl (eS rfl eZ))))))))))) (decide_eq_true h21) ?_
                refine oGeq (eS rfl (eS rfl (eS rfl (eS rfl (eS rfl eZ))))) eZ ?_
                refine gDo (eS rfl (eS rfl (eS rfl (eS rfl (eS rfl (eS rfl (eS rfl (eS rfl (eS rfl (eS rfl (eS rfl (eS rfl (eS rfl (eS rfl (eS rfl eZ))))))))))))))) (congrArg Bool.not h20) ?_
                refine oPickT (eS rfl (eS rfl (eS rfl (eS rfl (eS rfl (eS rfl (eS rfl (eS rfl (eS rfl (eS rfl (eS rfl (eS rfl eZ)))))))))))) (decide_eq_true h21) eZ ?_
                refine oPickF (eS rfl (eS rfl (eS rfl (eS rfl (eS rfl (eS rfl (eS rfl (eS rfl (eS rfl (eS rfl (eS rfl (eS rfl (eS rfl (eS rfl (eS rfl (eS rfl eZ)))))))))))))))) (congrArg Bool.not h20) eZ ?_
                refine xNil ?_
                exact TQ.qn ⟨(decide (v24.Key ≤ v22.Key)), H, (wk_mk [] (SL.cons (eS rfl (eS rfl (eS rfl (eS rfl (eS rfl (eS rfl (eS rfl (eS rfl (eS rfl (eS rfl (eS rfl (eS rfl (eS rfl (eS rfl (eS rfl (eS rfl (eS rfl (eS rfl (eS rfl (eS rfl (eS rfl (eS rfl (eS rfl (eS rfl (eS rfl (eS rfl (eS rfl (eS rfl (eS rfl (eS rfl (eS rfl (eS rfl (eS rfl (eS rfl (eS rfl (eS rfl (eS rfl (eS rfl eZ)))))))))))))))))))))))))))))))))))))) rfl VWk.rfl (SL.cons (eS rfl (eS rfl (eS rfl (eS rfl (eS rfl (eS rfl (eS rfl (eS rfl (eS rfl (eS rfl (eS rfl (eS rfl (eS rfl (eS rfl (eS rfl (eS rfl (eS rfl (eS rfl (eS rfl (eS rfl (eS rfl (eS rfl (eS rfl (eS rfl (eS rfl (eS rfl (eS rfl (eS rfl (eS rfl (eS rfl (eS rfl (eS rfl (eS rfl (eS rfl (eS rfl (eS rfl (eS rfl (eS rfl (eS rfl eZ))))))))))))))))))))))))))))))))))))))) rfl VWk.rfl (SL.cons eZ rfl VWk.rfl SL.nil))) BL.nil BK.nil)⟩
              · refine gSkip eZ (decide_eq_false h21) rfl ?_
                refine gSkip (eS rfl eZ) (decide_eq_false h21) rfl ?_
                refine gSkip (eS rfl (eS rfl eZ)) (decide_eq_false h21) rfl ?_
                refine gSkip (eS rfl (eS rfl (eS rfl eZ))) (decide_eq_false h21) rfl ?_
                refine gSkip (eS rfl (eS rfl (eS rfl (eS rfl eZ)))) (decide_eq_false h21) rfl ?_
                refine gSkip (eS rfl (eS rfl (eS rfl (eS rfl (eS rfl eZ))))) (decide_eq_false h21) rfl ?_
                refine gSkip (eS rfl (eS rfl (eS rfl (eS rfl (eS rfl (eS rfl eZ)))))) (decide_eq_false h21) rfl ?_
                refine gSkip (eS rfl (eS rfl (eS rfl (eS rfl (eS rfl (eS rfl (eS rfl eZ))))))) (decide_eq_false h21) rfl ?_
                refine gSkip (eS rfl (eS rfl (eS rfl (eS rfl (eS rfl (eS rfl (eS rfl (eS rfl eZ)))))))) (decide_eq_false h21) rfl ?_
                refine gSkip (eS rfl (eS rfl (eS rfl (eS rfl (eS rfl (eS rfl (eS rfl (eS rfl (eS rfl eZ))))))))) (decide_eq_false h21) rfl ?_
                refine gSkip (eS rfl (eS rfl (eS rfl (eS rfl (eS rfl (eS rfl (eS rfl (eS rfl (eS rfl (eS rfl eZ)))))))))) (decide_eq_false h21) rfl ?_
                refine gSkip (eS rfl (eS rfl (eS rfl (eS rfl (eS rfl (eS rfl (eS rfl (eS rfl (eS rfl (eS rfl (eS rfl eZ))))))))))) (decide_eq_false h21) rfl ?_
                refine gDo (eS rfl (eS rfl (eS rfl (eS rfl (eS rfl (eS rfl (eS rfl (eS rfl (eS rfl (eS rfl (eS rfl (eS rfl (eS rfl (eS rfl (eS rfl eZ))))))))))))))) (congrArg Bool.not h20) ?_
                refine oPickF (eS rfl (eS rfl (eS rfl (eS rfl (eS rfl (eS rfl (eS rfl (eS rfl (eS rfl (eS rfl (eS rfl (eS rfl eZ)))))))))))) (decide_eq_false h21) eC ?_
                refine oPickF (eS rfl (eS rfl (eS rfl (eS rfl (eS rfl (eS rfl (eS rfl (eS rfl (eS rfl (eS rfl (eS rfl (eS rfl (eS rfl (eS rfl (eS rfl (eS rfl eZ)))))))))))))))) (congrArg Bool.not h20) eZ ?_
                refine xNil ?_
                exact TQ.qn ⟨false, H, (wk_mk [] (SL.cons (eS rfl (eS rfl (eS rfl (eS rfl (eS rfl (eS rfl (eS rfl (eS rfl (eS rfl (eS rfl (eS rfl (eS rfl (eS rfl (eS rfl (eS rfl (eS rfl (eS rfl (eS rfl (eS rfl (eS rfl (eS rfl (eS rfl (eS rfl (eS rfl (eS rfl (eS rfl (eS rfl (eS rfl (eS rfl (eS rfl (eS rfl (eS rfl (eS rfl (eS rfl (eS rfl (eS rfl (eS rfl (eS rfl eZ)))))))))))))))))))))))))))))))))))))) rfl VWk.rfl (SL.cons (eS rfl (eS rfl (eS rfl (eS rfl (eS rfl (eS rfl (eS rfl (eS rfl (eS rfl (eS rfl (eS rfl (eS rfl (eS rfl (eS rfl (eS rfl (eS rfl (eS rfl (eS rfl (eS rfl (eS rfl (eS rfl (eS rfl (eS rfl (eS rfl (eS rfl (eS rfl (eS rfl (eS rfl (eS rfl (eS rfl (eS rfl (eS rfl (eS rfl (eS rfl (eS rfl (eS rfl (eS rfl (eS rfl (eS rfl eZ))))))))))))))))))))))))))))))))))))))) rfl VWk.rfl (SL.cons eZ rfl VWk.rfl SL.nil))) BL.nil BK.nil)⟩
            · refine gSkip eZ (congrArg Bool.not (nt h20)) rfl ?_
              refine gSkip (eS rfl eZ) (congrArg Bool.not (nt h20)) rfl ?_
              refine gSkip (eS rfl (eS rfl eZ)) (congrArg Bool.not (nt h20)) rfl ?_
              refine gSkipU eZ rfl ?_
              refine gSkipU (eS rfl eZ) rfl ?_
              refine gSkipU (eS rfl (eS rfl eZ)) rfl ?_
              refine gSkipU (eS rfl (eS rfl (eS rfl eZ))) rfl ?_
              refine gSkipU (eS rfl (eS rfl (eS rfl (eS rfl eZ)))) rfl ?_
              refine gSkipU (eS rfl (eS rfl (eS rfl (eS rfl (eS rfl eZ))))) rfl ?_
              refine gSkipU (eS rfl (eS rfl (eS rfl (eS rfl (eS rfl (eS rfl eZ)))))) rfl ?_
              refine gSkipU (eS rfl (eS rfl (eS rfl (eS rfl (eS rfl (eS rfl (eS rfl eZ))))))) rfl ?_
              refine gSkipU (eS rfl (eS rfl (eS rfl (eS rfl (eS rfl (eS rfl (eS rfl (eS rfl eZ)))))))) rfl ?_
              refine gSkipU (eS rfl (eS rfl (eS rfl (eS rfl (eS rfl (eS rfl (eS rfl (eS rfl (eS rfl eZ))))))))) rfl ?_
              refine gSkipU (eS rfl (eS rfl (eS rfl (eS rfl (eS rfl (eS rfl (eS rfl (eS rfl (eS rfl (eS rfl eZ)))))))))) rfl ?_
              refine gSkipU (eS rfl (eS rfl (eS rfl (eS rfl (eS rfl (eS rfl (eS rfl (eS rfl (eS rfl (eS rfl (eS rfl eZ))))))))))) rfl ?_
              refine gSkip (eS rfl (eS rfl (eS rfl (eS rfl (eS rfl (eS rfl (eS rfl (eS rfl (eS rfl (eS rfl (eS rfl (eS rfl (eS rfl (eS rfl (eS rfl eZ))))))))))))))) (congrArg Bool.not (nt h20)) rfl ?_
              refine oPickT (eS rfl (eS rfl (eS rfl (eS rfl (eS rfl (eS rfl (eS rfl (eS rfl (eS rfl (eS rfl (eS rfl (eS rfl (eS rfl (eS rfl (eS rfl (eS rfl eZ)))))))))))))))) (congrArg Bool.not (nt h20)) eC ?_
              refine xNil ?_
              exact TQ.qn ⟨true, H, (wk_mk [] (SL.cons (eS rfl (eS rfl (eS rfl (eS rfl (eS rfl (eS rfl (eS rfl (eS rfl (eS rfl (eS rfl (eS rfl (eS rfl (eS rfl (eS rfl (eS rfl (eS rfl (eS rfl (eS rfl (eS rfl (eS rfl (eS rfl (eS rfl (eS rfl (eS rfl (eS rfl (eS rfl (eS rfl (eS rfl (eS rfl (eS rfl (eS rfl (eS rfl (eS rfl (eS rfl (eS rfl (eS rfl (eS rfl (eS rfl eZ)))))))))))))))))))))))))))))))))))))) rfl VWk.rfl (SL.cons (eS rfl (eS rfl (eS rfl (eS rfl (eS rfl (eS rfl (eS rfl (eS rfl (eS rfl (eS rfl (eS rfl (eS rfl (eS rfl (eS rfl (eS rfl (eS rfl (eS rfl (eS rfl (eS rfl (eS rfl (eS rfl (eS rfl (eS rfl (eS rfl (eS rfl (eS rfl (eS rfl (eS rfl (eS rfl (eS rfl (eS rfl (eS rfl (eS rfl (eS rfl (eS rfl (eS rfl (eS rfl (eS rfl (eS rfl eZ))))))))))))))))))))))))))))))))))))))) rfl VWk.rfl (SL.cons eZ rfl VWk.rfl SL.nil))) BL.nil BK.nil)⟩
          · refine gSkip eZ (congrArg Bool.not (nt h15)) rfl ?_
            refine gSkip (eS rfl eZ) (congrArg Bool.not (nt h15)) rfl ?_
            refine gSkip (eS rfl (eS rfl eZ)) (congrArg Bool.not (nt h15)) rfl ?_
            refine gSkip (eS rfl (eS rfl (eS rfl eZ))) (congrArg Bool.not (nt h15)) rfl ?_
            refine gSkip (eS rfl (eS rfl (eS rfl (eS rfl eZ)))) (congrArg Bool.not (nt h15)) rfl ?_
            refine gSkip (eS rfl (eS rfl (eS rfl (eS rfl (eS rfl eZ))))) (congrArg Bool.not (nt h15)) rfl ?_
            refine gSkip (eS rfl (eS rfl (eS rfl (eS rfl (eS rfl (eS rfl eZ)))))) (congrArg Bool.not (nt h15)) rfl ?_
            refine oPickT (eS rfl (eS rfl (eS rfl (eS rfl (eS rfl (eS rfl (eS rfl eZ))))))) (congrArg Bool.not (nt h15)) eC ?_
            refine oMov eZ ?_
            refine gSkip eZ rfl rfl ?_
            refine gSkip (eS rfl eZ) rfl rfl ?_
            refine gSkip (eS rfl (eS rfl eZ)) rfl rfl ?_
            refine gSkipU eZ rfl ?_
            refine gSkipU (eS rfl eZ) rfl ?_
            refine gSkipU (eS rfl (eS rfl eZ)) rfl ?_
            refine gSkipU (eS rfl (eS rfl (eS rfl eZ))) rfl ?_
            refine gSkipU (eS rfl (eS rfl (eS rfl (eS rfl eZ)))) rfl ?_
            refine gSkipU (eS rfl (eS rfl (eS rfl (eS rfl (eS rfl eZ))))) rfl ?_
            refine gSkipU (eS rfl (eS rfl (eS rfl (eS rfl (eS rfl (eS rfl eZ)))))) rfl ?_
            refine gSkipU (eS rfl (eS rfl (eS rfl (eS rfl (eS rfl (eS rfl (eS rfl eZ))))))) rfl ?_
            refine gSkipU (eS rfl (eS rfl (eS rfl (eS rfl (eS rfl (eS rfl (eS rfl (eS rfl eZ)))))))) rfl ?_
            refine gSkipU (eS rfl (eS rfl (eS rfl (eS rfl (eS rfl (eS rfl (eS rfl (eS rfl (eS rfl eZ))))))))) rfl ?_
            refine gSkipU (eS rfl (eS rfl (eS rfl (eS rfl (eS rfl (eS rfl (eS rfl (eS rfl (eS rfl (eS rfl eZ)))))))))) rfl ?_
            refine gSkipU (eS rfl (eS rfl (eS rfl (eS rfl (eS rfl (eS rfl (eS rfl (eS rfl (eS rfl (eS rfl (eS rfl eZ))))))))))) rfl ?_
            refine gSkip (eS rfl (eS rfl (eS rfl (eS rfl (eS rfl (eS rfl (eS rfl (eS rfl (eS rfl (eS rfl (eS rfl (eS rfl (eS rfl (eS rfl (eS rfl eZ))))))))))))))) rfl rfl ?_
            refine oPickT (eS rfl (eS rfl (eS rfl (eS rfl (eS rfl (eS rfl (eS rfl (eS rfl (eS rfl (eS rfl (eS rfl (eS rfl (eS rfl (eS rfl (eS rfl (eS rfl eZ)))))))))))))))) rfl eC ?_
            refine xNil ?_
            exact TQ.qn ⟨true, H, (wk_mk [] (SL.cons (eS rfl (eS rfl (eS rfl (eS rfl (eS rfl (eS rfl (eS rfl (eS rfl (eS rfl (eS rfl (eS rfl (eS rfl (eS rfl (eS rfl (eS rfl (eS rfl (eS rfl (eS rfl (eS rfl (eS rfl (eS rfl (eS rfl (eS rfl (eS rfl (eS rfl (eS rfl (eS rfl (eS rfl (eS rfl (eS rfl (eS rfl (eS rfl (eS rfl (eS rfl (eS rfl (eS rfl (eS rfl (eS rfl eZ)))))))))))))))))))))))))))))))))))))) rfl VWk.rfl (SL.cons (eS rfl (eS rfl (eS rfl (eS rfl (eS rfl (eS rfl (eS rfl (eS rfl (eS rfl (eS rfl (eS rfl (eS rfl (eS rfl (eS rfl (eS rfl (eS rfl (eS rfl (eS rfl (eS rfl (eS rfl (eS rfl (eS rfl (eS rfl (eS rfl (eS rfl (eS rfl (eS rfl (eS rfl (eS rfl (eS rfl (eS rfl (eS rfl (eS rfl (eS rfl (eS rfl (eS rfl (eS rfl (eS rfl (eS rfl eZ))))))))))))))))))))))))))))))))))))))) rfl VWk.rfl (SL.cons eZ rfl VWk.rfl SL.nil))) BL.nil BK.nil)⟩
      · refine AW.condF eZ (decide_eq_false h7) ?_
        refine AW.exit ?_
        refine TQ.qe ?_
        refine TQ.qe ?_
        refine BQ.qe ?_
        exact TQ.qn ⟨(), H, (wk_mk [] SL.nil BL.nil BK.nil)⟩

theorem c_spec_WritesOk {a1 : (List TCell)} {r : Bool} (H : m_spec_WritesOk a1 = some r) : Fn Try.prog k_spec_WritesOk (lent [(.sl 2 (List.map d_TCell a1))]) true [(.bool r)] := by
  refine i_spec_WritesOk_fn (Nat.le_of_ble_eq_true rfl) ?_
  rw [init_mk]
  refine AW.weaken (wk_mk [] (SL.cons (v := (.one (.d (.sl 2 (List.map d_TCell a1))))) eZ rfl VWk.rfl SL.nil) BL.nil BK.nil) ?_
  unfold m_spec_WritesOk at H
  unfold i_spec_WritesOk
  refine AW.seq ?_
  refine AW.regs ?_
  refine oMov eC ?_
  refine xNil ?_
  refine TQ.qn ?_
  refine AW.seq ?_
  refine AW.seq ?_
  refine AW.regs ?_
  refine oMov (eS rfl eZ) ?_
  refine oLenD eZ (n := a1.length) (List.length_map _) ?_
  refine oGtr eZ eC ?_
  refine xNil ?_
  refine TQ.qn ?_
  rcases oite H with ⟨h2, H⟩ | ⟨h2, H⟩
  · refine AW.condT eZ (decide_eq_true h2) ?_
    refine AW.seq ?_
    refine AW.regs ?_
    refine oMov eC ?_
    refine xNil ?_
    refine TQ.qn ?_
    refine AW.ret ?_
    refine TQ.qr ?_
    obtain rfl := Option.some.inj H
    exact endsR (RL.cons (RV.tmp eZ) (VO.flat rfl) RL.nil) List.nodup_nil
  · refine AW.condF eZ (decide_eq_false h2) ?_
    refine AW.skip ?_
    refine TQ.qn ?_
    refine AW.seqJ (fun t3 : Unit => spec_WritesOk_j3 t3 = some r) (fun t3 => mk [] [] noG) ?_ ?_
    · intro t3 H
      unfold spec_WritesOk_j3 at H
      refine AW.seq ?_
      refine AW.regs ?_
      refine oMov eC ?_
      refine xNil ?_
      refine TQ.qn ?_
      refine AW.ret ?_
      obtain rfl := Option.some.inj H
      exact endsR (RL.cons (RV.tmp eZ) (VO.flat rfl) RL.nil) List.nodup_nil
    · refine AW.seq ?_
      refine AW.regs ?_
      refine oMov eC ?_
      refine xNil ?_
      refine TQ.qn ?_
      refine AW.block ?_
      refine AW.iter (fun s5 : Int => mk [(0, (.one (.d (.sl 2 (List.map d_TCell a1))))), (3, (.one (.d (.int .i64 s5))))] [] noG) H (wk_mk [] (SL.cons (eS rfl (eS rfl (eS rfl (eS rfl (eS rfl eZ))))) rfl VWk.rfl (SL.cons eZ rfl VWk.rfl SL.nil)) BL.nil BK.nil) ?_
      intro kb6 s5 H
      unfold spec_WritesOk_b5 at H
      refine AW.seq ?_
      refine AW.seq ?_
      refine AW.regs ?_
      refine oMov (eS rfl eZ) ?_
      refine oMov (eS rfl eZ) ?_
      refine oLenD eZ (n := a1.length) (List.length_map _) ?_
      refine oLss (eS rfl (eS rfl eZ)) eZ ?_
      refine xNil ?_
      refine TQ.qn ?_
      rcases oite H with ⟨h7, H⟩ | ⟨h7, H⟩
      · refine AW.condT eZ (decide_eq_true h7) ?_
        refine AW.skip ?_
        refine TQ.qn ?_
        refine AW.seq ?_
        refine AW.block ?_
        refine AW.seqJ (fun t8 : Bool => (spec_WritesOk_j8 kb6 s5) t8 = some r) (fun t8 => mk [(0, (.one (.d (.sl 2 (List.map d_TCell a1))))), (3, (.one (.d (.int .i64 s5)))), (46, (.one (.d (.bool t8))))] [] noG) ?_ ?_
        · intro t8 H
          unfold spec_WritesOk_j8 at H
          rcases oite H with ⟨h10, H⟩ | ⟨h10, H⟩
          · refine AW.condT (eS rfl (eS rfl eZ)) h10 ?_
            refine AW.seq ?_
            refine AW.regs ?_
            refine oMov eC ?_
            refine xNil ?_
            refine TQ.qn ?_
            refine AW.ret ?_
            refine BQ.qr ?_
            refine TQ.qr ?_
            refine TQ.qr ?_
            refine BQ.qr ?_
            refine TQ.qr ?_
            obtain rfl := Option.some.inj H
            exact endsR (RL.cons (RV.tmp eZ) (VO.flat rfl) RL.nil) List.nodup_nil
          · refine AW.condF (eS rfl (eS rfl eZ)) (nt h10) ?_
            refine AW.skip ?_
            refine BQ.qn ?_
            refine TQ.qn ?_
            refine AW.regs ?_
            refine oMov (eS rfl eZ) ?_
            refine oAdd eZ eC ?_
            refine oMov eZ ?_
            refine xNil ?_
            exact TQ.qn ⟨(IntKind.wrap .i64 (s5 + 1)), H, (wk_mk [] (SL.cons (eS rfl (eS rfl (eS rfl eZ))) rfl VWk.rfl (SL.cons eZ rfl VWk.rfl SL.nil)) BL.nil BK.nil)⟩
        · refine AW.regd ?_
          refine oMov (eS rfl (eS rfl (eS rfl (eS rfl eZ)))) ?_
          refine oMov (eS rfl (eS rfl (eS rfl (eS rfl (eS rfl (eS rfl eZ)))))) ?_
          obtain ⟨v11, h12, H⟩ := obind H
          refine oAtD (eS rfl eZ) eZ h12 ?_
          refine oFaddrB (m := 0) eZ rfl ?_
          refine oLoadB (e := (.int .i64 v11.Key)) eZ rfl ?_
          obtain ⟨v13, h14, H⟩ := obind H
          refine oCall (u := (.one (.d (.bool v13)))) eC Cl.fn (c_spec_l10Key h14) (Evs.cons eZ Evs.nil) (VDs.cons VD.plain VDs.nil) rfl ?_
          refine oInv eZ ?_
          refine oMov eZ ?_
          rcases oite H with ⟨h15, H⟩ | ⟨h15, H⟩
          · refine gDo eZ (congrArg Bool.not h15) ?_
            refine oMov (eS rfl (eS rfl (eS rfl (eS rfl (eS rfl (eS rfl (eS rfl (eS rfl (eS rfl (eS rfl (eS rfl (eS rfl eZ)))))))))))) ?_
            refine gDo (eS rfl eZ) (congrArg Bool.not h15) ?_
            refine oMov (eS rfl (eS rfl (eS rfl (eS rfl (eS rfl (eS rfl (eS rfl (eS rfl (eS rfl (eS rfl (eS rfl (eS rfl (eS rfl (eS rfl eZ)))))))))))))) ?_
            refine gDo (eS rfl (eS rfl eZ)) (congrArg Bool.not h15) ?_
            obtain ⟨v16, h17, H⟩ := obind H
            refine oAtD (eS rfl eZ) eZ h17 ?_
            refine gDo (eS rfl (eS rfl (eS rfl eZ))) (congrArg Bool.not h15) ?_
            refine oFaddrB (m := 1) eZ rfl ?_
            refine gDo (eS rfl (eS rfl (eS rfl (eS rfl eZ)))) (congrArg Bool.not h15) ?_
            refine oLoadB (e := (.int .i64 v16.Value)) eZ rfl ?_
            refine gDo (eS rfl (eS rfl (eS rfl (eS rfl (eS rfl eZ))))) (congrArg Bool.not h15) ?_
            obtain ⟨v18, h19, H⟩ := obind H
            refine oCall (u := (.one (.d (.bool v18)))) eC Cl.fn (c_spec_l1In h19) (Evs.cons eZ (Evs.cons eC (Evs.cons eC Evs.nil))) (VDs.cons VD.plain (VDs.cons VD.plain (VDs.cons VD.plain VDs.nil))) rfl ?_
            refine gDo (eS rfl (eS rfl (eS rfl (eS rfl (eS rfl (eS rfl eZ)))))) (congrArg Bool.not h15) ?_
            refine oInv eZ ?_
            refine oPickF (eS rfl (eS rfl (eS rfl (eS rfl (eS rfl (eS rfl (eS rfl eZ))))))) (congrArg Bool.not h15) eZ ?_
            refine oMov eZ ?_
            rcases oite H with ⟨h20, H⟩ | ⟨h20, H⟩
            · refine gDo eZ (congrArg Bool.not h20) ?_
              refine oMov (eS rfl (eS rfl (eS rfl (eS rfl (eS rfl (eS rfl (eS rfl (eS rfl (eS rfl (eS rfl (eS rfl (eS rfl (eS rfl (eS rfl (eS rfl (eS rfl (eS rfl (eS rfl (eS rfl (eS rfl (eS rfl (eS rfl eZ)))))))))))))))))))))) ?_
              refine gDo (eS rfl eZ) (congrArg Bool.not h20) ?_
              refine oGtr eZ eC ?_
              refine gDo (eS rfl (eS rfl eZ)) (congrArg Bool.not h20) ?_
              refine oMov eZ ?_
              rcases oite H with ⟨h21, H⟩ | ⟨h21, H⟩
              · refine gDo eZ (decide_eq_true h21) ?_
                refine oMov (eS rfl (eS rfl (eS rfl (eS rfl (eS rfl (eS rfl (eS rfl (eS rfl (eS rfl (eS rfl (eS rfl (eS rfl (eS rfl (eS rfl (eS rfl (eS rfl (eS rfl (eS rfl (eS rfl (eS rfl (eS rfl (eS rfl (eS rfl (eS rfl eZ)))))))))))))))))))))))) ?_
                refine gDo (eS rfl eZ) (decide_eq_true h21) ?_
                refine oMov (eS rfl (eS rfl (eS rfl (eS rfl (eS rfl (eS rfl (eS rfl (eS rfl (eS rfl (eS rfl (eS rfl (eS rfl (eS rfl (eS rfl (eS rfl (eS rfl (eS rfl (eS rfl (eS rfl (eS rfl (eS rfl (eS rfl (eS rfl (eS rfl (eS rfl (eS rfl eZ)))))))))))))))))))))))))) ?_
                refine gDo (eS rfl (eS rfl eZ)) (decide_eq_true h21) ?_
                refine oSub eZ eC ?_
                refine gDo (eS rfl (eS rfl (eS rfl eZ))) (decide_eq_true h21) ?_
                obtain ⟨v22, h23, H⟩ := obind H
                refine oAtD (eS rfl (eS rfl eZ)) eZ h23 ?_
                refine gDo (eS rfl (eS rfl (eS rfl (eS rfl eZ)))) (decide_eq_true h21) ?_
                refine oFaddrB (m := 0) eZ rfl ?_
                refine gDo (eS rfl (eS rfl (eS rfl (eS rfl (eS rfl eZ))))) (decide_eq_true h21) ?_
                refine oLoadB (e := (.int .i64 v22.Key)) eZ rfl ?_
                refine gDo (eS rfl (eS rfl (eS rfl (eS rfl (eS rfl (eS rfl eZ)))))) (decide_eq_true h21) ?_
                refine oMov (eS rfl (eS rfl (eS rfl (eS rfl (eS rfl (eS rfl (eS rfl (eS rfl (eS rfl (eS rfl (eS rfl (eS rfl (eS rfl (eS rfl (eS rfl (eS rfl (eS rfl (eS rfl (eS rfl (eS rfl (eS rfl (eS rfl (eS rfl (eS rfl (eS rfl (eS rfl (eS rfl (eS rfl (eS rfl (eS rfl eZ)))))))))))))))))))))))))))))) ?_
                refine gDo (eS rfl (eS rfl (eS rfl (eS rfl (eS rfl (eS rfl (eS rfl eZ))))))) (decide_eq_true h21) ?_
                refine oMov (eS rfl (eS rfl (eS rfl (eS rfl (eS rfl (eS rfl (eS rfl (eS rfl (eS rfl (eS rfl (eS rfl (eS rfl (eS rfl (eS rfl (eS rfl (eS rfl (eS rfl (eS rfl (eS rfl (eS rfl (eS rfl (eS rfl (eS rfl (eS rfl (eS rfl (eS rfl (eS rfl (eS rfl (eS rfl (eS rfl (eS rfl (eS rfl eZ)))))))))))))))))))))))))))))))) ?_
                refine gDo (eS rfl (eS rfl (eS rfl (eS rfl (eS rfl (eS rfl (eS rfl (eS rfl eZ)))))))) (decide_eq_true h21) ?_
                obtain ⟨v24, h25, H⟩ := obind H
                refine oAtD (eS rfl eZ) eZ h25 ?_
                refine gDo (eS rfl (eS rfl (eS rfl (eS rfl (eS rfl (eS rfl (eS rfl (eS rfl (eS rfl eZ))))))))) (decide_eq_true h21) ?_
                refine oFaddrB (m := 0) eZ rfl ?_
                refine gDo (eS rfl (eS rfl (eS rfl (eS rfl (eS rfl (eS rfl (eS rfl (eS rfl (eS rfl (eS rfl eZ)))))))))) (decide_eq_true h21) ?_
                refine oLoadB (e := (.int .i64 v24.Key)) eZ rfl ?_
                refine gDo (eS rfl (eS rfl (eS rfl (eS rfl (eS rfl (eS rfl (eS rfl (eS rfl (eS rfl (eS rfl (eS rfl eZ))))))))))) (decide_eq_true h21) ?_
                refine oGeq (eS rfl (eS rfl (eS rfl (eS rfl (eS rfl eZ))))) eZ ?_
                refine gDo (eS rfl (eS rfl (eS rfl (eS rfl (eS rfl (eS rfl (eS rfl (eS rfl (eS rfl (eS rfl (eS rfl (eS rfl (eS rfl (eS rfl (eS rfl eZ))))))))))))))) (congrArg Bool.not h20) ?_
                refine oPickT (eS rfl (eS rfl (eS rfl (eS rfl (eS rfl (eS rfl (eS rfl (eS rfl (eS rfl (eS rfl (eS rfl (eS rfl eZ)))))))))))) (decide_eq_true h21) eZ ?_
                refine oPickF (eS rfl (eS rfl (eS rfl (eS rfl (eS rfl (eS rfl (eS rfl (eS rfl (eS rfl (eS rfl (eS rfl (eS rfl (eS rfl (eS rfl (eS rfl (eS rfl eZ)))))))))))))))) (congrArg Bool.not h20) eZ ?_
                refine xNil ?_
                exact TQ.qn ⟨(decide (v24.Key ≤ v22.Key)), H, (wk_mk [] (SL.cons (eS rfl (eS rfl (eS rfl (eS rfl (eS rfl (eS rfl (eS rfl (eS rfl (eS rfl (eS rfl (eS rfl (eS rfl (eS rfl (eS rfl (eS rfl (eS rfl (eS rfl (eS rfl (eS rfl (eS rfl (eS rfl (eS rfl (eS rfl (eS rfl (eS rfl (eS rfl (eS rfl (eS rfl (eS rfl (eS rfl (eS rfl (eS rfl (eS rfl (eS rfl (eS rfl (eS rfl (eS rfl (eS rfl eZ)))))))))))))))))))))))))))))))))))))) rfl VWk.rfl (SL.cons (eS rfl (eS rfl (eS rfl (eS rfl (eS rfl (eS rfl (eS rfl (eS rfl (eS rfl (eS rfl (eS rfl (eS rfl (eS rfl (eS rfl (eS rfl (eS rfl (eS rfl (eS rfl (eS rfl (eS rfl (eS rfl (eS rfl (eS rfl (eS rfl (eS rfl (eS rfl (eS rfl (eS rfl (eS rfl (eS rfl (eS rfl (eS rfl (eS rfl (eS rfl (eS rfl (eS rfl (eS rfl (eS rfl (eS rfl eZ))))))))))))))))))))))))))))))))))))))) rfl VWk.rfl (SL.cons eZ rfl VWk.rfl SL.nil))) BL.nil BK.nil)⟩
              · refine gSkip eZ (decide_eq_false h21) rfl ?_
                refine gSkip (eS rfl eZ) (decide_eq_false h21) rfl ?_
                refine gSkip (eS rfl (eS rfl eZ)) (decide_eq_false h21) rfl ?_
                refine gSkip (eS rfl (eS rfl (eS rfl eZ))) (decide_eq_false h21) rfl ?_
                refine gSkip (eS rfl (eS rfl (eS rfl (eS rfl eZ)))) (decide_eq_false h21) rfl ?_
                refine gSkip (eS rfl (eS rfl (eS rfl (eS rfl (eS rfl eZ))))) (decide_eq_false h21) rfl ?_
                refine gSkip (eS rfl (eS rfl (eS rfl (eS rfl (eS rfl (eS rfl eZ)))))) (decide_eq_false h21) rfl ?_
                refine gSkip (eS rfl (eS rfl (eS rfl (eS rfl (eS rfl (eS rfl (eS rfl eZ))))))) (decide_eq_false h21) rfl ?_
                refine gSkip (eS rfl (eS rfl (eS rfl (eS rfl (eS rfl (eS rfl (eS rfl (eS rfl eZ)))))))) (decide_eq_false h21) rfl ?_
                refine gSkip (eS rfl (eS rfl (eS rfl (eS rfl (eS rfl (eS rfl (eS rfl (eS rfl (eS rfl eZ))))))))) (decide_eq_false h21) rfl ?_
                refine gSkip (eS rfl (eS rfl (eS rfl (eS rfl (eS rfl (eS rfl (eS rfl (eS rfl (eS rfl (eS rfl eZ)))))))))) (decide_eq_false h21) rfl ?_
                refine gSkip (eS rfl (eS rfl (eS rfl (eS rfl (eS rfl (eS rfl (eS rfl (eS rfl (eS rfl (eS rfl (eS rfl eZ))))))))))) (decide_eq_false h21) rfl ?_
                refine gDo (eS rfl (eS rfl (eS rfl (eS rfl (eS rfl (eS rfl (eS rfl (eS rfl (eS rfl (eS rfl (eS rfl (eS rfl (eS rfl (eS rfl (eS rfl eZ))))))))))))))) (congrArg Bool.not h20) ?_
                refine oPickF (eS rfl (eS rfl (eS rfl (eS rfl (eS rfl (eS rfl (eS rfl (eS rfl (eS rfl (eS rfl (eS rfl (eS rfl eZ)))))))))))) (decide_eq_false h21) eC ?_
                refine oPickF (eS rfl (eS rfl (eS rfl (eS rfl (eS rfl (eS rfl (eS rfl (eS rfl (eS rfl (eS rfl (eS rfl (eS rfl (eS rfl (eS rfl (eS rfl (eS rfl eZ)))))))))))))))) (congrArg Bool.not h20) eZ ?_
                refine xNil ?_
                exact TQ.qn ⟨false, H, (wk_mk [] (SL.cons (eS rfl (eS rfl (eS rfl (eS rfl (eS rfl (eS rfl (eS rfl (eS rfl (eS rfl (eS rfl (eS rfl (eS rfl (eS rfl (eS rfl (eS rfl (eS rfl (eS rfl (eS rfl (eS rfl (eS rfl (eS rfl (eS rfl (eS rfl (eS rfl (eS rfl (eS rfl (eS rfl (eS rfl (eS rfl (eS rfl (eS rfl (eS rfl (eS rfl (eS rfl (eS rfl (eS rfl (eS rfl (eS rfl eZ)))))))))))))))))))))))))))))))))))))) rfl VWk.rfl (SL.cons (eS rfl (eS rfl (eS rfl (eS rfl (eS rfl (eS rfl (eS rfl (eS rfl (eS rfl (eS rfl (eS rfl (eS rfl (eS rfl (eS rfl (eS rfl (eS rfl (eS rfl (eS rfl (eS rfl (eS rfl (eS rfl (eS rfl (eS rfl (eS rfl (eS rfl (eS rfl (eS rfl (eS rfl (eS rfl (eS rfl (eS rfl (eS rfl (eS rfl (eS rfl (eS rfl (eS rfl (eS rfl (eS rfl (eS rfl eZ))))))))))))))))))))))))))))))))))))))) rfl VWk.rfl (SL.cons eZ rfl VWk.rfl SL.nil))) BL.nil BK.nil)⟩
            · refine gSkip eZ (congrArg Bool.not (nt h20)) rfl ?_
              refine gSkip (eS rfl eZ) (congrArg Bool.not (nt h20)) rfl ?_
              refine gSkip (eS rfl (eS rfl eZ)) (congrArg Bool.not (nt h20)) rfl ?_
              refine gSkipU eZ rfl ?_
              refine gSkipU (eS rfl eZ) rfl ?_
              refine gSkipU (eS rfl (eS rfl eZ)) rfl ?_
              refine gSkipU (eS rfl (eS rfl (eS rfl eZ))) rfl ?_
              refine gSkipU (eS rfl (eS rfl (eS rfl (eS rfl eZ)))) rfl ?_
              refine gSkipU (eS rfl (eS rfl (eS rfl (eS rfl (eS rfl eZ))))) rfl ?_
              refine gSkipU (eS rfl (eS rfl (eS rfl (eS rfl (eS rfl (eS rfl eZ)))))) rfl ?_
              refine gSkipU (eS rfl (eS rfl (eS rfl (eS rfl (eS rfl (eS rfl (eS rfl eZ))))))) rfl ?_
              refine gSkipU (eS rfl (eS rfl (eS rfl (eS rfl (eS rfl (eS rfl (eS rfl (eS rfl eZ)))))))) rfl ?_
              refine gSkipU (eS rfl (eS rfl (eS rfl (eS rfl (eS rfl (eS rfl (eS rfl (eS rfl (eS rfl eZ))))))))) rfl ?_
              refine gSkipU (eS rfl (eS rfl (eS rfl (eS rfl (eS rfl (eS rfl (eS rfl (eS rfl (eS rfl (eS rfl eZ)))))))))) rfl ?_
              refine gSkipU (eS rfl (eS rfl (eS rfl (eS rfl (eS rfl (eS rfl (eS rfl (eS rfl (eS rfl (eS rfl (eS rfl eZ))))))))))) rfl ?_
              refine gSkip (eS rfl (eS rfl (eS rfl (eS rfl (eS rfl (eS rfl (eS rfl (eS rfl (eS rfl (eS rfl (eS rfl (eS rfl (eS rfl (eS rfl (eS rfl eZ))))))))))))))) (congrArg Bool.not (nt h20)) rfl ?_
              refine oPickT (eS rfl (eS rfl (eS rfl (eS rfl (eS rfl (eS rfl (eS rfl (eS rfl (eS rfl (eS rfl (eS rfl (eS rfl (eS rfl (eS rfl (eS rfl (eS rfl eZ)))))))))))))))) (congrArg Bool.not (nt h20)) eC ?_
              refine xNil ?_
              exact TQ.qn ⟨true, H, (wk_mk [] (SL.cons (eS rfl (eS rfl (eS rfl (eS rfl (eS rfl (eS rfl (eS rfl (eS rfl (eS rfl (eS rfl (eS rfl (eS rfl (eS rfl (eS rfl (eS rfl (eS rfl (eS rfl (eS rfl (eS rfl (eS rfl (eS rfl (eS rfl (eS rfl (eS rfl (eS rfl (eS rfl (eS rfl (eS rfl (eS rfl (eS rfl (eS rfl (eS rfl (eS rfl (eS rfl (eS rfl (eS rfl (eS rfl (eS rfl eZ)))))))))))))))))))))))))))))))))))))) rfl VWk.rfl (SL.cons (eS rfl (eS rfl (eS rfl (eS rfl (eS rfl (eS rfl (eS rfl (eS rfl (eS rfl (eS rfl (eS rfl (eS rfl (eS rfl (eS rfl (eS rfl (eS rfl (eS rfl (eS rfl (eS rfl (eS rfl (eS rfl (eS rfl (eS rfl (eS rfl (eS rfl (eS rfl (eS rfl (eS rfl (eS rfl (eS rfl (eS rfl (eS rfl (eS rfl (eS rfl (eS rfl (eS rfl (eS rfl (eS rfl (eS rfl eZ))))))))))))))))))))))))))))))))))))))) rfl VWk.rfl (SL.cons eZ rfl VWk.rfl SL.nil))) BL.nil BK.nil)⟩
          · refine gSkip eZ (congrArg Bool.not (nt h15)) rfl ?_
            refine gSkip (eS rfl eZ) (congrArg Bool.not (nt h15)) rfl ?_
            refine gSkip (eS rfl (eS rfl eZ)) (congrArg Bool.not (nt h15)) rfl ?_
            refine gSkip (eS rfl (eS rfl (eS rfl eZ))) (congrArg Bool.not (nt h15)) rfl ?_
            refine gSkip (eS rfl (eS rfl (eS rfl (eS rfl eZ)))) (congrArg Bool.not (nt h15)) rfl ?_
            refine gSkip (eS rfl (eS rfl (eS rfl (eS rfl (eS rfl eZ))))) (congrArg Bool.not (nt h15)) rfl ?_
            refine gSkip (eS rfl (eS rfl (eS rfl (eS rfl (eS rfl (eS rfl eZ)))))) (congrArg Bool.not (nt h15)) rfl ?_
            refine oPickT (eS rfl (eS rfl (eS rfl (eS rfl (eS rfl (eS rfl (eS rfl eZ))))))) (congrArg Bool.not (nt h15)) eC ?_
            refine oMov eZ ?_
            refine gSkip eZ rfl rfl ?_
            refine gSkip (eS rfl eZ) rfl rfl ?_
            refine gSkip (eS rfl (eS rfl eZ)) rfl rfl ?_
            refine gSkipU eZ rfl ?_
            refine gSkipU (eS rfl eZ) rfl ?_
            refine gSkipU (eS rfl (eS rfl eZ)) rfl ?_
            refine gSkipU (eS rfl (eS rfl (eS rfl eZ))) rfl ?_
            refine gSkipU (eS rfl (eS rfl (eS rfl (eS rfl eZ)))) rfl ?_
            refine gSkipU (eS rfl (eS rfl (eS rfl (eS rfl (eS rfl eZ))))) rfl ?_
            refine gSkipU (eS rfl (eS rfl (eS rfl (eS rfl (eS rfl (eS rfl eZ)))))) rfl ?_
            refine gSkipU (eS rfl (eS rfl (eS rfl (eS rfl (eS rfl (eS rfl (eS rfl eZ))))))) rfl ?_
            refine gSkipU (eS rfl (eS rfl (eS rfl (eS rfl (eS rfl (eS rfl (eS rfl (eS rfl eZ)))))))) rfl ?_
            refine gSkipU (eS rfl (eS rfl (eS rfl (eS rfl (eS rfl (eS rfl (eS rfl (eS rfl (eS rfl eZ))))))))) rfl ?_
            refine gSkipU (eS rfl (eS rfl (eS rfl (eS rfl (eS rfl (eS rfl (eS rfl (eS rfl (eS rfl (eS rfl eZ)))))))))) rfl ?_
            refine gSkipU (eS rfl (eS rfl (eS rfl (eS rfl (eS rfl (eS rfl (eS rfl (eS rfl (eS rfl (eS rfl (eS rfl eZ))))))))))) rfl ?_
            refine gSkip (eS rfl (eS rfl (eS rfl (eS rfl (eS rfl (eS rfl (eS rfl (eS rfl (eS rfl (eS rfl (eS rfl (eS rfl (eS rfl (eS rfl (eS rfl eZ))))))))))))))) rfl rfl ?_
            refine oPickT (eS rfl (eS rfl (eS rfl (eS rfl (eS rfl (eS rfl (eS rfl (eS rfl (eS rfl (eS rfl (eS rfl (eS rfl (eS rfl (eS rfl (eS rfl (eS rfl eZ)))))))))))))))) rfl eC ?_
            refine xNil ?_
            exact TQ.qn ⟨true, H, (wk_mk [] (SL.cons (eS rfl (eS rfl (eS rfl (eS rfl (eS rfl (eS rfl (eS rfl (eS rfl (eS rfl (eS rfl (eS rfl (eS rfl (eS rfl (eS rfl (eS rfl (eS rfl (eS rfl (eS rfl (eS rfl (eS rfl (eS rfl (eS rfl (eS rfl (eS rfl (eS rfl (eS rfl (eS rfl (eS rfl (eS rfl (eS rfl (eS rfl (eS rfl (eS rfl (eS rfl (eS rfl (eS rfl (eS rfl (eS rfl eZ)))))))))))))))))))))))))))))))))))))) rfl VWk.rfl (SL.cons (eS rfl (eS rfl (eS rfl (eS rfl (eS rfl (eS rfl (eS rfl (eS rfl (eS rfl (eS rfl (eS rfl (eS rfl (eS rfl (eS rfl (eS rfl (eS rfl (eS rfl (eS rfl (eS rfl (eS rfl (eS rfl (eS rfl (eS rfl (eS rfl (eS rfl (eS rfl (eS rfl (eS rfl (eS rfl (eS rfl (eS rfl (eS rfl (eS rfl (eS rfl (eS rfl (eS rfl (eS rfl (eS rfl (eS rfl eZ))))))))))))))))))))))))))))))))))))))) rfl VWk.rfl (SL.cons eZ rfl VWk.rfl SL.nil))) BL.nil BK.nil)⟩
      · refine AW.condF eZ (decide_eq_false h7) ?_
        refine AW.exit ?_
        refine TQ.qe ?_
        refine TQ.qe ?_
        refine BQ.qe ?_
        exact TQ.qn ⟨(), H, (wk_mk [] SL.nil BL.nil BK.nil)⟩

theorem c_spec_l2Cells {a1 : (List TCell)} {a2 : Int} {a3 : Int} {a4 : Bool} {r : (List TCell)} (H : m_spec_l2Cells a1 a2 a3 a4 = some r) : Fn Try.prog k_spec_l2Cells (lent [(.sl 2 (List.map d_TCell a1)), (.int .i64 a2), (.int .i64 a3), (.bool a4)]) true [(.sl 2 (List.map d_TCell r))] := by
  refine i_spec_l2Cells_fn (Nat.le_of_ble_eq_true rfl) ?_
  rw [init_mk]
  refine AW.weaken (wk_mk [] (SL.cons (v := (.one (.d (.sl 2 (List.map d_TCell a1))))) eZ rfl VWk.rfl (SL.cons (v := (.one (.d (.int .i64 a2)))) (eS rfl eZ) rfl VWk.rfl (SL.cons (v := (.one (.d (.int .i64 a3)))) (eS rfl (eS rfl eZ)) rfl VWk.rfl (SL.cons (v := (.one (.d (.bool a4)))) (eS rfl (eS rfl (eS rfl eZ))) rfl VWk.rfl SL.nil)))) BL.nil BK.nil) ?_
  unfold m_spec_l2Cells at H
  unfold i_spec_l2Cells
  refine AW.seq ?_
  refine AW.regs ?_
  refine oMov eC ?_
  refine xNil ?_
  refine TQ.qn ?_
  refine AW.seq ?_
  refine AW.regs ?_
  refine oBsliceZ (m := 768) rfl nZ ?_
  refine oMov eZ ?_
  refine xNil ?_
  refine TQ.qn ?_
  refine AW.seq ?_
  refine AW.regs ?_
  refine oMov (eS rfl (eS rfl (eS rfl (eS rfl (eS rfl (eS rfl eZ)))))) ?_
  refine oInv eZ ?_
  refine oMov eZ ?_
  refine xNil ?_
  refine TQ.qn ?_
  refine AW.seqJ (fun t5 : ((List TCell) × Bool) => (spec_l2Cells_j5 a2 a3) t5 = some r) (fun t5 => mk [(1, (.one (.d (.int .i64 a2)))), (2, (.one (.d (.int .i64 a3)))), (9, (.one (.sl 320320 0 t5.1.length))), (10, (.one (.d (.bool t5.2))))] [(320320, (.data 2 (List.map d_TCell t5.1) true none))] noG) ?_ ?_
  · intro t5 H
    unfold spec_l2Cells_j5 at H
    refine AW.seq ?_
    refine AW.seq ?_
    refine AW.regs ?_
    refine oMov (eS rfl (eS rfl (eS rfl eZ))) ?_
    refine oInv eZ ?_
    refine xNil ?_
    refine TQ.qn ?_
    rcases oite H with ⟨h7, H⟩ | ⟨h7, H⟩
    · refine AW.condF eZ (congrArg Bool.not h7) ?_
      refine AW.skip ?_
      refine TQ.qn ?_
      refine AW.seq ?_
      refine AW.regs ?_
      refine oMov (eS rfl (eS rfl (eS rfl (eS rfl eZ)))) ?_
      refine oMov eZ ?_
      refine xNil ?_
      refine TQ.qn ?_
      refine AW.ret ?_
      obtain rfl := Option.some.inj H
      exact endsR (RL.cons (RV.tmp eZ) (VO.sl bZ (List.length_map _) (allFlat fun _ => rfl)) RL.nil) (by decide)
    · refine AW.condT eZ (congrArg Bool.not (nt h7)) ?_
      refine AW.regs ?_
      refine oMov (eS rfl (eS rfl (eS rfl (eS rfl eZ)))) ?_
      refine oMov (eS rfl (eS rfl (eS rfl eZ))) ?_
      refine oMov (eS rfl (eS rfl (eS rfl (eS rfl (eS rfl eZ))))) ?_
      refine oBuild (cs := [(.d (.int .i64 a2)), (.d (.int .i64 a3))]) (PsCons (eS rfl eZ) (PsCons eZ PsNil)) rfl ?_
      refine oBslice (m := 3712) (q := 1) (cs := [(.d (.int .i64 a2)), (.d (.int .i64 a3))]) rfl (PsCons eZ PsNil) rfl (List.cons_ne_nil _ _) (by simp) (nS rfl nZ) ?_
      obtain ⟨h8, H⟩ := oguard H
      refine oAppN (f := d_TCell) (xs := t5.1) (ys := [(TCell.mk a2 a3)]) (q := (t5.1 ++ ([(TCell.mk a2 a3)])).length) (eS rfl (eS rfl (eS rfl (eS rfl eZ)))) eZ (bS rfl bZ) rfl (El.one (f := d_TCell) (t := (TCell.mk a2 a3)) (es := [(.int .i64 a2), (.int .i64 a3)]) bZ rfl rfl rfl) rfl h8 (by decide) (by decide) (erL.cons (v' := (.one (.sl 3712 0 1))) rfl (erL.cons (v' := (.agg [(.d (.int .i64 a2)), (.d (.int .i64 a3))])) rfl (erL.cons (v' := (.one (.d (.int .i64 a3)))) rfl (erL.cons (v' := (.one (.d (.int .i64 a2)))) rfl (erL.cons (v' := (.one .any)) rfl (erL.cons (v' := (.one (.d (.bool (!t5.2))))) rfl (erL.cons (v' := (.one (.d (.bool t5.2)))) rfl (erL.cons (v' := (.one (.d (.int .i64 a2)))) rfl (erL.cons (v' := (.one (.d (.int .i64 a3)))) rfl (erL.cons (v' := (.one .any)) rfl (erL.cons (v' := (.one (.d (.bool t5.2)))) rfl erL.nil))))))))))) (erH.cons (v' := (.vars 2 [(.d (.int .i64 a2)), (.d (.int .i64 a3))])) rfl rfl (erH.drop rfl erH.nil)) ?_
      refine oMov eZ ?_
      refine xNil ?_
      refine TQ.qn ?_
      refine AW.seq ?_
      refine AW.regs ?_
      refine oMov eZ ?_
      refine oMov eZ ?_
      refine xNil ?_
      refine TQ.qn ?_
      refine AW.ret ?_
      obtain rfl := Option.some.inj H
      exact endsR (RL.cons (RV.tmp eZ) (VO.sl bZ (List.length_map _) (allFlat fun _ => rfl)) RL.nil) (by decide)
  · refine AW.seq ?_
    refine AW.regs ?_
    refine oMov eC ?_
    refine xNil ?_
    refine TQ.qn ?_
    refine AW.block ?_
    refine AW.iter (fun s9 : ((List TCell) × Bool × Int) => mk [(0, (.one (.d (.sl 2 (List.map d_TCell a1))))), (1, (.one (.d (.int .i64 a2)))), (2, (.one (.d (.int .i64 a3)))), (9, (.one (.sl 320448 0 s9.1.length))), (10, (.one (.d (.bool s9.2.1)))), (11, (.one (.d (.int .i64 s9.2.2))))] [(320448, (.data 2 (List.map d_TCell s9.1) true none))] noG) H ((wk_mk [] (SL.cons (eS rfl (eS rfl (eS rfl (eS rfl (eS rfl (eS rfl (eS rfl (eS rfl eZ)))))))) rfl VWk.rfl (SL.cons (eS rfl (eS rfl (eS rfl (eS rfl (eS rfl (eS rfl (eS rfl (eS rfl (eS rfl eZ))))))))) rfl VWk.rfl (SL.cons (eS rfl (eS rfl (eS rfl (eS rfl (eS rfl (eS rfl (eS rfl (eS rfl (eS rfl (eS rfl eZ)))))))))) rfl VWk.rfl (SL.cons eZ rfl (VWk.one (CWk.len (by first | (simp; done) | (simp; omega) | omega))) (SL.cons (eS rfl (eS rfl eZ)) rfl VWk.rfl (SL.cons (eS rfl eZ) rfl VWk.rfl SL.nil)))))) (BL.keep rfl BL.nil) (BK.cons rfl bZ rfl rfl BK.nil)).trans (wk_zs 320448 2 9 true (eS rfl (eS rfl (eS rfl (eS rfl eZ)))) nZ)) ?_
    intro kb10 s9 H
    unfold spec_l2Cells_b9 at H
    refine AW.seq ?_
    refine AW.seq ?_
    refine AW.regs ?_
    refine oMov (eS rfl (eS rfl (eS rfl (eS rfl (eS rfl eZ))))) ?_
    refine oMov (eS rfl eZ) ?_
    refine oLenD eZ (n := a1.length) (List.length_map _) ?_
    refine oLss (eS rfl (eS rfl eZ)) eZ ?_
    refine xNil ?_
    refine TQ.qn ?_
    rcases oite H with ⟨h11, H⟩ | ⟨h11, H⟩
    · refine AW.condT eZ (decide_eq_true h11) ?_
      refine AW.skip ?_
      refine TQ.qn ?_
      refine AW.seq ?_
      refine AW.block ?_
      refine AW.seqJ (fun t12 : ((List TCell) × Bool) => (spec_l2Cells_j12 a1 s9 a2 kb10) t12 = some r) (fun t12 => mk [(0, (.one (.d (.sl 2 (List.map d_TCell a1))))), (1, (.one (.d (.int .i64 a2)))), (2, (.one (.d (.int .i64 a3)))), (9, (.one (.sl 320576 0 t12.1.length))), (10, (.one (.d (.bool t12.2)))), (11, (.one (.d (.int .i64 s9.2.2))))] [(320576, (.data 2 (List.map d_TCell t12.1) true none))] noG) ?_ ?_
      · intro t12 H
        unfold spec_l2Cells_j12 at H
        refine AW.seq ?_
        refine AW.regs ?_
        refine oMov eZ ?_
        refine oMov (eS rfl (eS rfl (eS rfl (eS rfl (eS rfl (eS rfl eZ)))))) ?_
        obtain ⟨v14, h15, H⟩ := obind H
        refine oAtD (eS rfl eZ) eZ h15 ?_
        refine oFaddrB (m := 0) eZ rfl ?_
        refine oLoadB (e := (.int .i64 v14.Key)) eZ rfl ?_
        refine oMov (eS rfl (eS rfl (eS rfl (eS rfl (eS rfl (eS rfl eZ)))))) ?_
        refine oNeq (eS rfl eZ) eZ ?_
        refine xNil ?_
        refine TQ.qn ?_
        rcases oite H with ⟨h16, H⟩ | ⟨h16, H⟩
        · refine AW.condT eZ (decide_eq_true h16) ?_
          refine AW.regs ?_
          refine oMov (eS rfl (eS rfl (eS rfl (eS rfl (eS rfl (eS rfl (eS rfl (eS rfl (eS rfl (eS rfl eZ)))))))))) ?_
          refine oMov (eS rfl (eS rfl (eS rfl (eS rfl (eS rfl (eS rfl (eS rfl (eS rfl eZ)))))))) ?_
          refine oMov (eS rfl (eS rfl (eS rfl (eS rfl (eS rfl (eS rfl (eS rfl (eS rfl (eS rfl (eS rfl (eS rfl (eS rfl (eS rfl (eS rfl eZ)))))))))))))) ?_
          obtain ⟨v17, h18, H⟩ := obind H
          refine oAtD (eS rfl eZ) eZ h18 ?_
          refine oLoadBA (es := [(.d (.int .i64 v17.Key)), (.d (.int .i64 v17.Value))]) eZ rfl ?_
          refine oBslice (m := 3200) (q := 1) (cs := [(.d (.int .i64 v17.Key)), (.d (.int .i64 v17.Value))]) rfl (PsCons eZ PsNil) rfl (List.cons_ne_nil _ _) (by simp) (nS rfl nZ) ?_
          obtain ⟨h19, H⟩ := oguard H
          refine oAppN (f := d_TCell) (xs := t12.1) (ys := [v17]) (q := (t12.1 ++ ([v17])).length) (eS rfl (eS rfl (eS rfl (eS rfl (eS rfl eZ))))) eZ (bS rfl bZ) rfl (El.one (f := d_TCell) (t := v17) (es := [(.int .i64 v17.Key), (.int .i64 v17.Value)]) bZ rfl rfl rfl) rfl h19 (by decide) (by decide) (erL.cons (v' := (.one (.sl 3200 0 1))) rfl (erL.cons (v' := (.agg [(.d (.int .i64 v17.Key)), (.d (.int .i64 v17.Value))])) rfl (erL.cons (v' := (.one (.ptr (.bd (d_TCell v17) 0)))) rfl (erL.cons (v' := (.one (.d (.int .i64 s9.2.2)))) rfl (erL.cons (v' := (.one (.d (.sl 2 (List.map d_TCell a1))))) rfl (erL.cons (v' := (.one .any)) rfl (erL.cons (v' := (.one (.d (.bool (decide (¬ v14.Key = a2)))))) rfl (erL.cons (v' := (.one (.d (.int .i64 a2)))) rfl (erL.cons (v' := (.one (.d (.int .i64 v14.Key)))) rfl (erL.cons (v' := (.one (.ptr (.bd (d_TCell v14) 0)))) rfl (erL.cons (v' := (.one (.ptr (.bd (d_TCell v14) 0)))) rfl (erL.cons (v' := (.one (.d (.int .i64 s9.2.2)))) rfl (erL.cons (v' := (.one (.d (.sl 2 (List.map d_TCell a1))))) rfl (erL.cons (v' := (.one (.d (.sl 2 (List.map d_TCell a1))))) rfl (erL.cons (v' := (.one (.d (.int .i64 a2)))) rfl (erL.cons (v' := (.one (.d (.int .i64 a3)))) rfl (erL.cons (v' := (.one .any)) rfl (erL.cons (v' := (.one (.d (.bool t12.2)))) rfl (erL.cons (v' := (.one (.d (.int .i64 s9.2.2)))) rfl erL.nil))))))))))))))))))) (erH.cons (v' := (.vars 2 [(.d (.int .i64 v17.Key)), (.d (.int .i64 v17.Value))])) rfl rfl (erH.drop rfl erH.nil)) ?_
          refine oMov eZ ?_
          refine xNil ?_
          refine BQ.qn ?_
          refine TQ.qn ?_
          refine AW.weaken (wk_mk [3200] (SL.cons (k := 9) eZ rfl VWk.rfl (SL.cons (k := 0) (eS rfl (eS rfl (eS rfl (eS rfl (eS rfl (eS rfl (eS rfl (eS rfl (eS rfl (eS rfl (eS rfl (eS rfl (eS rfl (eS rfl (eS rfl eZ))))))))))))))) rfl VWk.rfl (SL.cons (k := 1) (eS rfl (eS rfl (eS rfl (eS rfl (eS rfl (eS rfl (eS rfl (eS rfl (eS rfl (eS rfl (eS rfl (eS rfl (eS rfl (eS rfl (eS rfl (eS rfl eZ)))))))))))))))) rfl VWk.rfl (SL.cons (k := 2) (eS rfl (eS rfl (eS rfl (eS rfl (eS rfl (eS rfl (eS rfl (eS rfl (eS rfl (eS rfl (eS rfl (eS rfl (eS rfl (eS rfl (eS rfl (eS rfl (eS rfl eZ))))))))))))))))) rfl VWk.rfl (SL.cons (k := 10) (eS rfl (eS rfl (eS rfl (eS rfl (eS rfl (eS rfl (eS rfl (eS rfl (eS rfl (eS rfl (eS rfl (eS rfl (eS rfl (eS rfl (eS rfl (eS rfl (eS rfl (eS rfl (eS rfl eZ))))))))))))))))))) rfl VWk.rfl (SL.cons (k := 11) (eS rfl (eS rfl (eS rfl (eS rfl (eS rfl (eS rfl (eS rfl (eS rfl (eS rfl (eS rfl (eS rfl (eS rfl (eS rfl (eS rfl (eS rfl (eS rfl (eS rfl (eS rfl (eS rfl (eS rfl eZ)))))))))))))))))))) rfl VWk.rfl SL.nil)))))) (BL.keep rfl (BL.drop rfl BL.nil)) (BK.cons (n := 320576) rfl bZ rfl rfl BK.nil)) ?_
          refine AW.regs ?_
          refine oMov (eS rfl (eS rfl (eS rfl (eS rfl (eS rfl eZ))))) ?_
          refine oAdd eZ eC ?_
          refine oMov eZ ?_
          refine xNil ?_
          exact TQ.qn ⟨((t12.1 ++ ([v17])), t12.2, (IntKind.wrap .i64 (s9.2.2 + 1))), H, ((wk_mk [] (SL.cons (eS rfl (eS rfl (eS rfl (eS rfl eZ)))) rfl VWk.rfl (SL.cons (eS rfl (eS rfl (eS rfl (eS rfl (eS rfl eZ))))) rfl VWk.rfl (SL.cons (eS rfl (eS rfl (eS rfl (eS rfl (eS rfl (eS rfl eZ)))))) rfl VWk.rfl (SL.cons (eS rfl (eS rfl (eS rfl eZ))) rfl VWk.rfl (SL.cons (eS rfl (eS rfl (eS rfl (eS rfl (eS rfl (eS rfl (eS rfl eZ))))))) rfl VWk.rfl (SL.cons eZ rfl VWk.rfl SL.nil)))))) (BL.keep rfl BL.nil) (BK.cons rfl bZ rfl rfl BK.nil)).trans (wk_ren 320576 320448 rfl rfl (nS rfl nZ)))⟩
        · refine AW.condF eZ (decide_eq_false h16) ?_
          refine AW.skip ?_
          refine BQ.qn ?_
          refine TQ.qn ?_
          refine AW.regs ?_
          refine oMov (eS rfl (eS rfl (eS rfl (eS rfl (eS rfl (eS rfl (eS rfl (eS rfl (eS rfl (eS rfl (eS rfl (eS rfl eZ)))))))))))) ?_
          refine oAdd eZ eC ?_
          refine oMov eZ ?_
          refine xNil ?_
          exact TQ.qn ⟨(t12.1, t12.2, (IntKind.wrap .i64 (s9.2.2 + 1))), H, ((wk_mk [] (SL.cons (eS rfl (eS rfl (eS rfl (eS rfl (eS rfl (eS rfl (eS rfl (eS rfl (eS rfl (eS rfl eZ)))))))))) rfl VWk.rfl (SL.cons (eS rfl (eS rfl (eS rfl (eS rfl (eS rfl (eS rfl (eS rfl (eS rfl (eS rfl (eS rfl (eS rfl eZ))))))))))) rfl VWk.rfl (SL.cons (eS rfl (eS rfl (eS rfl (eS rfl (eS rfl (eS rfl (eS rfl (eS rfl (eS rfl (eS rfl (eS rfl (eS rfl eZ)))))))))))) rfl VWk.rfl (SL.cons (eS rfl (eS rfl (eS rfl (eS rfl (eS rfl (eS rfl (eS rfl (eS rfl (eS rfl (eS rfl (eS rfl (eS rfl (eS rfl eZ))))))))))))) rfl VWk.rfl (SL.cons (eS rfl (eS rfl (eS rfl (eS rfl (eS rfl (eS rfl (eS rfl (eS rfl (eS rfl (eS rfl (eS rfl (eS rfl (eS rfl (eS rfl eZ)))))))))))))) rfl VWk.rfl (SL.cons eZ rfl VWk.rfl SL.nil)))))) (BL.keep rfl BL.nil) (BK.cons rfl bZ rfl rfl BK.nil)).trans (wk_ren 320576 320448 rfl rfl (nS rfl nZ)))⟩
      · refine AW.seqJ (fun t20 : Bool => (spec_l2Cells_j20 s9 a2 a3 (spec_l2Cells_j12 a1 s9 a2 kb10)) t20 = some r) (fun t20 => mk [(0, (.one (.d (.sl 2 (List.map d_TCell a1))))), (1, (.one (.d (.int .i64 a2)))), (2, (.one (.d (.int .i64 a3)))), (9, (.one (.sl 320448 0 s9.1.length))), (10, (.one (.d (.bool s9.2.1)))), (11, (.one (.d (.int .i64 s9.2.2)))), (31, (.one (.d (.bool t20))))] [(320448, (.data 2 (List.map d_TCell s9.1) true none))] noG) ?_ ?_
        · intro t20 H
          unfold spec_l2Cells_j20 at H
          rcases oite H with ⟨h22, H⟩ | ⟨h22, H⟩
          · refine AW.condT (eS rfl (eS rfl (eS rfl (eS rfl (eS rfl (eS rfl eZ)))))) h22 ?_
            refine AW.seq ?_
            refine AW.regs ?_
            refine oMov (eS rfl (eS rfl (eS rfl eZ))) ?_
            refine oMov (eS rfl (eS rfl eZ)) ?_
            refine oMov (eS rfl (eS rfl (eS rfl (eS rfl eZ)))) ?_
            refine oBuild (cs := [(.d (.int .i64 a2)), (.d (.int .i64 a3))]) (PsCons (eS rfl eZ) (PsCons eZ PsNil)) rfl ?_
            refine oBslice (m := 2304) (q := 1) (cs := [(.d (.int .i64 a2)), (.d (.int .i64 a3))]) rfl (PsCons eZ PsNil) rfl (List.cons_ne_nil _ _) (by simp) (nS rfl nZ) ?_
            obtain ⟨h23, H⟩ := oguard H
            refine oAppN (f := d_TCell) (xs := s9.1) (ys := [(TCell.mk a2 a3)]) (q := (s9.1 ++ ([(TCell.mk a2 a3)])).length) (eS rfl (eS rfl (eS rfl (eS rfl eZ)))) eZ (bS rfl bZ) rfl (El.one (f := d_TCell) (t := (TCell.mk a2 a3)) (es := [(.int .i64 a2), (.int .i64 a3)]) bZ rfl rfl rfl) rfl h23 (by decide) (by decide) (erL.cons (v' := (.one (.sl 2304 0 1))) rfl (erL.cons (v' := (.agg [(.d (.int .i64 a2)), (.d (.int .i64 a3))])) rfl (erL.cons (v' := (.one (.d (.int .i64 a3)))) rfl (erL.cons (v' := (.one (.d (.int .i64 a2)))) rfl (erL.cons (v' := (.one .any)) rfl (erL.cons (v' := (.one (.d (.sl 2 (List.map d_TCell a1))))) rfl (erL.cons (v' := (.one (.d (.int .i64 a2)))) rfl (erL.cons (v' := (.one (.d (.int .i64 a3)))) rfl (erL.cons (v' := (.one .any)) rfl (erL.cons (v' := (.one (.d (.bool s9.2.1)))) rfl (erL.cons (v' := (.one (.d (.int .i64 s9.2.2)))) rfl (erL.cons (v' := (.one (.d (.bool t20)))) rfl erL.nil)))))))))))) (erH.cons (v' := (.vars 2 [(.d (.int .i64 a2)), (.d (.int .i64 a3))])) rfl rfl (erH.drop rfl erH.nil)) ?_
            refine oMov eZ ?_
            refine xNil ?_
            refine TQ.qn ?_
            refine AW.regs ?_
            refine oMov eC ?_
            refine xNil ?_
            exact TQ.qn ⟨((s9.1 ++ ([(TCell.mk a2 a3)])), true), H, ((wk_mk [2304] (SL.cons (eS rfl (eS rfl (eS rfl (eS rfl (eS rfl (eS rfl (eS rfl (eS rfl eZ)))))))) rfl VWk.rfl (SL.cons (eS rfl (eS rfl (eS rfl (eS rfl (eS rfl (eS rfl (eS rfl (eS rfl (eS rfl eZ))))))))) rfl VWk.rfl (SL.cons (eS rfl (eS rfl (eS rfl (eS rfl (eS rfl (eS rfl (eS rfl (eS rfl (eS rfl (eS rfl eZ)))))))))) rfl VWk.rfl (SL.cons (eS rfl eZ) rfl VWk.rfl (SL.cons eZ rfl VWk.rfl (SL.cons (eS rfl (eS rfl (eS rfl (eS rfl (eS rfl (eS rfl (eS rfl (eS rfl (eS rfl (eS rfl (eS rfl (eS rfl (eS rfl eZ))))))))))))) rfl VWk.rfl SL.nil)))))) (BL.keep rfl (BL.drop rfl BL.nil)) (BK.cons rfl bZ rfl rfl BK.nil)).trans (wk_ren 320448 320576 rfl rfl (nS rfl (nS rfl nZ))))⟩
          · refine AW.condF (eS rfl (eS rfl (eS rfl (eS rfl (eS rfl (eS rfl eZ)))))) (nt h22) ?_
            refine AW.skip ?_
            exact TQ.qn ⟨(s9.1, s9.2.1), H, ((wk_mk [] (SL.cons eZ rfl VWk.rfl (SL.cons (eS rfl eZ) rfl VWk.rfl (SL.cons (eS rfl (eS rfl eZ)) rfl VWk.rfl (SL.cons (eS rfl (eS rfl (eS rfl eZ))) rfl VWk.rfl (SL.cons (eS rfl (eS rfl (eS rfl (eS rfl eZ)))) rfl VWk.rfl (SL.cons (eS rfl (eS rfl (eS rfl (eS rfl (eS rfl eZ))))) rfl VWk.rfl SL.nil)))))) (BL.keep rfl BL.nil) (BK.cons rfl bZ rfl rfl BK.nil)).trans (wk_ren 320448 320576 rfl rfl (nS rfl nZ)))⟩
        · refine AW.regs ?_
          refine oMov (eS rfl (eS rfl (eS rfl (eS rfl (eS rfl (eS rfl (eS rfl (eS rfl eZ)))))))) ?_
          refine oInv eZ ?_
          refine oMov eZ ?_
          rcases oite H with ⟨h24, H⟩ | ⟨h24, H⟩
          · refine gSkip eZ (congrArg Bool.not h24) rfl ?_
            refine gSkip (eS rfl eZ) (congrArg Bool.not h24) rfl ?_
            refine gSkip (eS rfl (eS rfl eZ)) (congrArg Bool.not h24) rfl ?_
            refine gSkip (eS rfl (eS rfl (eS rfl eZ))) (congrArg Bool.not h24) rfl ?_
            refine gSkip (eS rfl (eS rfl (eS rfl (eS rfl eZ)))) (congrArg Bool.not h24) rfl ?_
            refine gSkip (eS rfl (eS rfl (eS rfl (eS rfl (eS rfl eZ))))) (congrArg Bool.not h24) rfl ?_
            refine gSkip (eS rfl (eS rfl (eS rfl (eS rfl (eS rfl (eS rfl eZ)))))) (congrArg Bool.not h24) rfl ?_
            refine oPickF (eS rfl (eS rfl (eS rfl (eS rfl (eS rfl (eS rfl (eS rfl eZ))))))) (congrArg Bool.not h24) eC ?_
            refine xNil ?_
            exact TQ.qn ⟨false, H, (wk_mk [] (SL.cons (eS rfl (eS rfl (eS rfl (eS rfl (eS rfl (eS rfl (eS rfl (eS rfl (eS rfl (eS rfl (eS rfl (eS rfl (eS rfl (eS rfl (eS rfl eZ))))))))))))))) rfl VWk.rfl (SL.cons (eS rfl (eS rfl (eS rfl (eS rfl (eS rfl (eS rfl (eS rfl (eS rfl (eS rfl (eS rfl (eS rfl (eS rfl (eS rfl (eS rfl (eS rfl (eS rfl eZ)))))))))))))))) rfl VWk.rfl (SL.cons (eS rfl (eS rfl (eS rfl (eS rfl (eS rfl (eS rfl (eS rfl (eS rfl (eS rfl (eS rfl (eS rfl (eS rfl (eS rfl (eS rfl (eS rfl (eS rfl (eS rfl eZ))))))))))))))))) rfl VWk.rfl (SL.cons (eS rfl (eS rfl (eS rfl (eS rfl (eS rfl (eS rfl (eS rfl (eS rfl (eS rfl (eS rfl (eS rfl (eS rfl (eS rfl (eS rfl (eS rfl (eS rfl (eS rfl (eS rfl eZ)))))))))))))))))) rfl VWk.rfl (SL.cons (eS rfl (eS rfl (eS rfl (eS rfl (eS rfl (eS rfl (eS rfl (eS rfl (eS rfl (eS rfl (eS rfl (eS rfl (eS rfl (eS rfl (eS rfl (eS rfl (eS rfl (eS rfl (eS rfl eZ))))))))))))))))))) rfl VWk.rfl (SL.cons (eS rfl (eS rfl (eS rfl (eS rfl (eS rfl (eS rfl (eS rfl (eS rfl (eS rfl (eS rfl (eS rfl (eS rfl (eS rfl (eS rfl (eS rfl (eS rfl (eS rfl (eS rfl (eS rfl (eS rfl eZ)))))))))))))))))))) rfl VWk.rfl (SL.cons eZ rfl VWk.rfl SL.nil))))))) (BL.keep rfl BL.nil) (BK.cons rfl bZ rfl rfl BK.nil))⟩
          · refine gDo eZ (congrArg Bool.not (nt h24)) ?_
            refine oMov (eS rfl (eS rfl (eS rfl (eS rfl (eS rfl (eS rfl (eS rfl eZ))))))) ?_
            refine gDo (eS rfl eZ) (congrArg Bool.not (nt h24)) ?_
            refine oMov (eS rfl (eS rfl (eS rfl (eS rfl (eS rfl (eS rfl (eS rfl (eS rfl (eS rfl (eS rfl (eS rfl (eS rfl (eS rfl eZ))))))))))))) ?_
            refine gDo (eS rfl (eS rfl eZ)) (congrArg Bool.not (nt h24)) ?_
            obtain ⟨v25, h26, H⟩ := obind H
            refine oAtD (eS rfl eZ) eZ h26 ?_
            refine gDo (eS rfl (eS rfl (eS rfl eZ))) (congrArg Bool.not (nt h24)) ?_
            refine oFaddrB (m := 0) eZ rfl ?_
            refine gDo (eS rfl (eS rfl (eS rfl (eS rfl eZ)))) (congrArg Bool.not (nt h24)) ?_
            refine oLoadB (e := (.int .i64 v25.Key)) eZ rfl ?_
            refine gDo (eS rfl (eS rfl (eS rfl (eS rfl (eS rfl eZ))))) (congrArg Bool.not (nt h24)) ?_
            refine oMov (eS rfl (eS rfl (eS rfl (eS rfl (eS rfl (eS rfl (eS rfl (eS rfl (eS rfl (eS rfl (eS rfl (eS rfl (eS rfl eZ))))))))))))) ?_
            refine gDo (eS rfl (eS rfl (eS rfl (eS rfl (eS rfl (eS rfl eZ)))))) (congrArg Bool.not (nt h24)) ?_
            refine oGeq (eS rfl eZ) eZ ?_
            refine oPickT (eS rfl (eS rfl (eS rfl (eS rfl (eS rfl (eS rfl (eS rfl eZ))))))) (congrArg Bool.not (nt h24)) eZ ?_
            refine xNil ?_
            exact TQ.qn ⟨(decide (a2 ≤ v25.Key)), H, (wk_mk [] (SL.cons (eS rfl (eS rfl (eS rfl (eS rfl (eS rfl (eS rfl (eS rfl (eS rfl (eS rfl (eS rfl (eS rfl (eS rfl (eS rfl (eS rfl (eS rfl eZ))))))))))))))) rfl VWk.rfl (SL.cons (eS rfl (eS rfl (eS rfl (eS rfl (eS rfl (eS rfl (eS rfl (eS rfl (eS rfl (eS rfl (eS rfl (eS rfl (eS rfl (eS rfl (eS rfl (eS rfl eZ)))))))))))))))) rfl VWk.rfl (SL.cons (eS rfl (eS rfl (eS rfl (eS rfl (eS rfl (eS rfl (eS rfl (eS rfl (eS rfl (eS rfl (eS rfl (eS rfl (eS rfl (eS rfl (eS rfl (eS rfl (eS rfl eZ))))))))))))))))) rfl VWk.rfl (SL.cons (eS rfl (eS rfl (eS rfl (eS rfl (eS rfl (eS rfl (eS rfl (eS rfl (eS rfl (eS rfl (eS rfl (eS rfl (eS rfl (eS rfl (eS rfl (eS rfl (eS rfl (eS rfl eZ)))))))))))))))))) rfl VWk.rfl (SL.cons (eS rfl (eS rfl (eS rfl (eS rfl (eS rfl (eS rfl (eS rfl (eS rfl (eS rfl (eS rfl (eS rfl (eS rfl (eS rfl (eS rfl (eS rfl (eS rfl (eS rfl (eS rfl (eS rfl eZ))))))))))))))))))) rfl VWk.rfl (SL.cons (eS rfl (eS rfl (eS rfl (eS rfl (eS rfl (eS rfl (eS rfl (eS rfl (eS rfl (eS rfl (eS rfl (eS rfl (eS rfl (eS rfl (eS rfl (eS rfl (eS rfl (eS rfl (eS rfl (eS rfl eZ)))))))))))))))))))) rfl VWk.rfl (SL.cons eZ rfl VWk.rfl SL.nil))))))) (BL.keep rfl BL.nil) (BK.cons rfl bZ rfl rfl BK.nil))⟩
    · refine AW.condF eZ (decide_eq_false h11) ?_
      refine AW.exit ?_
      refine TQ.qe ?_
      refine TQ.qe ?_
      refine BQ.qe ?_
      exact TQ.qn ⟨(s9.1, s9.2.1), H, ((wk_mk [] (SL.cons (eS rfl (eS rfl (eS rfl (eS rfl (eS rfl eZ))))) rfl VWk.rfl (SL.cons (eS rfl (eS rfl (eS rfl (eS rfl (eS rfl (eS rfl eZ)))))) rfl VWk.rfl (SL.cons (eS rfl (eS rfl (eS rfl (eS rfl (eS rfl (eS rfl (eS rfl eZ))))))) rfl VWk.rfl (SL.cons (eS rfl (eS rfl (eS rfl (eS rfl (eS rfl (eS rfl (eS rfl (eS rfl eZ)))))))) rfl VWk.rfl SL.nil)))) (BL.keep rfl BL.nil) (BK.cons rfl bZ rfl rfl BK.nil)).trans (wk_ren 320448 320320 rfl rfl (nS rfl nZ)))⟩

theorem c_spec_StoreApply {a1 : (List TCell)} {a2 : (List TCell)} {r : ((List TCell) × Bool)} (H : m_spec_StoreApply a1 a2 = some r) : Fn Try.prog k_spec_StoreApply (lent [(.sl 2 (List.map d_TCell a1)), (.sl 2 (List.map d_TCell a2))]) true [(.sl 2 (List.map d_TCell r.1)), (.bool r.2)] := by
  refine i_spec_StoreApply_fn (Nat.le_of_ble_eq_true rfl) ?_
  rw [init_mk]
  refine AW.weaken (wk_mk [] (SL.cons (v := (.one (.d (.sl 2 (List.map d_TCell a1))))) eZ rfl VWk.rfl (SL.cons (v := (.one (.d (.sl 2 (List.map d_TCell a2))))) (eS rfl eZ) rfl VWk.rfl SL.nil)) BL.nil BK.nil) ?_
  unfold m_spec_StoreApply at H
  unfold i_spec_StoreApply
  refine AW.seq ?_
  refine AW.regs ?_
  refine oMov eC ?_
  refine oMov eC ?_
  refine xNil ?_
  refine TQ.qn ?_
  refine AW.seq ?_
  refine AW.seqJ (fun t3 : Bool => (spec_StoreApply_j3 a1 a2) t3 = some r) (fun t3 => mk [(0, (.one (.d (.sl 2 (List.map d_TCell a1))))), (1, (.one (.d (.sl 2 (List.map d_TCell a2))))), (15, (.one (.d (.bool t3))))] [] noG) ?_ ?_
  · intro t3 H
    unfold spec_StoreApply_j3 at H
    rcases oite H with ⟨h5, H⟩ | ⟨h5, H⟩
    · refine AW.condT (eS rfl (eS rfl eZ)) h5 ?_
      refine AW.seq ?_
      refine AW.regs ?_
      refine oBsliceZ (m := 1024) rfl nZ ?_
      refine oMov eZ ?_
      refine oMov eC ?_
      refine xNil ?_
      refine TQ.qn ?_
      refine AW.ret ?_
      refine TQ.qr ?_
      obtain rfl := Option.some.inj H
      exact endsR (RL.cons (RV.tmp (eS rfl eZ)) VO.zs (RL.cons (RV.tmp eZ) (VO.flat rfl) RL.nil)) List.nodup_nil
    · refine AW.condF (eS rfl (eS rfl eZ)) (nt h5) ?_
      refine AW.skip ?_
      refine TQ.qn ?_
      refine AW.seq ?_
      refine AW.regs ?_
      refine oBsliceZ (m := 1088) rfl nZ ?_
      refine oMov (eS rfl eZ) ?_
      obtain ⟨h6, H⟩ := oguard H
      refine oAppZ (f := d_TCell) (m := 1216) (own := true) (ys := a1) (q := a1.length) rfl rfl (eS rfl eZ) eZ (El.lent fun _ _ => rfl) rfl h6 (by decide) nZ ?_
      refine oMov eZ ?_
      refine xNil ?_
      refine TQ.qn ?_
      refine AW.seqJ (fun t7 : (List TCell) => spec_StoreApply_j7 t7 = some r) (fun t7 => mk [(6, (.one (.sl 320128 0 t7.length)))] [(320128, (.data 2 (List.map d_TCell t7) true none))] noG) ?_ ?_
      · intro t7 H
        unfold spec_StoreApply_j7 at H
        refine AW.seq ?_
        refine AW.seq ?_
        refine AW.regs ?_
        refine oMov eZ ?_
        refine oLenN eZ ?_
        refine oGtr eZ eC ?_
        refine xNil ?_
        refine TQ.qn ?_
        rcases oite H with ⟨h9, H⟩ | ⟨h9, H⟩
        · refine AW.condT eZ (decide_eq_true h9) ?_
          refine AW.seq ?_
          refine AW.regs ?_
          refine oBsliceZ (m := 3008) rfl (nS rfl nZ) ?_
          refine oMov eZ ?_
          refine oMov eC ?_
          refine xNil ?_
          refine TQ.qn ?_
          refine AW.ret ?_
          refine TQ.qr ?_
          obtain rfl := Option.some.inj H
          exact endsR (RL.cons (RV.tmp (eS rfl eZ)) VO.zs (RL.cons (RV.tmp eZ) (VO.flat rfl) RL.nil)) List.nodup_nil
        · refine AW.condF eZ (decide_eq_false h9) ?_
          refine AW.skip ?_
          refine TQ.qn ?_
          refine AW.seq ?_
          refine AW.regs ?_
          refine oMov (eS rfl (eS rfl (eS rfl eZ))) ?_
          refine oMov eZ ?_
          refine oMov eC ?_
          refine xNil ?_
          refine TQ.qn ?_
          refine AW.ret ?_
          obtain rfl := Option.some.inj H
          exact endsR (RL.cons (RV.tmp (eS rfl eZ)) (VO.sl bZ (List.length_map _) (allFlat fun _ => rfl)) (RL.cons (RV.tmp eZ) (VO.flat rfl) RL.nil)) (by decide)
      · refine AW.seq ?_
        refine AW.regs ?_
        refine oMov eC ?_
        refine xNil ?_
        refine TQ.qn ?_
        refine AW.block ?_
        refine AW.iter (fun s10 : ((List TCell) × Int) => mk [(1, (.one (.d (.sl 2 (List.map d_TCell a2))))), (6, (.one (.sl 320192 0 s10.1.length))), (7, (.one (.d (.int .i64 s10.2))))] [(320192, (.data 2 (List.map d_TCell s10.1) true none))] noG) H ((wk_mk [] (SL.cons (eS rfl (eS rfl (eS rfl (eS rfl (eS rfl (eS rfl eZ)))))) rfl VWk.rfl (SL.cons (eS rfl eZ) rfl VWk.rfl (SL.cons eZ rfl VWk.rfl SL.nil))) (BL.keep rfl BL.nil) (BK.cons rfl bZ rfl rfl BK.nil)).trans (wk_ren 1216 320192 rfl rfl (nS rfl nZ))) ?_
        intro kb11 s10 H
        unfold spec_StoreApply_b10 at H
        refine AW.seq ?_
        refine AW.seq ?_
        refine AW.regs ?_
        refine oMov (eS rfl (eS rfl eZ)) ?_
        refine oMov (eS rfl eZ) ?_
        refine oLenD eZ (n := a2.length) (List.length_map _) ?_
        refine oLss (eS rfl (eS rfl eZ)) eZ ?_
        refine xNil ?_
        refine TQ.qn ?_
        rcases oite H with ⟨h12, H⟩ | ⟨h12, H⟩
        · refine AW.condT eZ (decide_eq_true h12) ?_
          refine AW.skip ?_
          refine TQ.qn ?_
          refine AW.seq ?_
          refine AW.block ?_
          refine AW.regd ?_
          refine oMov (eS rfl (eS rfl (eS rfl (eS rfl (eS rfl eZ))))) ?_
          refine oMov (eS rfl (eS rfl (eS rfl (eS rfl (eS rfl eZ))))) ?_
          refine oMov (eS rfl (eS rfl (eS rfl (eS rfl (eS rfl (eS rfl (eS rfl (eS rfl eZ)))))))) ?_
          obtain ⟨v13, h14, H⟩ := obind H
          refine oAtD (eS rfl eZ) eZ h14 ?_
          refine oFaddrB (m := 0) eZ rfl ?_
          refine oLoadB (e := (.int .i64 v13.Key)) eZ rfl ?_
          refine oMov (eS rfl (eS rfl (eS rfl (eS rfl (eS rfl (eS rfl (eS rfl (eS rfl (eS rfl (eS rfl eZ)))))))))) ?_
          refine oMov (eS rfl (eS rfl (eS rfl (eS rfl (eS rfl (eS rfl (eS rfl (eS rfl (eS rfl (eS rfl (eS rfl (eS rfl (eS rfl eZ))))))))))))) ?_
          obtain ⟨v15, h16, H⟩ := obind H
          refine oAtD (eS rfl eZ) eZ h16 ?_
          refine oFaddrB (m := 1) eZ rfl ?_
          refine oLoadB (e := (.int .i64 v15.Value)) eZ rfl ?_
          refine oMov (eS rfl (eS rfl (eS rfl (eS rfl (eS rfl (eS rfl (eS rfl (eS rfl (eS rfl (eS rfl (eS rfl (eS rfl (eS rfl (eS rfl (eS rfl eZ))))))))))))))) ?_
          refine oMov (eS rfl (eS rfl (eS rfl (eS rfl (eS rfl (eS rfl (eS rfl (eS rfl (eS rfl (eS rfl (eS rfl (eS rfl (eS rfl (eS rfl (eS rfl (eS rfl (eS rfl (eS rfl eZ)))))))))))))))))) ?_
          obtain ⟨v17, h18, H⟩ := obind H
          refine oAtD (eS rfl eZ) eZ h18 ?_
          refine oFaddrB (m := 1) eZ rfl ?_
          refine oLoadB (e := (.int .i64 v17.Value)) eZ rfl ?_
          refine oGeq eZ eC ?_
          obtain ⟨v19, h20, H⟩ := obind H
          refine oCallN (u := (.one (.sl 2752 0 v19.length))) (bs := [(2752, (.data 2 (List.map d_TCell v19) true none))]) eC Cl.fn (c_spec_l2Cells h20) (Evs.cons (eS rfl (eS rfl (eS rfl (eS rfl (eS rfl (eS rfl (eS rfl (eS rfl (eS rfl (eS rfl (eS rfl (eS rfl (eS rfl (eS rfl (eS rfl (eS rfl eZ)))))))))))))))) (Evs.cons (eS rfl (eS rfl (eS rfl (eS rfl (eS rfl (eS rfl (eS rfl (eS rfl (eS rfl (eS rfl (eS rfl eZ))))))))))) (Evs.cons (eS rfl (eS rfl (eS rfl (eS rfl (eS rfl (eS rfl eZ)))))) (Evs.cons eZ Evs.nil)))) (VDs.cons (VD.sl bZ (List.length_map _)) (VDs.cons VD.plain (VDs.cons VD.plain (VDs.cons VD.plain VDs.nil)))) (by simp [bindR, bindV, bindVs, bindC, bindCs]) rfl (fC (nS rfl nZ) rfl (fC (nS rfl nZ) rfl fN)) ?_
          refine oMov eZ ?_
          refine xNil ?_
          refine BQ.qn ?_
          refine TQ.qn ?_
          refine AW.weaken (wk_mk [320192] (SL.cons (k := 6) eZ rfl VWk.rfl (SL.cons (k := 1) (eS rfl (eS rfl (eS rfl (eS rfl (eS rfl (eS rfl (eS rfl (eS rfl (eS rfl (eS rfl (eS rfl (eS rfl (eS rfl (eS rfl (eS rfl (eS rfl (eS rfl (eS rfl (eS rfl (eS rfl (eS rfl (eS rfl (eS rfl eZ))))))))))))))))))))))) rfl VWk.rfl (SL.cons (k := 7) (eS rfl (eS rfl (eS rfl (eS rfl (eS rfl (eS rfl (eS rfl (eS rfl (eS rfl (eS rfl (eS rfl (eS rfl (eS rfl (eS rfl (eS rfl (eS rfl (eS rfl (eS rfl (eS rfl (eS rfl (eS rfl (eS rfl (eS rfl (eS rfl (eS rfl eZ))))))))))))))))))))))))) rfl VWk.rfl SL.nil))) (BL.keep rfl (BL.drop rfl BL.nil)) (BK.cons (n := 2752) rfl bZ rfl rfl BK.nil)) ?_
          refine AW.regs ?_
          refine oMov (eS rfl (eS rfl eZ)) ?_
          refine oAdd eZ eC ?_
          refine oMov eZ ?_
          refine xNil ?_
          exact TQ.qn ⟨(v19, (IntKind.wrap .i64 (s10.2 + 1))), H, ((wk_mk [] (SL.cons (eS rfl (eS rfl (eS rfl (eS rfl eZ)))) rfl VWk.rfl (SL.cons (eS rfl (eS rfl (eS rfl eZ))) rfl VWk.rfl (SL.cons eZ rfl VWk.rfl SL.nil))) (BL.keep rfl BL.nil) (BK.cons rfl bZ rfl rfl BK.nil)).trans (wk_ren 2752 320192 rfl rfl (nS rfl nZ)))⟩
        · refine AW.condF eZ (decide_eq_false h12) ?_
          refine AW.exit ?_
          refine TQ.qe ?_
          refine TQ.qe ?_
          refine BQ.qe ?_
          exact TQ.qn ⟨s10.1, H, ((wk_mk [] (SL.cons (eS rfl (eS rfl (eS rfl (eS rfl (eS rfl eZ))))) rfl VWk.rfl SL.nil) (BL.keep rfl BL.nil) (BK.cons rfl bZ rfl rfl BK.nil)).trans (wk_ren 320192 320128 rfl rfl (nS rfl nZ)))⟩
  · refine AW.regs ?_
    refine oMov (eS rfl (eS rfl eZ)) ?_
    obtain ⟨v21, h22, H⟩ := obind H
    refine oCall (u := (.one (.d (.bool v21)))) eC Cl.fn (c_spec_StoreOk h22) (Evs.cons eZ Evs.nil) (VDs.cons VD.plain VDs.nil) rfl ?_
    refine oInv eZ ?_
    refine oMov eZ ?_
    rcases oite H with ⟨h23, H⟩ | ⟨h23, H⟩
    · refine gDo eZ (congrArg Bool.not h23) ?_
      refine oMov (eS rfl (eS rfl (eS rfl (eS rfl (eS rfl (eS rfl (eS rfl eZ))))))) ?_
      refine gDo (eS rfl eZ) (congrArg Bool.not h23) ?_
      obtain ⟨v24, h25, H⟩ := obind H
      refine oCall (u := (.one (.d (.bool v24)))) eC Cl.fn (c_spec_WritesOk h25) (Evs.cons eZ Evs.nil) (VDs.cons VD.plain VDs.nil) rfl ?_
      refine gDo (eS rfl (eS rfl eZ)) (congrArg Bool.not h23) ?_
      refine oInv eZ ?_
      refine oPickF (eS rfl (eS rfl (eS rfl eZ))) (congrArg Bool.not h23) eZ ?_
      refine xNil ?_
      exact TQ.qn ⟨(!v24), H, (wk_mk [] (SL.cons (eS rfl (eS rfl (eS rfl (eS rfl (eS rfl (eS rfl (eS rfl (eS rfl (eS rfl (eS rfl eZ)))))))))) rfl VWk.rfl (SL.cons (eS rfl (eS rfl (eS rfl (eS rfl (eS rfl (eS rfl (eS rfl (eS rfl (eS rfl (eS rfl (eS rfl eZ))))))))))) rfl VWk.rfl (SL.cons eZ rfl VWk.rfl SL.nil))) BL.nil BK.nil)⟩
    · refine gSkip eZ (congrArg Bool.not (nt h23)) rfl ?_
      refine gSkip (eS rfl eZ) (congrArg Bool.not (nt h23)) rfl ?_
      refine gSkip (eS rfl (eS rfl eZ)) (congrArg Bool.not (nt h23)) rfl ?_
      refine oPickT (eS rfl (eS rfl (eS rfl eZ))) (congrArg Bool.not (nt h23)) eC ?_
      refine xNil ?_
      exact TQ.qn ⟨true, H, (wk_mk [] (SL.cons (eS rfl (eS rfl (eS rfl (eS rfl (eS rfl (eS rfl (eS rfl (eS rfl (eS rfl (eS rfl eZ)))))))))) rfl VWk.rfl (SL.cons (eS rfl (eS rfl (eS rfl (eS rfl (eS rfl (eS rfl (eS rfl (eS rfl (eS rfl (eS rfl (eS rfl eZ))))))))))) rfl VWk.rfl (SL.cons eZ rfl VWk.rfl SL.nil))) BL.nil BK.nil)⟩

theorem c_impl_from {a1 : Int} {a2 : Int} {a3 : Int} {r : Bool} (H : m_impl_from a1 a2 a3 = some r) : Fn Try.prog k_impl_from (lent [(.int .i64 a1), (.int .i64 a2), (.int .i64 a3)]) true [(.bool r)] := by
  refine i_impl_from_fn (Nat.le_of_ble_eq_true rfl) ?_
  rw [init_mk]
  refine AW.weaken (wk_mk [] (SL.cons (v := (.one (.d (.int .i64 a1)))) eZ rfl VWk.rfl (SL.cons (v := (.one (.d (.int .i64 a2)))) (eS rfl eZ) rfl VWk.rfl (SL.cons (v := (.one (.d (.int .i64 a3)))) (eS rfl (eS rfl eZ)) rfl VWk.rfl SL.nil))) BL.nil BK.nil) ?_
  unfold m_impl_from at H
  unfold i_impl_from
  refine AW.seq ?_
  refine AW.regs ?_
  refine oMov eC ?_
  refine xNil ?_
  refine TQ.qn ?_
  refine AW.seq ?_
  refine AW.regs ?_
  refine oMov (eS rfl eZ) ?_
  refine oMov (eS rfl (eS rfl (eS rfl eZ))) ?_
  refine oGeq (eS rfl eZ) eZ ?_
  refine oMov eZ ?_
  rcases oite H with ⟨h4, H⟩ | ⟨h4, H⟩
  · refine gDo eZ (decide_eq_true h4) ?_
    refine oMov (eS rfl (eS rfl (eS rfl (eS rfl (eS rfl eZ))))) ?_
    refine gDo (eS rfl eZ) (decide_eq_true h4) ?_
    refine oMov (eS rfl (eS rfl (eS rfl (eS rfl (eS rfl (eS rfl (eS rfl (eS rfl eZ)))))))) ?_
    refine gDo (eS rfl (eS rfl eZ)) (decide_eq_true h4) ?_
    refine oLeq (eS rfl eZ) eZ ?_
    refine oPickT (eS rfl (eS rfl (eS rfl eZ))) (decide_eq_true h4) eZ ?_
    refine oMov eZ ?_
    refine xNil ?_
    refine TQ.qn ?_
    refine AW.ret ?_
    obtain rfl := Option.some.inj H
    exact endsR (RL.cons (RV.tmp eZ) (VO.flat rfl) RL.nil) List.nodup_nil
  · refine gSkip eZ (decide_eq_false h4) rfl ?_
    refine gSkip (eS rfl eZ) (decide_eq_false h4) rfl ?_
    refine gSkip (eS rfl (eS rfl eZ)) (decide_eq_false h4) rfl ?_
    refine oPickF (eS rfl (eS rfl (eS rfl eZ))) (decide_eq_false h4) eC ?_
    refine oMov eZ ?_
    refine xNil ?_
    refine TQ.qn ?_
    refine AW.ret ?_
    obtain rfl := Option.some.inj H
    exact endsR (RL.cons (RV.tmp eZ) (VO.flat rfl) RL.nil) List.nodup_nil

theorem c_impl_isKey {a1 : Int} {r : Bool} (H : m_impl_isKey a1 = some r) : Fn Try.prog k_impl_isKey (lent [(.int .i64 a1)]) true [(.bool r)] := by
  refine i_impl_isKey_fn (Nat.le_of_ble_eq_true rfl) ?_
  rw [init_mk]
  refine AW.weaken (wk_mk [] (SL.cons (v := (.one (.d (.int .i64 a1)))) eZ rfl VWk.rfl SL.nil) BL.nil BK.nil) ?_
  unfold m_impl_isKey at H
  unfold i_impl_isKey
  refine AW.seq ?_
  refine AW.regs ?_
  refine oMov eC ?_
  refine xNil ?_
  refine TQ.qn ?_
  refine AW.seq ?_
  refine AW.regs ?_
  refine oMov (eS rfl eZ) ?_
  obtain ⟨v2, h3, H⟩ := obind H
  refine oCall (u := (.one (.d (.bool v2)))) eC Cl.fn (c_impl_from h3) (Evs.cons eZ (Evs.cons eC (Evs.cons eC Evs.nil))) (VDs.cons VD.plain (VDs.cons VD.plain (VDs.cons VD.plain VDs.nil))) rfl ?_
  refine oMov eZ ?_
  refine xNil ?_
  refine TQ.qn ?_
  refine AW.ret ?_
  obtain rfl := Option.some.inj H
  exact endsR (RL.cons (RV.tmp eZ) (VO.flat rfl) RL.nil) List.nodup_nil

theorem c_impl_isWhole {a1 : Int} {r : Bool} (H : m_impl_isWhole a1 = some r) : Fn Try.prog k_impl_isWhole (lent [(.int .i64 a1)]) true [(.bool r)] := by
  refine i_impl_isWhole_fn (Nat.le_of_ble_eq_true rfl) ?_
  rw [init_mk]
  refine AW.weaken (wk_mk [] (SL.cons (v := (.one (.d (.int .i64 a1)))) eZ rfl VWk.rfl SL.nil) BL.nil BK.nil) ?_
  unfold m_impl_isWhole at H
  unfold i_impl_isWhole
  refine AW.seq ?_
  refine AW.regs ?_
  refine oMov eC ?_
  refine xNil ?_
  refine TQ.qn ?_
  refine AW.seq ?_
  refine AW.regs ?_
  refine oMov (eS rfl eZ) ?_
  obtain ⟨v2, h3, H⟩ := obind H
  refine oCall (u := (.one (.d (.bool v2)))) eC Cl.fn (c_impl_from h3) (Evs.cons eZ (Evs.cons eC (Evs.cons eC Evs.nil))) (VDs.cons VD.plain (VDs.cons VD.plain (VDs.cons VD.plain VDs.nil))) rfl ?_
  refine oMov eZ ?_
  refine xNil ?_
  refine TQ.qn ?_
  refine AW.ret ?_
  obtain rfl := Option.some.inj H
  exact endsR (RL.cons (RV.tmp eZ) (VO.flat rfl) RL.nil) List.nodup_nil

theorem c_impl_StoreOk {a1 : (List TCell)} {r : Bool} (H : m_impl_StoreOk a1 = some r) : Fn Try.prog k_impl_StoreOk (lent [(.sl 2 (List.map d_TCell a1))]) true [(.bool r)] := by
  refine i_impl_StoreOk_fn (Nat.le_of_ble_eq_true rfl) ?_
  rw [init_mk]
  refine AW.weaken (wk_mk [] (SL.cons (v := (.one (.d (.sl 2 (List.map d_TCell a1))))) eZ rfl VWk.rfl SL.nil) BL.nil BK.nil) ?_
  unfold m_impl_StoreOk at H
  unfold i_impl_StoreOk
  refine AW.seq ?_
  refine AW.regs ?_
  refine oMov eC ?_
  refine xNil ?_
  refine TQ.qn ?_
  refine AW.seqJ (fun t2 : Unit => (impl_StoreOk_j2 a1) t2 = some r) (fun t2 => mk [(0, (.one (.d (.sl 2 (List.map d_TCell a1)))))] [] noG) ?_ ?_
  · intro t2 H
    unfold impl_StoreOk_j2 at H
    refine AW.seq ?_
    refine AW.regs ?_
    refine oMov eZ ?_
    refine oLenD eZ (n := a1.length) (List.length_map _) ?_
    refine oLeq eZ eC ?_
    refine oMov eZ ?_
    refine xNil ?_
    refine TQ.qn ?_
    refine AW.ret ?_
    obtain rfl := Option.some.inj H
    exact endsR (RL.cons (RV.tmp eZ) (VO.flat rfl) RL.nil) List.nodup_nil
  · refine AW.seq ?_
    refine AW.regs ?_
    refine oMov (eS rfl eZ) ?_
    refine oLenD eZ (n := a1.length) (List.length_map _) ?_
    refine oMov eC ?_
    refine xNil ?_
    refine TQ.qn ?_
    refine AW.block ?_
    refine AW.iter (fun s4 : Int => mk [(0, (.one (.d (.sl 2 (List.map d_TCell a1))))), (5, (.one (.d (.sl 2 (List.map d_TCell a1))))), (6, (.one (.d (.int .i64 (a1.length : Int))))), (7, (.one (.d (.int .i64 s4))))] [] noG) H (wk_mk [] (SL.cons (eS rfl (eS rfl (eS rfl (eS rfl eZ)))) rfl VWk.rfl (SL.cons (eS rfl (eS rfl eZ)) rfl VWk.rfl (SL.cons (eS rfl eZ) rfl VWk.rfl (SL.cons eZ rfl VWk.rfl SL.nil)))) BL.nil BK.nil) ?_
    intro kb5 s4 H
    unfold impl_StoreOk_b4 at H
    refine AW.seq ?_
    refine AW.regs ?_
    refine oLss (eS rfl (eS rfl (eS rfl eZ))) (eS rfl (eS rfl eZ)) ?_
    refine xNil ?_
    refine TQ.qn ?_
    refine AW.seq ?_
    rcases oite H with ⟨h6, H⟩ | ⟨h6, H⟩
    · refine AW.condT eZ (decide_eq_true h6) ?_
      refine AW.skip ?_
      refine TQ.qn ?_
      refine AW.seq ?_
      refine AW.block ?_
      refine AW.seq ?_
      refine AW.regs ?_
      refine oMov (eS rfl (eS rfl (eS rfl (eS rfl eZ)))) ?_
      obtain ⟨v7, h8, H⟩ := obind H
      refine oAtD (eS rfl (eS rfl (eS rfl eZ))) (eS rfl (eS rfl (eS rfl (eS rfl (eS rfl eZ))))) h8 ?_
      refine oLoadBA (es := [(.d (.int .i64 v7.Key)), (.d (.int .i64 v7.Value))]) eZ rfl ?_
      refine oVar (n := 256) (m := 2) rfl rfl nZ ?_
      refine oMov (eS rfl (eS rfl (eS rfl eZ))) ?_
      refine oStoreV (es := [(.d (.int .i64 v7.Key)), (.d (.int .i64 v7.Value))]) (eS rfl eZ) (eS rfl (eS rfl eZ)) rfl rfl bZ rfl ?_
      refine xNil ?_
      refine TQ.qn ?_
      refine AW.seqJ (fun t9 : Bool => (impl_StoreOk_j9 kb5 s4) t9 = some r) (fun t9 => mk [(0, (.one (.d (.sl 2 (List.map d_TCell a1))))), (5, (.one (.d (.sl 2 (List.map d_TCell a1))))), (6, (.one (.d (.int .i64 (a1.length : Int))))), (7, (.one (.d (.int .i64 s4)))), (36, (.one (.d (.bool t9))))] [] noG) ?_ ?_
      · intro t9 H
        unfold impl_StoreOk_j9 at H
        rcases oite H with ⟨h11, H⟩ | ⟨h11, H⟩
        · refine AW.condT (eS rfl (eS rfl (eS rfl (eS rfl eZ)))) h11 ?_
          refine AW.seq ?_
          refine AW.regs ?_
          refine oMov eC ?_
          refine xNil ?_
          refine TQ.qn ?_
          refine AW.ret ?_
          refine BQ.qr ?_
          refine TQ.qr ?_
          refine TQ.qr ?_
          refine BQ.qr ?_
          refine TQ.qr ?_
          obtain rfl := Option.some.inj H
          exact endsR (RL.cons (RV.tmp eZ) (VO.flat rfl) RL.nil) List.nodup_nil
        · refine AW.condF (eS rfl (eS rfl (eS rfl (eS rfl eZ)))) (nt h11) ?_
          refine AW.skip ?_
          refine BQ.qn ?_
          refine TQ.qn ?_
          refine AW.regs ?_
          refine oAdd (eS rfl (eS rfl (eS rfl eZ))) eC ?_
          refine oMov eZ ?_
          refine xNil ?_
          exact TQ.qn ⟨(IntKind.wrap .i64 (s4 + 1)), H, (wk_mk [] (SL.cons (eS rfl (eS rfl eZ)) rfl VWk.rfl (SL.cons (eS rfl (eS rfl (eS rfl eZ))) rfl VWk.rfl (SL.cons (eS rfl (eS rfl (eS rfl (eS rfl eZ)))) rfl VWk.rfl (SL.cons eZ rfl VWk.rfl SL.nil)))) BL.nil BK.nil)⟩
      · refine AW.regd ?_
        refine oFaddrN (m := 0) (eS rfl eZ) rfl ?_
        refine oLoadV (q := 0) (c := (.d (.int .i64 v7.Key))) eZ bZ rfl rfl ?_
        obtain ⟨v12, h13, H⟩ := obind H
        refine oCall (u := (.one (.d (.bool v12)))) eC Cl.fn (c_impl_isKey h13) (Evs.cons eZ Evs.nil) (VDs.cons VD.plain VDs.nil) rfl ?_
        refine oInv eZ ?_
        refine oMov eZ ?_
        rcases oite H with ⟨h14, H⟩ | ⟨h14, H⟩
        · refine gDo eZ (congrArg Bool.not h14) ?_
          refine oFaddrN (m := 1) (eS rfl (eS rfl (eS rfl (eS rfl (eS rfl (eS rfl eZ)))))) rfl ?_
          refine gDo (eS rfl eZ) (congrArg Bool.not h14) ?_
          refine oLoadV (q := 1) (c := (.d (.int .i64 v7.Value))) eZ bZ rfl rfl ?_
          refine gDo (eS rfl (eS rfl eZ)) (congrArg Bool.not h14) ?_
          obtain ⟨v15, h16, H⟩ := obind H
          refine oCall (u := (.one (.d (.bool v15)))) eC Cl.fn (c_impl_isWhole h16) (Evs.cons eZ Evs.nil) (VDs.cons VD.plain VDs.nil) rfl ?_
          refine gDo (eS rfl (eS rfl (eS rfl eZ))) (congrArg Bool.not h14) ?_
          refine oInv eZ ?_
          refine oPickF (eS rfl (eS rfl (eS rfl (eS rfl eZ)))) (congrArg Bool.not h14) eZ ?_
          refine oMov eZ ?_
          rcases oite H with ⟨h17, H⟩ | ⟨h17, H⟩
          · refine gDo eZ (congrArg Bool.not h17) ?_
            refine oMov (eS rfl (eS rfl (eS rfl (eS rfl (eS rfl (eS rfl (eS rfl (eS rfl (eS rfl (eS rfl (eS rfl eZ))))))))))) ?_
            refine gDo (eS rfl eZ) (congrArg Bool.not h17) ?_
            refine oGtr eZ eC ?_
            refine gDo (eS rfl (eS rfl eZ)) (congrArg Bool.not h17) ?_
            refine oMov eZ ?_
            rcases oite H with ⟨h18, H⟩ | ⟨h18, H⟩
            · refine gDo eZ (decide_eq_true h18) ?_
              refine oMov (eS rfl (eS rfl (eS rfl (eS rfl (eS rfl (eS rfl (eS rfl (eS rfl (eS rfl (eS rfl (eS rfl (eS rfl (eS rfl (eS rfl (eS rfl (eS rfl (eS rfl (eS rfl (eS rfl (eS rfl eZ)))))))))))))))))))) ?_
              refine gDo (eS rfl eZ) (decide_eq_true h18) ?_
              refine oMov (eS rfl (eS rfl (eS rfl (eS rfl (eS rfl (eS rfl (eS rfl (eS rfl (eS rfl (eS rfl (eS rfl (eS rfl (eS rfl (eS rfl (eS rfl eZ))))))))))))))) ?_
              refine gDo (eS rfl (eS rfl eZ)) (decide_eq_true h18) ?_
              refine oSub eZ eC ?_
              refine gDo (eS rfl (eS rfl (eS rfl eZ))) (decide_eq_true h18) ?_
              obtain ⟨v19, h20, H⟩ := obind H
              refine oAtD (eS rfl (eS rfl eZ)) eZ h20 ?_
              refine gDo (eS rfl (eS rfl (eS rfl (eS rfl eZ)))) (decide_eq_true h18) ?_
              refine oFaddrB (m := 0) eZ rfl ?_
              refine gDo (eS rfl (eS rfl (eS rfl (eS rfl (eS rfl eZ))))) (decide_eq_true h18) ?_
              refine oLoadB (e := (.int .i64 v19.Key)) eZ rfl ?_
              refine gDo (eS rfl (eS rfl (eS rfl (eS rfl (eS rfl (eS rfl eZ)))))) (decide_eq_true h18) ?_
              refine oFaddrN (m := 0) (eS rfl (eS rfl (eS rfl (eS rfl (eS rfl (eS rfl (eS rfl (eS rfl (eS rfl (eS rfl (eS rfl (eS rfl (eS rfl (eS rfl (eS rfl (eS rfl (eS rfl (eS rfl (eS rfl (eS rfl (eS rfl eZ))))))))))))))))))))) rfl ?_
              refine gDo (eS rfl (eS rfl (eS rfl (eS rfl (eS rfl (eS rfl (eS rfl eZ))))))) (decide_eq_true h18) ?_
              refine oLoadV (q := 0) (c := (.d (.int .i64 v7.Key))) eZ bZ rfl rfl ?_
              refine gDo (eS rfl (eS rfl (eS rfl (eS rfl (eS rfl (eS rfl (eS rfl (eS rfl eZ)))))))) (decide_eq_true h18) ?_
              refine oGeq (eS rfl (eS rfl eZ)) eZ ?_
              refine gDo (eS rfl (eS rfl (eS rfl (eS rfl (eS rfl (eS rfl (eS rfl (eS rfl (eS rfl (eS rfl (eS rfl (eS rfl eZ)))))))))))) (congrArg Bool.not h17) ?_
              refine oPickT (eS rfl (eS rfl (eS rfl (eS rfl (eS rfl (eS rfl (eS rfl (eS rfl (eS rfl eZ))))))))) (decide_eq_true h18) eZ ?_
              refine oPickF (eS rfl (eS rfl (eS rfl (eS rfl (eS rfl (eS rfl (eS rfl (eS rfl (eS rfl (eS rfl (eS rfl (eS rfl (eS rfl eZ))))))))))))) (congrArg Bool.not h17) eZ ?_
              refine xNil ?_
              exact TQ.qn ⟨(decide (v7.Key ≤ v19.Key)), H, (wk_mk [256] (SL.cons (eS rfl (eS rfl (eS rfl (eS rfl (eS rfl (eS rfl (eS rfl (eS rfl (eS rfl (eS rfl (eS rfl (eS rfl (eS rfl (eS rfl (eS rfl (eS rfl (eS rfl (eS rfl (eS rfl (eS rfl (eS rfl (eS rfl (eS rfl (eS rfl (eS rfl (eS rfl (eS rfl (eS rfl (eS rfl (eS rfl (eS rfl eZ))))))))))))))))))))))))))))))) rfl VWk.rfl (SL.cons (eS rfl (eS rfl (eS rfl (eS rfl (eS rfl (eS rfl (eS rfl (eS rfl (eS rfl (eS rfl (eS rfl (eS rfl (eS rfl (eS rfl (eS rfl (eS rfl (eS rfl (eS rfl (eS rfl (eS rfl (eS rfl (eS rfl (eS rfl (eS rfl (eS rfl (eS rfl (eS rfl (eS rfl (eS rfl (eS rfl (eS rfl (eS rfl eZ)))))))))))))))))))))))))))))))) rfl VWk.rfl (SL.cons (eS rfl (eS rfl (eS rfl (eS rfl (eS rfl (eS rfl (eS rfl (eS rfl (eS rfl (eS rfl (eS rfl (eS rfl (eS rfl (eS rfl (eS rfl (eS rfl (eS rfl (eS rfl (eS rfl (eS rfl (eS rfl (eS rfl (eS rfl (eS rfl (eS rfl (eS rfl (eS rfl (eS rfl (eS rfl (eS rfl (eS rfl (eS rfl (eS rfl eZ))))))))))))))))))))))))))))))))) rfl VWk.rfl (SL.cons (eS rfl (eS rfl (eS rfl (eS rfl (eS rfl (eS rfl (eS rfl (eS rfl (eS rfl (eS rfl (eS rfl (eS rfl (eS rfl (eS rfl (eS rfl (eS rfl (eS rfl (eS rfl (eS rfl (eS rfl (eS rfl (eS rfl (eS rfl (eS rfl (eS rfl (eS rfl (eS rfl (eS rfl (eS rfl (eS rfl (eS rfl (eS rfl (eS rfl (eS rfl eZ)))))))))))))))))))))))))))))))))) rfl VWk.rfl (SL.cons eZ rfl VWk.rfl SL.nil))))) (BL.drop rfl (BL.drop rfl BL.nil)) BK.nil)⟩
            · refine gSkip eZ (decide_eq_false h18) rfl ?_
              refine gSkip (eS rfl eZ) (decide_eq_false h18) rfl ?_
              refine gSkip (eS rfl (eS rfl eZ)) (decide_eq_false h18) rfl ?_
              refine gSkip (eS rfl (eS rfl (eS rfl eZ))) (decide_eq_false h18) rfl ?_
              refine gSkip (eS rfl (eS rfl (eS rfl (eS rfl eZ)))) (decide_eq_false h18) rfl ?_
              refine gSkip (eS rfl (eS rfl (eS rfl (eS rfl (eS rfl eZ))))) (decide_eq_false h18) rfl ?_
              refine gSkip (eS rfl (eS rfl (eS rfl (eS rfl (eS rfl (eS rfl eZ)))))) (decide_eq_false h18) rfl ?_
              refine gSkip (eS rfl (eS rfl (eS rfl (eS rfl (eS rfl (eS rfl (eS rfl eZ))))))) (decide_eq_false h18) rfl ?_
              refine gSkip (eS rfl (eS rfl (eS rfl (eS rfl (eS rfl (eS rfl (eS rfl (eS rfl eZ)))))))) (decide_eq_false h18) rfl ?_
              refine gDo (eS rfl (eS rfl (eS rfl (eS rfl (eS rfl (eS rfl (eS rfl (eS rfl (eS rfl (eS rfl (eS rfl (eS rfl eZ)))))))))))) (congrArg Bool.not h17) ?_
              refine oPickF (eS rfl (eS rfl (eS rfl (eS rfl (eS rfl (eS rfl (eS rfl (eS rfl (eS rfl eZ))))))))) (decide_eq_false h18) eC ?_
              refine oPickF (eS rfl (eS rfl (eS rfl (eS rfl (eS rfl (eS rfl (eS rfl (eS rfl (eS rfl (eS rfl (eS rfl (eS rfl (eS rfl eZ))))))))))))) (congrArg Bool.not h17) eZ ?_
              refine xNil ?_
              exact TQ.qn ⟨false, H, (wk_mk [256] (SL.cons (eS rfl (eS rfl (eS rfl (eS rfl (eS rfl (eS rfl (eS rfl (eS rfl (eS rfl (eS rfl (eS rfl (eS rfl (eS rfl (eS rfl (eS rfl (eS rfl (eS rfl (eS rfl (eS rfl (eS rfl (eS rfl (eS rfl (eS rfl (eS rfl (eS rfl (eS rfl (eS rfl (eS rfl (eS rfl (eS rfl (eS rfl eZ))))))))))))))))))))))))))))))) rfl VWk.rfl (SL.cons (eS rfl (eS rfl (eS rfl (eS rfl (eS rfl (eS rfl (eS rfl (eS rfl (eS rfl (eS rfl (eS rfl (eS rfl (eS rfl (eS rfl (eS rfl (eS rfl (eS rfl (eS rfl (eS rfl (eS rfl (eS rfl (eS rfl (eS rfl (eS rfl (eS rfl (eS rfl (eS rfl (eS rfl (eS rfl (eS rfl (eS rfl (eS rfl eZ)))))))))))))))))))))))))))))))) rfl VWk.rfl (SL.cons (eS rfl (eS rfl (eS rfl (eS rfl (eS rfl (eS rfl (eS rfl (eS rfl (eS rfl (eS rfl (eS rfl (eS rfl (eS rfl (eS rfl (eS rfl (eS rfl (eS rfl (eS rfl (eS rfl (eS rfl (eS rfl (eS rfl (eS rfl (eS rfl (eS rfl (eS rfl (eS rfl (eS rfl (eS rfl (eS rfl (eS rfl (eS rfl (eS rfl eZ))))))))))))))))))))))))))))))))) rfl VWk.rfl (SL.cons (eS rfl (eS rfl (eS rfl (eS rfl (eS rfl (eS rfl (eS rfl (eS rfl (eS rfl (eS rfl (eS rfl (eS rfl (eS rfl (eS rfl (eS rfl (eS rfl (eS rfl (eS rfl (eS rfl (eS rfl (eS rfl (eS rfl (eS rfl (eS rfl (eS rfl (eS rfl (eS rfl (eS rfl (eS rfl (eS rfl (eS rfl (eS rfl (eS rfl (eS rfl eZ)))))))))))))))))))))))))))))))))) rfl VWk.rfl (SL.cons eZ rfl VWk.rfl SL.nil))))) (BL.drop rfl (BL.drop rfl BL.nil)) BK.nil)⟩
          · refine gSkip eZ (congrArg Bool.not (nt h17)) rfl ?_
            refine gSkip (eS rfl eZ) (congrArg Bool.not (nt h17)) rfl ?_
            refine gSkip (eS rfl (eS rfl eZ)) (congrArg Bool.not (nt h17)) rfl ?_
            refine gSkipU eZ rfl ?_
            refine gSkipU (eS rfl eZ) rfl ?_
            refine gSkipU (eS rfl (eS rfl eZ)) rfl ?_
            refine gSkipU (eS rfl (eS rfl (eS rfl eZ))) rfl ?_
            refine gSkipU (eS rfl (eS rfl (eS rfl (eS rfl eZ)))) rfl ?_
            refine gSkipU (eS rfl (eS rfl (eS rfl (eS rfl (eS rfl eZ))))) rfl ?_
            refine gSkipU (eS rfl (eS rfl (eS rfl (eS rfl (eS rfl (eS rfl eZ)))))) rfl ?_
            refine gSkipU (eS rfl (eS rfl (eS rfl (eS rfl (eS rfl (eS rfl (eS rfl eZ))))))) rfl ?_
            refine gSkipU (eS rfl (eS rfl (eS rfl (eS rfl (eS rfl (eS rfl (eS rfl (eS rfl eZ)))))))) rfl ?_
            refine gSkip (eS rfl (eS rfl (eS rfl (eS rfl (eS rfl (eS rfl (eS rfl (eS rfl (eS rfl (eS rfl (eS rfl (eS rfl eZ)))))))))))) (congrArg Bool.not (nt h17)) rfl ?_
            refine oPickT (eS rfl (eS rfl (eS rfl (eS rfl (eS rfl (eS rfl (eS rfl (eS rfl (eS rfl (eS rfl (eS rfl (eS rfl (eS rfl eZ))))))))))))) (congrArg Bool.not (nt h17)) eC ?_
            refine xNil ?_
            exact TQ.qn ⟨true, H, (wk_mk [256] (SL.cons (eS rfl (eS rfl (eS rfl (eS rfl (eS rfl (eS rfl (eS rfl (eS rfl (eS rfl (eS rfl (eS rfl (eS rfl (eS rfl (eS rfl (eS rfl (eS rfl (eS rfl (eS rfl (eS rfl (eS rfl (eS rfl (eS rfl (eS rfl (eS rfl (eS rfl (eS rfl (eS rfl (eS rfl (eS rfl (eS rfl (eS rfl eZ))))))))))))))))))))))))))))))) rfl VWk.rfl (SL.cons (eS rfl (eS rfl (eS rfl (eS rfl (eS rfl (eS rfl (eS rfl (eS rfl (eS rfl (eS rfl (eS rfl (eS rfl (eS rfl (eS rfl (eS rfl (eS rfl (eS rfl (eS rfl (eS rfl (eS rfl (eS rfl (eS rfl (eS rfl (eS rfl (eS rfl (eS rfl (eS rfl (eS rfl (eS rfl (eS rfl (eS rfl (eS rfl eZ)))))))))))))))))))))))))))))))) rfl VWk.rfl (SL.cons (eS rfl (eS rfl (eS rfl (eS rfl (eS rfl (eS rfl (eS rfl (eS rfl (eS rfl (eS rfl (eS rfl (eS rfl (eS rfl (eS rfl (eS rfl (eS rfl (eS rfl (eS rfl (eS rfl (eS rfl (eS rfl (eS rfl (eS rfl (eS rfl (eS rfl (eS rfl (eS rfl (eS rfl (eS rfl (eS rfl (eS rfl (eS rfl (eS rfl eZ))))))))))))))))))))))))))))))))) rfl VWk.rfl (SL.cons (eS rfl (eS rfl (eS rfl (eS rfl (eS rfl (eS rfl (eS rfl (eS rfl (eS rfl (eS rfl (eS rfl (eS rfl (eS rfl (eS rfl (eS rfl (eS rfl (eS rfl (eS rfl (eS rfl (eS rfl (eS rfl (eS rfl (eS rfl (eS rfl (eS rfl (eS rfl (eS rfl (eS rfl (eS rfl (eS rfl (eS rfl (eS rfl (eS rfl (eS rfl eZ)))))))))))))))))))))))))))))))))) rfl VWk.rfl (SL.cons eZ rfl VWk.rfl SL.nil))))) (BL.drop rfl (BL.drop rfl BL.nil)) BK.nil)⟩
        · refine gSkip eZ (congrArg Bool.not (nt h14)) rfl ?_
          refine gSkip (eS rfl eZ) (congrArg Bool.not (nt h14)) rfl ?_
          refine gSkip (eS rfl (eS rfl eZ)) (congrArg Bool.not (nt h14)) rfl ?_
          refine gSkip (eS rfl (eS rfl (eS rfl eZ))) (congrArg Bool.not (nt h14)) rfl ?_
          refine oPickT (eS rfl (eS rfl (eS rfl (eS rfl eZ)))) (congrArg Bool.not (nt h14)) eC ?_
          refine oMov eZ ?_
          refine gSkip eZ rfl rfl ?_
          refine gSkip (eS rfl eZ) rfl rfl ?_
          refine gSkip (eS rfl (eS rfl eZ)) rfl rfl ?_
          refine gSkipU eZ rfl ?_
          refine gSkipU (eS rfl eZ) rfl ?_
          refine gSkipU (eS rfl (eS rfl eZ)) rfl ?_
          refine gSkipU (eS rfl (eS rfl (eS rfl eZ))) rfl ?_
          refine gSkipU (eS rfl (eS rfl (eS rfl (eS rfl eZ)))) rfl ?_
          refine gSkipU (eS rfl (eS rfl (eS rfl (eS rfl (eS rfl eZ))))) rfl ?_
          refine gSkipU (eS rfl (eS rfl (eS rfl (eS rfl (eS rfl (eS rfl eZ)))))) rfl ?_
          refine gSkipU (eS rfl (eS rfl (eS rfl (eS rfl (eS rfl (eS rfl (eS rfl eZ))))))) rfl ?_
          refine gSkipU (eS rfl (eS rfl (eS rfl (eS rfl (eS rfl (eS rfl (eS rfl (eS rfl eZ)))))))) rfl ?_
          refine gSkip (eS rfl (eS rfl (eS rfl (eS rfl (eS rfl (eS rfl (eS rfl (eS rfl (eS rfl (eS rfl (eS rfl (eS rfl eZ)))))))))))) rfl rfl ?_
          refine oPickT (eS rfl (eS rfl (eS rfl (eS rfl (eS rfl (eS rfl (eS rfl (eS rfl (eS rfl (eS rfl (eS rfl (eS rfl (eS rfl eZ))))))))))))) rfl eC ?_
          refine xNil ?_
          exact TQ.qn ⟨true, H, (wk_mk [256] (SL.cons (eS rfl (eS rfl (eS rfl (eS rfl (eS rfl (eS rfl (eS rfl (eS rfl (eS rfl (eS rfl (eS rfl (eS rfl (eS rfl (eS rfl (eS rfl (eS rfl (eS rfl (eS rfl (eS rfl (eS rfl (eS rfl (eS rfl (eS rfl (eS rfl (eS rfl (eS rfl (eS rfl (eS rfl (eS rfl (eS rfl (eS rfl eZ))))))))))))))))))))))))))))))) rfl VWk.rfl (SL.cons (eS rfl (eS rfl (eS rfl (eS rfl (eS rfl (eS rfl (eS rfl (eS rfl (eS rfl (eS rfl (eS rfl (eS rfl (eS rfl (eS rfl (eS rfl (eS rfl (eS rfl (eS rfl (eS rfl (eS rfl (eS rfl (eS rfl (eS rfl (eS rfl (eS rfl (eS rfl (eS rfl (eS rfl (eS rfl (eS rfl (eS rfl (eS rfl eZ)))))))))))))))))))))))))))))))) rfl VWk.rfl (SL.cons (eS rfl (eS rfl (eS rfl (eS rfl (eS rfl (eS rfl (eS rfl (eS rfl (eS rfl (eS rfl (eS rfl (eS rfl (eS rfl (eS rfl (eS rfl (eS rfl (eS rfl (eS rfl (eS rfl (eS rfl (eS rfl (eS rfl (eS rfl (eS rfl (eS rfl (eS rfl (eS rfl (eS rfl (eS rfl (eS rfl (eS rfl (eS rfl (eS rfl eZ))))))))))))))))))))))))))))))))) rfl VWk.rfl (SL.cons (eS rfl (eS rfl (eS rfl (eS rfl (eS rfl (eS rfl (eS rfl (eS rfl (eS rfl (eS rfl (eS rfl (eS rfl (eS rfl (eS rfl (eS rfl (eS rfl (eS rfl (eS rfl (eS rfl (eS rfl (eS rfl (eS rfl (eS rfl (eS rfl (eS rfl (eS rfl (eS rfl (eS rfl (eS rfl (eS rfl (eS rfl (eS rfl (eS rfl (eS rfl eZ)))))))))))))))))))))))))))))))))) rfl VWk.rfl (SL.cons eZ rfl VWk.rfl SL.nil))))) (BL.drop rfl (BL.drop rfl BL.nil)) BK.nil)⟩
    · refine AW.condF eZ (decide_eq_false h6) ?_
      refine AW.exit ?_
      refine TQ.qe ?_
      refine TQ.qe ?_
      refine BQ.qe ?_
      exact TQ.qn ⟨(), H, (wk_mk [] (SL.cons (eS rfl eZ) rfl VWk.rfl SL.nil) BL.nil BK.nil)⟩

theorem c_impl_isAnswer {a1 : Int} {r : Bool} (H : m_impl_isAnswer a1 = some r) : Fn Try.prog k_impl_isAnswer (lent [(.int .i64 a1)]) true [(.bool r)] := by
  refine i_impl_isAnswer_fn (Nat.le_of_ble_eq_true rfl) ?_
  rw [init_mk]
  refine AW.weaken (wk_mk [] (SL.cons (v := (.one (.d (.int .i64 a1)))) eZ rfl VWk.rfl SL.nil) BL.nil BK.nil) ?_
  unfold m_impl_isAnswer at H
  unfold i_impl_isAnswer
  refine AW.seq ?_
  refine AW.regs ?_
  refine oMov eC ?_
  refine xNil ?_
  refine TQ.qn ?_
  refine AW.seq ?_
  refine AW.regs ?_
  refine oMov (eS rfl eZ) ?_
  obtain ⟨v2, h3, H⟩ := obind H
  refine oCall (u := (.one (.d (.bool v2)))) eC Cl.fn (c_impl_from h3) (Evs.cons eZ (Evs.cons eC (Evs.cons eC Evs.nil))) (VDs.cons VD.plain (VDs.cons VD.plain (VDs.cons VD.plain VDs.nil))) rfl ?_
  refine oMov eZ ?_
  refine xNil ?_
  refine TQ.qn ?_
  refine AW.ret ?_
  obtain rfl := Option.some.inj H
  exact endsR (RL.cons (RV.tmp eZ) (VO.flat rfl) RL.nil) List.nodup_nil

theorem c_impl_WritesOk {a1 : (List TCell)} {r : Bool} (H : m_impl_WritesOk a1 = some r) : Fn Try.prog k_impl_WritesOk (lent [(.sl 2 (List.map d_TCell a1))]) true [(.bool r)] := by
  refine i_impl_WritesOk_fn (Nat.le_of_ble_eq_true rfl) ?_
  rw [init_mk]
  refine AW.weaken (wk_mk [] (SL.cons (v := (.one (.d (.sl 2 (List.map d_TCell a1))))) eZ rfl VWk.rfl SL.nil) BL.nil BK.nil) ?_
  unfold m_impl_WritesOk at H
  unfold i_impl_WritesOk
  refine AW.seq ?_
  refine AW.regs ?_
  refine oMov eC ?_
  refine xNil ?_
  refine TQ.qn ?_
  refine AW.seqJ (fun t2 : Unit => (impl_WritesOk_j2 a1) t2 = some r) (fun t2 => mk [(0, (.one (.d (.sl 2 (List.map d_TCell a1)))))] [] noG) ?_ ?_
  · intro t2 H
    unfold impl_WritesOk_j2 at H
    refine AW.seq ?_
    refine AW.regs ?_
    refine oMov eZ ?_
    refine oLenD eZ (n := a1.length) (List.length_map _) ?_
    refine oLeq eZ eC ?_
    refine oMov eZ ?_
    refine xNil ?_
    refine TQ.qn ?_
    refine AW.ret ?_
    obtain rfl := Option.some.inj H
    exact endsR (RL.cons (RV.tmp eZ) (VO.flat rfl) RL.nil) List.nodup_nil
  · refine AW.seq ?_
    refine AW.regs ?_
    refine oMov (eS rfl eZ) ?_
    refine oLenD eZ (n := a1.length) (List.length_map _) ?_
    refine oMov eC ?_
    refine xNil ?_
    refine TQ.qn ?_
    refine AW.block ?_
    refine AW.iter (fun s4 : Int => mk [(0, (.one (.d (.sl 2 (List.map d_TCell a1))))), (5, (.one (.d (.sl 2 (List.map d_TCell a1))))), (6, (.one (.d (.int .i64 (a1.length : Int))))), (7, (.one (.d (.int .i64 s4))))] [] noG) H (wk_mk [] (SL.cons (eS rfl (eS rfl (eS rfl (eS rfl eZ)))) rfl VWk.rfl (SL.cons (eS rfl (eS rfl eZ)) rfl VWk.rfl (SL.cons (eS rfl eZ) rfl VWk.rfl (SL.cons eZ rfl VWk.rfl SL.nil)))) BL.nil BK.nil) ?_
    intro kb5 s4 H
    unfold impl_WritesOk_b4 at H
    refine AW.seq ?_
    refine AW.regs ?_
    refine oLss (eS rfl (eS rfl (eS rfl eZ))) (eS rfl (eS rfl eZ)) ?_
    refine xNil ?_
    refine TQ.qn ?_
    refine AW.seq ?_
    rcases oite H with ⟨h6, H⟩ | ⟨h6, H⟩
    · refine AW.condT eZ (decide_eq_true h6) ?_
      refine AW.skip ?_
      refine TQ.qn ?_
      refine AW.seq ?_
      refine AW.block ?_
      refine AW.seq ?_
      refine AW.regs ?_
      refine oMov (eS rfl (eS rfl (eS rfl (eS rfl eZ)))) ?_
      obtain ⟨v7, h8, H⟩ := obind H
      refine oAtD (eS rfl (eS rfl (eS rfl eZ))) (eS rfl (eS rfl (eS rfl (eS rfl (eS rfl eZ))))) h8 ?_
      refine oLoadBA (es := [(.d (.int .i64 v7.Key)), (.d (.int .i64 v7.Value))]) eZ rfl ?_
      refine oVar (n := 256) (m := 2) rfl rfl nZ ?_
      refine oMov (eS rfl (eS rfl (eS rfl eZ))) ?_
      refine oStoreV (es := [(.d (.int .i64 v7.Key)), (.d (.int .i64 v7.Value))]) (eS rfl eZ) (eS rfl (eS rfl eZ)) rfl rfl bZ rfl ?_
      refine xNil ?_
      refine TQ.qn ?_
      refine AW.seqJ (fun t9 : Bool => (impl_WritesOk_j9 kb5 s4) t9 = some r) (fun t9 => mk [(0, (.one (.d (.sl 2 (List.map d_TCell a1))))), (5, (.one (.d (.sl 2 (List.map d_TCell a1))))), (6, (.one (.d (.int .i64 (a1.length : Int))))), (7, (.one (.d (.int .i64 s4)))), (36, (.one (.d (.bool t9))))] [] noG) ?_ ?_
      · intro t9 H
        unfold impl_WritesOk_j9 at H
        rcases oite H with ⟨h11, H⟩ | ⟨h11, H⟩
        · refine AW.condT (eS rfl (eS rfl (eS rfl (eS rfl eZ)))) h11 ?_
          refine AW.seq ?_
          refine AW.regs ?_
          refine oMov eC ?_
          refine xNil ?_
          refine TQ.qn ?_
          refine AW.ret ?_
          refine BQ.qr ?_
          refine TQ.qr ?_
          refine TQ.qr ?_
          refine BQ.qr ?_
          refine TQ.qr ?_
          obtain rfl := Option.some.inj H
          exact endsR (RL.cons (RV.tmp eZ) (VO.flat rfl) RL.nil) List.nodup_nil
        · refine AW.condF (eS rfl (eS rfl (eS rfl (eS rfl eZ)))) (nt h11) ?_
          refine AW.skip ?_
          refine BQ.qn ?_
          refine TQ.qn ?_
          refine AW.regs ?_
          refine oAdd (eS rfl (eS rfl (eS rfl eZ))) eC ?_
          refine oMov eZ ?_
          refine xNil ?_
          exact TQ.qn ⟨(IntKind.wrap .i64 (s4 + 1)), H, (wk_mk [] (SL.cons (eS rfl (eS rfl eZ)) rfl VWk.rfl (SL.cons (eS rfl (eS rfl (eS rfl eZ))) rfl VWk.rfl (SL.cons (eS rfl (eS rfl (eS rfl (eS rfl eZ)))) rfl VWk.rfl (SL.cons eZ rfl VWk.rfl SL.nil)))) BL.nil BK.nil)⟩
      · refine AW.regd ?_
        refine oFaddrN (m := 0) (eS rfl eZ) rfl ?_
        refine oLoadV (q := 0) (c := (.d (.int .i64 v7.Key))) eZ bZ rfl rfl ?_
        obtain ⟨v12, h13, H⟩ := obind H
        refine oCall (u := (.one (.d (.bool v12)))) eC Cl.fn (c_impl_isKey h13) (Evs.cons eZ Evs.nil) (VDs.cons VD.plain VDs.nil) rfl ?_
        refine oInv eZ ?_
        refine oMov eZ ?_
        rcases oite H with ⟨h14, H⟩ | ⟨h14, H⟩
        · refine gDo eZ (congrArg Bool.not h14) ?_
          refine oFaddrN (m := 1) (eS rfl (eS rfl (eS rfl (eS rfl (eS rfl (eS rfl eZ)))))) rfl ?_
          refine gDo (eS rfl eZ) (congrArg Bool.not h14) ?_
          refine oLoadV (q := 1) (c := (.d (.int .i64 v7.Value))) eZ bZ rfl rfl ?_
          refine gDo (eS rfl (eS rfl eZ)) (congrArg Bool.not h14) ?_
          obtain ⟨v15, h16, H⟩ := obind H
          refine oCall (u := (.one (.d (.bool v15)))) eC Cl.fn (c_impl_isAnswer h16) (Evs.cons eZ Evs.nil) (VDs.cons VD.plain VDs.nil) rfl ?_
          refine gDo (eS rfl (eS rfl (eS rfl eZ))) (congrArg Bool.not h14) ?_
          refine oInv eZ ?_
          refine oPickF (eS rfl (eS rfl (eS rfl (eS rfl eZ)))) (congrArg Bool.not h14) eZ ?_
          refine oMov eZ ?_
          rcases oite H with ⟨h17, H⟩ | ⟨h17, H⟩
          · refine gDo eZ (congrArg Bool.not h17) ?_
            refine oMov (eS rfl (eS rfl (eS rfl (eS rfl (eS rfl (eS rfl (eS rfl (eS rfl (eS rfl (eS rfl (eS rfl eZ))))))))))) ?_
            refine gDo (eS rfl eZ) (congrArg Bool.not h17) ?_
            refine oGtr eZ eC ?_
            refine gDo (eS rfl (eS rfl eZ)) (congrArg Bool.not h17) ?_
            refine oMov eZ ?_
            rcases oite H with ⟨h18, H⟩ | ⟨h18, H⟩
            · refine gDo eZ (decide_eq_true h18) ?_
              refine oMov (eS rfl (eS rfl (eS rfl (eS rfl (eS rfl (eS rfl (eS rfl (eS rfl (eS rfl (eS rfl (eS rfl (eS rfl (eS rfl (eS rfl (eS rfl (eS rfl (eS rfl (eS rfl (eS rfl (eS rfl eZ)))))))))))))))))))) ?_
              refine gDo (eS rfl eZ) (decide_eq_true h18) ?_
              refine oMov (eS rfl (eS rfl (eS rfl (eS rfl (eS rfl (eS rfl (eS rfl (eS rfl (eS rfl (eS rfl (eS rfl (eS rfl (eS rfl (eS rfl (eS rfl eZ))))))))))))))) ?_
              refine gDo (eS rfl (eS rfl eZ)) (decide_eq_true h18) ?_
              refine oSub eZ eC ?_
              refine gDo (eS rfl (eS rfl (eS rfl eZ))) (decide_eq_true h18) ?_
              obtain ⟨v19, h20, H⟩ := obind H
              refine oAtD (eS rfl (eS rfl eZ)) eZ h20 ?_
              refine gDo (eS rfl (eS rfl (eS rfl (eS rfl eZ)))) (decide_eq_true h18) ?_
              refine oFaddrB (m := 0) eZ rfl ?_
              refine gDo (eS rfl (eS rfl (eS rfl (eS rfl (eS rfl eZ))))) (decide_eq_true h18) ?_
              refine oLoadB (e := (.int .i64 v19.Key)) eZ rfl ?_
              refine gDo (eS rfl (eS rfl (eS rfl (eS rfl (eS rfl (eS rfl eZ)))))) (decide_eq_true h18) ?_
              refine oFaddrN (m := 0) (eS rfl (eS rfl (eS rfl (eS rfl (eS rfl (eS rfl (eS rfl (eS rfl (eS rfl (eS rfl (eS rfl (eS rfl (eS rfl (eS rfl (eS rfl (eS rfl (eS rfl (eS rfl (eS rfl (eS rfl (eS rfl eZ))))))))))))))))))))) rfl ?_
              refine gDo (eS rfl (eS rfl (eS rfl (eS rfl (eS rfl (eS rfl (eS rfl eZ))))))) (decide_eq_true h18) ?_
              refine oLoadV (q := 0) (c := (.d (.int .i64 v7.Key))) eZ bZ rfl rfl ?_
              refine gDo (eS rfl (eS rfl (eS rfl (eS rfl (eS rfl (eS rfl (eS rfl (eS rfl eZ)))))))) (decide_eq_true h18) ?_
              refine oGeq (eS rfl (eS rfl eZ)) eZ ?_
              refine gDo (eS rfl (eS rfl (eS rfl (eS rfl (eS rfl (eS rfl (eS rfl (eS rfl (eS rfl (eS rfl (eS rfl (eS rfl eZ)))))))))))) (congrArg Bool.not h17) ?_
              refine oPickT (eS rfl (eS rfl (eS rfl (eS rfl (eS rfl (eS rfl (eS rfl (eS rfl (eS rfl eZ))))))))) (decide_eq_true h18) eZ ?_
              refine oPickF (eS rfl (eS rfl (eS rfl (eS rfl (eS rfl (eS rfl (eS rfl (eS rfl (eS rfl (eS rfl (eS rfl (eS rfl (eS rfl eZ))))))))))))) (congrArg Bool.not h17) eZ ?_
              refine xNil ?_
              exact TQ.qn ⟨(decide (v7.Key ≤ v19.Key)), H, (wk_mk [256] (SL.cons (eS rfl (eS rfl (eS rfl (eS rfl (eS rfl (eS rfl (eS rfl (eS rfl (eS rfl (eS rfl (eS rfl (eS rfl (eS rfl (eS rfl (eS rfl (eS rfl (eS rfl (eS rfl (eS rfl (eS rfl (eS rfl (eS rfl (eS rfl (eS rfl (eS rfl (eS rfl (eS rfl (eS rfl (eS rfl (eS rfl (eS rfl eZ))))))))))))))))))))))))))))))) rfl VWk.rfl (SL.cons (eS rfl (eS rfl (eS rfl (eS rfl (eS rfl (eS rfl (eS rfl (eS rfl (eS rfl (eS rfl (eS rfl (eS rfl (eS rfl (eS rfl (eS rfl (eS rfl (eS rfl (eS rfl (eS rfl (eS rfl (eS rfl (eS rfl (eS rfl (eS rfl (eS rfl (eS rfl (eS rfl (eS rfl (eS rfl (eS rfl (eS rfl (eS rfl eZ)))))))))))))))))))))))))))))))) rfl VWk.rfl (SL.cons (eS rfl (eS rfl (eS rfl (eS rfl (eS rfl (eS rfl (eS rfl (eS rfl (eS rfl (eS rfl (eS rfl (eS rfl (eS rfl (eS rfl (eS rfl (eS rfl (eS rfl (eS rfl (eS rfl (eS rfl (eS rfl (eS rfl (eS rfl (eS rfl (eS rfl (eS rfl (eS rfl (eS rfl (eS rfl (eS rfl (eS rfl (eS rfl (eS rfl eZ))))))))))))))))))))))))))))))))) rfl VWk.rfl (SL.cons (eS rfl (eS rfl (eS rfl (eS rfl (eS rfl (eS rfl (eS rfl (eS rfl (eS rfl (eS rfl (eS rfl (eS rfl (eS rfl (eS rfl (eS rfl (eS rfl (eS rfl (eS rfl (eS rfl (eS rfl (eS rfl (eS rfl (eS rfl (eS rfl (eS rfl (eS rfl (eS rfl (eS rfl (eS rfl (eS rfl (eS rfl (eS rfl (eS rfl (eS rfl eZ)))))))))))))))))))))))))))))))))) rfl VWk.rfl (SL.cons eZ rfl VWk.rfl SL.nil))))) (BL.drop rfl (BL.drop rfl BL.nil)) BK.nil)⟩
            · refine gSkip eZ (decide_eq_false h18) rfl ?_
              refine gSkip (eS rfl eZ) (decide_eq_false h18) rfl ?_
              refine gSkip (eS rfl (eS rfl eZ)) (decide_eq_false h18) rfl ?_
              refine gSkip (eS rfl (eS rfl (eS rfl eZ))) (decide_eq_false h18) rfl ?_
              refine gSkip (eS rfl (eS rfl (eS rfl (eS rfl eZ)))) (decide_eq_false h18) rfl ?_
              refine gSkip (eS rfl (eS rfl (eS rfl (eS rfl (eS rfl eZ))))) (decide_eq_false h18) rfl ?_
              refine gSkip (eS rfl (eS rfl (eS rfl (eS rfl (eS rfl (eS rfl eZ)))))) (decide_eq_false h18) rfl ?_
              refine gSkip (eS rfl (eS rfl (eS rfl (eS rfl (eS rfl (eS rfl (eS rfl eZ))))))) (decide_eq_false h18) rfl ?_
              refine gSkip (eS rfl (eS rfl (eS rfl (eS rfl (eS rfl (eS rfl (eS rfl (eS rfl eZ)))))))) (decide_eq_false h18) rfl ?_
              refine gDo (eS rfl (eS rfl (eS rfl (eS rfl (eS rfl (eS rfl (eS rfl (eS rfl (eS rfl (eS rfl (eS rfl (eS rfl eZ)))))))))))) (congrArg Bool.not h17) ?_
              refine oPickF (eS rfl (eS rfl (eS rfl (eS rfl (eS rfl (eS rfl (eS rfl (eS rfl (eS rfl eZ))))))))) (decide_eq_false h18) eC ?_
              refine oPickF (eS rfl (eS rfl (eS rfl (eS rfl (eS rfl (eS rfl (eS rfl (eS rfl (eS rfl (eS rfl (eS rfl (eS rfl (eS rfl eZ))))))))))))) (congrArg Bool.not h17) eZ ?_
              refine xNil ?_
              exact TQ.qn ⟨false, H, (wk_mk [256] (SL.cons (eS rfl (eS rfl (eS rfl (eS rfl (eS rfl (eS rfl (eS rfl (eS rfl (eS rfl (eS rfl (eS rfl (eS rfl (eS rfl (eS rfl (eS rfl (eS rfl (eS rfl (eS rfl (eS rfl (eS rfl (eS rfl (eS rfl (eS rfl (eS rfl (eS rfl (eS rfl (eS rfl (eS rfl (eS rfl (eS rfl (eS rfl eZ))))))))))))))))))))))))))))))) rfl VWk.rfl (SL.cons (eS rfl (eS rfl (eS rfl (eS rfl (eS rfl (eS rfl (eS rfl (eS rfl (eS rfl (eS rfl (eS rfl (eS rfl (eS rfl (eS rfl (eS rfl (eS rfl (eS rfl (eS rfl (eS rfl (eS rfl (eS rfl (eS rfl (eS rfl (eS rfl (eS rfl (eS rfl (eS rfl (eS rfl (eS rfl (eS rfl (eS rfl (eS rfl eZ)))))))))))))))))))))))))))))))) rfl VWk.rfl (SL.cons (eS rfl (eS rfl (eS rfl (eS rfl (eS rfl (eS rfl (eS rfl (eS rfl (eS rfl (eS rfl (eS rfl (eS rfl (eS rfl (eS rfl (eS rfl (eS rfl (eS rfl (eS rfl (eS rfl (eS rfl (eS rfl (eS rfl (eS rfl (eS rfl (eS rfl (eS rfl (eS rfl (eS rfl (eS rfl (eS rfl (eS rfl (eS rfl (eS rfl eZ))))))))))))))))))))))))))))))))) rfl VWk.rfl (SL.cons (eS rfl (eS rfl (eS rfl (eS rfl (eS rfl (eS rfl (eS rfl (eS rfl (eS rfl (eS rfl (eS rfl (eS rfl (eS rfl (eS rfl (eS rfl (eS rfl (eS rfl (eS rfl (eS rfl (eS rfl (eS rfl (eS rfl (eS rfl (eS rfl (eS rfl (eS rfl (eS rfl (eS rfl (eS rfl (eS rfl (eS rfl (eS rfl (eS rfl (eS rfl eZ)))))))))))))))))))))))))))))))))) rfl VWk.rfl (SL.cons eZ rfl VWk.rfl SL.nil))))) (BL.drop rfl (BL.drop rfl BL.nil)) BK.nil)⟩
          · refine gSkip eZ (congrArg Bool.not (nt h17)) rfl ?_
            refine gSkip (eS rfl eZ) (congrArg Bool.not (nt h17)) rfl ?_
            refine gSkip (eS rfl (eS rfl eZ)) (congrArg Bool.not (nt h17)) rfl ?_
            refine gSkipU eZ rfl ?_
            refine gSkipU (eS rfl eZ) rfl ?_
            refine gSkipU (eS rfl (eS rfl eZ)) rfl ?_
            refine gSkipU (eS rfl (eS rfl (eS rfl eZ))) rfl ?_
            refine gSkipU (eS rfl (eS rfl (eS rfl (eS rfl eZ)))) rfl ?_
            refine gSkipU (eS rfl (eS rfl (eS rfl (eS rfl (eS rfl eZ))))) rfl ?_
            refine gSkipU (eS rfl (eS rfl (eS rfl (eS rfl (eS rfl (eS rfl eZ)))))) rfl ?_
            refine gSkipU (eS rfl (eS rfl (eS rfl (eS rfl (eS rfl (eS rfl (eS rfl eZ))))))) rfl ?_
            refine gSkipU (eS rfl (eS rfl (eS rfl (eS rfl (eS rfl (eS rfl (eS rfl (eS rfl eZ)))))))) rfl ?_
            refine gSkip (eS rfl (eS rfl (eS rfl (eS rfl (eS rfl (eS rfl (eS rfl (eS rfl (eS rfl (eS rfl (eS rfl (eS rfl eZ)))))))))))) (congrArg Bool.not (nt h17)) rfl ?_
            refine oPickT (eS rfl (eS rfl (eS rfl (eS rfl (eS rfl (eS rfl (eS rfl (eS rfl (eS rfl (eS rfl (eS rfl (eS rfl (eS rfl eZ))))))))))))) (congrArg Bool.not (nt h17)) eC ?_
            refine xNil ?_
            exact TQ.qn ⟨true, H, (wk_mk [256] (SL.cons (eS rfl (eS rfl (eS rfl (eS rfl (eS rfl (eS rfl (eS rfl (eS rfl (eS rfl (eS rfl (eS rfl (eS rfl (eS rfl (eS rfl (eS rfl (eS rfl (eS rfl (eS rfl (eS rfl (eS rfl (eS rfl (eS rfl (eS rfl (eS rfl (eS rfl (eS rfl (eS rfl (eS rfl (eS rfl (eS rfl (eS rfl eZ))))))))))))))))))))))))))))))) rfl VWk.rfl (SL.cons (eS rfl (eS rfl (eS rfl (eS rfl (eS rfl (eS rfl (eS rfl (eS rfl (eS rfl (eS rfl (eS rfl (eS rfl (eS rfl (eS rfl (eS rfl (eS rfl (eS rfl (eS rfl (eS rfl (eS rfl (eS rfl (eS rfl (eS rfl (eS rfl (eS rfl (eS rfl (eS rfl (eS rfl (eS rfl (eS rfl (eS rfl (eS rfl eZ)))))))))))))))))))))))))))))))) rfl VWk.rfl (SL.cons (eS rfl (eS rfl (eS rfl (eS rfl (eS rfl (eS rfl (eS rfl (eS rfl (eS rfl (eS rfl (eS rfl (eS rfl (eS rfl (eS rfl (eS rfl (eS rfl (eS rfl (eS rfl (eS rfl (eS rfl (eS rfl (eS rfl (eS rfl (eS rfl (eS rfl (eS rfl (eS rfl (eS rfl (eS rfl (eS rfl (eS rfl (eS rfl (eS rfl eZ))))))))))))))))))))))))))))))))) rfl VWk.rfl (SL.cons (eS rfl (eS rfl (eS rfl (eS rfl (eS rfl (eS rfl (eS rfl (eS rfl (eS rfl (eS rfl (eS rfl (eS rfl (eS rfl (eS rfl (eS rfl (eS rfl (eS rfl (eS rfl (eS rfl (eS rfl (eS rfl (eS rfl (eS rfl (eS rfl (eS rfl (eS rfl (eS rfl (eS rfl (eS rfl (eS rfl (eS rfl (eS rfl (eS rfl (eS rfl eZ)))))))))))))))))))))))))))))))))) rfl VWk.rfl (SL.cons eZ rfl VWk.rfl SL.nil))))) (BL.drop rfl (BL.drop rfl BL.nil)) BK.nil)⟩
        · refine gSkip eZ (congrArg Bool.not (nt h14)) rfl ?_
          refine gSkip (eS rfl eZ) (congrArg Bool.not (nt h14)) rfl ?_
          refine gSkip (eS rfl (eS rfl eZ)) (congrArg Bool.not (nt h14)) rfl ?_
          refine gSkip (eS rfl (eS rfl (eS rfl eZ))) (congrArg Bool.not (nt h14)) rfl ?_
          refine oPickT (eS rfl (eS rfl (eS rfl (eS rfl eZ)))) (congrArg Bool.not (nt h14)) eC ?_
          refine oMov eZ ?_
          refine gSkip eZ rfl rfl ?_
          refine gSkip (eS rfl eZ) rfl rfl ?_
          refine gSkip (eS rfl (eS rfl eZ)) rfl rfl ?_
          refine gSkipU eZ rfl ?_
          refine gSkipU (eS rfl eZ) rfl ?_
          refine gSkipU (eS rfl (eS rfl eZ)) rfl ?_
          refine gSkipU (eS rfl (eS rfl (eS rfl eZ))) rfl ?_
          refine gSkipU (eS rfl (eS rfl (eS rfl (eS rfl eZ)))) rfl ?_
          refine gSkipU (eS rfl (eS rfl (eS rfl (eS rfl (eS rfl eZ))))) rfl ?_
          refine gSkipU (eS rfl (eS rfl (eS rfl (eS rfl (eS rfl (eS rfl eZ)))))) rfl ?_
          refine gSkipU (eS rfl (eS rfl (eS rfl (eS rfl (eS rfl (eS rfl (eS rfl eZ))))))) rfl ?_
          refine gSkipU (eS rfl (eS rfl (eS rfl (eS rfl (eS rfl (eS rfl (eS rfl (eS rfl eZ)))))))) rfl ?_
          refine gSkip (eS rfl (eS rfl (eS rfl (eS rfl (eS rfl (eS rfl (eS rfl (eS rfl (eS rfl (eS rfl (eS rfl (eS rfl eZ)))))))))))) rfl rfl ?_
          refine oPickT (eS rfl (eS rfl (eS rfl (eS rfl (eS rfl (eS rfl (eS rfl (eS rfl (eS rfl (eS rfl (eS rfl (eS rfl (eS rfl eZ))))))))))))) rfl eC ?_
          refine xNil ?_
          exact TQ.qn ⟨true, H, (wk_mk [256] (SL.cons (eS rfl (eS rfl (eS rfl (eS rfl (eS rfl (eS rfl (eS rfl (eS rfl (eS rfl (eS rfl (eS rfl (eS rfl (eS rfl (eS rfl (eS rfl (eS rfl (eS rfl (eS rfl (eS rfl (eS rfl (eS rfl (eS rfl (eS rfl (eS rfl (eS rfl (eS rfl (eS rfl (eS rfl (eS rfl (eS rfl (eS rfl eZ))))))))))))))))))))))))))))))) rfl VWk.rfl (SL.cons (eS rfl (eS rfl (eS rfl (eS rfl (eS rfl (eS rfl (eS rfl (eS rfl (eS rfl (eS rfl (eS rfl (eS rfl (eS rfl (eS rfl (eS rfl (eS rfl (eS rfl (eS rfl (eS rfl (eS rfl (eS rfl (eS rfl (eS rfl (eS rfl (eS rfl (eS rfl (eS rfl (eS rfl (eS rfl (eS rfl (eS rfl (eS rfl eZ)))))))))))))))))))))))))))))))) rfl VWk.rfl (SL.cons (eS rfl (eS rfl (eS rfl (eS rfl (eS rfl (eS rfl (eS rfl (eS rfl (eS rfl (eS rfl (eS rfl (eS rfl (eS rfl (eS rfl (eS rfl (eS rfl (eS rfl (eS rfl (eS rfl (eS rfl (eS rfl (eS rfl (eS rfl (eS rfl (eS rfl (eS rfl (eS rfl (eS rfl (eS rfl (eS rfl (eS rfl (eS rfl (eS rfl eZ))))))))))))))))))))))))))))))))) rfl VWk.rfl (SL.cons (eS rfl (eS rfl (eS rfl (eS rfl (eS rfl (eS rfl (eS rfl (eS rfl (eS rfl (eS rfl (eS rfl (eS rfl (eS rfl (eS rfl (eS rfl (eS rfl (eS rfl (eS rfl (eS rfl (eS rfl (eS rfl (eS rfl (eS rfl (eS rfl (eS rfl (eS rfl (eS rfl (eS rfl (eS rfl (eS rfl (eS rfl (eS rfl (eS rfl (eS rfl eZ)))))))))))))))))))))))))))))))))) rfl VWk.rfl (SL.cons eZ rfl VWk.rfl SL.nil))))) (BL.drop rfl (BL.drop rfl BL.nil)) BK.nil)⟩
    · refine AW.condF eZ (decide_eq_false h6) ?_
      refine AW.exit ?_
      refine TQ.qe ?_
      refine TQ.qe ?_
      refine BQ.qe ?_
      exact TQ.qn ⟨(), H, (wk_mk [] (SL.cons (eS rfl eZ) rfl VWk.rfl SL.nil) BL.nil BK.nil)⟩

theorem c_slices_Clone_Cell {a1 : (List TCell)} {r : (List TCell)} (H : m_slices_Clone_Cell a1 = some r) : Fn Try.prog k_slices_Clone___impl_Cell_impl_Cell_ (lent [(.sl 2 (List.map d_TCell a1))]) true [(.sl 2 (List.map d_TCell r))] := by
  refine i_slices_Clone___impl_Cell_impl_Cell__fn (Nat.le_of_ble_eq_true rfl) ?_
  rw [init_mk]
  refine AW.weaken (wk_mk [] (SL.cons (v := (.one (.d (.sl 2 (List.map d_TCell a1))))) eZ rfl VWk.rfl SL.nil) BL.nil BK.nil) ?_
  unfold m_slices_Clone_Cell at H
  unfold i_slices_Clone___impl_Cell_impl_Cell_
  refine AW.seq ?_
  refine AW.regs ?_
  refine oMov eC ?_
  refine xNil ?_
  refine TQ.qn ?_
  refine AW.seqJ (fun t2 : Unit => (slices_Clone_Cell_j2 a1) t2 = some r) (fun t2 => mk [(0, (.one (.d (.sl 2 (List.map d_TCell a1)))))] [] noG) ?_ ?_
  · intro t2 H
    unfold slices_Clone_Cell_j2 at H
    refine AW.seq ?_
    refine AW.regs ?_
    refine oBsliceZ (m := 320) rfl nZ ?_
    refine oMov (eS rfl eZ) ?_
    obtain ⟨h4, H⟩ := oguard H
    refine oAppZ (f := d_TCell) (m := 448) (own := true) (ys := a1) (q := a1.length) rfl rfl (eS rfl eZ) eZ (El.lent fun _ _ => rfl) rfl h4 (by decide) nZ ?_
    refine oMov eZ ?_
    refine xNil ?_
    refine TQ.qn ?_
    refine AW.ret ?_
    obtain rfl := Option.some.inj H
    exact endsR (RL.cons (RV.tmp eZ) (VO.sl bZ (List.length_map _) (allFlat fun _ => rfl)) RL.nil) (by decide)
  · refine AW.seq ?_
    refine AW.regs ?_
    refine oMov (eS rfl eZ) ?_
    rcases oite H with ⟨h5, H⟩ | ⟨h5, H⟩
    · refine oNilD0 eZ h5 ?_
      refine xNil ?_
      refine TQ.qn ?_
      refine AW.condU eZ ?_ ?_
      · have H : (some ([] : (List TCell))) = some r := by rw [← H]; simp [List.eq_nil_of_length_eq_zero h5, slices_Clone_Cell_j2]
        refine AW.seq ?_
        refine AW.regs ?_
        refine oMov eC ?_
        refine xNil ?_
        refine TQ.qn ?_
        refine AW.ret ?_
        refine TQ.qr ?_
        obtain rfl := Option.some.inj H
        exact endsR (RL.cons (RV.tmp eZ) VO.zs RL.nil) List.nodup_nil
      · refine AW.skip ?_
        exact TQ.qn ⟨(), H, (wk_mk [] (SL.cons (eS rfl (eS rfl (eS rfl eZ))) rfl VWk.rfl SL.nil) BL.nil BK.nil)⟩
    · refine oNilD eZ h5 ?_
      refine xNil ?_
      refine TQ.qn ?_
      refine AW.condF eZ rfl ?_
      refine AW.skip ?_
      exact TQ.qn ⟨(), H, (wk_mk [] (SL.cons (eS rfl (eS rfl (eS rfl eZ))) rfl VWk.rfl SL.nil) BL.nil BK.nil)⟩

theorem c_impl_cellFor_1 {a1 : TCell} {a2 : Int} {r : Int} (H : m_impl_cellFor_1 a1 a2 = some r) : Fn Try.prog k_impl_cellFor_1 (lent [(.agg (d_TCell a1)), (.int .i64 a2)]) true [(.int .i64 r)] := by
  refine i_impl_cellFor_1_fn (Nat.le_of_ble_eq_true rfl) ?_
  rw [init_mk]
  refine AW.weaken (wk_mk [] (SL.cons (v := (.agg [(.d (.int .i64 a1.Key)), (.d (.int .i64 a1.Value))])) eZ rfl VWk.rfl (SL.cons (v := (.one (.d (.int .i64 a2)))) (eS rfl eZ) rfl VWk.rfl SL.nil)) BL.nil BK.nil) ?_
  unfold m_impl_cellFor_1 at H
  unfold i_impl_cellFor_1
  refine AW.seq ?_
  refine AW.regs ?_
  refine oBox (n := 128) (m := 2) (cs := [(.d (.int .i64 a1.Key)), (.d (.int .i64 a1.Value))]) rfl eZ rfl rfl nZ ?_
  refine oMov eC ?_
  refine xNil ?_
  refine TQ.qn ?_
  refine AW.seq ?_
  refine AW.regs ?_
  refine oFaddrN (m := 0) (eS rfl eZ) rfl ?_
  refine oLoadV (q := 0) (c := (.d (.int .i64 a1.Key))) eZ bZ rfl rfl ?_
  refine oMov (eS rfl (eS rfl (eS rfl (eS rfl (eS rfl eZ))))) ?_
  refine oSub (eS rfl eZ) eZ ?_
  refine oMov eZ ?_
  refine xNil ?_
  refine TQ.qn ?_
  refine AW.ret ?_
  obtain rfl := Option.some.inj H
  exact endsR (RL.cons (RV.tmp eZ) (VO.flat rfl) RL.nil) List.nodup_nil

theorem c_slices_BinarySearchFunc_Cell_int__cellFor_1 {a1 : (List TCell)} {a2 : Int} {r : (Int × Bool)} (H : m_slices_BinarySearchFunc_Cell_int__cellFor_1 a1 a2 = some r) : Fn Try.prog k_slices_BinarySearchFunc___impl_Cell_impl_Cell_int_ (lent [(.sl 2 (List.map d_TCell a1)), (.int .i64 a2), (.fn k_impl_cellFor_1 [])]) true [(.int .i64 r.1), (.bool r.2)] := by
  refine i_slices_BinarySearchFunc___impl_Cell_impl_Cell_int__fn (Nat.le_of_ble_eq_true rfl) ?_
  rw [init_mk]
  refine AW.weaken (wk_mk [] (SL.cons (v := (.one (.d (.sl 2 (List.map d_TCell a1))))) eZ rfl VWk.rfl (SL.cons (v := (.one (.d (.int .i64 a2)))) (eS rfl eZ) rfl VWk.rfl (SL.cons (v := (.one (.fn k_impl_cellFor_1 []))) (eS rfl (eS rfl eZ)) rfl (VWk.one (CWk.fn (css := []))) SL.nil))) BL.nil BK.nil) ?_
  unfold m_slices_BinarySearchFunc_Cell_int__cellFor_1 at H
  unfold i_slices_BinarySearchFunc___impl_Cell_impl_Cell_int_
  refine AW.seq ?_
  refine AW.regs ?_
  refine oMov eC ?_
  refine oMov eC ?_
  refine xNil ?_
  refine TQ.qn ?_
  refine AW.seq ?_
  refine AW.regs ?_
  refine oMov (eS rfl (eS rfl eZ)) ?_
  refine oLenD eZ (n := a1.length) (List.length_map _) ?_
  refine oMov eZ ?_
  refine xNil ?_
  refine TQ.qn ?_
  refine AW.seq ?_
  refine AW.regs ?_
  refine oMov eZ ?_
  refine oMov eC ?_
  refine oMov (eS rfl eZ) ?_
  refine xNil ?_
  refine TQ.qn ?_
  refine AW.seqJ (fun t3 : Int => (slices_BinarySearchFunc_Cell_int__cellFor_1_j3 a1 a2) t3 = some r) (fun t3 => mk [(0, (.one (.d (.sl 2 (List.map d_TCell a1))))), (1, (.one (.d (.int .i64 a2)))), (2, (.one (.fn k_impl_cellFor_1 []))), (8, (.one (.d (.int .i64 (a1.length : Int))))), (9, (.one (.d (.int .i64 t3))))] [] noG) ?_ ?_
  · intro t3 H
    unfold slices_BinarySearchFunc_Cell_int__cellFor_1_j3 at H
    refine AW.seq ?_
    refine AW.regs ?_
    refine oMov (eS rfl (eS rfl (eS rfl (eS rfl eZ)))) ?_
    refine oMov (eS rfl (eS rfl (eS rfl (eS rfl (eS rfl eZ))))) ?_
    refine oMov (eS rfl (eS rfl (eS rfl (eS rfl (eS rfl eZ))))) ?_
    refine oLss (eS rfl eZ) eZ ?_
    refine oMov eZ ?_
    rcases oite H with ⟨h5, H⟩ | ⟨h5, H⟩
    · refine gDo eZ (decide_eq_true h5) ?_
      refine oMov (eS rfl (eS rfl (eS rfl (eS rfl (eS rfl (eS rfl (eS rfl eZ))))))) ?_
      refine gDo (eS rfl eZ) (decide_eq_true h5) ?_
      refine oMov (eS rfl (eS rfl (eS rfl (eS rfl (eS rfl (eS rfl eZ)))))) ?_
      refine gDo (eS rfl (eS rfl eZ)) (decide_eq_true h5) ?_
      refine oMov (eS rfl (eS rfl (eS rfl (eS rfl (eS rfl (eS rfl (eS rfl (eS rfl (eS rfl (eS rfl (eS rfl eZ))))))))))) ?_
      refine gDo (eS rfl (eS rfl (eS rfl eZ))) (decide_eq_true h5) ?_
      obtain ⟨v6, h7, H⟩ := obind H
      refine oAtD (eS rfl eZ) eZ h7 ?_
      refine gDo (eS rfl (eS rfl (eS rfl (eS rfl eZ)))) (decide_eq_true h5) ?_
      refine oLoadBA (es := [(.d (.int .i64 v6.Key)), (.d (.int .i64 v6.Value))]) eZ rfl ?_
      refine gDo (eS rfl (eS rfl (eS rfl (eS rfl (eS rfl eZ))))) (decide_eq_true h5) ?_
      refine oMov (eS rfl (eS rfl (eS rfl (eS rfl (eS rfl (eS rfl (eS rfl (eS rfl (eS rfl (eS rfl (eS rfl eZ))))))))))) ?_
      refine gDo (eS rfl (eS rfl (eS rfl (eS rfl (eS rfl (eS rfl eZ)))))) (decide_eq_true h5) ?_
      obtain ⟨v8, h9, H⟩ := obind H
      refine oCall (u := (.one (.d (.int .i64 v8)))) (eS rfl (eS rfl (eS rfl (eS rfl (eS rfl eZ))))) Cl.fn (c_impl_cellFor_1 h9) (Evs.cons (eS rfl eZ) (Evs.cons eZ Evs.nil)) (VDs.cons (VD.agg rfl) (VDs.cons VD.plain VDs.nil)) rfl ?_
      refine gDo (eS rfl (eS rfl (eS rfl (eS rfl (eS rfl (eS rfl (eS rfl eZ))))))) (decide_eq_true h5) ?_
      refine oEql eZ eC ?_
      refine oPickT (eS rfl (eS rfl (eS rfl (eS rfl (eS rfl (eS rfl (eS rfl (eS rfl eZ)))))))) (decide_eq_true h5) eZ ?_
      refine oMov (eS rfl (eS rfl (eS rfl (eS rfl (eS rfl (eS rfl (eS rfl (eS rfl (eS rfl (eS rfl (eS rfl (eS rfl (eS rfl eZ))))))))))))) ?_
      refine oMov (eS rfl eZ) ?_
      refine xNil ?_
      refine TQ.qn ?_
      refine AW.weaken (wk_mk [] (SL.cons (k := 7) eZ rfl VWk.rfl (SL.cons (k := 6) (eS rfl eZ) rfl VWk.rfl SL.nil)) BL.nil BK.nil) ?_
      refine AW.ret ?_
      obtain rfl := Option.some.inj H
      exact endsR (RL.cons (RV.tmp (eS rfl eZ)) (VO.flat rfl) (RL.cons (RV.tmp eZ) (VO.flat rfl) RL.nil)) List.nodup_nil
    · refine gSkip eZ (decide_eq_false h5) rfl ?_
      refine gSkip (eS rfl eZ) (decide_eq_false h5) rfl ?_
      refine gSkip (eS rfl (eS rfl eZ)) (decide_eq_false h5) rfl ?_
      refine gSkip (eS rfl (eS rfl (eS rfl eZ))) (decide_eq_false h5) rfl ?_
      refine gSkip (eS rfl (eS rfl (eS rfl (eS rfl eZ)))) (decide_eq_false h5) rfl ?_
      refine gSkip (eS rfl (eS rfl (eS rfl (eS rfl (eS rfl eZ))))) (decide_eq_false h5) rfl ?_
      refine gSkip (eS rfl (eS rfl (eS rfl (eS rfl (eS rfl (eS rfl eZ)))))) (decide_eq_false h5) rfl ?_
      refine gSkip (eS rfl (eS rfl (eS rfl (eS rfl (eS rfl (eS rfl (eS rfl eZ))))))) (decide_eq_false h5) rfl ?_
      refine oPickF (eS rfl (eS rfl (eS rfl (eS rfl (eS rfl (eS rfl (eS rfl (eS rfl eZ)))))))) (decide_eq_false h5) eC ?_
      refine oMov (eS rfl (eS rfl (eS rfl (eS rfl (eS rfl (eS rfl (eS rfl (eS rfl (eS rfl (eS rfl (eS rfl (eS rfl (eS rfl eZ))))))))))))) ?_
      refine oMov (eS rfl eZ) ?_
      refine xNil ?_
      refine TQ.qn ?_
      refine AW.weaken (wk_mk [] (SL.cons (k := 7) eZ rfl VWk.rfl (SL.cons (k := 6) (eS rfl eZ) rfl VWk.rfl SL.nil)) BL.nil BK.nil) ?_
      refine AW.ret ?_
      obtain rfl := Option.some.inj H
      exact endsR (RL.cons (RV.tmp (eS rfl eZ)) (VO.flat rfl) (RL.cons (RV.tmp eZ) (VO.flat rfl) RL.nil)) List.nodup_nil
  · refine AW.block ?_
    refine AW.iter (fun s10 : (Int × Int) => mk [(0, (.one (.d (.sl 2 (List.map d_TCell a1))))), (1, (.one (.d (.int .i64 a2)))), (2, (.one (.fn k_impl_cellFor_1 []))), (8, (.one (.d (.int .i64 (a1.length : Int))))), (9, (.one (.d (.int .i64 s10.1)))), (10, (.one (.d (.int .i64 s10.2))))] [] noG) H (wk_mk [] (SL.cons (eS rfl (eS rfl (eS rfl (eS rfl (eS rfl (eS rfl (eS rfl (eS rfl eZ)))))))) rfl VWk.rfl (SL.cons (eS rfl (eS rfl (eS rfl (eS rfl (eS rfl (eS rfl (eS rfl (eS rfl (eS rfl eZ))))))))) rfl VWk.rfl (SL.cons (eS rfl (eS rfl (eS rfl (eS rfl (eS rfl (eS rfl (eS rfl (eS rfl (eS rfl (eS rfl eZ)))))))))) rfl VWk.rfl (SL.cons (eS rfl (eS rfl (eS rfl eZ))) rfl VWk.rfl (SL.cons (eS rfl eZ) rfl VWk.rfl (SL.cons eZ rfl VWk.rfl SL.nil)))))) BL.nil BK.nil) ?_
    intro kb11 s10 H
    unfold slices_BinarySearchFunc_Cell_int__cellFor_1_b10 at H
    refine AW.seq ?_
    refine AW.seq ?_
    refine AW.regs ?_
    refine oMov (eS rfl (eS rfl (eS rfl (eS rfl eZ)))) ?_
    refine oMov (eS rfl (eS rfl (eS rfl (eS rfl (eS rfl (eS rfl eZ)))))) ?_
    refine oLss (eS rfl eZ) eZ ?_
    refine xNil ?_
    refine TQ.qn ?_
    rcases oite H with ⟨h12, H⟩ | ⟨h12, H⟩
    · refine AW.condT eZ (decide_eq_true h12) ?_
      refine AW.skip ?_
      refine TQ.qn ?_
      refine AW.block ?_
      refine AW.seq ?_
      refine AW.regs ?_
      refine oMov (eS rfl (eS rfl (eS rfl (eS rfl (eS rfl (eS rfl (eS rfl eZ))))))) ?_
      refine oMov (eS rfl (eS rfl (eS rfl (eS rfl (eS rfl (eS rfl (eS rfl (eS rfl (eS rfl eZ))))))))) ?_
      refine oAdd (eS rfl eZ) eZ ?_
      refine oConv eZ ?_
      refine oShr eZ eC (by decide) ?_
      refine oConv eZ ?_
      refine oMov eZ ?_
      refine xNil ?_
      refine TQ.qn ?_
      refine AW.weaken (wk_mk [] (SL.cons (k := 11) eZ rfl VWk.rfl (SL.cons (k := 0) (eS rfl (eS rfl (eS rfl (eS rfl (eS rfl (eS rfl (eS rfl (eS rfl (eS rfl (eS rfl eZ)))))))))) rfl VWk.rfl (SL.cons (k := 1) (eS rfl (eS rfl (eS rfl (eS rfl (eS rfl (eS rfl (eS rfl (eS rfl (eS rfl (eS rfl (eS rfl eZ))))))))))) rfl VWk.rfl (SL.cons (k := 2) (eS rfl (eS rfl (eS rfl (eS rfl (eS rfl (eS rfl (eS rfl (eS rfl (eS rfl (eS rfl (eS rfl (eS rfl eZ)))))))))))) rfl VWk.rfl (SL.cons (k := 8) (eS rfl (eS rfl (eS rfl (eS rfl (eS rfl (eS rfl (eS rfl (eS rfl (eS rfl (eS rfl (eS rfl (eS rfl (eS rfl eZ))))))))))))) rfl VWk.rfl (SL.cons (k := 9) (eS rfl (eS rfl (eS rfl (eS rfl (eS rfl (eS rfl (eS rfl (eS rfl (eS rfl (eS rfl (eS rfl (eS rfl (eS rfl (eS rfl eZ)))))))))))))) rfl VWk.rfl (SL.cons (k := 10) (eS rfl (eS rfl (eS rfl (eS rfl (eS rfl (eS rfl (eS rfl (eS rfl (eS rfl (eS rfl (eS rfl (eS rfl (eS rfl (eS rfl (eS rfl eZ))))))))))))))) rfl VWk.rfl SL.nil))))))) BL.nil BK.nil) ?_
      refine AW.seq ?_
      refine AW.regs ?_
      refine oMov (eS rfl (eS rfl (eS rfl eZ))) ?_
      refine oMov (eS rfl (eS rfl eZ)) ?_
      refine oMov (eS rfl (eS rfl eZ)) ?_
      obtain ⟨v13, h14, H⟩ := obind H
      refine oAtD (eS rfl eZ) eZ h14 ?_
      refine oLoadBA (es := [(.d (.int .i64 v13.Key)), (.d (.int .i64 v13.Value))]) eZ rfl ?_
      refine oMov (eS rfl (eS rfl (eS rfl (eS rfl (eS rfl (eS rfl (eS rfl eZ))))))) ?_
      obtain ⟨v15, h16, H⟩ := obind H
      refine oCall (u := (.one (.d (.int .i64 v15)))) (eS rfl (eS rfl (eS rfl (eS rfl (eS rfl eZ))))) Cl.fn (c_impl_cellFor_1 h16) (Evs.cons (eS rfl eZ) (Evs.cons eZ Evs.nil)) (VDs.cons (VD.agg rfl) (VDs.cons VD.plain VDs.nil)) rfl ?_
      refine oLss eZ eC ?_
      refine xNil ?_
      refine TQ.qn ?_
      rcases oite H with ⟨h17, H⟩ | ⟨h17, H⟩
      · refine AW.condT eZ (decide_eq_true h17) ?_
        refine AW.regs ?_
        refine oMov (eS rfl (eS rfl (eS rfl (eS rfl (eS rfl (eS rfl (eS rfl (eS rfl eZ)))))))) ?_
        refine oAdd eZ eC ?_
        refine oMov eZ ?_
        refine xNil ?_
        refine BQ.qn ?_
        exact TQ.qn ⟨((IntKind.wrap .i64 ((IntKind.wrap .i64 (Int.fdiv (IntKind.wrap .u64 (IntKind.wrap .i64 (s10.1 + s10.2))) (2 ^ (min (Int.toNat 1) (IntKind.bits .u64))))) + 1)), s10.2), H, (wk_mk [] (SL.cons (eS rfl (eS rfl (eS rfl (eS rfl (eS rfl (eS rfl (eS rfl (eS rfl (eS rfl (eS rfl (eS rfl (eS rfl eZ)))))))))))) rfl VWk.rfl (SL.cons (eS rfl (eS rfl (eS rfl (eS rfl (eS rfl (eS rfl (eS rfl (eS rfl (eS rfl (eS rfl (eS rfl (eS rfl (eS rfl eZ))))))))))))) rfl VWk.rfl (SL.cons (eS rfl (eS rfl (eS rfl (eS rfl (eS rfl (eS rfl (eS rfl (eS rfl (eS rfl (eS rfl (eS rfl (eS rfl (eS rfl (eS rfl eZ)))))))))))))) rfl VWk.rfl (SL.cons (eS rfl (eS rfl (eS rfl (eS rfl (eS rfl (eS rfl (eS rfl (eS rfl (eS rfl (eS rfl (eS rfl (eS rfl (eS rfl (eS rfl (eS rfl eZ))))))))))))))) rfl VWk.rfl (SL.cons eZ rfl VWk.rfl (SL.cons (eS rfl (eS rfl (eS rfl (eS rfl (eS rfl (eS rfl (eS rfl (eS rfl (eS rfl (eS rfl (eS rfl (eS rfl (eS rfl (eS rfl (eS rfl (eS rfl (eS rfl eZ))))))))))))))))) rfl VWk.rfl SL.nil)))))) BL.nil BK.nil)⟩
      · refine AW.condF eZ (decide_eq_false h17) ?_
        refine AW.regs ?_
        refine oMov (eS rfl (eS rfl (eS rfl (eS rfl (eS rfl (eS rfl (eS rfl (eS rfl eZ)))))))) ?_
        refine oMov eZ ?_
        refine xNil ?_
        refine BQ.qn ?_
        exact TQ.qn ⟨(s10.1, (IntKind.wrap .i64 (Int.fdiv (IntKind.wrap .u64 (IntKind.wrap .i64 (s10.1 + s10.2))) (2 ^ (min (Int.toNat 1) (IntKind.bits .u64)))))), H, (wk_mk [] (SL.cons (eS rfl (eS rfl (eS rfl (eS rfl (eS rfl (eS rfl (eS rfl (eS rfl (eS rfl (eS rfl (eS rfl eZ))))))))))) rfl VWk.rfl (SL.cons (eS rfl (eS rfl (eS rfl (eS rfl (eS rfl (eS rfl (eS rfl (eS rfl (eS rfl (eS rfl (eS rfl (eS rfl eZ)))))))))))) rfl VWk.rfl (SL.cons (eS rfl (eS rfl (eS rfl (eS rfl (eS rfl (eS rfl (eS rfl (eS rfl (eS rfl (eS rfl (eS rfl (eS rfl (eS rfl eZ))))))))))))) rfl VWk.rfl (SL.cons (eS rfl (eS rfl (eS rfl (eS rfl (eS rfl (eS rfl (eS rfl (eS rfl (eS rfl (eS rfl (eS rfl (eS rfl (eS rfl (eS rfl eZ)))))))))))))) rfl VWk.rfl (SL.cons (eS rfl (eS rfl (eS rfl (eS rfl (eS rfl (eS rfl (eS rfl (eS rfl (eS rfl (eS rfl (eS rfl (eS rfl (eS rfl (eS rfl (eS rfl eZ))))))))))))))) rfl VWk.rfl (SL.cons eZ rfl VWk.rfl SL.nil)))))) BL.nil BK.nil)⟩
    · refine AW.condF eZ (decide_eq_false h12) ?_
      refine AW.exit ?_
      refine TQ.qe ?_
      refine TQ.qe ?_
      refine BQ.qe ?_
      exact TQ.qn ⟨s10.1, H, (wk_mk [] (SL.cons (eS rfl (eS rfl (eS rfl eZ))) rfl VWk.rfl (SL.cons (eS rfl (eS rfl (eS rfl (eS rfl eZ)))) rfl VWk.rfl (SL.cons (eS rfl (eS rfl (eS rfl (eS rfl (eS rfl eZ))))) rfl VWk.rfl (SL.cons (eS rfl (eS rfl (eS rfl (eS rfl (eS rfl (eS rfl eZ)))))) rfl VWk.rfl (SL.cons (eS rfl (eS rfl (eS rfl (eS rfl (eS rfl (eS rfl (eS rfl eZ))))))) rfl VWk.rfl SL.nil))))) BL.nil BK.nil)⟩

theorem c_impl_cellFor {a1 : (List TCell)} {a2 : Int} {r : (Int × Bool)} (H : m_impl_cellFor a1 a2 = some r) : Fn Try.prog k_impl_cellFor (lent [(.sl 2 (List.map d_TCell a1)), (.int .i64 a2)]) true [(.int .i64 r.1), (.bool r.2)] := by
  refine i_impl_cellFor_fn (Nat.le_of_ble_eq_true rfl) ?_
  rw [init_mk]
  refine AW.weaken (wk_mk [] (SL.cons (v := (.one (.d (.sl 2 (List.map d_TCell a1))))) eZ rfl VWk.rfl (SL.cons (v := (.one (.d (.int .i64 a2)))) (eS rfl eZ) rfl VWk.rfl SL.nil)) BL.nil BK.nil) ?_
  unfold m_impl_cellFor at H
  unfold i_impl_cellFor
  refine AW.seq ?_
  refine AW.regs ?_
  refine oMov eC ?_
  refine oMov eC ?_
  refine xNil ?_
  refine TQ.qn ?_
  refine AW.seq ?_
  refine AW.regs ?_
  refine oMov (eS rfl (eS rfl eZ)) ?_
  refine oMov (eS rfl (eS rfl (eS rfl (eS rfl eZ)))) ?_
  obtain ⟨v3, h4, H⟩ := obind H
  refine oCall (u := (.tup [(.one (.d (.int .i64 v3.1))), (.one (.d (.bool v3.2)))])) eC Cl.fn (c_slices_BinarySearchFunc_Cell_int__cellFor_1 h4) (Evs.cons (eS rfl eZ) (Evs.cons eZ (Evs.cons eC Evs.nil))) (VDs.cons VD.plain (VDs.cons VD.plain (VDs.cons (VD.fn PDs.nil) VDs.nil))) rfl ?_
  refine oExt (v := (.one (.d (.int .i64 v3.1)))) eZ rfl ?_
  refine oExt (v := (.one (.d (.bool v3.2)))) (eS rfl eZ) rfl ?_
  refine oMov (eS rfl eZ) ?_
  refine oMov (eS rfl eZ) ?_
  refine xNil ?_
  refine TQ.qn ?_
  refine AW.ret ?_
  obtain rfl := Option.some.inj H
  exact endsR (RL.cons (RV.tmp (eS rfl eZ)) (VO.flat rfl) (RL.cons (RV.tmp eZ) (VO.flat rfl) RL.nil)) List.nodup_nil

theorem c_slices_Delete_Cell {a1 : List TCell} {a2 a3 : Int} {r : List TCell} (H : m_slices_Delete_Cell a1 a2 a3 = some r) : Fn Try.prog k_slices_Delete___impl_Cell_impl_Cell_ [⟨(.sl 2 (List.map d_TCell a1)), .g⟩, ⟨(.int .i64 a2), .b⟩, ⟨(.int .i64 a3), .b⟩] true [(.sl 2 (List.map d_TCell r))] := by
  obtain ⟨⟨h1, h2, h3, h4⟩, H⟩ := oguard H
  obtain rfl := Option.some.inj H
  obtain ⟨i, rfl⟩ : ∃ i : Nat, a2 = (i : Int) := ⟨Int.toNat a2, by omega⟩
  obtain ⟨j, rfl⟩ : ∃ j : Nat, a3 = (j : Int) := ⟨Int.toNat a3, by omega⟩
  rw [Int.toNat_natCast, Int.toNat_natCast]
  refine i_slices_Delete___impl_Cell_impl_Cell__fnM (Nat.le_of_ble_eq_true rfl) (fC nZ rfl fN) rfl ?_
  rw [initM_mk]
  refine AW.weaken (t := mk [(0, .one (.sl 0 0 a1.length)), (1, .one (.d (.int .i64 (i : Int)))), (2, .one (.d (.int .i64 (j : Int))))] [(0, .data 2 (List.map d_TCell a1) true none)] (lk [])) (wk_mkG (gl := []) [] (SL.cons (v := (.one (.sl 0 0 a1.length))) eZ rfl (VWk.one (CWk.len (by simp))) (SL.cons (v := (.one (.d (.int .i64 (i : Int))))) (eS rfl eZ) rfl VWk.rfl (SL.cons (v := (.one (.d (.int .i64 (j : Int))))) (eS rfl (eS rfl eZ)) rfl VWk.rfl SL.nil))) (BL.keep rfl BL.nil) (BK.cons (n := 0) rfl bZ rfl rfl BK.nil) GK.nil) ?_
  exact delAW (f := d_TCell) (zv := (TCell.mk 0 0)) (sz := 2) (bytes := 16) (zs := [(.int .i64 0), (.int .i64 0)]) (fun _ => rfl) rfl rfl (by omega) (by omega) (by omega)

theorem c_slices_Insert_Cell {a1 : List TCell} {a2 : Int} {a3 r : List TCell} (H : m_slices_Insert_Cell a1 a2 a3 = some r) : Fn Try.prog k_slices_Insert___impl_Cell_impl_Cell_ [⟨(.sl 2 (List.map d_TCell a1)), .g⟩, ⟨(.int .i64 a2), .b⟩, ⟨(.sl 2 (List.map d_TCell a3)), .g⟩] true [(.sl 2 (List.map d_TCell r))] := by
  obtain ⟨⟨h1, h2, h3, h4⟩, H⟩ := oguard H
  obtain rfl := Option.some.inj H
  obtain ⟨i, rfl⟩ : ∃ i : Nat, a2 = (i : Int) := ⟨Int.toNat a2, by omega⟩
  obtain ⟨x, rfl⟩ := List.length_eq_one_iff.1 h3
  rw [Int.toNat_natCast]
  refine i_slices_Insert___impl_Cell_impl_Cell__fnM (Nat.le_of_ble_eq_true rfl) (fC nZ rfl (fC nZ rfl fN)) rfl ?_
  rw [initM_mk]
  refine AW.weaken (t := mk [(0, .one (.sl 0 0 a1.length)), (1, .one (.d (.int .i64 (i : Int)))), (2, .one (.sl 128 0 1))] [(128, .data 2 (List.map d_TCell [x]) true none), (0, .data 2 (List.map d_TCell a1) true none)] (lk [])) (wk_mkG (gl := []) [] (SL.cons (v := (.one (.sl 0 0 a1.length))) eZ rfl (VWk.one (CWk.len (by simp))) (SL.cons (v := (.one (.d (.int .i64 (i : Int))))) (eS rfl eZ) rfl VWk.rfl (SL.cons (v := (.one (.sl 128 0 1))) (eS rfl (eS rfl eZ)) rfl (VWk.one (CWk.len (by simp))) SL.nil))) (BL.keep rfl (BL.keep rfl BL.nil)) (BK.cons (n := 128) rfl bZ rfl rfl (BK.cons (n := 0) rfl (bS rfl bZ) rfl rfl BK.nil)) GK.nil) ?_
  exact insAW (f := d_TCell) (zv := (TCell.mk 0 0)) (sz := 2) (bytes := 16) (zs := [(.int .i64 0), (.int .i64 0)]) (ov := k_slices_overlaps_impl_Cell_) (sx := k_slices_rotateRight_impl_Cell_) (fun _ => rfl) rfl (by decide) (by decide) (by omega) (by omega) (ovlOk (fn := Try.f187) (tS := 26) (tR := 4) (e := 90) Try.func187 (by kernel_rfl) (by kernel_rfl) (by kernel_rfl) (by kernel_rfl) Try.underlying26 (Option.some_get (by kernel_rfl : (Try.prog.info? 90).isSome = true)).symm)

theorem c_impl_put {a1 : (List TCell)} {a2 : Int} {a3 : Int} {r : (List TCell)} (H : m_impl_put a1 a2 a3 = some r) : Fn Try.prog k_impl_put (lent [(.sl 2 (List.map d_TCell a1)), (.int .i64 a2), (.int .i64 a3)]) true [(.sl 2 (List.map d_TCell r))] := by
  refine i_impl_put_fn (Nat.le_of_ble_eq_true rfl) ?_
  rw [init_mk]
  refine AW.weaken (t := mk [(0, (.one (.d (.sl 2 (List.map d_TCell a1))))), (1, (.one (.d (.int .i64 a2)))), (2, (.one (.d (.int .i64 a3))))] [] (lk [])) (wk_mk [] (SL.cons (v := (.one (.d (.sl 2 (List.map d_TCell a1))))) eZ rfl VWk.rfl (SL.cons (v := (.one (.d (.int .i64 a2)))) (eS rfl eZ) rfl VWk.rfl (SL.cons (v := (.one (.d (.int .i64 a3)))) (eS rfl (eS rfl eZ)) rfl VWk.rfl SL.nil))) BL.nil BK.nil) ?_
  unfold m_impl_put at H
  unfold i_impl_put
  refine AW.seq ?_
  refine AW.regs ?_
  refine oMov eC ?_
  refine xNil ?_
  refine TQ.qn ?_
  refine AW.seq ?_
  refine AW.regs ?_
  refine oMov (eS rfl eZ) ?_
  refine oMov (eS rfl (eS rfl (eS rfl eZ))) ?_
  obtain ⟨v4, h5, H⟩ := obind H
  refine oCall (u := (.tup [(.one (.d (.int .i64 v4.1))), (.one (.d (.bool v4.2)))])) eC Cl.fn (c_impl_cellFor h5) (Evs.cons (eS rfl eZ) (Evs.cons eZ Evs.nil)) (VDs.cons VD.plain (VDs.cons VD.plain VDs.nil)) rfl ?_
  refine oMov eZ ?_
  refine oExt (v := (.one (.d (.int .i64 v4.1)))) eZ rfl ?_
  refine oExt (v := (.one (.d (.bool v4.2)))) (eS rfl eZ) rfl ?_
  refine oMov (eS rfl eZ) ?_
  refine oMov (eS rfl eZ) ?_
  refine xNil ?_
  refine TQ.qn ?_
  refine AW.seq ?_
  refine AW.block ?_
  refine AW.seqJ (fun t6 : Bool => (impl_put_j6 a1 v4 a3 a2) t6 = some r) (fun t6 => mk [(0, (.one (.d (.sl 2 (List.map d_TCell a1))))), (1, (.one (.d (.int .i64 a2)))), (2, (.one (.d (.int .i64 a3)))), (7, (.one (.d (.int .i64 v4.1)))), (8, (.one (.d (.bool v4.2)))), (16, (.one (.d (.bool t6))))] [] (lk [])) ?_ ?_
  · intro t6 H
    unfold impl_put_j6 at H
    rcases oite H with ⟨h8, H⟩ | ⟨h8, H⟩
    · refine AW.condT (eS rfl (eS rfl (eS rfl (eS rfl (eS rfl eZ))))) h8 ?_
      refine AW.seq ?_
      refine AW.regm ?_
      refine rmOne ?_
      refine oMov eZ ?_
      refine xNil ?_
      refine rmOne ?_
      obtain ⟨v9, h10, H⟩ := obind H
      refine oCallN (u := (.one (.sl 1472 0 v9.length))) (bs := [(1472, (.data 2 (List.map d_TCell v9) true none))]) eC Cl.fn (c_slices_Clone_Cell h10) (Evs.cons eZ Evs.nil) (VDs.cons VD.plain VDs.nil) (by simp [bindR, bindV, bindVs, bindC, bindCs]) rfl (fC nZ rfl (fC nZ rfl fN)) ?_
      refine xNil ?_
      refine rmOne ?_
      refine oMov (eS rfl (eS rfl (eS rfl (eS rfl (eS rfl eZ))))) ?_
      refine xNil ?_
      refine rmOne ?_
      refine oMov (eS rfl (eS rfl (eS rfl (eS rfl (eS rfl (eS rfl eZ)))))) ?_
      refine xNil ?_
      refine rmOne ?_
      refine oAdd eZ eC ?_
      refine xNil ?_
      obtain ⟨v11, h12, H⟩ := obind H
      refine rmCall (ON := [1472]) (ls := []) (G := [1472]) (E := [1472]) (MB := []) (u := (.one (.sl 1728 0 v11.length))) (bs := [(1728, (.data 2 (List.map d_TCell v11) true none))]) eC Cl.fn (c_slices_Delete_Cell h12) (Evs.cons (eS rfl (eS rfl (eS rfl eZ))) (Evs.cons (eS rfl (eS rfl eZ)) (Evs.cons eZ Evs.nil))) (AO.give (VO.sl bZ (List.length_map _) (allFlat fun _ => rfl)) (AO.lent VD.plain rfl (AO.lent VD.plain rfl AO.nil))) rfl rfl rfl SZ.nil (erL.cons (v' := (.one (.d (.int .i64 (IntKind.wrap .i64 (v4.1 + 1)))))) rfl (erL.cons (v' := (.one (.d (.int .i64 v4.1)))) rfl (erL.cons (v' := (.one (.d (.int .i64 v4.1)))) rfl (erL.cons (v' := (.one .any)) rfl (erL.cons (v' := (.one (.d (.sl 2 (List.map d_TCell a1))))) rfl (erL.cons (v' := (.one (.d (.sl 2 (List.map d_TCell a1))))) rfl (erL.cons (v' := (.one (.d (.int .i64 a2)))) rfl (erL.cons (v' := (.one (.d (.int .i64 a3)))) rfl (erL.cons (v' := (.one (.d (.int .i64 v4.1)))) rfl (erL.cons (v' := (.one (.d (.bool v4.2)))) rfl (erL.cons (v' := (.one (.d (.bool t6)))) rfl erL.nil))))))))))) (erH.drop rfl erH.nil) erL.nil (by simp [bindR, bindV, bindVs, bindC, bindCs]) rfl (fC nZ rfl (fC nZ rfl fN)) ?_
      refine rmRest ?_
      refine oMov eZ ?_
      refine xNil ?_
      refine TQ.qn ?_
      refine AW.ret ?_
      refine BQ.qr ?_
      refine TQ.qr ?_
      obtain rfl := Option.some.inj H
      exact endsR (RL.cons (RV.tmp eZ) (VO.sl bZ (List.length_map _) (allFlat fun _ => rfl)) RL.nil) (by decide)
    · refine AW.condF (eS rfl (eS rfl (eS rfl (eS rfl (eS rfl eZ))))) (nt h8) ?_
      refine AW.seq ?_
      refine AW.regs ?_
      refine oMov (eS rfl (eS rfl eZ)) ?_
      refine oEql eZ eC ?_
      refine oMov eZ ?_
      refine xNil ?_
      refine TQ.qn ?_
      rcases oite H with ⟨h13, H⟩ | ⟨h13, H⟩
      · refine AW.condT eZ (decide_eq_true h13) ?_
        refine AW.seq ?_
        refine AW.regs ?_
        refine oMov (eS rfl (eS rfl (eS rfl eZ))) ?_
        obtain ⟨v14, h15, H⟩ := obind H
        refine oCallN (u := (.one (.sl 2048 0 v14.length))) (bs := [(2048, (.data 2 (List.map d_TCell v14) true none))]) eC Cl.fn (c_slices_Clone_Cell h15) (Evs.cons eZ Evs.nil) (VDs.cons VD.plain VDs.nil) (by simp [bindR, bindV, bindVs, bindC, bindCs]) rfl (fC nZ rfl (fC nZ rfl fN)) ?_
        refine oMov eZ ?_
        refine xNil ?_
        refine TQ.qn ?_
        refine AW.ret ?_
        refine BQ.qr ?_
        refine TQ.qr ?_
        obtain rfl := Option.some.inj H
        exact endsR (RL.cons (RV.tmp eZ) (VO.sl bZ (List.length_map _) (allFlat fun _ => rfl)) RL.nil) (by decide)
      · refine AW.condF eZ (decide_eq_false h13) ?_
        refine AW.seq ?_
        refine AW.regs ?_
        refine oMov (eS rfl (eS rfl (eS rfl (eS rfl (eS rfl (eS rfl (eS rfl eZ))))))) ?_
        refine oMov eZ ?_
        refine xNil ?_
        refine TQ.qn ?_
        rcases oite H with ⟨h16, H⟩ | ⟨h16, H⟩
        · refine AW.condT eZ h16 ?_
          refine AW.seq ?_
          refine AW.regs ?_
          refine oMov (eS rfl (eS rfl (eS rfl (eS rfl (eS rfl eZ))))) ?_
          obtain ⟨v17, h18, H⟩ := obind H
          refine oCallN (u := (.one (.sl 2304 0 v17.length))) (bs := [(2304, (.data 2 (List.map d_TCell v17) true none))]) eC Cl.fn (c_slices_Clone_Cell h18) (Evs.cons eZ Evs.nil) (VDs.cons VD.plain VDs.nil) (by simp [bindR, bindV, bindVs, bindC, bindCs]) rfl (fC nZ rfl (fC nZ rfl fN)) ?_
          refine oMov eZ ?_
          refine xNil ?_
          refine TQ.qn ?_
          refine AW.seq ?_
          refine AW.regs ?_
          refine oMov eZ ?_
          refine oMov (eS rfl (eS rfl (eS rfl (eS rfl (eS rfl (eS rfl (eS rfl (eS rfl (eS rfl (eS rfl (eS rfl (eS rfl eZ)))))))))))) ?_
          refine oMov (eS rfl (eS rfl (eS rfl (eS rfl (eS rfl (eS rfl (eS rfl (eS rfl (eS rfl (eS rfl (eS rfl (eS rfl eZ)))))))))))) ?_
          obtain ⟨v19, h20, H⟩ := obind H
          refine oAtN (eS rfl (eS rfl eZ)) (eS rfl eZ) bZ rfl h20 ?_
          refine oFaddrN (m := 1) eZ rfl ?_
          refine oStoreD (t := v19) (t' := (TCell.mk v19.Key a3)) (es := [(.int .i64 a3)]) eZ (eS rfl (eS rfl eZ)) rfl rfl bZ (idx_at h20) rfl rfl ?_
          refine xNil ?_
          refine TQ.qn ?_
          refine AW.weaken (wk_mkG [] (SL.cons (k := 9) (eS rfl (eS rfl (eS rfl (eS rfl (eS rfl eZ))))) rfl VWk.rfl SL.nil) (BL.keep rfl (BL.keep rfl BL.nil)) (BK.cons (n := 2304) rfl bZ rfl rfl BK.nil) GK.nil) ?_
          refine AW.seq ?_
          refine AW.regs ?_
          refine oMov eZ ?_
          refine oMov eZ ?_
          refine xNil ?_
          refine TQ.qn ?_
          refine AW.ret ?_
          refine BQ.qr ?_
          refine TQ.qr ?_
          obtain rfl := Option.some.inj H
          exact endsR (RL.cons (RV.tmp eZ) (VO.sl bZ (by first | (simp; done) | (simp; omega) | omega) (allFlat fun _ => rfl)) RL.nil) (by decide)
        · refine AW.condF eZ (nt h16) ?_
          refine AW.skip ?_
          refine BQ.qn ?_
          refine TQ.qn ?_
          refine AW.seq ?_
          refine AW.regm ?_
          refine rmOne ?_
          refine oMov (eS rfl (eS rfl (eS rfl (eS rfl (eS rfl eZ))))) ?_
          refine xNil ?_
          refine rmOne ?_
          obtain ⟨v21, h22, H⟩ := obind H
          refine oCallN (u := (.one (.sl 2816 0 v21.length))) (bs := [(2816, (.data 2 (List.map d_TCell v21) true none))]) eC Cl.fn (c_slices_Clone_Cell h22) (Evs.cons eZ Evs.nil) (VDs.cons VD.plain VDs.nil) (by simp [bindR, bindV, bindVs, bindC, bindCs]) rfl (fC nZ rfl (fC nZ rfl fN)) ?_
          refine xNil ?_
          refine rmOne ?_
          refine oMov (eS rfl (eS rfl (eS rfl (eS rfl (eS rfl (eS rfl (eS rfl (eS rfl (eS rfl (eS rfl eZ)))))))))) ?_
          refine xNil ?_
          refine rmOne ?_
          refine oMov (eS rfl (eS rfl (eS rfl (eS rfl (eS rfl (eS rfl (eS rfl (eS rfl (eS rfl eZ))))))))) ?_
          refine xNil ?_
          refine rmOne ?_
          refine oMov (eS rfl (eS rfl (eS rfl (eS rfl (eS rfl (eS rfl (eS rfl (eS rfl (eS rfl (eS rfl (eS rfl eZ))))))))))) ?_
          refine xNil ?_
          refine rmOne ?_
          refine oBuild (cs := [(.d (.int .i64 a2)), (.d (.int .i64 a3))]) (PsCons (eS rfl eZ) (PsCons eZ PsNil)) rfl ?_
          refine xNil ?_
          refine rmOne ?_
          refine oBslice (m := 3136) (q := 1) (cs := [(.d (.int .i64 a2)), (.d (.int .i64 a3))]) rfl (PsCons eZ PsNil) rfl (List.cons_ne_nil _ _) (by simp) (nS rfl nZ) ?_
          refine xNil ?_
          obtain ⟨v23, h24, H⟩ := obind H
          refine rmWeaken (wk_dataF 3136 (zs := []) (f := d_TCell) (t := (TCell.mk a2 a3)) bZ rfl rfl) ?_
          refine rmCall (ON := [2816, 3136]) (ls := []) (G := [2816, 3136]) (E := [2816, 3136]) (MB := []) (u := (.one (.sl 3200 0 v23.length))) (bs := [(3200, (.data 2 (List.map d_TCell v23) true none))]) eC Cl.fn (c_slices_Insert_Cell h24) (Evs.cons (eS rfl (eS rfl (eS rfl (eS rfl (eS rfl eZ))))) (Evs.cons (eS rfl (eS rfl (eS rfl (eS rfl eZ)))) (Evs.cons eZ Evs.nil))) (AO.give (VO.sl (bS rfl (bS rfl bZ)) (List.length_map _) (allFlat fun _ => rfl)) (AO.lent VD.plain rfl (AO.give (VO.sl bZ rfl (allFlat fun _ => rfl)) AO.nil))) rfl rfl rfl SZ.nil (erL.cons (v' := (.one .any)) rfl (erL.cons (v' := (.agg [(.d (.int .i64 a2)), (.d (.int .i64 a3))])) rfl (erL.cons (v' := (.one (.d (.int .i64 a3)))) rfl (erL.cons (v' := (.one (.d (.int .i64 a2)))) rfl (erL.cons (v' := (.one (.d (.int .i64 v4.1)))) rfl (erL.cons (v' := (.one .any)) rfl (erL.cons (v' := (.one (.d (.sl 2 (List.map d_TCell a1))))) rfl (erL.cons (v' := (.one (.d (.bool v4.2)))) rfl (erL.cons (v' := (.one (.d (.bool v4.2)))) rfl (erL.cons (v' := (.one (.d (.bool (decide (a3 = (-1))))))) rfl (erL.cons (v' := (.one (.d (.bool (decide (a3 = (-1))))))) rfl (erL.cons (v' := (.one (.d (.int .i64 a3)))) rfl (erL.cons (v' := (.one (.d (.sl 2 (List.map d_TCell a1))))) rfl (erL.cons (v' := (.one (.d (.int .i64 a2)))) rfl (erL.cons (v' := (.one (.d (.int .i64 a3)))) rfl (erL.cons (v' := (.one (.d (.int .i64 v4.1)))) rfl (erL.cons (v' := (.one (.d (.bool v4.2)))) rfl (erL.cons (v' := (.one (.d (.bool t6)))) rfl erL.nil)))))))))))))))))) (erH.drop rfl (erH.drop rfl (erH.drop rfl erH.nil))) erL.nil (by simp [bindR, bindV, bindVs, bindC, bindCs]) rfl (fC nZ rfl (fC nZ rfl fN)) ?_
          refine rmRest ?_
          refine oMov eZ ?_
          refine xNil ?_
          refine TQ.qn ?_
          refine AW.weaken (wk_mkG [] (SL.cons (k := 6) eZ rfl VWk.rfl SL.nil) (BL.keep rfl BL.nil) (BK.cons (n := 3200) rfl bZ rfl rfl BK.nil) GK.nil) ?_
          refine AW.ret ?_
          obtain rfl := Option.some.inj H
          exact endsR (RL.cons (RV.tmp eZ) (VO.sl bZ (List.length_map _) (allFlat fun _ => rfl)) RL.nil) (by decide)
  · refine AW.regs ?_
    refine oMov (eS rfl (eS rfl (eS rfl (eS rfl (eS rfl (eS rfl (eS rfl (eS rfl (eS rfl (eS rfl (eS rfl eZ))))))))))) ?_
    refine oEql eZ eC ?_
    refine oMov eZ ?_
    rcases oite H with ⟨h25, H⟩ | ⟨h25, H⟩
    · refine gDo eZ (decide_eq_true h25) ?_
      refine oMov (eS rfl (eS rfl (eS rfl eZ))) ?_
      refine oPickT (eS rfl eZ) (decide_eq_true h25) eZ ?_
      refine oMov eZ ?_
      refine xNil ?_
      exact TQ.qn ⟨v4.2, H, (wk_mkG [] (SL.cons (eS rfl (eS rfl (eS rfl (eS rfl (eS rfl (eS rfl (eS rfl (eS rfl (eS rfl (eS rfl (eS rfl (eS rfl (eS rfl (eS rfl (eS rfl eZ))))))))))))))) rfl VWk.rfl (SL.cons (eS rfl (eS rfl (eS rfl (eS rfl (eS rfl (eS rfl (eS rfl (eS rfl (eS rfl (eS rfl (eS rfl (eS rfl (eS rfl (eS rfl (eS rfl (eS rfl eZ)))))))))))))))) rfl VWk.rfl (SL.cons (eS rfl (eS rfl (eS rfl (eS rfl (eS rfl (eS rfl (eS rfl (eS rfl (eS rfl (eS rfl (eS rfl (eS rfl (eS rfl (eS rfl (eS rfl (eS rfl (eS rfl eZ))))))))))))))))) rfl VWk.rfl (SL.cons (eS rfl (eS rfl (eS rfl (eS rfl (eS rfl (eS rfl (eS rfl eZ))))))) rfl VWk.rfl (SL.cons (eS rfl (eS rfl (eS rfl (eS rfl (eS rfl (eS rfl eZ)))))) rfl VWk.rfl (SL.cons eZ rfl VWk.rfl SL.nil)))))) BL.nil BK.nil GK.nil)⟩
    · refine gSkip eZ (decide_eq_false h25) rfl ?_
      refine oPickF (eS rfl eZ) (decide_eq_false h25) eC ?_
      refine oMov eZ ?_
      refine xNil ?_
      exact TQ.qn ⟨false, H, (wk_mkG [] (SL.cons (eS rfl (eS rfl (eS rfl (eS rfl (eS rfl (eS rfl (eS rfl (eS rfl (eS rfl (eS rfl (eS rfl (eS rfl (eS rfl (eS rfl (eS rfl eZ))))))))))))))) rfl VWk.rfl (SL.cons (eS rfl (eS rfl (eS rfl (eS rfl (eS rfl (eS rfl (eS rfl (eS rfl (eS rfl (eS rfl (eS rfl (eS rfl (eS rfl (eS rfl (eS rfl (eS rfl eZ)))))))))))))))) rfl VWk.rfl (SL.cons (eS rfl (eS rfl (eS rfl (eS rfl (eS rfl (eS rfl (eS rfl (eS rfl (eS rfl (eS rfl (eS rfl (eS rfl (eS rfl (eS rfl (eS rfl (eS rfl (eS rfl eZ))))))))))))))))) rfl VWk.rfl (SL.cons (eS rfl (eS rfl (eS rfl (eS rfl (eS rfl (eS rfl (eS rfl eZ))))))) rfl VWk.rfl (SL.cons (eS rfl (eS rfl (eS rfl (eS rfl (eS rfl (eS rfl eZ)))))) rfl VWk.rfl (SL.cons eZ rfl VWk.rfl SL.nil)))))) BL.nil BK.nil GK.nil)⟩

theorem c_impl_written {a1 : (List TCell)} {a2 : (List TCell)} {r : (List TCell)} (H : m_impl_written a1 a2 = some r) : Fn Try.prog k_impl_written [⟨(.sl 2 (List.map d_TCell a1)), .g⟩, ⟨(.sl 2 (List.map d_TCell a2)), .b⟩] true [(.sl 2 (List.map d_TCell r))] := by
  refine i_impl_written_fnM (Nat.le_of_ble_eq_true rfl) (fC nZ rfl fN) rfl ?_
  rw [initM_mk]
  refine AW.weaken (t := mk [(0, (.one (.sl 0 0 a1.length))), (1, (.one (.d (.sl 2 (List.map d_TCell a2)))))] [(0, (.data 2 (List.map d_TCell a1) true none))] (lk [])) (wk_mkG (gl := []) [] (SL.cons (v := (.one (.sl 0 0 a1.length))) eZ rfl (VWk.one (CWk.len (List.length_map _))) (SL.cons (v := (.one (.d (.sl 2 (List.map d_TCell a2))))) (eS rfl eZ) rfl VWk.rfl SL.nil)) (BL.keep rfl BL.nil) (BK.cons (n := 0) rfl bZ rfl rfl BK.nil) GK.nil) ?_
  unfold m_impl_written at H
  unfold i_impl_written
  refine AW.seq ?_
  refine AW.regs ?_
  refine oMov eC ?_
  refine xNil ?_
  refine TQ.qn ?_
  refine AW.seqJ (fun t3 : (List TCell) => impl_written_j3 t3 = some r) (fun t3 => mk [(0, (.one (.sl 320128 0 t3.length)))] [(320128, (.data 2 (List.map d_TCell t3) true none))] (lk [])) ?_ ?_
  · intro t3 H
    unfold impl_written_j3 at H
    refine AW.seq ?_
    refine AW.regs ?_
    refine oMov eZ ?_
    refine oMov eZ ?_
    refine xNil ?_
    refine TQ.qn ?_
    refine AW.ret ?_
    obtain rfl := Option.some.inj H
    exact endsRM (RL.cons (RV.tmp eZ) (VO.sl bZ (List.length_map _) (allFlat fun _ => rfl)) RL.nil) (ML.give (ML.lent ML.nil)) (by decide)
  · refine AW.seq ?_
    refine AW.regs ?_
    refine oMov (eS rfl (eS rfl eZ)) ?_
    refine oLenD eZ (n := a2.length) (List.length_map _) ?_
    refine oMov eC ?_
    refine xNil ?_
    refine TQ.qn ?_
    refine AW.block ?_
    refine AW.iter (fun s5 : ((List TCell) × Int) => mk [(0, (.one (.sl 320192 0 s5.1.length))), (7, (.one (.d (.sl 2 (List.map d_TCell a2))))), (8, (.one (.d (.int .i64 (a2.length : Int))))), (9, (.one (.d (.int .i64 s5.2))))] [(320192, (.data 2 (List.map d_TCell s5.1) true none))] (lk [])) H ((wk_mkG [] (SL.cons (eS rfl (eS rfl (eS rfl (eS rfl eZ)))) rfl VWk.rfl (SL.cons (eS rfl (eS rfl eZ)) rfl VWk.rfl (SL.cons (eS rfl eZ) rfl VWk.rfl (SL.cons eZ rfl VWk.rfl SL.nil)))) (BL.keep rfl BL.nil) (BK.cons rfl bZ rfl rfl BK.nil) GK.nil).trans (wk_renG 0 320192 rfl rfl (nS rfl nZ) GR.nil)) ?_
    intro kb6 s5 H
    unfold impl_written_b5 at H
    refine AW.seq ?_
    refine AW.regs ?_
    refine oLss (eS rfl (eS rfl (eS rfl eZ))) (eS rfl (eS rfl eZ)) ?_
    refine xNil ?_
    refine TQ.qn ?_
    refine AW.seq ?_
    rcases oite H with ⟨h7, H⟩ | ⟨h7, H⟩
    · refine AW.condT eZ (decide_eq_true h7) ?_
      refine AW.skip ?_
      refine TQ.qn ?_
      refine AW.seq ?_
      refine AW.block ?_
      refine AW.seq ?_
      refine AW.regs ?_
      obtain ⟨v8, h9, H⟩ := obind H
      refine oAtD (eS rfl (eS rfl eZ)) (eS rfl (eS rfl (eS rfl (eS rfl eZ)))) h9 ?_
      refine oLoadBA (es := [(.d (.int .i64 v8.Key)), (.d (.int .i64 v8.Value))]) eZ rfl ?_
      refine oVar (n := 384) (m := 2) rfl rfl (nS rfl nZ) ?_
      refine oStoreV (es := [(.d (.int .i64 v8.Key)), (.d (.int .i64 v8.Value))]) eZ (eS rfl eZ) rfl rfl bZ rfl ?_
      refine xNil ?_
      refine TQ.qn ?_
      refine AW.regs ?_
      refine oMov (eS rfl (eS rfl (eS rfl (eS rfl eZ)))) ?_
      refine oFaddrN (m := 0) (eS rfl eZ) rfl ?_
      refine oLoadV (q := 0) (c := (.d (.int .i64 v8.Key))) eZ bZ rfl rfl ?_
      refine oFaddrN (m := 1) (eS rfl (eS rfl (eS rfl eZ))) rfl ?_
      refine oLoadV (q := 1) (c := (.d (.int .i64 v8.Value))) eZ bZ rfl rfl ?_
      obtain ⟨v10, h11, H⟩ := obind H
      refine oCallN (u := (.one (.sl 1152 0 v10.length))) (bs := [(1152, (.data 2 (List.map d_TCell v10) true none))]) eC Cl.fn (c_impl_put h11) (Evs.cons (eS rfl (eS rfl (eS rfl (eS rfl eZ)))) (Evs.cons (eS rfl (eS rfl eZ)) (Evs.cons eZ Evs.nil))) (VDs.cons (VD.sl (bS rfl (bS rfl bZ)) (List.length_map _)) (VDs.cons VD.plain (VDs.cons VD.plain VDs.nil))) (by simp [bindR, bindV, bindVs, bindC, bindCs]) rfl (fC (nS rfl (nS rfl (nS rfl nZ))) rfl (fC (nS rfl (nS rfl (nS rfl nZ))) rfl fN)) ?_
      refine oMov eZ ?_
      refine xNil ?_
      refine BQ.qn ?_
      refine TQ.qn ?_
      refine AW.regs ?_
      refine oAdd (eS rfl (eS rfl (eS rfl (eS rfl (eS rfl (eS rfl (eS rfl (eS rfl (eS rfl (eS rfl (eS rfl (eS rfl (eS rfl (eS rfl eZ)))))))))))))) eC ?_
      refine oMov eZ ?_
      refine xNil ?_
      exact TQ.qn ⟨(v10, (IntKind.wrap .i64 (s5.2 + 1))), H, (Wk.trans (s := mk [(0, (.one (.sl 1152 0 v10.length))), (7, (.one (.d (.sl 2 (List.map d_TCell a2))))), (8, (.one (.d (.int .i64 (a2.length : Int))))), (9, (.one (.d (.int .i64 (IntKind.wrap .i64 (s5.2 + 1))))))] [(1152, (.data 2 (List.map d_TCell v10) true none))] (lk [])) ((wk_mkG [] (SL.cons eZ rfl VWk.rfl (SL.cons (eS rfl eZ) rfl VWk.rfl (SL.cons (eS rfl (eS rfl eZ)) rfl VWk.rfl (SL.cons (eS rfl (eS rfl (eS rfl eZ))) rfl VWk.rfl SL.nil)))) (BL.keep rfl BL.nil) (BK.cons rfl bZ rfl rfl BK.nil) GK.nil).trans (wk_renG 1152 320192 rfl rfl (nS rfl nZ) GR.nil)) (wk_mkG [384, 320192] (SL.cons (k := 0) (eS rfl (eS rfl eZ)) rfl VWk.rfl (SL.cons (k := 7) (eS rfl (eS rfl (eS rfl (eS rfl (eS rfl (eS rfl (eS rfl (eS rfl (eS rfl (eS rfl (eS rfl (eS rfl (eS rfl (eS rfl eZ)))))))))))))) rfl VWk.rfl (SL.cons (k := 8) (eS rfl (eS rfl (eS rfl (eS rfl (eS rfl (eS rfl (eS rfl (eS rfl (eS rfl (eS rfl (eS rfl (eS rfl (eS rfl (eS rfl (eS rfl eZ))))))))))))))) rfl VWk.rfl (SL.cons (k := 9) eZ rfl VWk.rfl SL.nil)))) (BL.keep rfl (BL.drop rfl (BL.drop rfl (BL.drop rfl BL.nil)))) (BK.cons (n := 1152) rfl bZ rfl rfl BK.nil) GK.nil))⟩
    · refine AW.condF eZ (decide_eq_false h7) ?_
      refine AW.exit ?_
      refine TQ.qe ?_
      refine TQ.qe ?_
      refine BQ.qe ?_
      exact TQ.qn ⟨s5.1, H, ((wk_mkG [] (SL.cons (eS rfl eZ) rfl VWk.rfl SL.nil) (BL.keep rfl BL.nil) (BK.cons rfl bZ rfl rfl BK.nil) GK.nil).trans (wk_renG 320192 320128 rfl rfl (nS rfl nZ) GR.nil))⟩

theorem c_impl_StoreApply {a1 : (List TCell)} {a2 : (List TCell)} {r : ((List TCell) × Bool)} (H : m_impl_StoreApply a1 a2 = some r) : Fn Try.prog k_impl_StoreApply (lent [(.sl 2 (List.map d_TCell a1)), (.sl 2 (List.map d_TCell a2))]) true [(.sl 2 (List.map d_TCell r.1)), (.bool r.2)] := by
  refine i_impl_StoreApply_fn (Nat.le_of_ble_eq_true rfl) ?_
  rw [init_mk]
  refine AW.weaken (t := mk [(0, (.one (.d (.sl 2 (List.map d_TCell a1))))), (1, (.one (.d (.sl 2 (List.map d_TCell a2)))))] [] (lk [])) (wk_mk [] (SL.cons (v := (.one (.d (.sl 2 (List.map d_TCell a1))))) eZ rfl VWk.rfl (SL.cons (v := (.one (.d (.sl 2 (List.map d_TCell a2))))) (eS rfl eZ) rfl VWk.rfl SL.nil)) BL.nil BK.nil) ?_
  unfold m_impl_StoreApply at H
  unfold i_impl_StoreApply
  refine AW.seq ?_
  refine AW.regs ?_
  refine oMov eC ?_
  refine oMov eC ?_
  refine xNil ?_
  refine TQ.qn ?_
  refine AW.seq ?_
  refine AW.seqJ (fun t3 : Bool => (impl_StoreApply_j3 a1 a2) t3 = some r) (fun t3 => mk [(0, (.one (.d (.sl 2 (List.map d_TCell a1))))), (1, (.one (.d (.sl 2 (List.map d_TCell a2))))), (14, (.one (.d (.bool t3))))] [] (lk [])) ?_ ?_
  · intro t3 H
    unfold impl_StoreApply_j3 at H
    rcases oite H with ⟨h5, H⟩ | ⟨h5, H⟩
    · refine AW.condT (eS rfl (eS rfl eZ)) h5 ?_
      refine AW.seq ?_
      refine AW.regs ?_
      refine oMov eC ?_
      refine oMov eC ?_
      refine xNil ?_
      refine TQ.qn ?_
      refine AW.ret ?_
      refine TQ.qr ?_
      obtain rfl := Option.some.inj H
      exact endsR (RL.cons (RV.tmp (eS rfl eZ)) VO.zs (RL.cons (RV.tmp eZ) (VO.flat rfl) RL.nil)) List.nodup_nil
    · refine AW.condF (eS rfl (eS rfl eZ)) (nt h5) ?_
      refine AW.skip ?_
      refine TQ.qn ?_
      refine AW.seq ?_
      refine AW.regm ?_
      refine rmOne ?_
      refine oMov eZ ?_
      refine xNil ?_
      refine rmOne ?_
      obtain ⟨v6, h7, H⟩ := obind H
      refine oCallN (u := (.one (.sl 1024 0 v6.length))) (bs := [(1024, (.data 2 (List.map d_TCell v6) true none))]) eC Cl.fn (c_slices_Clone_Cell h7) (Evs.cons eZ Evs.nil) (VDs.cons VD.plain VDs.nil) (by simp [bindR, bindV, bindVs, bindC, bindCs]) rfl (fC nZ rfl (fC nZ rfl fN)) ?_
      refine xNil ?_
      refine rmOne ?_
      refine oMov (eS rfl (eS rfl (eS rfl eZ))) ?_
      refine xNil ?_
      obtain ⟨v8, h9, H⟩ := obind H
      refine rmCall (ON := [1024]) (ls := []) (G := [1024]) (E := [1024]) (MB := []) (u := (.one (.sl 1152 0 v8.length))) (bs := [(1152, (.data 2 (List.map d_TCell v8) true none))]) eC Cl.fn (c_impl_written h9) (Evs.cons (eS rfl eZ) (Evs.cons eZ Evs.nil)) (AO.give (VO.sl bZ (List.length_map _) (allFlat fun _ => rfl)) (AO.lent VD.plain rfl AO.nil)) rfl rfl rfl SZ.nil (erL.cons (v' := (.one (.d (.sl 2 (List.map d_TCell a2))))) rfl (erL.cons (v' := (.one .any)) rfl (erL.cons (v' := (.one (.d (.sl 2 (List.map d_TCell a1))))) rfl (erL.cons (v' := (.one (.d (.sl 2 (List.map d_TCell a1))))) rfl (erL.cons (v' := (.one (.d (.sl 2 (List.map d_TCell a2))))) rfl (erL.cons (v' := (.one (.d (.bool t3)))) rfl erL.nil)))))) (erH.drop rfl erH.nil) erL.nil (by simp [bindR, bindV, bindVs, bindC, bindCs]) rfl (fC nZ rfl (fC nZ rfl fN)) ?_
      refine rmRest ?_
      refine oMov eZ ?_
      refine xNil ?_
      refine TQ.qn ?_
      refine AW.seq ?_
      refine AW.seq ?_
      refine AW.regs ?_
      refine oMov eZ ?_
      refine oLenN eZ ?_
      refine oGtr eZ eC ?_
      refine xNil ?_
      refine TQ.qn ?_
      rcases oite H with ⟨h10, H⟩ | ⟨h10, H⟩
      · refine AW.condT eZ (decide_eq_true h10) ?_
        refine AW.seq ?_
        refine AW.regs ?_
        refine oMov eC ?_
        refine oMov eC ?_
        refine xNil ?_
        refine TQ.qn ?_
        refine AW.ret ?_
        refine TQ.qr ?_
        obtain rfl := Option.some.inj H
        exact endsR (RL.cons (RV.tmp (eS rfl eZ)) VO.zs (RL.cons (RV.tmp eZ) (VO.flat rfl) RL.nil)) List.nodup_nil
      · refine AW.condF eZ (decide_eq_false h10) ?_
        refine AW.skip ?_
        refine TQ.qn ?_
        refine AW.seq ?_
        refine AW.regs ?_
        refine oMov (eS rfl (eS rfl (eS rfl eZ))) ?_
        refine oMov eZ ?_
        refine oMov eC ?_
        refine xNil ?_
        refine TQ.qn ?_
        refine AW.ret ?_
        obtain rfl := Option.some.inj H
        exact endsR (RL.cons (RV.tmp (eS rfl eZ)) (VO.sl bZ (List.length_map _) (allFlat fun _ => rfl)) (RL.cons (RV.tmp eZ) (VO.flat rfl) RL.nil)) (by decide)
  · refine AW.regs ?_
    refine oMov (eS rfl (eS rfl eZ)) ?_
    obtain ⟨v11, h12, H⟩ := obind H
    refine oCall (u := (.one (.d (.bool v11)))) eC Cl.fn (c_impl_StoreOk h12) (Evs.cons eZ Evs.nil) (VDs.cons VD.plain VDs.nil) rfl ?_
    refine oInv eZ ?_
    refine oMov eZ ?_
    rcases oite H with ⟨h13, H⟩ | ⟨h13, H⟩
    · refine gDo eZ (congrArg Bool.not h13) ?_
      refine oMov (eS rfl (eS rfl (eS rfl (eS rfl (eS rfl (eS rfl (eS rfl eZ))))))) ?_
      refine gDo (eS rfl eZ) (congrArg Bool.not h13) ?_
      obtain ⟨v14, h15, H⟩ := obind H
      refine oCall (u := (.one (.d (.bool v14)))) eC Cl.fn (c_impl_WritesOk h15) (Evs.cons eZ Evs.nil) (VDs.cons VD.plain VDs.nil) rfl ?_
      refine gDo (eS rfl (eS rfl eZ)) (congrArg Bool.not h13) ?_
      refine oInv eZ ?_
      refine oPickF (eS rfl (eS rfl (eS rfl eZ))) (congrArg Bool.not h13) eZ ?_
      refine xNil ?_
      exact TQ.qn ⟨(!v14), H, (wk_mkG [] (SL.cons (eS rfl (eS rfl (eS rfl (eS rfl (eS rfl (eS rfl (eS rfl (eS rfl (eS rfl (eS rfl eZ)))))))))) rfl VWk.rfl (SL.cons (eS rfl (eS rfl (eS rfl (eS rfl (eS rfl (eS rfl (eS rfl (eS rfl (eS rfl (eS rfl (eS rfl eZ))))))))))) rfl VWk.rfl (SL.cons eZ rfl VWk.rfl SL.nil))) BL.nil BK.nil GK.nil)⟩
    · refine gSkip eZ (congrArg Bool.not (nt h13)) rfl ?_
      refine gSkip (eS rfl eZ) (congrArg Bool.not (nt h13)) rfl ?_
      refine gSkip (eS rfl (eS rfl eZ)) (congrArg Bool.not (nt h13)) rfl ?_
      refine oPickT (eS rfl (eS rfl (eS rfl eZ))) (congrArg Bool.not (nt h13)) eC ?_
      refine xNil ?_
      exact TQ.qn ⟨true, H, (wk_mkG [] (SL.cons (eS rfl (eS rfl (eS rfl (eS rfl (eS rfl (eS rfl (eS rfl (eS rfl (eS rfl (eS rfl eZ)))))))))) rfl VWk.rfl (SL.cons (eS rfl (eS rfl (eS rfl (eS rfl (eS rfl (eS rfl (eS rfl (eS rfl (eS rfl (eS rfl (eS rfl eZ))))))))))) rfl VWk.rfl (SL.cons eZ rfl VWk.rfl SL.nil))) BL.nil BK.nil GK.nil)⟩

theorem c_laws_eqCell {a1 : TCell} {a2 : TCell} {r : Bool} (H : m_laws_eqCell a1 a2 = some r) : Fn Try.prog k_laws_eqCell (lent [(.agg (d_TCell a1)), (.agg (d_TCell a2))]) true [(.bool r)] := by
  refine i_laws_eqCell_fn (Nat.le_of_ble_eq_true rfl) ?_
  rw [init_mk]
  refine AW.weaken (wk_mk [] (SL.cons (v := (.agg [(.d (.int .i64 a1.Key)), (.d (.int .i64 a1.Value))])) eZ rfl VWk.rfl (SL.cons (v := (.agg [(.d (.int .i64 a2.Key)), (.d (.int .i64 a2.Value))])) (eS rfl eZ) rfl VWk.rfl SL.nil)) BL.nil BK.nil) ?_
  unfold m_laws_eqCell at H
  unfold i_laws_eqCell
  refine AW.seq ?_
  refine AW.regs ?_
  refine oBox (n := 128) (m := 2) (cs := [(.d (.int .i64 a1.Key)), (.d (.int .i64 a1.Value))]) rfl eZ rfl rfl nZ ?_
  refine oBox (n := 192) (m := 2) (cs := [(.d (.int .i64 a2.Key)), (.d (.int .i64 a2.Value))]) rfl (eS rfl (eS rfl eZ)) rfl rfl (nS rfl nZ) ?_
  refine oMov eC ?_
  refine xNil ?_
  refine TQ.qn ?_
  refine AW.seq ?_
  refine AW.seq ?_
  refine AW.regs ?_
  refine oFaddrN (m := 0) (eS rfl (eS rfl eZ)) rfl ?_
  refine oLoadV (q := 0) (c := (.d (.int .i64 a1.Key))) eZ (bS rfl bZ) rfl rfl ?_
  refine oFaddrN (m := 0) (eS rfl (eS rfl (eS rfl eZ))) rfl ?_
  refine oLoadV (q := 0) (c := (.d (.int .i64 a2.Key))) eZ bZ rfl rfl ?_
  refine oNeq (eS rfl (eS rfl eZ)) eZ ?_
  refine xNil ?_
  refine TQ.qn ?_
  rcases oite H with ⟨h3, H⟩ | ⟨h3, H⟩
  · refine AW.condT eZ (decide_eq_true h3) ?_
    refine AW.seq ?_
    refine AW.regs ?_
    refine oMov eC ?_
    refine xNil ?_
    refine TQ.qn ?_
    refine AW.ret ?_
    refine TQ.qr ?_
    obtain rfl := Option.some.inj H
    exact endsR (RL.cons (RV.tmp eZ) (VO.flat rfl) RL.nil) List.nodup_nil
  · refine AW.condF eZ (decide_eq_false h3) ?_
    refine AW.skip ?_
    refine TQ.qn ?_
    refine AW.seq ?_
    refine AW.seq ?_
    refine AW.regs ?_
    refine oFaddrN (m := 1) (eS rfl (eS rfl (eS rfl (eS rfl (eS rfl (eS rfl (eS rfl eZ))))))) rfl ?_
    refine oLoadV (q := 1) (c := (.d (.int .i64 a1.Value))) eZ (bS rfl bZ) rfl rfl ?_
    refine oFaddrN (m := 1) (eS rfl (eS rfl (eS rfl (eS rfl (eS rfl (eS rfl (eS rfl (eS rfl eZ)))))))) rfl ?_
    refine oLoadV (q := 1) (c := (.d (.int .i64 a2.Value))) eZ bZ rfl rfl ?_
    refine oNeq (eS rfl (eS rfl eZ)) eZ ?_
    refine xNil ?_
    refine TQ.qn ?_
    rcases oite H with ⟨h4, H⟩ | ⟨h4, H⟩
    · refine AW.condT eZ (decide_eq_true h4) ?_
      refine AW.seq ?_
      refine AW.regs ?_
      refine oMov eC ?_
      refine xNil ?_
      refine TQ.qn ?_
      refine AW.weaken (wk_mk [192, 128] (SL.cons (k := 4) eZ rfl VWk.rfl SL.nil) (BL.drop rfl (BL.drop rfl BL.nil)) BK.nil) ?_
      refine AW.ret ?_
      refine TQ.qr ?_
      obtain rfl := Option.some.inj H
      exact endsR (RL.cons (RV.tmp eZ) (VO.flat rfl) RL.nil) List.nodup_nil
    · refine AW.condF eZ (decide_eq_false h4) ?_
      refine AW.skip ?_
      refine TQ.qn ?_
      refine AW.seq ?_
      refine AW.regs ?_
      refine oMov eC ?_
      refine xNil ?_
      refine TQ.qn ?_
      refine AW.weaken (wk_mk [192, 128] (SL.cons (k := 4) eZ rfl VWk.rfl SL.nil) (BL.drop rfl (BL.drop rfl BL.nil)) BK.nil) ?_
      refine AW.ret ?_
      obtain rfl := Option.some.inj H
      exact endsR (RL.cons (RV.tmp eZ) (VO.flat rfl) RL.nil) List.nodup_nil

theorem c_laws_eqCellS {a1 : (List TCell)} {a2 : (List TCell)} {r : Bool} (H : m_laws_eqCellS a1 a2 = some r) : Fn Try.prog k_laws_eqCellS (lent [(.sl 2 (List.map d_TCell a1)), (.sl 2 (List.map d_TCell a2))]) true [(.bool r)] := by
  refine i_laws_eqCellS_fn (Nat.le_of_ble_eq_true rfl) ?_
  rw [init_mk]
  refine AW.weaken (wk_mk [] (SL.cons (v := (.one (.d (.sl 2 (List.map d_TCell a1))))) eZ rfl VWk.rfl (SL.cons (v := (.one (.d (.sl 2 (List.map d_TCell a2))))) (eS rfl eZ) rfl VWk.rfl SL.nil)) BL.nil BK.nil) ?_
  unfold m_laws_eqCellS at H
  unfold i_laws_eqCellS
  refine AW.seq ?_
  refine AW.regs ?_
  refine oMov eC ?_
  refine xNil ?_
  refine TQ.qn ?_
  refine AW.seq ?_
  refine AW.seq ?_
  refine AW.regs ?_
  refine oMov (eS rfl eZ) ?_
  refine oLenD eZ (n := a1.length) (List.length_map _) ?_
  refine oMov (eS rfl (eS rfl (eS rfl (eS rfl eZ)))) ?_
  refine oLenD eZ (n := a2.length) (List.length_map _) ?_
  refine oNeq (eS rfl (eS rfl eZ)) eZ ?_
  refine xNil ?_
  refine TQ.qn ?_
  rcases oite H with ⟨h3, H⟩ | ⟨h3, H⟩
  · refine AW.condT eZ (decide_eq_true h3) ?_
    refine AW.seq ?_
    refine AW.regs ?_
    refine oMov eC ?_
    refine xNil ?_
    refine TQ.qn ?_
    refine AW.ret ?_
    refine TQ.qr ?_
    obtain rfl := Option.some.inj H
    exact endsR (RL.cons (RV.tmp eZ) (VO.flat rfl) RL.nil) List.nodup_nil
  · refine AW.condF eZ (decide_eq_false h3) ?_
    refine AW.skip ?_
    refine TQ.qn ?_
    refine AW.seqJ (fun t4 : Unit => laws_eqCellS_j4 t4 = some r) (fun t4 => mk [] [] noG) ?_ ?_
    · intro t4 H
      unfold laws_eqCellS_j4 at H
      refine AW.seq ?_
      refine AW.regs ?_
      refine oMov eC ?_
      refine xNil ?_
      refine TQ.qn ?_
      refine AW.ret ?_
      obtain rfl := Option.some.inj H
      exact endsR (RL.cons (RV.tmp eZ) (VO.flat rfl) RL.nil) List.nodup_nil
    · refine AW.seq ?_
      refine AW.regs ?_
      refine oMov eC ?_
      refine xNil ?_
      refine TQ.qn ?_
      refine AW.block ?_
      refine AW.iter (fun s6 : Int => mk [(0, (.one (.d (.sl 2 (List.map d_TCell a1))))), (1, (.one (.d (.sl 2 (List.map d_TCell a2))))), (5, (.one (.d (.int .i64 s6))))] [] noG) H (wk_mk [] (SL.cons (eS rfl (eS rfl (eS rfl (eS rfl (eS rfl (eS rfl (eS rfl eZ))))))) rfl VWk.rfl (SL.cons (eS rfl (eS rfl (eS rfl (eS rfl (eS rfl (eS rfl (eS rfl (eS rfl eZ)))))))) rfl VWk.rfl (SL.cons eZ rfl VWk.rfl SL.nil))) BL.nil BK.nil) ?_
      intro kb7 s6 H
      unfold laws_eqCellS_b6 at H
      refine AW.seq ?_
      refine AW.seq ?_
      refine AW.regs ?_
      refine oMov (eS rfl (eS rfl eZ)) ?_
      refine oMov (eS rfl eZ) ?_
      refine oLenD eZ (n := a1.length) (List.length_map _) ?_
      refine oLss (eS rfl (eS rfl eZ)) eZ ?_
      refine xNil ?_
      refine TQ.qn ?_
      rcases oite H with ⟨h8, H⟩ | ⟨h8, H⟩
      · refine AW.condT eZ (decide_eq_true h8) ?_
        refine AW.skip ?_
        refine TQ.qn ?_
        refine AW.seq ?_
        refine AW.block ?_
        refine AW.seq ?_
        refine AW.regd ?_
        refine oMov (eS rfl (eS rfl (eS rfl (eS rfl eZ)))) ?_
        refine oMov (eS rfl (eS rfl (eS rfl (eS rfl (eS rfl (eS rfl (eS rfl eZ))))))) ?_
        obtain ⟨v9, h10, H⟩ := obind H
        refine oAtD (eS rfl eZ) eZ h10 ?_
        refine oLoadBA (es := [(.d (.int .i64 v9.Key)), (.d (.int .i64 v9.Value))]) eZ rfl ?_
        refine oMov (eS rfl (eS rfl (eS rfl (eS rfl (eS rfl (eS rfl (eS rfl (eS rfl (eS rfl eZ))))))))) ?_
        refine oMov (eS rfl (eS rfl (eS rfl (eS rfl (eS rfl (eS rfl (eS rfl (eS rfl (eS rfl (eS rfl (eS rfl eZ))))))))))) ?_
        obtain ⟨v11, h12, H⟩ := obind H
        refine oAtD (eS rfl eZ) eZ h12 ?_
        refine oLoadBA (es := [(.d (.int .i64 v11.Key)), (.d (.int .i64 v11.Value))]) eZ rfl ?_
        obtain ⟨v13, h14, H⟩ := obind H
        refine oCall (u := (.one (.d (.bool v13)))) eC Cl.fn (c_laws_eqCell h14) (Evs.cons (eS rfl (eS rfl (eS rfl (eS rfl eZ)))) (Evs.cons eZ Evs.nil)) (VDs.cons (VD.agg rfl) (VDs.cons (VD.agg rfl) VDs.nil)) rfl ?_
        refine oInv eZ ?_
        refine xNil ?_
        refine TQ.qn ?_
        refine AW.weaken (wk_mk [] (SL.cons (k := 26) eZ rfl VWk.rfl (SL.cons (k := 0) (eS rfl (eS rfl (eS rfl (eS rfl (eS rfl (eS rfl (eS rfl (eS rfl (eS rfl (eS rfl (eS rfl (eS rfl (eS rfl (eS rfl eZ)))))))))))))) rfl VWk.rfl (SL.cons (k := 1) (eS rfl (eS rfl (eS rfl (eS rfl (eS rfl (eS rfl (eS rfl (eS rfl (eS rfl (eS rfl (eS rfl (eS rfl (eS rfl (eS rfl (eS rfl eZ))))))))))))))) rfl VWk.rfl (SL.cons (k := 5) (eS rfl (eS rfl (eS rfl (eS rfl (eS rfl (eS rfl (eS rfl (eS rfl (eS rfl (eS rfl (eS rfl (eS rfl (eS rfl (eS rfl (eS rfl (eS rfl eZ)))))))))))))))) rfl VWk.rfl SL.nil)))) BL.nil BK.nil) ?_
        rcases oite H with ⟨h15, H⟩ | ⟨h15, H⟩
        · refine AW.condF eZ (congrArg Bool.not h15) ?_
          refine AW.skip ?_
          refine BQ.qn ?_
          refine TQ.qn ?_
          refine AW.regs ?_
          refine oMov (eS rfl (eS rfl (eS rfl eZ))) ?_
          refine oAdd eZ eC ?_
          refine oMov eZ ?_
          refine xNil ?_
          exact TQ.qn ⟨(IntKind.wrap .i64 (s6 + 1)), H, (wk_mk [] (SL.cons (eS rfl (eS rfl (eS rfl (eS rfl eZ)))) rfl VWk.rfl (SL.cons (eS rfl (eS rfl (eS rfl (eS rfl (eS rfl eZ))))) rfl VWk.rfl (SL.cons eZ rfl VWk.rfl SL.nil))) BL.nil BK.nil)⟩
        · refine AW.condT eZ (congrArg Bool.not (nt h15)) ?_
          refine AW.seq ?_
          refine AW.regs ?_
          refine oMov eC ?_
          refine xNil ?_
          refine TQ.qn ?_
          refine AW.ret ?_
          refine BQ.qr ?_
          refine TQ.qr ?_
          refine TQ.qr ?_
          refine BQ.qr ?_
          refine TQ.qr ?_
          obtain rfl := Option.some.inj H
          exact endsR (RL.cons (RV.tmp eZ) (VO.flat rfl) RL.nil) List.nodup_nil
      · refine AW.condF eZ (decide_eq_false h8) ?_
        refine AW.exit ?_
        refine TQ.qe ?_
        refine TQ.qe ?_
        refine BQ.qe ?_
        exact TQ.qn ⟨(), H, (wk_mk [] SL.nil BL.nil BK.nil)⟩

theorem c_laws_eqWrite {a1 : TCell} {a2 : TCell} {r : Bool} (H : m_laws_eqWrite a1 a2 = some r) : Fn Try.prog k_laws_eqWrite (lent [(.agg (d_TCell a1)), (.agg (d_TCell a2))]) true [(.bool r)] := by
  refine i_laws_eqWrite_fn (Nat.le_of_ble_eq_true rfl) ?_
  rw [init_mk]
  refine AW.weaken (wk_mk [] (SL.cons (v := (.agg [(.d (.int .i64 a1.Key)), (.d (.int .i64 a1.Value))])) eZ rfl VWk.rfl (SL.cons (v := (.agg [(.d (.int .i64 a2.Key)), (.d (.int .i64 a2.Value))])) (eS rfl eZ) rfl VWk.rfl SL.nil)) BL.nil BK.nil) ?_
  unfold m_laws_eqWrite at H
  unfold i_laws_eqWrite
  refine AW.seq ?_
  refine AW.regs ?_
  refine oBox (n := 128) (m := 2) (cs := [(.d (.int .i64 a1.Key)), (.d (.int .i64 a1.Value))]) rfl eZ rfl rfl nZ ?_
  refine oBox (n := 192) (m := 2) (cs := [(.d (.int .i64 a2.Key)), (.d (.int .i64 a2.Value))]) rfl (eS rfl (eS rfl eZ)) rfl rfl (nS rfl nZ) ?_
  refine oMov eC ?_
  refine xNil ?_
  refine TQ.qn ?_
  refine AW.seq ?_
  refine AW.seq ?_
  refine AW.regs ?_
  refine oFaddrN (m := 0) (eS rfl (eS rfl eZ)) rfl ?_
  refine oLoadV (q := 0) (c := (.d (.int .i64 a1.Key))) eZ (bS rfl bZ) rfl rfl ?_
  refine oFaddrN (m := 0) (eS rfl (eS rfl (eS rfl eZ))) rfl ?_
  refine oLoadV (q := 0) (c := (.d (.int .i64 a2.Key))) eZ bZ rfl rfl ?_
  refine oNeq (eS rfl (eS rfl eZ)) eZ ?_
  refine xNil ?_
  refine TQ.qn ?_
  rcases oite H with ⟨h3, H⟩ | ⟨h3, H⟩
  · refine AW.condT eZ (decide_eq_true h3) ?_
    refine AW.seq ?_
    refine AW.regs ?_
    refine oMov eC ?_
    refine xNil ?_
    refine TQ.qn ?_
    refine AW.ret ?_
    refine TQ.qr ?_
    obtain rfl := Option.some.inj H
    exact endsR (RL.cons (RV.tmp eZ) (VO.flat rfl) RL.nil) List.nodup_nil
  · refine AW.condF eZ (decide_eq_false h3) ?_
    refine AW.skip ?_
    refine TQ.qn ?_
    refine AW.seq ?_
    refine AW.seq ?_
    refine AW.regs ?_
    refine oFaddrN (m := 1) (eS rfl (eS rfl (eS rfl (eS rfl (eS rfl (eS rfl (eS rfl eZ))))))) rfl ?_
    refine oLoadV (q := 1) (c := (.d (.int .i64 a1.Value))) eZ (bS rfl bZ) rfl rfl ?_
    refine oFaddrN (m := 1) (eS rfl (eS rfl (eS rfl (eS rfl (eS rfl (eS rfl (eS rfl (eS rfl eZ)))))))) rfl ?_
    refine oLoadV (q := 1) (c := (.d (.int .i64 a2.Value))) eZ bZ rfl rfl ?_
    refine oNeq (eS rfl (eS rfl eZ)) eZ ?_
    refine xNil ?_
    refine TQ.qn ?_
    rcases oite H with ⟨h4, H⟩ | ⟨h4, H⟩
    · refine AW.condT eZ (decide_eq_true h4) ?_
      refine AW.seq ?_
      refine AW.regs ?_
      refine oMov eC ?_
      refine xNil ?_
      refine TQ.qn ?_
      refine AW.weaken (wk_mk [192, 128] (SL.cons (k := 4) eZ rfl VWk.rfl SL.nil) (BL.drop rfl (BL.drop rfl BL.nil)) BK.nil) ?_
      refine AW.ret ?_
      refine TQ.qr ?_
      obtain rfl := Option.some.inj H
      exact endsR (RL.cons (RV.tmp eZ) (VO.flat rfl) RL.nil) List.nodup_nil
    · refine AW.condF eZ (decide_eq_false h4) ?_
      refine AW.skip ?_
      refine TQ.qn ?_
      refine AW.seq ?_
      refine AW.regs ?_
      refine oMov eC ?_
      refine xNil ?_
      refine TQ.qn ?_
      refine AW.weaken (wk_mk [192, 128] (SL.cons (k := 4) eZ rfl VWk.rfl SL.nil) (BL.drop rfl (BL.drop rfl BL.nil)) BK.nil) ?_
      refine AW.ret ?_
      obtain rfl := Option.some.inj H
      exact endsR (RL.cons (RV.tmp eZ) (VO.flat rfl) RL.nil) List.nodup_nil

theorem c_laws_eqWriteS {a1 : (List TCell)} {a2 : (List TCell)} {r : Bool} (H : m_laws_eqWriteS a1 a2 = some r) : Fn Try.prog k_laws_eqWriteS (lent [(.sl 2 (List.map d_TCell a1)), (.sl 2 (List.map d_TCell a2))]) true [(.bool r)] := by
  refine i_laws_eqWriteS_fn (Nat.le_of_ble_eq_true rfl) ?_
  rw [init_mk]
  refine AW.weaken (wk_mk [] (SL.cons (v := (.one (.d (.sl 2 (List.map d_TCell a1))))) eZ rfl VWk.rfl (SL.cons (v := (.one (.d (.sl 2 (List.map d_TCell a2))))) (eS rfl eZ) rfl VWk.rfl SL.nil)) BL.nil BK.nil) ?_
  unfold m_laws_eqWriteS at H
  unfold i_laws_eqWriteS
  refine AW.seq ?_
  refine AW.regs ?_
  refine oMov eC ?_
  refine xNil ?_
  refine TQ.qn ?_
  refine AW.seq ?_
  refine AW.seq ?_
  refine AW.regs ?_
  refine oMov (eS rfl eZ) ?_
  refine oLenD eZ (n := a1.length) (List.length_map _) ?_
  refine oMov (eS rfl (eS rfl (eS rfl (eS rfl eZ)))) ?_
  refine oLenD eZ (n := a2.length) (List.length_map _) ?_
  refine oNeq (eS rfl (eS rfl eZ)) eZ ?_
  refine xNil ?_
  refine TQ.qn ?_
  rcases oite H with ⟨h3, H⟩ | ⟨h3, H⟩
  · refine AW.condT eZ (decide_eq_true h3) ?_
    refine AW.seq ?_
    refine AW.regs ?_
    refine oMov eC ?_
    refine xNil ?_
    refine TQ.qn ?_
    refine AW.ret ?_
    refine TQ.qr ?_
    obtain rfl := Option.some.inj H
    exact endsR (RL.cons (RV.tmp eZ) (VO.flat rfl) RL.nil) List.nodup_nil
  · refine AW.condF eZ (decide_eq_false h3) ?_
    refine AW.skip ?_
    refine TQ.qn ?_
    refine AW.seqJ (fun t4 : Unit => laws_eqWriteS_j4 t4 = some r) (fun t4 => mk [] [] noG) ?_ ?_
    · intro t4 H
      unfold laws_eqWriteS_j4 at H
      refine AW.seq ?_
      refine AW.regs ?_
      refine oMov eC ?_
      refine xNil ?_
      refine TQ.qn ?_
      refine AW.ret ?_
      obtain rfl := Option.some.inj H
      exact endsR (RL.cons (RV.tmp eZ) (VO.flat rfl) RL.nil) List.nodup_nil
    · refine AW.seq ?_
      refine AW.regs ?_
      refine oMov eC ?_
      refine xNil ?_
      refine TQ.qn ?_
      refine AW.block ?_
      refine AW.iter (fun s6 : Int => mk [(0, (.one (.d (.sl 2 (List.map d_TCell a1))))), (1, (.one (.d (.sl 2 (List.map d_TCell a2))))), (5, (.one (.d (.int .i64 s6))))] [] noG) H (wk_mk [] (SL.cons (eS rfl (eS rfl (eS rfl (eS rfl (eS rfl (eS rfl (eS rfl eZ))))))) rfl VWk.rfl (SL.cons (eS rfl (eS rfl (eS rfl (eS rfl (eS rfl (eS rfl (eS rfl (eS rfl eZ)))))))) rfl VWk.rfl (SL.cons eZ rfl VWk.rfl SL.nil))) BL.nil BK.nil) ?_
      intro kb7 s6 H
      unfold laws_eqWriteS_b6 at H
      refine AW.seq ?_
      refine AW.seq ?_
      refine AW.regs ?_
      refine oMov (eS rfl (eS rfl eZ)) ?_
      refine oMov (eS rfl eZ) ?_
      refine oLenD eZ (n := a1.length) (List.length_map _) ?_
      refine oLss (eS rfl (eS rfl eZ)) eZ ?_
      refine xNil ?_
      refine TQ.qn ?_
      rcases oite H with ⟨h8, H⟩ | ⟨h8, H⟩
      · refine AW.condT eZ (decide_eq_true h8) ?_
        refine AW.skip ?_
        refine TQ.qn ?_
        refine AW.seq ?_
        refine AW.block ?_
        refine AW.seq ?_
        refine AW.regd ?_
        refine oMov (eS rfl (eS rfl (eS rfl (eS rfl eZ)))) ?_
        refine oMov (eS rfl (eS rfl (eS rfl (eS rfl (eS rfl (eS rfl (eS rfl eZ))))))) ?_
        obtain ⟨v9, h10, H⟩ := obind H
        refine oAtD (eS rfl eZ) eZ h10 ?_
        refine oLoadBA (es := [(.d (.int .i64 v9.Key)), (.d (.int .i64 v9.Value))]) eZ rfl ?_
        refine oMov (eS rfl (eS rfl (eS rfl (eS rfl (eS rfl (eS rfl (eS rfl (eS rfl (eS rfl eZ))))))))) ?_
        refine oMov (eS rfl (eS rfl (eS rfl (eS rfl (eS rfl (eS rfl (eS rfl (eS rfl (eS rfl (eS rfl (eS rfl eZ))))))))))) ?_
        obtain ⟨v11, h12, H⟩ := obind H
        refine oAtD (eS rfl eZ) eZ h12 ?_
        refine oLoadBA (es := [(.d (.int .i64 v11.Key)), (.d (.int .i64 v11.Value))]) eZ rfl ?_
        obtain ⟨v13, h14, H⟩ := obind H
        refine oCall (u := (.one (.d (.bool v13)))) eC Cl.fn (c_laws_eqWrite h14) (Evs.cons (eS rfl (eS rfl (eS rfl (eS rfl eZ)))) (Evs.cons eZ Evs.nil)) (VDs.cons (VD.agg rfl) (VDs.cons (VD.agg rfl) VDs.nil)) rfl ?_
        refine oInv eZ ?_
        refine xNil ?_
        refine TQ.qn ?_
        refine AW.weaken (wk_mk [] (SL.cons (k := 26) eZ rfl VWk.rfl (SL.cons (k := 0) (eS rfl (eS rfl (eS rfl (eS rfl (eS rfl (eS rfl (eS rfl (eS rfl (eS rfl (eS rfl (eS rfl (eS rfl (eS rfl (eS rfl eZ)))))))))))))) rfl VWk.rfl (SL.cons (k := 1) (eS rfl (eS rfl (eS rfl (eS rfl (eS rfl (eS rfl (eS rfl (eS rfl (eS rfl (eS rfl (eS rfl (eS rfl (eS rfl (eS rfl (eS rfl eZ))))))))))))))) rfl VWk.rfl (SL.cons (k := 5) (eS rfl (eS rfl (eS rfl (eS rfl (eS rfl (eS rfl (eS rfl (eS rfl (eS rfl (eS rfl (eS rfl (eS rfl (eS rfl (eS rfl (eS rfl (eS rfl eZ)))))))))))))))) rfl VWk.rfl SL.nil)))) BL.nil BK.nil) ?_
        rcases oite H with ⟨h15, H⟩ | ⟨h15, H⟩
        · refine AW.condF eZ (congrArg Bool.not h15) ?_
          refine AW.skip ?_
          refine BQ.qn ?_
          refine TQ.qn ?_
          refine AW.regs ?_
          refine oMov (eS rfl (eS rfl (eS rfl eZ))) ?_
          refine oAdd eZ eC ?_
          refine oMov eZ ?_
          refine xNil ?_
          exact TQ.qn ⟨(IntKind.wrap .i64 (s6 + 1)), H, (wk_mk [] (SL.cons (eS rfl (eS rfl (eS rfl (eS rfl eZ)))) rfl VWk.rfl (SL.cons (eS rfl (eS rfl (eS rfl (eS rfl (eS rfl eZ))))) rfl VWk.rfl (SL.cons eZ rfl VWk.rfl SL.nil))) BL.nil BK.nil)⟩
        · refine AW.condT eZ (congrArg Bool.not (nt h15)) ?_
          refine AW.seq ?_
          refine AW.regs ?_
          refine oMov eC ?_
          refine xNil ?_
          refine TQ.qn ?_
          refine AW.ret ?_
          refine BQ.qr ?_
          refine TQ.qr ?_
          refine TQ.qr ?_
          refine BQ.qr ?_
          refine TQ.qr ?_
          obtain rfl := Option.some.inj H
          exact endsR (RL.cons (RV.tmp eZ) (VO.flat rfl) RL.nil) List.nodup_nil
      · refine AW.condF eZ (decide_eq_false h8) ?_
        refine AW.exit ?_
        refine TQ.qe ?_
        refine TQ.qe ?_
        refine BQ.qe ?_
        exact TQ.qn ⟨(), H, (wk_mk [] SL.nil BL.nil BK.nil)⟩

theorem c_laws_markCellS {a1 : (List TCell)} {a2 : Int} {r : (Int × (List TCell))} (H : m_laws_markCellS a1 a2 = some r) : Fn Try.prog k_laws_markCellS [⟨(.sl 2 (List.map d_TCell a1)), .m (.sl 2 (List.map d_TCell r.2))⟩, ⟨(.int .i64 a2), .b⟩] true [(.int .i64 r.1)] := by
  refine i_laws_markCellS_fnM (Nat.le_of_ble_eq_true rfl) (fC nZ rfl fN) rfl ?_
  rw [initM_mk]
  refine AW.weaken (t := mk [(0, (.one (.sl 0 0 a1.length))), (1, (.one (.d (.int .i64 a2))))] [(0, (.data 2 (List.map d_TCell a1) true none))] (lk [(0, (.one (.sl 0 0 ((List.map d_TCell a1).length))))])) (wk_mkG (gl := [(0, (.one (.sl 0 0 ((List.map d_TCell a1).length))))]) [] (SL.cons (v := (.one (.sl 0 0 a1.length))) eZ rfl (VWk.one (CWk.len (List.length_map _))) (SL.cons (v := (.one (.d (.int .i64 a2)))) (eS rfl eZ) rfl VWk.rfl SL.nil)) (BL.keep rfl BL.nil) (BK.cons (n := 0) rfl bZ rfl rfl BK.nil) (GK.cons rfl GK.nil)) ?_
  unfold m_laws_markCellS at H
  unfold i_laws_markCellS
  refine AW.seq ?_
  refine AW.regs ?_
  refine oMov eC ?_
  refine xNil ?_
  refine TQ.qn ?_
  refine AW.seqJ (fun t3 : ((List TCell) × Int) => (laws_markCellS_j3 a1) t3 = some r) (fun t3 => mk [(1, (.one (.d (.int .i64 t3.2))))] [(0, (.data 2 (List.map d_TCell t3.1) true none))] (lk [(0, (.one (.sl 0 0 ((List.map d_TCell a1).length))))])) ?_ ?_
  · intro t3 H
    unfold laws_markCellS_j3 at H
    refine AW.seq ?_
    refine AW.regs ?_
    refine oMov eZ ?_
    refine oMov eZ ?_
    refine xNil ?_
    refine TQ.qn ?_
    refine AW.ret ?_
    obtain ⟨h5, H⟩ := oguard H
    obtain rfl := Option.some.inj H
    exact endsRM (RL.cons (RV.tmp eZ) (VO.flat rfl) RL.nil) (ML.mut eZ (VO.sl bZ (by first | (simp; done) | (simp; omega) | omega) (allFlat fun _ => rfl)) (ML.lent ML.nil)) (by decide)
  · refine AW.seq ?_
    refine AW.regs ?_
    refine oMov eC ?_
    refine xNil ?_
    refine TQ.qn ?_
    refine AW.block ?_
    refine AW.iter (fun s6 : ((List TCell) × Int × Int) => mk [(0, (.one (.sl 0 0 s6.1.length))), (1, (.one (.d (.int .i64 s6.2.1)))), (5, (.one (.d (.int .i64 s6.2.2))))] [(0, (.data 2 (List.map d_TCell s6.1) true none))] (lk [(0, (.one (.sl 0 0 ((List.map d_TCell a1).length))))])) H (wk_mkG [] (SL.cons (eS rfl (eS rfl eZ)) rfl VWk.rfl (SL.cons (eS rfl (eS rfl (eS rfl eZ))) rfl VWk.rfl (SL.cons eZ rfl VWk.rfl SL.nil))) (BL.keep rfl BL.nil) (BK.cons rfl bZ rfl rfl BK.nil) (GK.cons rfl GK.nil)) ?_
    intro kb7 s6 H
    unfold laws_markCellS_b6 at H
    refine AW.seq ?_
    refine AW.seq ?_
    refine AW.regs ?_
    refine oMov (eS rfl (eS rfl eZ)) ?_
    refine oMov (eS rfl eZ) ?_
    refine oLenN eZ ?_
    refine oLss (eS rfl (eS rfl eZ)) eZ ?_
    refine xNil ?_
    refine TQ.qn ?_
    rcases oite H with ⟨h8, H⟩ | ⟨h8, H⟩
    · refine AW.condT eZ (decide_eq_true h8) ?_
      refine AW.skip ?_
      refine TQ.qn ?_
      refine AW.seq ?_
      refine AW.block ?_
      refine AW.seq ?_
      refine AW.regs ?_
      refine oMov (eS rfl (eS rfl (eS rfl (eS rfl eZ)))) ?_
      refine oMov (eS rfl (eS rfl (eS rfl (eS rfl (eS rfl (eS rfl (eS rfl eZ))))))) ?_
      refine oMov (eS rfl (eS rfl (eS rfl (eS rfl (eS rfl (eS rfl (eS rfl eZ))))))) ?_
      obtain ⟨v9, h10, H⟩ := obind H
      refine oAtN (eS rfl (eS rfl eZ)) (eS rfl eZ) bZ rfl h10 ?_
      refine oFaddrN (m := 0) eZ rfl ?_
      refine oStoreD (t := v9) (t' := (TCell.mk s6.2.1 v9.Value)) (es := [(.int .i64 s6.2.1)]) eZ (eS rfl (eS rfl eZ)) rfl rfl bZ (idx_at h10) rfl rfl ?_
      refine xNil ?_
      refine TQ.qn ?_
      refine AW.seq ?_
      refine AW.regs ?_
      refine oMov (eS rfl (eS rfl (eS rfl (eS rfl (eS rfl (eS rfl (eS rfl (eS rfl (eS rfl (eS rfl eZ)))))))))) ?_
      refine oAdd eZ eC ?_
      refine oMov eZ ?_
      refine xNil ?_
      refine TQ.qn ?_
      refine AW.seq ?_
      refine AW.regs ?_
      refine oMov (eS rfl (eS rfl (eS rfl (eS rfl (eS rfl (eS rfl (eS rfl (eS rfl (eS rfl (eS rfl (eS rfl (eS rfl eZ)))))))))))) ?_
      refine oMov (eS rfl (eS rfl (eS rfl (eS rfl (eS rfl (eS rfl (eS rfl (eS rfl (eS rfl (eS rfl (eS rfl (eS rfl (eS rfl (eS rfl (eS rfl eZ))))))))))))))) ?_
      refine oMov (eS rfl (eS rfl eZ)) ?_
      obtain ⟨v11, h12, H⟩ := obind H
      refine oAtN (eS rfl (eS rfl eZ)) (eS rfl eZ) bZ (by first | (simp; done) | (simp; omega) | omega) h12 ?_
      refine oFaddrN (m := 1) eZ rfl ?_
      refine oStoreD (t := v11) (t' := (TCell.mk v11.Key (IntKind.wrap .i64 (s6.2.1 + 1)))) (es := [(.int .i64 (IntKind.wrap .i64 (s6.2.1 + 1)))]) eZ (eS rfl (eS rfl eZ)) rfl rfl bZ (idx_at h12) rfl rfl ?_
      refine xNil ?_
      refine TQ.qn ?_
      refine AW.weaken (wk_mkG [] (SL.cons (k := 1) (eS rfl (eS rfl (eS rfl (eS rfl (eS rfl eZ))))) rfl VWk.rfl (SL.cons (k := 0) (eS rfl (eS rfl (eS rfl (eS rfl (eS rfl (eS rfl (eS rfl (eS rfl (eS rfl (eS rfl (eS rfl (eS rfl (eS rfl (eS rfl (eS rfl (eS rfl (eS rfl eZ))))))))))))))))) rfl VWk.rfl (SL.cons (k := 5) (eS rfl (eS rfl (eS rfl (eS rfl (eS rfl (eS rfl (eS rfl (eS rfl (eS rfl (eS rfl (eS rfl (eS rfl (eS rfl (eS rfl (eS rfl (eS rfl (eS rfl (eS rfl (eS rfl eZ))))))))))))))))))) rfl VWk.rfl SL.nil))) (BL.keep rfl (BL.keep rfl (BL.keep rfl BL.nil))) (BK.cons (n := 0) rfl bZ rfl rfl BK.nil) (GK.cons rfl GK.nil)) ?_
      refine AW.regs ?_
      refine oMov eZ ?_
      refine oAdd eZ eC ?_
      refine oMov eZ ?_
      refine xNil ?_
      refine BQ.qn ?_
      refine TQ.qn ?_
      refine AW.regs ?_
      refine oMov (eS rfl (eS rfl (eS rfl (eS rfl (eS rfl eZ))))) ?_
      refine oAdd eZ eC ?_
      refine oMov eZ ?_
      refine xNil ?_
      exact TQ.qn ⟨((s6.1.set (Int.toNat s6.2.2) (TCell.mk s6.2.1 v9.Value)).set (Int.toNat s6.2.2) (TCell.mk v11.Key (IntKind.wrap .i64 (s6.2.1 + 1))), (IntKind.wrap .i64 ((IntKind.wrap .i64 (s6.2.1 + 1)) + 1)), (IntKind.wrap .i64 (s6.2.2 + 1))), H, (wk_mkG [] (SL.cons (eS rfl (eS rfl (eS rfl (eS rfl (eS rfl (eS rfl (eS rfl eZ))))))) rfl (VWk.one (CWk.len (by first | (simp; done) | (simp; omega) | omega))) (SL.cons (eS rfl (eS rfl (eS rfl eZ))) rfl VWk.rfl (SL.cons eZ rfl VWk.rfl SL.nil))) (BL.keep rfl BL.nil) (BK.cons rfl bZ rfl rfl BK.nil) (GK.cons rfl GK.nil))⟩
    · refine AW.condF eZ (decide_eq_false h8) ?_
      refine AW.exit ?_
      refine TQ.qe ?_
      refine TQ.qe ?_
      refine BQ.qe ?_
      exact TQ.qn ⟨(s6.1, s6.2.1), H, (wk_mkG [] (SL.cons (eS rfl (eS rfl (eS rfl (eS rfl (eS rfl eZ))))) rfl VWk.rfl SL.nil) (BL.keep rfl BL.nil) (BK.cons rfl bZ rfl rfl BK.nil) (GK.cons rfl GK.nil))⟩

theorem c_laws_markWriteS {a1 : (List TCell)} {a2 : Int} {r : (Int × (List TCell))} (H : m_laws_markWriteS a1 a2 = some r) : Fn Try.prog k_laws_markWriteS [⟨(.sl 2 (List.map d_TCell a1)), .m (.sl 2 (List.map d_TCell r.2))⟩, ⟨(.int .i64 a2), .b⟩] true [(.int .i64 r.1)] := by
  refine i_laws_markWriteS_fnM (Nat.le_of_ble_eq_true rfl) (fC nZ rfl fN) rfl ?_
  rw [initM_mk]
  refine AW.weaken (t := mk [(0, (.one (.sl 0 0 a1.length))), (1, (.one (.d (.int .i64 a2))))] [(0, (.data 2 (List.map d_TCell a1) true none))] (lk [(0, (.one (.sl 0 0 ((List.map d_TCell a1).length))))])) (wk_mkG (gl := [(0, (.one (.sl 0 0 ((List.map d_TCell a1).length))))]) [] (SL.cons (v := (.one (.sl 0 0 a1.length))) eZ rfl (VWk.one (CWk.len (List.length_map _))) (SL.cons (v := (.one (.d (.int .i64 a2)))) (eS rfl eZ) rfl VWk.rfl SL.nil)) (BL.keep rfl BL.nil) (BK.cons (n := 0) rfl bZ rfl rfl BK.nil) (GK.cons rfl GK.nil)) ?_
  unfold m_laws_markWriteS at H
  unfold i_laws_markWriteS
  refine AW.seq ?_
  refine AW.regs ?_
  refine oMov eC ?_
  refine xNil ?_
  refine TQ.qn ?_
  refine AW.seqJ (fun t3 : ((List TCell) × Int) => (laws_markWriteS_j3 a1) t3 = some r) (fun t3 => mk [(1, (.one (.d (.int .i64 t3.2))))] [(0, (.data 2 (List.map d_TCell t3.1) true none))] (lk [(0, (.one (.sl 0 0 ((List.map d_TCell a1).length))))])) ?_ ?_
  · intro t3 H
    unfold laws_markWriteS_j3 at H
    refine AW.seq ?_
    refine AW.regs ?_
    refine oMov eZ ?_
    refine oMov eZ ?_
    refine xNil ?_
    refine TQ.qn ?_
    refine AW.ret ?_
    obtain ⟨h5, H⟩ := oguard H
    obtain rfl := Option.some.inj H
    exact endsRM (RL.cons (RV.tmp eZ) (VO.flat rfl) RL.nil) (ML.mut eZ (VO.sl bZ (by first | (simp; done) | (simp; omega) | omega) (allFlat fun _ => rfl)) (ML.lent ML.nil)) (by decide)
  · refine AW.seq ?_
    refine AW.regs ?_
    refine oMov eC ?_
    refine xNil ?_
    refine TQ.qn ?_
    refine AW.block ?_
    refine AW.iter (fun s6 : ((List TCell) × Int × Int) => mk [(0, (.one (.sl 0 0 s6.1.length))), (1, (.one (.d (.int .i64 s6.2.1)))), (5, (.one (.d (.int .i64 s6.2.2))))] [(0, (.data 2 (List.map d_TCell s6.1) true none))] (lk [(0, (.one (.sl 0 0 ((List.map d_TCell a1).length))))])) H (wk_mkG [] (SL.cons (eS rfl (eS rfl eZ)) rfl VWk.rfl (SL.cons (eS rfl (eS rfl (eS rfl eZ))) rfl VWk.rfl (SL.cons eZ rfl VWk.rfl SL.nil))) (BL.keep rfl BL.nil) (BK.cons rfl bZ rfl rfl BK.nil) (GK.cons rfl GK.nil)) ?_
    intro kb7 s6 H
    unfold laws_markWriteS_b6 at H
    refine AW.seq ?_
    refine AW.seq ?_
    refine AW.regs ?_
    refine oMov (eS rfl (eS rfl eZ)) ?_
    refine oMov (eS rfl eZ) ?_
    refine oLenN eZ ?_
    refine oLss (eS rfl (eS rfl eZ)) eZ ?_
    refine xNil ?_
    refine TQ.qn ?_
    rcases oite H with ⟨h8, H⟩ | ⟨h8, H⟩
    · refine AW.condT eZ (decide_eq_true h8) ?_
      refine AW.skip ?_
      refine TQ.qn ?_
      refine AW.seq ?_
      refine AW.block ?_
      refine AW.seq ?_
      refine AW.regs ?_
      refine oMov (eS rfl (eS rfl (eS rfl (eS rfl eZ)))) ?_
      refine oMov (eS rfl (eS rfl (eS rfl (eS rfl (eS rfl (eS rfl (eS rfl eZ))))))) ?_
      refine oMov (eS rfl (eS rfl (eS rfl (eS rfl (eS rfl (eS rfl (eS rfl eZ))))))) ?_
      obtain ⟨v9, h10, H⟩ := obind H
      refine oAtN (eS rfl (eS rfl eZ)) (eS rfl eZ) bZ rfl h10 ?_
      refine oFaddrN (m := 0) eZ rfl ?_
      refine oStoreD (t := v9) (t' := (TCell.mk s6.2.1 v9.Value)) (es := [(.int .i64 s6.2.1)]) eZ (eS rfl (eS rfl eZ)) rfl rfl bZ (idx_at h10) rfl rfl ?_
      refine xNil ?_
      refine TQ.qn ?_
      refine AW.seq ?_
      refine AW.regs ?_
      refine oMov (eS rfl (eS rfl (eS rfl (eS rfl (eS rfl (eS rfl (eS rfl (eS rfl (eS rfl (eS rfl eZ)))))))))) ?_
      refine oAdd eZ eC ?_
      refine oMov eZ ?_
      refine xNil ?_
      refine TQ.qn ?_
      refine AW.seq ?_
      refine AW.regs ?_
      refine oMov (eS rfl (eS rfl (eS rfl (eS rfl (eS rfl (eS rfl (eS rfl (eS rfl (eS rfl (eS rfl (eS rfl (eS rfl eZ)))))))))))) ?_
      refine oMov (eS rfl (eS rfl (eS rfl (eS rfl (eS rfl (eS rfl (eS rfl (eS rfl (eS rfl (eS rfl (eS rfl (eS rfl (eS rfl (eS rfl (eS rfl eZ))))))))))))))) ?_
      refine oMov (eS rfl (eS rfl eZ)) ?_
      obtain ⟨v11, h12, H⟩ := obind H
      refine oAtN (eS rfl (eS rfl eZ)) (eS rfl eZ) bZ (by first | (simp; done) | (simp; omega) | omega) h12 ?_
      refine oFaddrN (m := 1) eZ rfl ?_
      refine oStoreD (t := v11) (t' := (TCell.mk v11.Key (IntKind.wrap .i64 (s6.2.1 + 1)))) (es := [(.int .i64 (IntKind.wrap .i64 (s6.2.1 + 1)))]) eZ (eS rfl (eS rfl eZ)) rfl rfl bZ (idx_at h12) rfl rfl ?_
      refine xNil ?_
      refine TQ.qn ?_
      refine AW.weaken (wk_mkG [] (SL.cons (k := 1) (eS rfl (eS rfl (eS rfl (eS rfl (eS rfl eZ))))) rfl VWk.rfl (SL.cons (k := 0) (eS rfl (eS rfl (eS rfl (eS rfl (eS rfl (eS rfl (eS rfl (eS rfl (eS rfl (eS rfl (eS rfl (eS rfl (eS rfl (eS rfl (eS rfl (eS rfl (eS rfl eZ))))))))))))))))) rfl VWk.rfl (SL.cons (k := 5) (eS rfl (eS rfl (eS rfl (eS rfl (eS rfl (eS rfl (eS rfl (eS rfl (eS rfl (eS rfl (eS rfl (eS rfl (eS rfl (eS rfl (eS rfl (eS rfl (eS rfl (eS rfl (eS rfl eZ))))))))))))))))))) rfl VWk.rfl SL.nil))) (BL.keep rfl (BL.keep rfl (BL.keep rfl BL.nil))) (BK.cons (n := 0) rfl bZ rfl rfl BK.nil) (GK.cons rfl GK.nil)) ?_
      refine AW.regs ?_
      refine oMov eZ ?_
      refine oAdd eZ eC ?_
      refine oMov eZ ?_
      refine xNil ?_
      refine BQ.qn ?_
      refine TQ.qn ?_
      refine AW.regs ?_
      refine oMov (eS rfl (eS rfl (eS rfl (eS rfl (eS rfl eZ))))) ?_
      refine oAdd eZ eC ?_
      refine oMov eZ ?_
      refine xNil ?_
      exact TQ.qn ⟨((s6.1.set (Int.toNat s6.2.2) (TCell.mk s6.2.1 v9.Value)).set (Int.toNat s6.2.2) (TCell.mk v11.Key (IntKind.wrap .i64 (s6.2.1 + 1))), (IntKind.wrap .i64 ((IntKind.wrap .i64 (s6.2.1 + 1)) + 1)), (IntKind.wrap .i64 (s6.2.2 + 1))), H, (wk_mkG [] (SL.cons (eS rfl (eS rfl (eS rfl (eS rfl (eS rfl (eS rfl (eS rfl eZ))))))) rfl (VWk.one (CWk.len (by first | (simp; done) | (simp; omega) | omega))) (SL.cons (eS rfl (eS rfl (eS rfl eZ))) rfl VWk.rfl (SL.cons eZ rfl VWk.rfl SL.nil))) (BL.keep rfl BL.nil) (BK.cons rfl bZ rfl rfl BK.nil) (GK.cons rfl GK.nil))⟩
    · refine AW.condF eZ (decide_eq_false h8) ?_
      refine AW.exit ?_
      refine TQ.qe ?_
      refine TQ.qe ?_
      refine BQ.qe ?_
      exact TQ.qn ⟨(s6.1, s6.2.1), H, (wk_mkG [] (SL.cons (eS rfl (eS rfl (eS rfl (eS rfl (eS rfl eZ))))) rfl VWk.rfl SL.nil) (BL.keep rfl BL.nil) (BK.cons rfl bZ rfl rfl BK.nil) (GK.cons rfl GK.nil))⟩

theorem c_laws_heldCellS {a1 : (List TCell)} {a2 : Int} {r : Int} (H : m_laws_heldCellS a1 a2 = some r) : Fn Try.prog k_laws_heldCellS (lent [(.sl 2 (List.map d_TCell a1)), (.int .i64 a2)]) true [(.int .i64 r)] := by
  refine i_laws_heldCellS_fn (Nat.le_of_ble_eq_true rfl) ?_
  rw [init_mk]
  refine AW.weaken (wk_mk [] (SL.cons (v := (.one (.d (.sl 2 (List.map d_TCell a1))))) eZ rfl VWk.rfl (SL.cons (v := (.one (.d (.int .i64 a2)))) (eS rfl eZ) rfl VWk.rfl SL.nil)) BL.nil BK.nil) ?_
  unfold m_laws_heldCellS at H
  unfold i_laws_heldCellS
  refine AW.seq ?_
  refine AW.regs ?_
  refine oMov eC ?_
  refine xNil ?_
  refine TQ.qn ?_
  refine AW.seqJ (fun t3 : Int => laws_heldCellS_j3 t3 = some r) (fun t3 => mk [(1, (.one (.d (.int .i64 t3))))] [] noG) ?_ ?_
  · intro t3 H
    unfold laws_heldCellS_j3 at H
    refine AW.seq ?_
    refine AW.regs ?_
    refine oMov eZ ?_
    refine oMov eZ ?_
    refine xNil ?_
    refine TQ.qn ?_
    refine AW.ret ?_
    obtain rfl := Option.some.inj H
    exact endsR (RL.cons (RV.tmp eZ) (VO.flat rfl) RL.nil) List.nodup_nil
  · refine AW.seq ?_
    refine AW.regs ?_
    refine oMov eC ?_
    refine xNil ?_
    refine TQ.qn ?_
    refine AW.block ?_
    refine AW.iter (fun s5 : (Int × Int) => mk [(0, (.one (.d (.sl 2 (List.map d_TCell a1))))), (1, (.one (.d (.int .i64 s5.1)))), (5, (.one (.d (.int .i64 s5.2))))] [] noG) H (wk_mk [] (SL.cons (eS rfl (eS rfl eZ)) rfl VWk.rfl (SL.cons (eS rfl (eS rfl (eS rfl eZ))) rfl VWk.rfl (SL.cons eZ rfl VWk.rfl SL.nil))) BL.nil BK.nil) ?_
    intro kb6 s5 H
    unfold laws_heldCellS_b5 at H
    refine AW.seq ?_
    refine AW.seq ?_
    refine AW.regs ?_
    refine oMov (eS rfl (eS rfl eZ)) ?_
    refine oMov (eS rfl eZ) ?_
    refine oLenD eZ (n := a1.length) (List.length_map _) ?_
    refine oLss (eS rfl (eS rfl eZ)) eZ ?_
    refine xNil ?_
    refine TQ.qn ?_
    rcases oite H with ⟨h7, H⟩ | ⟨h7, H⟩
    · refine AW.condT eZ (decide_eq_true h7) ?_
      refine AW.skip ?_
      refine TQ.qn ?_
      refine AW.seq ?_
      refine AW.block ?_
      refine AW.seq ?_
      refine AW.seq ?_
      refine AW.regs ?_
      refine oMov (eS rfl (eS rfl (eS rfl (eS rfl eZ)))) ?_
      refine oMov (eS rfl (eS rfl (eS rfl (eS rfl (eS rfl (eS rfl (eS rfl eZ))))))) ?_
      obtain ⟨v8, h9, H⟩ := obind H
      refine oAtD (eS rfl eZ) eZ h9 ?_
      refine oFaddrB (m := 0) eZ rfl ?_
      refine oLoadB (e := (.int .i64 v8.Key)) eZ rfl ?_
      refine oMov (eS rfl (eS rfl (eS rfl (eS rfl (eS rfl (eS rfl (eS rfl (eS rfl (eS rfl (eS rfl eZ)))))))))) ?_
      refine oNeq (eS rfl eZ) eZ ?_
      refine xNil ?_
      refine TQ.qn ?_
      rcases oite H with ⟨h10, H⟩ | ⟨h10, H⟩
      · refine AW.condT eZ (decide_eq_true h10) ?_
        refine AW.seq ?_
        refine AW.regs ?_
        refine oMov eC ?_
        refine xNil ?_
        refine TQ.qn ?_
        refine AW.ret ?_
        refine TQ.qr ?_
        refine BQ.qr ?_
        refine TQ.qr ?_
        refine TQ.qr ?_
        refine BQ.qr ?_
        refine TQ.qr ?_
        obtain rfl := Option.some.inj H
        exact endsR (RL.cons (RV.tmp eZ) (VO.flat rfl) RL.nil) List.nodup_nil
      · refine AW.condF eZ (decide_eq_false h10) ?_
        refine AW.skip ?_
        refine TQ.qn ?_
        refine AW.seq ?_
        refine AW.regs ?_
        refine oMov (eS rfl (eS rfl (eS rfl (eS rfl (eS rfl (eS rfl (eS rfl (eS rfl (eS rfl (eS rfl (eS rfl (eS rfl eZ)))))))))))) ?_
        refine oAdd eZ eC ?_
        refine oMov eZ ?_
        refine xNil ?_
        refine TQ.qn ?_
        refine AW.weaken (wk_mk [] (SL.cons (k := 1) eZ rfl VWk.rfl (SL.cons (k := 0) (eS rfl (eS rfl (eS rfl (eS rfl (eS rfl (eS rfl (eS rfl (eS rfl (eS rfl (eS rfl (eS rfl (eS rfl (eS rfl (eS rfl eZ)))))))))))))) rfl VWk.rfl (SL.cons (k := 5) (eS rfl (eS rfl (eS rfl (eS rfl (eS rfl (eS rfl (eS rfl (eS rfl (eS rfl (eS rfl (eS rfl (eS rfl (eS rfl (eS rfl (eS rfl (eS rfl eZ)))))))))))))))) rfl VWk.rfl SL.nil))) BL.nil BK.nil) ?_
        refine AW.seq ?_
        refine AW.seq ?_
        refine AW.regs ?_
        refine oMov (eS rfl eZ) ?_
        refine oMov (eS rfl (eS rfl (eS rfl eZ))) ?_
        obtain ⟨v11, h12, H⟩ := obind H
        refine oAtD (eS rfl eZ) eZ h12 ?_
        refine oFaddrB (m := 1) eZ rfl ?_
        refine oLoadB (e := (.int .i64 v11.Value)) eZ rfl ?_
        refine oMov (eS rfl (eS rfl (eS rfl (eS rfl (eS rfl eZ))))) ?_
        refine oNeq (eS rfl eZ) eZ ?_
        refine xNil ?_
        refine TQ.qn ?_
        rcases oite H with ⟨h13, H⟩ | ⟨h13, H⟩
        · refine AW.condT eZ (decide_eq_true h13) ?_
          refine AW.seq ?_
          refine AW.regs ?_
          refine oMov eC ?_
          refine xNil ?_
          refine TQ.qn ?_
          refine AW.ret ?_
          refine TQ.qr ?_
          refine BQ.qr ?_
          refine TQ.qr ?_
          refine TQ.qr ?_
          refine BQ.qr ?_
          refine TQ.qr ?_
          obtain rfl := Option.some.inj H
          exact endsR (RL.cons (RV.tmp eZ) (VO.flat rfl) RL.nil) List.nodup_nil
        · refine AW.condF eZ (decide_eq_false h13) ?_
          refine AW.skip ?_
          refine TQ.qn ?_
          refine AW.regs ?_
          refine oMov (eS rfl (eS rfl (eS rfl (eS rfl (eS rfl (eS rfl (eS rfl eZ))))))) ?_
          refine oAdd eZ eC ?_
          refine oMov eZ ?_
          refine xNil ?_
          refine BQ.qn ?_
          refine TQ.qn ?_
          refine AW.regs ?_
          refine oMov (eS rfl (eS rfl (eS rfl (eS rfl (eS rfl (eS rfl (eS rfl (eS rfl (eS rfl (eS rfl (eS rfl (eS rfl eZ)))))))))))) ?_
          refine oAdd eZ eC ?_
          refine oMov eZ ?_
          refine xNil ?_
          exact TQ.qn ⟨((IntKind.wrap .i64 ((IntKind.wrap .i64 (s5.1 + 1)) + 1)), (IntKind.wrap .i64 (s5.2 + 1))), H, (wk_mk [] (SL.cons (eS rfl (eS rfl (eS rfl (eS rfl (eS rfl (eS rfl (eS rfl (eS rfl (eS rfl (eS rfl (eS rfl (eS rfl (eS rfl (eS rfl eZ)))))))))))))) rfl VWk.rfl (SL.cons (eS rfl (eS rfl (eS rfl eZ))) rfl VWk.rfl (SL.cons eZ rfl VWk.rfl SL.nil))) BL.nil BK.nil)⟩
    · refine AW.condF eZ (decide_eq_false h7) ?_
      refine AW.exit ?_
      refine TQ.qe ?_
      refine TQ.qe ?_
      refine BQ.qe ?_
      exact TQ.qn ⟨s5.1, H, (wk_mk [] (SL.cons (eS rfl (eS rfl (eS rfl (eS rfl (eS rfl eZ))))) rfl VWk.rfl SL.nil) BL.nil BK.nil)⟩

end Go.AW
