/- That functions of the program compute what the plain functions say: printed by a program of the prover's own (tool/dec.py). Conditions: each theorem's own. -/
import Derived.Test.YtkdaohfkphodeaaMMoveRank
import Derived.Test.YtkdaohfkphodeaaGMoveRank
set_option linter.unusedVariables false
set_option maxRecDepth 100000
namespace Go.AW
open Go.Proofs

theorem c_laws_szCellS {a1 : (List TCell)} {a2 : Int} {r : Int} (H : m_laws_szCellS a1 a2 = some r) : Fn Try.prog k_laws_szCellS (lent [(.sl 2 (List.map d_TCell a1)), (.int .i64 a2)]) true [(.int .i64 r)] := by
  refine i_laws_szCellS_fn (Nat.le_of_ble_eq_true rfl) ?_
  rw [init_mk]
  refine AW.weaken (wk_mk [] (SL.cons (v := (.one (.d (.sl 2 (List.map d_TCell a1))))) eZ rfl VWk.rfl (SL.cons (v := (.one (.d (.int .i64 a2)))) (eS rfl eZ) rfl VWk.rfl SL.nil)) BL.nil BK.nil) ?_
  unfold m_laws_szCellS at H
  unfold i_laws_szCellS
  refine AW.seq ?_
  refine AW.regs ?_
  refine oMov eC ?_
  refine xNil ?_
  refine TQ.qn ?_
  refine AW.seq ?_
  refine AW.regs ?_
  refine oMov (eS rfl (eS rfl eZ)) ?_
  refine oMov (eS rfl (eS rfl eZ)) ?_
  refine oLenD eZ (n := a1.length) (List.length_map _) ?_
  refine oSub (eS rfl (eS rfl eZ)) eZ ?_
  refine oMov eZ ?_
  refine xNil ?_
  refine TQ.qn ?_
  refine AW.seq ?_
  refine AW.seq ?_
  refine AW.regs ?_
  refine oMov eZ ?_
  refine oLss eZ eC ?_
  refine xNil ?_
  refine TQ.qn ?_
  rcases oite H with ⟨h3, H⟩ | ⟨h3, H⟩
  · refine AW.condT eZ (decide_eq_true h3) ?_
    refine AW.seq ?_
    refine AW.regs ?_
    refine oMov eC ?_
    refine xNil ?_
    refine TQ.qn ?_
    refine AW.ret ?_
    refine TQ.qr ?_
    obtain rfl := Option.some.inj H
    exact endsR (RL.cons (RV.tmp eZ) (VO.flat rfl) RL.nil) List.nodup_nil
  · refine AW.condF eZ (decide_eq_false h3) ?_
    refine AW.skip ?_
    refine TQ.qn ?_
    refine AW.seq ?_
    refine AW.regs ?_
    refine oMov (eS rfl (eS rfl eZ)) ?_
    refine oMov eZ ?_
    refine xNil ?_
    refine TQ.qn ?_
    refine AW.ret ?_
    obtain rfl := Option.some.inj H
    exact endsR (RL.cons (RV.tmp eZ) (VO.flat rfl) RL.nil) List.nodup_nil

theorem c_laws_szMove {a1 : TMove} {a2 : Int} {r : Int} (H : m_laws_szMove a1 a2 = some r) : Fn Try.prog k_laws_szMove (lent [(.agg (d_TMove a1)), (.int .i64 a2)]) true [(.int .i64 r)] := by
  refine i_laws_szMove_fn (Nat.le_of_ble_eq_true rfl) ?_
  rw [init_mk]
  refine AW.weaken (wk_mk [] (SL.cons (v := (.agg [(.d (.int .i64 a1.No)), (.d (.int .i64 a1.Stage)), (.d (.int .i64 a1.Lo)), (.d (.int .i64 a1.Hi)), (.d (.int .i64 a1.From)), (.d (.int .i64 a1.To)), (.d (.sl 2 (List.map d_TCell a1.Cells)))])) eZ rfl VWk.rfl (SL.cons (v := (.one (.d (.int .i64 a2)))) (eS rfl eZ) rfl VWk.rfl SL.nil)) BL.nil BK.nil) ?_
  unfold m_laws_szMove at H
  unfold i_laws_szMove
  refine AW.seq ?_
  refine AW.regs ?_
  refine oBox (n := 128) (m := 7) (cs := [(.d (.int .i64 a1.No)), (.d (.int .i64 a1.Stage)), (.d (.int .i64 a1.Lo)), (.d (.int .i64 a1.Hi)), (.d (.int .i64 a1.From)), (.d (.int .i64 a1.To)), (.d (.sl 2 (List.map d_TCell a1.Cells)))]) rfl eZ rfl rfl nZ ?_
  refine oMov eC ?_
  refine xNil ?_
  refine TQ.qn ?_
  refine AW.seq ?_
  refine AW.regs ?_
  refine oFaddrN (m := 6) (eS rfl eZ) rfl ?_
  refine oLoadV (q := 6) (c := (.d (.sl 2 (List.map d_TCell a1.Cells)))) eZ bZ rfl rfl ?_
  refine oMov (eS rfl (eS rfl (eS rfl (eS rfl (eS rfl eZ))))) ?_
  obtain ⟨v3, h4, H⟩ := obind H
  refine oCall (u := (.one (.d (.int .i64 v3)))) eC Cl.fn (c_laws_szCellS h4) (Evs.cons (eS rfl eZ) (Evs.cons eZ Evs.nil)) (VDs.cons VD.plain (VDs.cons VD.plain VDs.nil)) rfl ?_
  refine oMov eZ ?_
  refine xNil ?_
  refine TQ.qn ?_
  refine AW.seq ?_
  refine AW.seq ?_
  refine AW.regs ?_
  refine oMov eZ ?_
  refine oLss eZ eC ?_
  refine xNil ?_
  refine TQ.qn ?_
  rcases oite H with ⟨h5, H⟩ | ⟨h5, H⟩
  · refine AW.condT eZ (decide_eq_true h5) ?_
    refine AW.seq ?_
    refine AW.regs ?_
    refine oMov eC ?_
    refine xNil ?_
    refine TQ.qn ?_
    refine AW.ret ?_
    refine TQ.qr ?_
    obtain rfl := Option.some.inj H
    exact endsR (RL.cons (RV.tmp eZ) (VO.flat rfl) RL.nil) List.nodup_nil
  · refine AW.condF eZ (decide_eq_false h5) ?_
    refine AW.skip ?_
    refine TQ.qn ?_
    refine AW.seq ?_
    refine AW.regs ?_
    refine oMov (eS rfl (eS rfl eZ)) ?_
    refine oMov eZ ?_
    refine xNil ?_
    refine TQ.qn ?_
    refine AW.ret ?_
    obtain rfl := Option.some.inj H
    exact endsR (RL.cons (RV.tmp eZ) (VO.flat rfl) RL.nil) List.nodup_nil

theorem c_laws_toCell {a1 : TCell} {r : TCell} (H : m_laws_toCell a1 = some r) : Fn Try.prog k_laws_toCell (lent [(.agg (d_TCell a1))]) true [(.agg (d_TCell r))] := by
  refine i_laws_toCell_fn (Nat.le_of_ble_eq_true rfl) ?_
  rw [init_mk]
  refine AW.weaken (wk_mk [] (SL.cons (v := (.agg [(.d (.int .i64 a1.Key)), (.d (.int .i64 a1.Value))])) eZ rfl VWk.rfl SL.nil) BL.nil BK.nil) ?_
  unfold m_laws_toCell at H
  unfold i_laws_toCell
  refine AW.seq ?_
  refine AW.regs ?_
  refine oBox (n := 64) (m := 2) (cs := [(.d (.int .i64 a1.Key)), (.d (.int .i64 a1.Value))]) rfl eZ rfl rfl nZ ?_
  refine oVar (n := 128) (m := 2) rfl rfl (nS rfl nZ) ?_
  refine xNil ?_
  refine TQ.qn ?_
  refine AW.seq ?_
  refine AW.regs ?_
  refine oVar (n := 192) (m := 2) rfl rfl (nS rfl (nS rfl nZ)) ?_
  refine xNil ?_
  refine TQ.qn ?_
  refine AW.seq ?_
  refine AW.regs ?_
  refine oFaddrN (m := 0) (eS rfl (eS rfl eZ)) rfl ?_
  refine oLoadV (q := 0) (c := (.d (.int .i64 a1.Key))) eZ (bS rfl (bS rfl bZ)) rfl rfl ?_
  refine oFaddrN (m := 0) (eS rfl (eS rfl eZ)) rfl ?_
  refine oStoreV (es := [(.d (.int .i64 a1.Key)), (.d (.int .i64 0))]) eZ (eS rfl eZ) rfl rfl bZ rfl ?_
  refine xNil ?_
  refine TQ.qn ?_
  refine AW.seq ?_
  refine AW.regs ?_
  refine oFaddrN (m := 1) (eS rfl (eS rfl (eS rfl (eS rfl (eS rfl eZ))))) rfl ?_
  refine oLoadV (q := 1) (c := (.d (.int .i64 a1.Value))) eZ (bS rfl (bS rfl (bS rfl bZ))) rfl rfl ?_
  refine oFaddrN (m := 1) (eS rfl (eS rfl (eS rfl (eS rfl (eS rfl eZ))))) rfl ?_
  refine oStoreV (es := [(.d (.int .i64 a1.Key)), (.d (.int .i64 a1.Value))]) eZ (eS rfl eZ) rfl rfl bZ rfl ?_
  refine xNil ?_
  refine TQ.qn ?_
  refine AW.seq ?_
  refine AW.regs ?_
  refine oLoadVA (es := [(.d (.int .i64 a1.Key)), (.d (.int .i64 a1.Value))]) (eS rfl (eS rfl (eS rfl (eS rfl (eS rfl (eS rfl eZ)))))) bZ rfl ?_
  refine oStoreV (es := [(.d (.int .i64 a1.Key)), (.d (.int .i64 a1.Value))]) (eS rfl (eS rfl (eS rfl (eS rfl (eS rfl (eS rfl (eS rfl (eS rfl eZ)))))))) eZ rfl rfl (bS rfl (bS rfl (bS rfl bZ))) rfl ?_
  refine xNil ?_
  refine TQ.qn ?_
  refine AW.ret ?_
  obtain rfl := Option.some.inj H
  exact endsR (RL.cons (RV.cellA (es := [(.d (.int .i64 a1.Key)), (.d (.int .i64 a1.Value))]) (eS rfl (eS rfl (eS rfl (eS rfl (eS rfl (eS rfl (eS rfl (eS rfl eZ)))))))) bZ rfl) (VO.agg (ds := [(.int .i64 a1.Key), (.int .i64 a1.Value)]) rfl rfl) RL.nil) List.nodup_nil

theorem c_laws_toCellS {a1 : (List TCell)} {r : (List TCell)} (H : m_laws_toCellS a1 = some r) : Fn Try.prog k_laws_toCellS (lent [(.sl 2 (List.map d_TCell a1))]) true [(.sl 2 (List.map d_TCell r))] := by
  refine i_laws_toCellS_fn (Nat.le_of_ble_eq_true rfl) ?_
  rw [init_mk]
  refine AW.weaken (wk_mk [] (SL.cons (v := (.one (.d (.sl 2 (List.map d_TCell a1))))) eZ rfl VWk.rfl SL.nil) BL.nil BK.nil) ?_
  unfold m_laws_toCellS at H
  unfold i_laws_toCellS
  refine AW.seq ?_
  refine AW.regs ?_
  refine oMov eC ?_
  refine xNil ?_
  refine TQ.qn ?_
  refine AW.seq ?_
  refine AW.regs ?_
  refine oMov (eS rfl eZ) ?_
  refine oLenD eZ (n := a1.length) (List.length_map _) ?_
  obtain ⟨h2, H⟩ := oguard H
  refine oMksl (f := d_TCell) (zv := (TCell.mk 0 0)) (m := 448) (q := (Int.toNat (a1.length : Int))) rfl eZ eZ h2.1 h2.2 rfl (by decide) rfl nZ ?_
  refine oMov eZ ?_
  refine xNil ?_
  refine TQ.qn ?_
  refine AW.seqJ (fun t3 : (List TCell) => laws_toCellS_j3 t3 = some r) (fun t3 => mk [(3, (.one (.sl 320128 0 t3.length)))] [(320128, (.data 2 (List.map d_TCell t3) true none))] noG) ?_ ?_
  · intro t3 H
    unfold laws_toCellS_j3 at H
    refine AW.seq ?_
    refine AW.regs ?_
    refine oMov eZ ?_
    refine oMov eZ ?_
    refine xNil ?_
    refine TQ.qn ?_
    refine AW.ret ?_
    obtain rfl := Option.some.inj H
    exact endsR (RL.cons (RV.tmp eZ) (VO.sl bZ (List.length_map _) (allFlat fun _ => rfl)) RL.nil) (by decide)
  · refine AW.seq ?_
    refine AW.regs ?_
    refine oMov eC ?_
    refine xNil ?_
    refine TQ.qn ?_
    refine AW.block ?_
    refine AW.iter (fun s5 : ((List TCell) × Int) => mk [(0, (.one (.d (.sl 2 (List.map d_TCell a1))))), (3, (.one (.sl 320192 0 s5.1.length))), (4, (.one (.d (.int .i64 s5.2))))] [(320192, (.data 2 (List.map d_TCell s5.1) true none))] noG) H ((wk_mk [] (SL.cons (eS rfl (eS rfl (eS rfl (eS rfl (eS rfl (eS rfl eZ)))))) rfl VWk.rfl (SL.cons (eS rfl eZ) rfl (VWk.one (CWk.len (by simp))) (SL.cons eZ rfl VWk.rfl SL.nil))) (BL.keep rfl BL.nil) (BK.cons rfl bZ rfl rfl BK.nil)).trans (wk_ren 448 320192 rfl (nS rfl nZ))) ?_
    intro kb6 s5 H
    unfold laws_toCellS_b5 at H
    refine AW.seq ?_
    refine AW.seq ?_
    refine AW.regs ?_
    refine oMov (eS rfl (eS rfl eZ)) ?_
    refine oMov (eS rfl eZ) ?_
    refine oLenD eZ (n := a1.length) (List.length_map _) ?_
    refine oLss (eS rfl (eS rfl eZ)) eZ ?_
    refine xNil ?_
    refine TQ.qn ?_
    rcases oite H with ⟨h7, H⟩ | ⟨h7, H⟩
    · refine AW.condT eZ (decide_eq_true h7) ?_
      refine AW.skip ?_
      refine TQ.qn ?_
      refine AW.seq ?_
      refine AW.block ?_
      refine AW.regs ?_
      refine oMov (eS rfl (eS rfl (eS rfl (eS rfl (eS rfl eZ))))) ?_
      refine oMov (eS rfl (eS rfl (eS rfl (eS rfl (eS rfl (eS rfl (eS rfl eZ))))))) ?_
      refine oMov (eS rfl (eS rfl (eS rfl (eS rfl (eS rfl (eS rfl eZ)))))) ?_
      refine oMov (eS rfl (eS rfl (eS rfl (eS rfl (eS rfl (eS rfl (eS rfl (eS rfl (eS rfl eZ))))))))) ?_
      obtain ⟨v8, h9, H⟩ := obind H
      refine oAtD (eS rfl eZ) eZ h9 ?_
      refine oLoadBA (es := [(.d (.int .i64 v8.Key)), (.d (.int .i64 v8.Value))]) eZ rfl ?_
      obtain ⟨v10, h11, H⟩ := obind H
      refine oCall (u := (.agg [(.d (.int .i64 v10.Key)), (.d (.int .i64 v10.Value))])) eC Cl.fn (c_laws_toCell h11) (Evs.cons eZ Evs.nil) (VDs.cons (VD.agg rfl) VDs.nil) rfl ?_
      obtain ⟨v12, h13, H⟩ := obind H
      refine oAtN (eS rfl (eS rfl (eS rfl (eS rfl (eS rfl (eS rfl eZ)))))) (eS rfl (eS rfl (eS rfl (eS rfl (eS rfl eZ))))) bZ rfl h13 ?_
      refine oStoreD (t := v12) (t' := v10) (es := [(.int .i64 v10.Key), (.int .i64 v10.Value)]) eZ (eS rfl eZ) rfl rfl bZ (idx_at h13) rfl rfl rfl ?_
      refine xNil ?_
      refine BQ.qn ?_
      refine TQ.qn ?_
      refine AW.regs ?_
      refine oMov (eS rfl (eS rfl (eS rfl (eS rfl (eS rfl (eS rfl (eS rfl (eS rfl (eS rfl (eS rfl (eS rfl (eS rfl (eS rfl (eS rfl eZ)))))))))))))) ?_
      refine oAdd eZ eC ?_
      refine oMov eZ ?_
      refine xNil ?_
      exact TQ.qn ⟨(s5.1.set (Int.toNat s5.2) v10, (IntKind.wrap .i64 (s5.2 + 1))), H, (wk_mk [] (SL.cons (eS rfl (eS rfl (eS rfl (eS rfl (eS rfl (eS rfl (eS rfl (eS rfl (eS rfl (eS rfl (eS rfl (eS rfl (eS rfl (eS rfl (eS rfl eZ))))))))))))))) rfl VWk.rfl (SL.cons (eS rfl (eS rfl (eS rfl (eS rfl (eS rfl (eS rfl (eS rfl (eS rfl (eS rfl (eS rfl (eS rfl (eS rfl (eS rfl (eS rfl (eS rfl (eS rfl eZ)))))))))))))))) rfl (VWk.one (CWk.len (by simp))) (SL.cons eZ rfl VWk.rfl SL.nil))) (BL.keep rfl (BL.keep rfl BL.nil)) (BK.cons rfl bZ rfl rfl BK.nil))⟩
    · refine AW.condF eZ (decide_eq_false h7) ?_
      refine AW.exit ?_
      refine TQ.qe ?_
      refine TQ.qe ?_
      refine BQ.qe ?_
      exact TQ.qn ⟨s5.1, H, ((wk_mk [] (SL.cons (eS rfl (eS rfl (eS rfl (eS rfl (eS rfl eZ))))) rfl VWk.rfl SL.nil) (BL.keep rfl BL.nil) (BK.cons rfl bZ rfl rfl BK.nil)).trans (wk_ren 320192 320128 rfl (nS rfl nZ)))⟩

theorem c_laws_toMove {a1 : TMove} {r : TMove} (H : m_laws_toMove a1 = some r) : Fn Try.prog k_laws_toMove (lent [(.agg (d_TMove a1))]) true [(.agg (d_TMove r))] := by
  refine i_laws_toMove_fn (Nat.le_of_ble_eq_true rfl) ?_
  rw [init_mk]
  refine AW.weaken (wk_mk [] (SL.cons (v := (.agg [(.d (.int .i64 a1.No)), (.d (.int .i64 a1.Stage)), (.d (.int .i64 a1.Lo)), (.d (.int .i64 a1.Hi)), (.d (.int .i64 a1.From)), (.d (.int .i64 a1.To)), (.d (.sl 2 (List.map d_TCell a1.Cells)))])) eZ rfl VWk.rfl SL.nil) BL.nil BK.nil) ?_
  unfold m_laws_toMove at H
  unfold i_laws_toMove
  refine AW.seq ?_
  refine AW.regs ?_
  refine oBox (n := 64) (m := 7) (cs := [(.d (.int .i64 a1.No)), (.d (.int .i64 a1.Stage)), (.d (.int .i64 a1.Lo)), (.d (.int .i64 a1.Hi)), (.d (.int .i64 a1.From)), (.d (.int .i64 a1.To)), (.d (.sl 2 (List.map d_TCell a1.Cells)))]) rfl eZ rfl rfl nZ ?_
  refine oVar (n := 128) (m := 7) rfl rfl (nS rfl nZ) ?_
  refine xNil ?_
  refine TQ.qn ?_
  refine AW.seq ?_
  refine AW.regs ?_
  refine oVar (n := 192) (m := 7) rfl rfl (nS rfl (nS rfl nZ)) ?_
  refine xNil ?_
  refine TQ.qn ?_
  refine AW.seq ?_
  refine AW.regs ?_
  refine oFaddrN (m := 0) (eS rfl (eS rfl eZ)) rfl ?_
  refine oLoadV (q := 0) (c := (.d (.int .i64 a1.No))) eZ (bS rfl (bS rfl bZ)) rfl rfl ?_
  refine oFaddrN (m := 0) (eS rfl (eS rfl eZ)) rfl ?_
  refine oStoreV (es := [(.d (.int .i64 a1.No)), (.d (.int .i64 0)), (.d (.int .i64 0)), (.d (.int .i64 0)), (.d (.int .i64 0)), (.d (.int .i64 0)), .zs]) eZ (eS rfl eZ) rfl rfl bZ rfl ?_
  refine xNil ?_
  refine TQ.qn ?_
  refine AW.seq ?_
  refine AW.regs ?_
  refine oFaddrN (m := 1) (eS rfl (eS rfl (eS rfl (eS rfl (eS rfl eZ))))) rfl ?_
  refine oLoadV (q := 1) (c := (.d (.int .i64 a1.Stage))) eZ (bS rfl (bS rfl (bS rfl bZ))) rfl rfl ?_
  refine oFaddrN (m := 1) (eS rfl (eS rfl (eS rfl (eS rfl (eS rfl eZ))))) rfl ?_
  refine oStoreV (es := [(.d (.int .i64 a1.No)), (.d (.int .i64 a1.Stage)), (.d (.int .i64 0)), (.d (.int .i64 0)), (.d (.int .i64 0)), (.d (.int .i64 0)), .zs]) eZ (eS rfl eZ) rfl rfl bZ rfl ?_
  refine xNil ?_
  refine TQ.qn ?_
  refine AW.seq ?_
  refine AW.regs ?_
  refine oFaddrN (m := 2) (eS rfl (eS rfl (eS rfl (eS rfl (eS rfl (eS rfl (eS rfl (eS rfl eZ)))))))) rfl ?_
  refine oLoadV (q := 2) (c := (.d (.int .i64 a1.Lo))) eZ (bS rfl (bS rfl (bS rfl (bS rfl bZ)))) rfl rfl ?_
  refine oFaddrN (m := 2) (eS rfl (eS rfl (eS rfl (eS rfl (eS rfl (eS rfl (eS rfl (eS rfl eZ)))))))) rfl ?_
  refine oStoreV (es := [(.d (.int .i64 a1.No)), (.d (.int .i64 a1.Stage)), (.d (.int .i64 a1.Lo)), (.d (.int .i64 0)), (.d (.int .i64 0)), (.d (.int .i64 0)), .zs]) eZ (eS rfl eZ) rfl rfl bZ rfl ?_
  refine xNil ?_
  refine TQ.qn ?_
  refine AW.seq ?_
  refine AW.regs ?_
  refine oFaddrN (m := 3) (eS rfl (eS rfl (eS rfl (eS rfl (eS rfl (eS rfl (eS rfl (eS rfl (eS rfl (eS rfl (eS rfl eZ))))))))))) rfl ?_
  refine oLoadV (q := 3) (c := (.d (.int .i64 a1.Hi))) eZ (bS rfl (bS rfl (bS rfl (bS rfl (bS rfl bZ))))) rfl rfl ?_
  refine oFaddrN (m := 3) (eS rfl (eS rfl (eS rfl (eS rfl (eS rfl (eS rfl (eS rfl (eS rfl (eS rfl (eS rfl (eS rfl eZ))))))))))) rfl ?_
  refine oStoreV (es := [(.d (.int .i64 a1.No)), (.d (.int .i64 a1.Stage)), (.d (.int .i64 a1.Lo)), (.d (.int .i64 a1.Hi)), (.d (.int .i64 0)), (.d (.int .i64 0)), .zs]) eZ (eS rfl eZ) rfl rfl bZ rfl ?_
  refine xNil ?_
  refine TQ.qn ?_
  refine AW.weaken (wk_mk [] (SL.cons (k := 3) (eS rfl (eS rfl (eS rfl (eS rfl (eS rfl (eS rfl (eS rfl (eS rfl (eS rfl (eS rfl (eS rfl (eS rfl eZ)))))))))))) rfl VWk.rfl (SL.cons (k := 2) (eS rfl (eS rfl (eS rfl (eS rfl (eS rfl (eS rfl (eS rfl (eS rfl (eS rfl (eS rfl (eS rfl (eS rfl (eS rfl eZ))))))))))))) rfl VWk.rfl (SL.cons (k := 1) (eS rfl (eS rfl (eS rfl (eS rfl (eS rfl (eS rfl (eS rfl (eS rfl (eS rfl (eS rfl (eS rfl (eS rfl (eS rfl (eS rfl eZ)))))))))))))) rfl VWk.rfl SL.nil))) (BL.keep rfl (BL.keep rfl (BL.keep rfl (BL.keep rfl (BL.keep rfl (BL.keep rfl (BL.keep rfl BL.nil))))))) (BK.cons (n := 192) rfl bZ rfl rfl (BK.cons (n := 128) rfl (bS rfl (bS rfl (bS rfl (bS rfl (bS rfl bZ))))) rfl rfl (BK.cons (n := 64) rfl (bS rfl (bS rfl (bS rfl (bS rfl (bS rfl (bS rfl bZ)))))) rfl rfl BK.nil)))) ?_
  refine AW.seq ?_
  refine AW.regs ?_
  refine oFaddrN (m := 4) (eS rfl (eS rfl eZ)) rfl ?_
  refine oLoadV (q := 4) (c := (.d (.int .i64 a1.From))) eZ (bS rfl (bS rfl bZ)) rfl rfl ?_
  refine oFaddrN (m := 4) (eS rfl (eS rfl eZ)) rfl ?_
  refine oStoreV (es := [(.d (.int .i64 a1.No)), (.d (.int .i64 a1.Stage)), (.d (.int .i64 a1.Lo)), (.d (.int .i64 a1.Hi)), (.d (.int .i64 a1.From)), (.d (.int .i64 0)), .zs]) eZ (eS rfl eZ) rfl rfl bZ rfl ?_
  refine xNil ?_
  refine TQ.qn ?_
  refine AW.seq ?_
  refine AW.regs ?_
  refine oFaddrN (m := 5) (eS rfl (eS rfl (eS rfl (eS rfl (eS rfl eZ))))) rfl ?_
  refine oLoadV (q := 5) (c := (.d (.int .i64 a1.To))) eZ (bS rfl (bS rfl (bS rfl bZ))) rfl rfl ?_
  refine oFaddrN (m := 5) (eS rfl (eS rfl (eS rfl (eS rfl (eS rfl eZ))))) rfl ?_
  refine oStoreV (es := [(.d (.int .i64 a1.No)), (.d (.int .i64 a1.Stage)), (.d (.int .i64 a1.Lo)), (.d (.int .i64 a1.Hi)), (.d (.int .i64 a1.From)), (.d (.int .i64 a1.To)), .zs]) eZ (eS rfl eZ) rfl rfl bZ rfl ?_
  refine xNil ?_
  refine TQ.qn ?_
  refine AW.seq ?_
  refine AW.regs ?_
  refine oFaddrN (m := 6) (eS rfl (eS rfl (eS rfl (eS rfl (eS rfl (eS rfl (eS rfl (eS rfl eZ)))))))) rfl ?_
  refine oLoadV (q := 6) (c := (.d (.sl 2 (List.map d_TCell a1.Cells)))) eZ (bS rfl (bS rfl (bS rfl (bS rfl bZ)))) rfl rfl ?_
  obtain ⟨v2, h3, H⟩ := obind H
  refine oCallN (u := (.one (.sl 1536 0 ((List.map d_TCell v2).length)))) (bs := [(1536, (.data 2 (List.map d_TCell v2) true none))]) eC Cl.fn (c_laws_toCellS h3) (Evs.cons eZ Evs.nil) (VDs.cons VD.plain VDs.nil) rfl rfl (fC (nS rfl (nS rfl (nS rfl (nS rfl (nS rfl nZ))))) rfl (fC (nS rfl (nS rfl (nS rfl (nS rfl (nS rfl nZ))))) rfl fN)) ?_
  refine oFaddrN (m := 6) (eS rfl (eS rfl (eS rfl (eS rfl (eS rfl (eS rfl (eS rfl (eS rfl (eS rfl eZ))))))))) rfl ?_
  refine oStoreV (es := [(.d (.int .i64 a1.No)), (.d (.int .i64 a1.Stage)), (.d (.int .i64 a1.Lo)), (.d (.int .i64 a1.Hi)), (.d (.int .i64 a1.From)), (.d (.int .i64 a1.To)), (.sl 1536 0 ((List.map d_TCell v2).length))]) eZ (eS rfl eZ) rfl rfl (bS rfl bZ) rfl ?_
  refine xNil ?_
  refine TQ.qn ?_
  refine AW.seq ?_
  refine AW.regs ?_
  refine oLoadVA (es := [(.d (.int .i64 a1.No)), (.d (.int .i64 a1.Stage)), (.d (.int .i64 a1.Lo)), (.d (.int .i64 a1.Hi)), (.d (.int .i64 a1.From)), (.d (.int .i64 a1.To)), (.sl 1536 0 ((List.map d_TCell v2).length))]) (eS rfl (eS rfl (eS rfl (eS rfl (eS rfl (eS rfl (eS rfl (eS rfl (eS rfl (eS rfl eZ)))))))))) bZ rfl ?_
  refine oStoreV (es := [(.d (.int .i64 a1.No)), (.d (.int .i64 a1.Stage)), (.d (.int .i64 a1.Lo)), (.d (.int .i64 a1.Hi)), (.d (.int .i64 a1.From)), (.d (.int .i64 a1.To)), (.sl 1536 0 ((List.map d_TCell v2).length))]) (eS rfl (eS rfl (eS rfl (eS rfl (eS rfl (eS rfl (eS rfl (eS rfl (eS rfl (eS rfl (eS rfl (eS rfl eZ)))))))))))) eZ rfl rfl (bS rfl (bS rfl (bS rfl (bS rfl (bS rfl bZ))))) rfl ?_
  refine xNil ?_
  refine TQ.qn ?_
  refine AW.ret ?_
  obtain rfl := Option.some.inj H
  exact endsR (RL.cons (RV.cellA (es := [(.d (.int .i64 a1.No)), (.d (.int .i64 a1.Stage)), (.d (.int .i64 a1.Lo)), (.d (.int .i64 a1.Hi)), (.d (.int .i64 a1.From)), (.d (.int .i64 a1.To)), (.sl 1536 0 ((List.map d_TCell v2).length))]) (eS rfl (eS rfl (eS rfl (eS rfl (eS rfl (eS rfl (eS rfl (eS rfl (eS rfl (eS rfl (eS rfl (eS rfl eZ)))))))))))) bZ rfl) (VO.aggs (VOs.cons (VO.flat rfl) (VOs.cons (VO.flat rfl) (VOs.cons (VO.flat rfl) (VOs.cons (VO.flat rfl) (VOs.cons (VO.flat rfl) (VOs.cons (VO.flat rfl) (VOs.cons (VO.sl (bS rfl (bS rfl bZ)) (by simp) (allFlat fun _ => rfl)) VOs.nil)))))))) RL.nil) (by decide)

theorem c_spec_l1In {a1 : Int} {a2 : Int} {a3 : Int} {r : Bool} (H : m_spec_l1In a1 a2 a3 = some r) : Fn Try.prog k_spec_l1In (lent [(.int .i64 a1), (.int .i64 a2), (.int .i64 a3)]) true [(.bool r)] := by
  refine i_spec_l1In_fn (Nat.le_of_ble_eq_true rfl) ?_
  rw [init_mk]
  refine AW.weaken (wk_mk [] (SL.cons (v := (.one (.d (.int .i64 a1)))) eZ rfl VWk.rfl (SL.cons (v := (.one (.d (.int .i64 a2)))) (eS rfl eZ) rfl VWk.rfl (SL.cons (v := (.one (.d (.int .i64 a3)))) (eS rfl (eS rfl eZ)) rfl VWk.rfl SL.nil))) BL.nil BK.nil) ?_
  unfold m_spec_l1In at H
  unfold i_spec_l1In
  refine AW.seq ?_
  refine AW.regs ?_
  refine oMov eC ?_
  refine xNil ?_
  refine TQ.qn ?_
  refine AW.seq ?_
  refine AW.regs ?_
  refine oMov (eS rfl eZ) ?_
  refine oMov (eS rfl (eS rfl (eS rfl eZ))) ?_
  refine oGeq (eS rfl eZ) eZ ?_
  refine oMov eZ ?_
  rcases oite H with ⟨h4, H⟩ | ⟨h4, H⟩
  · refine gDo eZ (decide_eq_true h4) ?_
    refine oMov (eS rfl (eS rfl (eS rfl (eS rfl (eS rfl eZ))))) ?_
    refine gDo (eS rfl eZ) (decide_eq_true h4) ?_
    refine oMov (eS rfl (eS rfl (eS rfl (eS rfl (eS rfl (eS rfl (eS rfl (eS rfl eZ)))))))) ?_
    refine gDo (eS rfl (eS rfl eZ)) (decide_eq_true h4) ?_
    refine oLeq (eS rfl eZ) eZ ?_
    refine oPickT (eS rfl (eS rfl (eS rfl eZ))) (decide_eq_true h4) eZ ?_
    refine oMov eZ ?_
    refine xNil ?_
    refine TQ.qn ?_
    refine AW.ret ?_
    obtain rfl := Option.some.inj H
    exact endsR (RL.cons (RV.tmp eZ) (VO.flat rfl) RL.nil) List.nodup_nil
  · refine gSkip eZ (decide_eq_false h4) rfl ?_
    refine gSkip (eS rfl eZ) (decide_eq_false h4) rfl ?_
    refine gSkip (eS rfl (eS rfl eZ)) (decide_eq_false h4) rfl ?_
    refine oPickF (eS rfl (eS rfl (eS rfl eZ))) (decide_eq_false h4) eC ?_
    refine oMov eZ ?_
    refine xNil ?_
    refine TQ.qn ?_
    refine AW.ret ?_
    obtain rfl := Option.some.inj H
    exact endsR (RL.cons (RV.tmp eZ) (VO.flat rfl) RL.nil) List.nodup_nil

theorem c_spec_l1Min {a1 : Int} {a2 : Int} {r : Int} (H : m_spec_l1Min a1 a2 = some r) : Fn Try.prog k_spec_l1Min (lent [(.int .i64 a1), (.int .i64 a2)]) true [(.int .i64 r)] := by
  refine i_spec_l1Min_fn (Nat.le_of_ble_eq_true rfl) ?_
  rw [init_mk]
  refine AW.weaken (wk_mk [] (SL.cons (v := (.one (.d (.int .i64 a1)))) eZ rfl VWk.rfl (SL.cons (v := (.one (.d (.int .i64 a2)))) (eS rfl eZ) rfl VWk.rfl SL.nil)) BL.nil BK.nil) ?_
  unfold m_spec_l1Min at H
  unfold i_spec_l1Min
  refine AW.seq ?_
  refine AW.regs ?_
  refine oMov eC ?_
  refine xNil ?_
  refine TQ.qn ?_
  refine AW.seq ?_
  refine AW.seq ?_
  refine AW.regs ?_
  refine oMov (eS rfl eZ) ?_
  refine oMov (eS rfl (eS rfl (eS rfl eZ))) ?_
  refine oLss (eS rfl eZ) eZ ?_
  refine xNil ?_
  refine TQ.qn ?_
  rcases oite H with ⟨h3, H⟩ | ⟨h3, H⟩
  · refine AW.condT eZ (decide_eq_true h3) ?_
    refine AW.seq ?_
    refine AW.regs ?_
    refine oMov (eS rfl (eS rfl (eS rfl (eS rfl eZ)))) ?_
    refine oMov eZ ?_
    refine xNil ?_
    refine TQ.qn ?_
    refine AW.ret ?_
    refine TQ.qr ?_
    obtain rfl := Option.some.inj H
    exact endsR (RL.cons (RV.tmp eZ) (VO.flat rfl) RL.nil) List.nodup_nil
  · refine AW.condF eZ (decide_eq_false h3) ?_
    refine AW.skip ?_
    refine TQ.qn ?_
    refine AW.seq ?_
    refine AW.regs ?_
    refine oMov (eS rfl (eS rfl (eS rfl (eS rfl (eS rfl eZ))))) ?_
    refine oMov eZ ?_
    refine xNil ?_
    refine TQ.qn ?_
    refine AW.ret ?_
    obtain rfl := Option.some.inj H
    exact endsR (RL.cons (RV.tmp eZ) (VO.flat rfl) RL.nil) List.nodup_nil

theorem c_spec_MoveRank {a1 : TMove} {r : Int} (H : m_spec_MoveRank a1 = some r) : Fn Try.prog k_spec_MoveRank (lent [(.agg (d_TMove a1))]) true [(.int .i64 r)] := by
  refine i_spec_MoveRank_fn (Nat.le_of_ble_eq_true rfl) ?_
  rw [init_mk]
  refine AW.weaken (wk_mk [] (SL.cons (v := (.agg [(.d (.int .i64 a1.No)), (.d (.int .i64 a1.Stage)), (.d (.int .i64 a1.Lo)), (.d (.int .i64 a1.Hi)), (.d (.int .i64 a1.From)), (.d (.int .i64 a1.To)), (.d (.sl 2 (List.map d_TCell a1.Cells)))])) eZ rfl VWk.rfl SL.nil) BL.nil BK.nil) ?_
  unfold m_spec_MoveRank at H
  unfold i_spec_MoveRank
  refine AW.seq ?_
  refine AW.regs ?_
  refine oBox (n := 64) (m := 7) (cs := [(.d (.int .i64 a1.No)), (.d (.int .i64 a1.Stage)), (.d (.int .i64 a1.Lo)), (.d (.int .i64 a1.Hi)), (.d (.int .i64 a1.From)), (.d (.int .i64 a1.To)), (.d (.sl 2 (List.map d_TCell a1.Cells)))]) rfl eZ rfl rfl nZ ?_
  refine oMov eC ?_
  refine xNil ?_
  refine TQ.qn ?_
  refine AW.seq ?_
  refine AW.seqJ (fun t2 : Bool => (spec_MoveRank_j2 a1) t2 = some r) (fun t2 => mk [(1, (.one (.ptr (.nm 64 0 0)))), (12, (.one (.d (.bool t2))))] [(64, (.vars 7 [(.d (.int .i64 a1.No)), (.d (.int .i64 a1.Stage)), (.d (.int .i64 a1.Lo)), (.d (.int .i64 a1.Hi)), (.d (.int .i64 a1.From)), (.d (.int .i64 a1.To)), (.d (.sl 2 (List.map d_TCell a1.Cells)))]))] noG) ?_ ?_
  · intro t2 H
    unfold spec_MoveRank_j2 at H
    rcases oite H with ⟨h4, H⟩ | ⟨h4, H⟩
    · refine AW.condT (eS rfl eZ) h4 ?_
      refine AW.seq ?_
      refine AW.regs ?_
      refine oMov eC ?_
      refine xNil ?_
      refine TQ.qn ?_
      refine AW.ret ?_
      refine TQ.qr ?_
      obtain rfl := Option.some.inj H
      exact endsR (RL.cons (RV.tmp eZ) (VO.flat rfl) RL.nil) List.nodup_nil
    · refine AW.condF (eS rfl eZ) (nt h4) ?_
      refine AW.skip ?_
      refine TQ.qn ?_
      refine AW.seq ?_
      refine AW.regd ?_
      refine oFaddrN (m := 0) eZ rfl ?_
      refine oLoadV (q := 0) (c := (.d (.int .i64 a1.No))) eZ (hB rfl bZ) rfl rfl ?_
      refine oSub eZ eC ?_
      refine oMul eC eZ ?_
      refine oFaddrN (m := 1) (eS rfl (eS rfl (eS rfl (eS rfl eZ)))) rfl ?_
      refine oLoadV (q := 1) (c := (.d (.int .i64 a1.Stage))) eZ bZ rfl rfl ?_
      obtain ⟨v5, h6, H⟩ := obind H
      refine oCall (u := (.one (.d (.int .i64 v5)))) eC Cl.fn (c_spec_l1Min h6) (Evs.cons eZ (Evs.cons eC Evs.nil)) (VDs.cons VD.plain (VDs.cons VD.plain VDs.nil)) rfl ?_
      refine oAdd (eS rfl (eS rfl (eS rfl eZ))) eZ ?_
      refine oMov eZ ?_
      refine xNil ?_
      refine TQ.qn ?_
      refine AW.ret ?_
      obtain rfl := Option.some.inj H
      exact endsR (RL.cons (RV.tmp eZ) (VO.flat rfl) RL.nil) List.nodup_nil
  · refine AW.regs ?_
    refine oFaddrN (m := 0) (eS rfl eZ) rfl ?_
    refine oLoadV (q := 0) (c := (.d (.int .i64 a1.No))) eZ bZ rfl rfl ?_
    obtain ⟨v7, h8, H⟩ := obind H
    refine oCall (u := (.one (.d (.bool v7)))) eC Cl.fn (c_spec_l1In h8) (Evs.cons eZ (Evs.cons eC (Evs.cons eC Evs.nil))) (VDs.cons VD.plain (VDs.cons VD.plain (VDs.cons VD.plain VDs.nil))) rfl ?_
    refine oInv eZ ?_
    refine oMov eZ ?_
    rcases oite H with ⟨h9, H⟩ | ⟨h9, H⟩
    · refine gDo eZ (congrArg Bool.not h9) ?_
      refine oFaddrN (m := 1) (eS rfl (eS rfl (eS rfl (eS rfl (eS rfl (eS rfl eZ)))))) rfl ?_
      refine gDo (eS rfl eZ) (congrArg Bool.not h9) ?_
      refine oLoadV (q := 1) (c := (.d (.int .i64 a1.Stage))) eZ bZ rfl rfl ?_
      refine gDo (eS rfl (eS rfl eZ)) (congrArg Bool.not h9) ?_
      obtain ⟨v10, h11, H⟩ := obind H
      refine oCall (u := (.one (.d (.bool v10)))) eC Cl.fn (c_spec_l1In h11) (Evs.cons eZ (Evs.cons eC (Evs.cons eC Evs.nil))) (VDs.cons VD.plain (VDs.cons VD.plain (VDs.cons VD.plain VDs.nil))) rfl ?_
      refine gDo (eS rfl (eS rfl (eS rfl eZ))) (congrArg Bool.not h9) ?_
      refine oInv eZ ?_
      refine oPickF (eS rfl (eS rfl (eS rfl (eS rfl eZ)))) (congrArg Bool.not h9) eZ ?_
      refine xNil ?_
      exact TQ.qn ⟨(!v10), H, (wk_mk [] (SL.cons (eS rfl (eS rfl (eS rfl (eS rfl (eS rfl (eS rfl (eS rfl (eS rfl (eS rfl (eS rfl (eS rfl eZ))))))))))) rfl VWk.rfl (SL.cons eZ rfl VWk.rfl SL.nil)) (BL.keep rfl BL.nil) (BK.cons rfl bZ rfl rfl BK.nil))⟩
    · refine gSkip eZ (congrArg Bool.not (nt h9)) rfl ?_
      refine gSkip (eS rfl eZ) (congrArg Bool.not (nt h9)) rfl ?_
      refine gSkip (eS rfl (eS rfl eZ)) (congrArg Bool.not (nt h9)) rfl ?_
      refine gSkip (eS rfl (eS rfl (eS rfl eZ))) (congrArg Bool.not (nt h9)) rfl ?_
      refine oPickT (eS rfl (eS rfl (eS rfl (eS rfl eZ)))) (congrArg Bool.not (nt h9)) eC ?_
      refine xNil ?_
      exact TQ.qn ⟨true, H, (wk_mk [] (SL.cons (eS rfl (eS rfl (eS rfl (eS rfl (eS rfl (eS rfl (eS rfl (eS rfl (eS rfl (eS rfl (eS rfl eZ))))))))))) rfl VWk.rfl (SL.cons eZ rfl VWk.rfl SL.nil)) (BL.keep rfl BL.nil) (BK.cons rfl bZ rfl rfl BK.nil))⟩

theorem c_impl_from {a1 : Int} {a2 : Int} {a3 : Int} {r : Bool} (H : m_impl_from a1 a2 a3 = some r) : Fn Try.prog k_impl_from (lent [(.int .i64 a1), (.int .i64 a2), (.int .i64 a3)]) true [(.bool r)] := by
  refine i_impl_from_fn (Nat.le_of_ble_eq_true rfl) ?_
  rw [init_mk]
  refine AW.weaken (wk_mk [] (SL.cons (v := (.one (.d (.int .i64 a1)))) eZ rfl VWk.rfl (SL.cons (v := (.one (.d (.int .i64 a2)))) (eS rfl eZ) rfl VWk.rfl (SL.cons (v := (.one (.d (.int .i64 a3)))) (eS rfl (eS rfl eZ)) rfl VWk.rfl SL.nil))) BL.nil BK.nil) ?_
  unfold m_impl_from at H
  unfold i_impl_from
  refine AW.seq ?_
  refine AW.regs ?_
  refine oMov eC ?_
  refine xNil ?_
  refine TQ.qn ?_
  refine AW.seq ?_
  refine AW.regs ?_
  refine oMov (eS rfl eZ) ?_
  refine oMov (eS rfl (eS rfl (eS rfl eZ))) ?_
  refine oGeq (eS rfl eZ) eZ ?_
  refine oMov eZ ?_
  rcases oite H with ⟨h4, H⟩ | ⟨h4, H⟩
  · refine gDo eZ (decide_eq_true h4) ?_
    refine oMov (eS rfl (eS rfl (eS rfl (eS rfl (eS rfl eZ))))) ?_
    refine gDo (eS rfl eZ) (decide_eq_true h4) ?_
    refine oMov (eS rfl (eS rfl (eS rfl (eS rfl (eS rfl (eS rfl (eS rfl (eS rfl eZ)))))))) ?_
    refine gDo (eS rfl (eS rfl eZ)) (decide_eq_true h4) ?_
    refine oLeq (eS rfl eZ) eZ ?_
    refine oPickT (eS rfl (eS rfl (eS rfl eZ))) (decide_eq_true h4) eZ ?_
    refine oMov eZ ?_
    refine xNil ?_
    refine TQ.qn ?_
    refine AW.ret ?_
    obtain rfl := Option.some.inj H
    exact endsR (RL.cons (RV.tmp eZ) (VO.flat rfl) RL.nil) List.nodup_nil
  · refine gSkip eZ (decide_eq_false h4) rfl ?_
    refine gSkip (eS rfl eZ) (decide_eq_false h4) rfl ?_
    refine gSkip (eS rfl (eS rfl eZ)) (decide_eq_false h4) rfl ?_
    refine oPickF (eS rfl (eS rfl (eS rfl eZ))) (decide_eq_false h4) eC ?_
    refine oMov eZ ?_
    refine xNil ?_
    refine TQ.qn ?_
    refine AW.ret ?_
    obtain rfl := Option.some.inj H
    exact endsR (RL.cons (RV.tmp eZ) (VO.flat rfl) RL.nil) List.nodup_nil

theorem c_impl_MoveRank {a1 : TMove} {r : Int} (H : m_impl_MoveRank a1 = some r) : Fn Try.prog k_impl_MoveRank (lent [(.agg (d_TMove a1))]) true [(.int .i64 r)] := by
  refine i_impl_MoveRank_fn (Nat.le_of_ble_eq_true rfl) ?_
  rw [init_mk]
  refine AW.weaken (wk_mk [] (SL.cons (v := (.agg [(.d (.int .i64 a1.No)), (.d (.int .i64 a1.Stage)), (.d (.int .i64 a1.Lo)), (.d (.int .i64 a1.Hi)), (.d (.int .i64 a1.From)), (.d (.int .i64 a1.To)), (.d (.sl 2 (List.map d_TCell a1.Cells)))])) eZ rfl VWk.rfl SL.nil) BL.nil BK.nil) ?_
  unfold m_impl_MoveRank at H
  unfold i_impl_MoveRank
  refine AW.seq ?_
  refine AW.regs ?_
  refine oBox (n := 64) (m := 7) (cs := [(.d (.int .i64 a1.No)), (.d (.int .i64 a1.Stage)), (.d (.int .i64 a1.Lo)), (.d (.int .i64 a1.Hi)), (.d (.int .i64 a1.From)), (.d (.int .i64 a1.To)), (.d (.sl 2 (List.map d_TCell a1.Cells)))]) rfl eZ rfl rfl nZ ?_
  refine oMov eC ?_
  refine xNil ?_
  refine TQ.qn ?_
  refine AW.seq ?_
  refine AW.seqJ (fun t2 : Bool => (impl_MoveRank_j2 a1) t2 = some r) (fun t2 => mk [(1, (.one (.ptr (.nm 64 0 0)))), (12, (.one (.d (.bool t2))))] [(64, (.vars 7 [(.d (.int .i64 a1.No)), (.d (.int .i64 a1.Stage)), (.d (.int .i64 a1.Lo)), (.d (.int .i64 a1.Hi)), (.d (.int .i64 a1.From)), (.d (.int .i64 a1.To)), (.d (.sl 2 (List.map d_TCell a1.Cells)))]))] noG) ?_ ?_
  · intro t2 H
    unfold impl_MoveRank_j2 at H
    rcases oite H with ⟨h4, H⟩ | ⟨h4, H⟩
    · refine AW.condT (eS rfl eZ) h4 ?_
      refine AW.seq ?_
      refine AW.regs ?_
      refine oMov eC ?_
      refine xNil ?_
      refine TQ.qn ?_
      refine AW.ret ?_
      refine TQ.qr ?_
      obtain rfl := Option.some.inj H
      exact endsR (RL.cons (RV.tmp eZ) (VO.flat rfl) RL.nil) List.nodup_nil
    · refine AW.condF (eS rfl eZ) (nt h4) ?_
      refine AW.skip ?_
      refine TQ.qn ?_
      refine AW.seq ?_
      refine AW.regs ?_
      refine oFaddrN (m := 0) eZ rfl ?_
      refine oLoadV (q := 0) (c := (.d (.int .i64 a1.No))) eZ bZ rfl rfl ?_
      refine oSub eZ eC ?_
      refine oMul eC eZ ?_
      refine oFaddrN (m := 1) (eS rfl (eS rfl (eS rfl (eS rfl eZ)))) rfl ?_
      refine oLoadV (q := 1) (c := (.d (.int .i64 a1.Stage))) eZ bZ rfl rfl ?_
      refine oMin eZ eC ?_
      refine oAdd (eS rfl (eS rfl (eS rfl eZ))) eZ ?_
      refine oMov eZ ?_
      refine xNil ?_
      refine TQ.qn ?_
      refine AW.ret ?_
      obtain rfl := Option.some.inj H
      exact endsR (RL.cons (RV.tmp eZ) (VO.flat rfl) RL.nil) List.nodup_nil
  · refine AW.regs ?_
    refine oFaddrN (m := 0) (eS rfl eZ) rfl ?_
    refine oLoadV (q := 0) (c := (.d (.int .i64 a1.No))) eZ bZ rfl rfl ?_
    obtain ⟨v5, h6, H⟩ := obind H
    refine oCall (u := (.one (.d (.bool v5)))) eC Cl.fn (c_impl_from h6) (Evs.cons eZ (Evs.cons eC (Evs.cons eC Evs.nil))) (VDs.cons VD.plain (VDs.cons VD.plain (VDs.cons VD.plain VDs.nil))) rfl ?_
    refine oInv eZ ?_
    refine oMov eZ ?_
    rcases oite H with ⟨h7, H⟩ | ⟨h7, H⟩
    · refine gDo eZ (congrArg Bool.not h7) ?_
      refine oFaddrN (m := 1) (eS rfl (eS rfl (eS rfl (eS rfl (eS rfl (eS rfl eZ)))))) rfl ?_
      refine gDo (eS rfl eZ) (congrArg Bool.not h7) ?_
      refine oLoadV (q := 1) (c := (.d (.int .i64 a1.Stage))) eZ bZ rfl rfl ?_
      refine gDo (eS rfl (eS rfl eZ)) (congrArg Bool.not h7) ?_
      obtain ⟨v8, h9, H⟩ := obind H
      refine oCall (u := (.one (.d (.bool v8)))) eC Cl.fn (c_impl_from h9) (Evs.cons eZ (Evs.cons eC (Evs.cons eC Evs.nil))) (VDs.cons VD.plain (VDs.cons VD.plain (VDs.cons VD.plain VDs.nil))) rfl ?_
      refine gDo (eS rfl (eS rfl (eS rfl eZ))) (congrArg Bool.not h7) ?_
      refine oInv eZ ?_
      refine oPickF (eS rfl (eS rfl (eS rfl (eS rfl eZ)))) (congrArg Bool.not h7) eZ ?_
      refine xNil ?_
      exact TQ.qn ⟨(!v8), H, (wk_mk [] (SL.cons (eS rfl (eS rfl (eS rfl (eS rfl (eS rfl (eS rfl (eS rfl (eS rfl (eS rfl (eS rfl (eS rfl eZ))))))))))) rfl VWk.rfl (SL.cons eZ rfl VWk.rfl SL.nil)) (BL.keep rfl BL.nil) (BK.cons rfl bZ rfl rfl BK.nil))⟩
    · refine gSkip eZ (congrArg Bool.not (nt h7)) rfl ?_
      refine gSkip (eS rfl eZ) (congrArg Bool.not (nt h7)) rfl ?_
      refine gSkip (eS rfl (eS rfl eZ)) (congrArg Bool.not (nt h7)) rfl ?_
      refine gSkip (eS rfl (eS rfl (eS rfl eZ))) (congrArg Bool.not (nt h7)) rfl ?_
      refine oPickT (eS rfl (eS rfl (eS rfl (eS rfl eZ)))) (congrArg Bool.not (nt h7)) eC ?_
      refine xNil ?_
      exact TQ.qn ⟨true, H, (wk_mk [] (SL.cons (eS rfl (eS rfl (eS rfl (eS rfl (eS rfl (eS rfl (eS rfl (eS rfl (eS rfl (eS rfl (eS rfl eZ))))))))))) rfl VWk.rfl (SL.cons eZ rfl VWk.rfl SL.nil)) (BL.keep rfl BL.nil) (BK.cons rfl bZ rfl rfl BK.nil))⟩

theorem c_laws_eqCell {a1 : TCell} {a2 : TCell} {r : Bool} (H : m_laws_eqCell a1 a2 = some r) : Fn Try.prog k_laws_eqCell (lent [(.agg (d_TCell a1)), (.agg (d_TCell a2))]) true [(.bool r)] := by
  refine i_laws_eqCell_fn (Nat.le_of_ble_eq_true rfl) ?_
  rw [init_mk]
  refine AW.weaken (wk_mk [] (SL.cons (v := (.agg [(.d (.int .i64 a1.Key)), (.d (.int .i64 a1.Value))])) eZ rfl VWk.rfl (SL.cons (v := (.agg [(.d (.int .i64 a2.Key)), (.d (.int .i64 a2.Value))])) (eS rfl eZ) rfl VWk.rfl SL.nil)) BL.nil BK.nil) ?_
  unfold m_laws_eqCell at H
  unfold i_laws_eqCell
  refine AW.seq ?_
  refine AW.regs ?_
  refine oBox (n := 128) (m := 2) (cs := [(.d (.int .i64 a1.Key)), (.d (.int .i64 a1.Value))]) rfl eZ rfl rfl nZ ?_
  refine oBox (n := 192) (m := 2) (cs := [(.d (.int .i64 a2.Key)), (.d (.int .i64 a2.Value))]) rfl (eS rfl (eS rfl eZ)) rfl rfl (nS rfl nZ) ?_
  refine oMov eC ?_
  refine xNil ?_
  refine TQ.qn ?_
  refine AW.seq ?_
  refine AW.seq ?_
  refine AW.regs ?_
  refine oFaddrN (m := 0) (eS rfl (eS rfl eZ)) rfl ?_
  refine oLoadV (q := 0) (c := (.d (.int .i64 a1.Key))) eZ (bS rfl bZ) rfl rfl ?_
  refine oFaddrN (m := 0) (eS rfl (eS rfl (eS rfl eZ))) rfl ?_
  refine oLoadV (q := 0) (c := (.d (.int .i64 a2.Key))) eZ bZ rfl rfl ?_
  refine oNeq (eS rfl (eS rfl eZ)) eZ ?_
  refine xNil ?_
  refine TQ.qn ?_
  rcases oite H with ⟨h3, H⟩ | ⟨h3, H⟩
  · refine AW.condT eZ (decide_eq_true h3) ?_
    refine AW.seq ?_
    refine AW.regs ?_
    refine oMov eC ?_
    refine xNil ?_
    refine TQ.qn ?_
    refine AW.ret ?_
    refine TQ.qr ?_
    obtain rfl := Option.some.inj H
    exact endsR (RL.cons (RV.tmp eZ) (VO.flat rfl) RL.nil) List.nodup_nil
  · refine AW.condF eZ (decide_eq_false h3) ?_
    refine AW.skip ?_
    refine TQ.qn ?_
    refine AW.seq ?_
    refine AW.seq ?_
    refine AW.regs ?_
    refine oFaddrN (m := 1) (eS rfl (eS rfl (eS rfl (eS rfl (eS rfl (eS rfl (eS rfl eZ))))))) rfl ?_
    refine oLoadV (q := 1) (c := (.d (.int .i64 a1.Value))) eZ (bS rfl bZ) rfl rfl ?_
    refine oFaddrN (m := 1) (eS rfl (eS rfl (eS rfl (eS rfl (eS rfl (eS rfl (eS rfl (eS rfl eZ)))))))) rfl ?_
    refine oLoadV (q := 1) (c := (.d (.int .i64 a2.Value))) eZ bZ rfl rfl ?_
    refine oNeq (eS rfl (eS rfl eZ)) eZ ?_
    refine xNil ?_
    refine TQ.qn ?_
    rcases oite H with ⟨h4, H⟩ | ⟨h4, H⟩
    · refine AW.condT eZ (decide_eq_true h4) ?_
      refine AW.seq ?_
      refine AW.regs ?_
      refine oMov eC ?_
      refine xNil ?_
      refine TQ.qn ?_
      refine AW.weaken (wk_mk [192, 128] (SL.cons (k := 4) eZ rfl VWk.rfl SL.nil) (BL.drop rfl (BL.drop rfl BL.nil)) BK.nil) ?_
      refine AW.ret ?_
      refine TQ.qr ?_
      obtain rfl := Option.some.inj H
      exact endsR (RL.cons (RV.tmp eZ) (VO.flat rfl) RL.nil) List.nodup_nil
    · refine AW.condF eZ (decide_eq_false h4) ?_
      refine AW.skip ?_
      refine TQ.qn ?_
      refine AW.seq ?_
      refine AW.regs ?_
      refine oMov eC ?_
      refine xNil ?_
      refine TQ.qn ?_
      refine AW.weaken (wk_mk [192, 128] (SL.cons (k := 4) eZ rfl VWk.rfl SL.nil) (BL.drop rfl (BL.drop rfl BL.nil)) BK.nil) ?_
      refine AW.ret ?_
      obtain rfl := Option.some.inj H
      exact endsR (RL.cons (RV.tmp eZ) (VO.flat rfl) RL.nil) List.nodup_nil

theorem c_laws_eqCellS {a1 : (List TCell)} {a2 : (List TCell)} {r : Bool} (H : m_laws_eqCellS a1 a2 = some r) : Fn Try.prog k_laws_eqCellS (lent [(.sl 2 (List.map d_TCell a1)), (.sl 2 (List.map d_TCell a2))]) true [(.bool r)] := by
  refine i_laws_eqCellS_fn (Nat.le_of_ble_eq_true rfl) ?_
  rw [init_mk]
  refine AW.weaken (wk_mk [] (SL.cons (v := (.one (.d (.sl 2 (List.map d_TCell a1))))) eZ rfl VWk.rfl (SL.cons (v := (.one (.d (.sl 2 (List.map d_TCell a2))))) (eS rfl eZ) rfl VWk.rfl SL.nil)) BL.nil BK.nil) ?_
  unfold m_laws_eqCellS at H
  unfold i_laws_eqCellS
  refine AW.seq ?_
  refine AW.regs ?_
  refine oMov eC ?_
  refine xNil ?_
  refine TQ.qn ?_
  refine AW.seq ?_
  refine AW.seq ?_
  refine AW.regs ?_
  refine oMov (eS rfl eZ) ?_
  refine oLenD eZ (n := a1.length) (List.length_map _) ?_
  refine oMov (eS rfl (eS rfl (eS rfl (eS rfl eZ)))) ?_
  refine oLenD eZ (n := a2.length) (List.length_map _) ?_
  refine oNeq (eS rfl (eS rfl eZ)) eZ ?_
  refine xNil ?_
  refine TQ.qn ?_
  rcases oite H with ⟨h3, H⟩ | ⟨h3, H⟩
  · refine AW.condT eZ (decide_eq_true h3) ?_
    refine AW.seq ?_
    refine AW.regs ?_
    refine oMov eC ?_
    refine xNil ?_
    refine TQ.qn ?_
    refine AW.ret ?_
    refine TQ.qr ?_
    obtain rfl := Option.some.inj H
    exact endsR (RL.cons (RV.tmp eZ) (VO.flat rfl) RL.nil) List.nodup_nil
  · refine AW.condF eZ (decide_eq_false h3) ?_
    refine AW.skip ?_
    refine TQ.qn ?_
    refine AW.seqJ (fun t4 : Unit => laws_eqCellS_j4 t4 = some r) (fun t4 => mk [] [] noG) ?_ ?_
    · intro t4 H
      unfold laws_eqCellS_j4 at H
      refine AW.seq ?_
      refine AW.regs ?_
      refine oMov eC ?_
      refine xNil ?_
      refine TQ.qn ?_
      refine AW.ret ?_
      obtain rfl := Option.some.inj H
      exact endsR (RL.cons (RV.tmp eZ) (VO.flat rfl) RL.nil) List.nodup_nil
    · refine AW.seq ?_
      refine AW.regs ?_
      refine oMov eC ?_
      refine xNil ?_
      refine TQ.qn ?_
      refine AW.block ?_
      refine AW.iter (fun s6 : Int => mk [(0, (.one (.d (.sl 2 (List.map d_TCell a1))))), (1, (.one (.d (.sl 2 (List.map d_TCell a2))))), (5, (.one (.d (.int .i64 s6))))] [] noG) H (wk_mk [] (SL.cons (eS rfl (eS rfl (eS rfl (eS rfl (eS rfl (eS rfl (eS rfl eZ))))))) rfl VWk.rfl (SL.cons (eS rfl (eS rfl (eS rfl (eS rfl (eS rfl (eS rfl (eS rfl (eS rfl eZ)))))))) rfl VWk.rfl (SL.cons eZ rfl VWk.rfl SL.nil))) BL.nil BK.nil) ?_
      intro kb7 s6 H
      unfold laws_eqCellS_b6 at H
      refine AW.seq ?_
      refine AW.seq ?_
      refine AW.regs ?_
      refine oMov (eS rfl (eS rfl eZ)) ?_
      refine oMov (eS rfl eZ) ?_
      refine oLenD eZ (n := a1.length) (List.length_map _) ?_
      refine oLss (eS rfl (eS rfl eZ)) eZ ?_
      refine xNil ?_
      refine TQ.qn ?_
      rcases oite H with ⟨h8, H⟩ | ⟨h8, H⟩
      · refine AW.condT eZ (decide_eq_true h8) ?_
        refine AW.skip ?_
        refine TQ.qn ?_
        refine AW.seq ?_
        refine AW.block ?_
        refine AW.seq ?_
        refine AW.regd ?_
        refine oMov (eS rfl (eS rfl (eS rfl (eS rfl eZ)))) ?_
        refine oMov (eS rfl (eS rfl (eS rfl (eS rfl (eS rfl (eS rfl (eS rfl eZ))))))) ?_
        obtain ⟨v9, h10, H⟩ := obind H
        refine oAtD (eS rfl eZ) eZ h10 ?_
        refine oLoadBA (es := [(.d (.int .i64 v9.Key)), (.d (.int .i64 v9.Value))]) eZ rfl ?_
        refine oMov (eS rfl (eS rfl (eS rfl (eS rfl (eS rfl (eS rfl (eS rfl (eS rfl (eS rfl eZ))))))))) ?_
        refine oMov (eS rfl (eS rfl (eS rfl (eS rfl (eS rfl (eS rfl (eS rfl (eS rfl (eS rfl (eS rfl (eS rfl eZ))))))))))) ?_
        obtain ⟨v11, h12, H⟩ := obind H
        refine oAtD (eS rfl eZ) eZ h12 ?_
        refine oLoadBA (es := [(.d (.int .i64 v11.Key)), (.d (.int .i64 v11.Value))]) eZ rfl ?_
        obtain ⟨v13, h14, H⟩ := obind H
        refine oCall (u := (.one (.d (.bool v13)))) eC Cl.fn (c_laws_eqCell h14) (Evs.cons (eS rfl (eS rfl (eS rfl (eS rfl eZ)))) (Evs.cons eZ Evs.nil)) (VDs.cons (VD.agg rfl) (VDs.cons (VD.agg rfl) VDs.nil)) rfl ?_
        refine oInv eZ ?_
        refine xNil ?_
        refine TQ.qn ?_
        refine AW.weaken (wk_mk [] (SL.cons (k := 26) eZ rfl VWk.rfl (SL.cons (k := 0) (eS rfl (eS rfl (eS rfl (eS rfl (eS rfl (eS rfl (eS rfl (eS rfl (eS rfl (eS rfl (eS rfl (eS rfl (eS rfl (eS rfl eZ)))))))))))))) rfl VWk.rfl (SL.cons (k := 1) (eS rfl (eS rfl (eS rfl (eS rfl (eS rfl (eS rfl (eS rfl (eS rfl (eS rfl (eS rfl (eS rfl (eS rfl (eS rfl (eS rfl (eS rfl eZ))))))))))))))) rfl VWk.rfl (SL.cons (k := 5) (eS rfl (eS rfl (eS rfl (eS rfl (eS rfl (eS rfl (eS rfl (eS rfl (eS rfl (eS rfl (eS rfl (eS rfl (eS rfl (eS rfl (eS rfl (eS rfl eZ)))))))))))))))) rfl VWk.rfl SL.nil)))) BL.nil BK.nil) ?_
        rcases oite H with ⟨h15, H⟩ | ⟨h15, H⟩
        · refine AW.condF eZ (congrArg Bool.not h15) ?_
          refine AW.skip ?_
          refine BQ.qn ?_
          refine TQ.qn ?_
          refine AW.regs ?_
          refine oMov (eS rfl (eS rfl (eS rfl eZ))) ?_
          refine oAdd eZ eC ?_
          refine oMov eZ ?_
          refine xNil ?_
          exact TQ.qn ⟨(IntKind.wrap .i64 (s6 + 1)), H, (wk_mk [] (SL.cons (eS rfl (eS rfl (eS rfl (eS rfl eZ)))) rfl VWk.rfl (SL.cons (eS rfl (eS rfl (eS rfl (eS rfl (eS rfl eZ))))) rfl VWk.rfl (SL.cons eZ rfl VWk.rfl SL.nil))) BL.nil BK.nil)⟩
        · refine AW.condT eZ (congrArg Bool.not (nt h15)) ?_
          refine AW.seq ?_
          refine AW.regs ?_
          refine oMov eC ?_
          refine xNil ?_
          refine TQ.qn ?_
          refine AW.ret ?_
          refine BQ.qr ?_
          refine TQ.qr ?_
          refine TQ.qr ?_
          refine BQ.qr ?_
          refine TQ.qr ?_
          obtain rfl := Option.some.inj H
          exact endsR (RL.cons (RV.tmp eZ) (VO.flat rfl) RL.nil) List.nodup_nil
      · refine AW.condF eZ (decide_eq_false h8) ?_
        refine AW.exit ?_
        refine TQ.qe ?_
        refine TQ.qe ?_
        refine BQ.qe ?_
        exact TQ.qn ⟨(), H, (wk_mk [] SL.nil BL.nil BK.nil)⟩

theorem c_laws_eqMove {a1 : TMove} {a2 : TMove} {r : Bool} (H : m_laws_eqMove a1 a2 = some r) : Fn Try.prog k_laws_eqMove (lent [(.agg (d_TMove a1)), (.agg (d_TMove a2))]) true [(.bool r)] := by
  refine i_laws_eqMove_fn (Nat.le_of_ble_eq_true rfl) ?_
  rw [init_mk]
  refine AW.weaken (wk_mk [] (SL.cons (v := (.agg [(.d (.int .i64 a1.No)), (.d (.int .i64 a1.Stage)), (.d (.int .i64 a1.Lo)), (.d (.int .i64 a1.Hi)), (.d (.int .i64 a1.From)), (.d (.int .i64 a1.To)), (.d (.sl 2 (List.map d_TCell a1.Cells)))])) eZ rfl VWk.rfl (SL.cons (v := (.agg [(.d (.int .i64 a2.No)), (.d (.int .i64 a2.Stage)), (.d (.int .i64 a2.Lo)), (.d (.int .i64 a2.Hi)), (.d (.int .i64 a2.From)), (.d (.int .i64 a2.To)), (.d (.sl 2 (List.map d_TCell a2.Cells)))])) (eS rfl eZ) rfl VWk.rfl SL.nil)) BL.nil BK.nil) ?_
  unfold m_laws_eqMove at H
  unfold i_laws_eqMove
  refine AW.seq ?_
  refine AW.regs ?_
  refine oBox (n := 128) (m := 7) (cs := [(.d (.int .i64 a1.No)), (.d (.int .i64 a1.Stage)), (.d (.int .i64 a1.Lo)), (.d (.int .i64 a1.Hi)), (.d (.int .i64 a1.From)), (.d (.int .i64 a1.To)), (.d (.sl 2 (List.map d_TCell a1.Cells)))]) rfl eZ rfl rfl nZ ?_
  refine oBox (n := 192) (m := 7) (cs := [(.d (.int .i64 a2.No)), (.d (.int .i64 a2.Stage)), (.d (.int .i64 a2.Lo)), (.d (.int .i64 a2.Hi)), (.d (.int .i64 a2.From)), (.d (.int .i64 a2.To)), (.d (.sl 2 (List.map d_TCell a2.Cells)))]) rfl (eS rfl (eS rfl eZ)) rfl rfl (nS rfl nZ) ?_
  refine oMov eC ?_
  refine xNil ?_
  refine TQ.qn ?_
  refine AW.seq ?_
  refine AW.seq ?_
  refine AW.regs ?_
  refine oFaddrN (m := 0) (eS rfl (eS rfl eZ)) rfl ?_
  refine oLoadV (q := 0) (c := (.d (.int .i64 a1.No))) eZ (bS rfl bZ) rfl rfl ?_
  refine oFaddrN (m := 0) (eS rfl (eS rfl (eS rfl eZ))) rfl ?_
  refine oLoadV (q := 0) (c := (.d (.int .i64 a2.No))) eZ bZ rfl rfl ?_
  refine oNeq (eS rfl (eS rfl eZ)) eZ ?_
  refine xNil ?_
  refine TQ.qn ?_
  rcases oite H with ⟨h3, H⟩ | ⟨h3, H⟩
  · refine AW.condT eZ (decide_eq_true h3) ?_
    refine AW.seq ?_
    refine AW.regs ?_
    refine oMov eC ?_
    refine xNil ?_
    refine TQ.qn ?_
    refine AW.ret ?_
    refine TQ.qr ?_
    obtain rfl := Option.some.inj H
    exact endsR (RL.cons (RV.tmp eZ) (VO.flat rfl) RL.nil) List.nodup_nil
  · refine AW.condF eZ (decide_eq_false h3) ?_
    refine AW.skip ?_
    refine TQ.qn ?_
    refine AW.seq ?_
    refine AW.seq ?_
    refine AW.regs ?_
    refine oFaddrN (m := 1) (eS rfl (eS rfl (eS rfl (eS rfl (eS rfl (eS rfl (eS rfl eZ))))))) rfl ?_
    refine oLoadV (q := 1) (c := (.d (.int .i64 a1.Stage))) eZ (bS rfl bZ) rfl rfl ?_
    refine oFaddrN (m := 1) (eS rfl (eS rfl (eS rfl (eS rfl (eS rfl (eS rfl (eS rfl (eS rfl eZ)))))))) rfl ?_
    refine oLoadV (q := 1) (c := (.d (.int .i64 a2.Stage))) eZ bZ rfl rfl ?_
    refine oNeq (eS rfl (eS rfl eZ)) eZ ?_
    refine xNil ?_
    refine TQ.qn ?_
    rcases oite H with ⟨h4, H⟩ | ⟨h4, H⟩
    · refine AW.condT eZ (decide_eq_true h4) ?_
      refine AW.seq ?_
      refine AW.regs ?_
      refine oMov eC ?_
      refine xNil ?_
      refine TQ.qn ?_
      refine AW.weaken (wk_mk [192, 128] (SL.cons (k := 4) eZ rfl VWk.rfl SL.nil) (BL.drop rfl (BL.drop rfl BL.nil)) BK.nil) ?_
      refine AW.ret ?_
      refine TQ.qr ?_
      obtain rfl := Option.some.inj H
      exact endsR (RL.cons (RV.tmp eZ) (VO.flat rfl) RL.nil) List.nodup_nil
    · refine AW.condF eZ (decide_eq_false h4) ?_
      refine AW.skip ?_
      refine TQ.qn ?_
      refine AW.seq ?_
      refine AW.seq ?_
      refine AW.regs ?_
      refine oFaddrN (m := 2) (eS rfl (eS rfl (eS rfl (eS rfl (eS rfl (eS rfl (eS rfl (eS rfl (eS rfl (eS rfl (eS rfl (eS rfl eZ)))))))))))) rfl ?_
      refine oLoadV (q := 2) (c := (.d (.int .i64 a1.Lo))) eZ (bS rfl bZ) rfl rfl ?_
      refine oFaddrN (m := 2) (eS rfl (eS rfl (eS rfl (eS rfl (eS rfl (eS rfl (eS rfl (eS rfl (eS rfl (eS rfl (eS rfl (eS rfl (eS rfl eZ))))))))))))) rfl ?_
      refine oLoadV (q := 2) (c := (.d (.int .i64 a2.Lo))) eZ bZ rfl rfl ?_
      refine oNeq (eS rfl (eS rfl eZ)) eZ ?_
      refine xNil ?_
      refine TQ.qn ?_
      refine AW.weaken (wk_mk [] (SL.cons (k := 19) eZ rfl VWk.rfl (SL.cons (k := 3) (eS rfl (eS rfl (eS rfl (eS rfl (eS rfl (eS rfl (eS rfl (eS rfl (eS rfl (eS rfl (eS rfl (eS rfl (eS rfl (eS rfl (eS rfl (eS rfl eZ)))))))))))))))) rfl VWk.rfl (SL.cons (k := 2) (eS rfl (eS rfl (eS rfl (eS rfl (eS rfl (eS rfl (eS rfl (eS rfl (eS rfl (eS rfl (eS rfl (eS rfl (eS rfl (eS rfl (eS rfl (eS rfl (eS rfl eZ))))))))))))))))) rfl VWk.rfl SL.nil))) (BL.keep rfl (BL.keep rfl BL.nil)) (BK.cons (n := 192) rfl bZ rfl rfl (BK.cons (n := 128) rfl (bS rfl bZ) rfl rfl BK.nil))) ?_
      rcases oite H with ⟨h5, H⟩ | ⟨h5, H⟩
      · refine AW.condT eZ (decide_eq_true h5) ?_
        refine AW.seq ?_
        refine AW.regs ?_
        refine oMov eC ?_
        refine xNil ?_
        refine TQ.qn ?_
        refine AW.ret ?_
        refine TQ.qr ?_
        obtain rfl := Option.some.inj H
        exact endsR (RL.cons (RV.tmp eZ) (VO.flat rfl) RL.nil) List.nodup_nil
      · refine AW.condF eZ (decide_eq_false h5) ?_
        refine AW.skip ?_
        refine TQ.qn ?_
        refine AW.seq ?_
        refine AW.seq ?_
        refine AW.regs ?_
        refine oFaddrN (m := 3) (eS rfl (eS rfl eZ)) rfl ?_
        refine oLoadV (q := 3) (c := (.d (.int .i64 a1.Hi))) eZ (bS rfl bZ) rfl rfl ?_
        refine oFaddrN (m := 3) (eS rfl (eS rfl (eS rfl eZ))) rfl ?_
        refine oLoadV (q := 3) (c := (.d (.int .i64 a2.Hi))) eZ bZ rfl rfl ?_
        refine oNeq (eS rfl (eS rfl eZ)) eZ ?_
        refine xNil ?_
        refine TQ.qn ?_
        rcases oite H with ⟨h6, H⟩ | ⟨h6, H⟩
        · refine AW.condT eZ (decide_eq_true h6) ?_
          refine AW.seq ?_
          refine AW.regs ?_
          refine oMov eC ?_
          refine xNil ?_
          refine TQ.qn ?_
          refine AW.ret ?_
          refine TQ.qr ?_
          obtain rfl := Option.some.inj H
          exact endsR (RL.cons (RV.tmp eZ) (VO.flat rfl) RL.nil) List.nodup_nil
        · refine AW.condF eZ (decide_eq_false h6) ?_
          refine AW.skip ?_
          refine TQ.qn ?_
          refine AW.seq ?_
          refine AW.seq ?_
          refine AW.regs ?_
          refine oFaddrN (m := 4) (eS rfl (eS rfl (eS rfl (eS rfl (eS rfl (eS rfl (eS rfl eZ))))))) rfl ?_
          refine oLoadV (q := 4) (c := (.d (.int .i64 a1.From))) eZ (bS rfl bZ) rfl rfl ?_
          refine oFaddrN (m := 4) (eS rfl (eS rfl (eS rfl (eS rfl (eS rfl (eS rfl (eS rfl (eS rfl eZ)))))))) rfl ?_
          refine oLoadV (q := 4) (c := (.d (.int .i64 a2.From))) eZ bZ rfl rfl ?_
          refine oNeq (eS rfl (eS rfl eZ)) eZ ?_
          refine xNil ?_
          refine TQ.qn ?_
          rcases oite H with ⟨h7, H⟩ | ⟨h7, H⟩
          · refine AW.condT eZ (decide_eq_true h7) ?_
            refine AW.seq ?_
            refine AW.regs ?_
            refine oMov eC ?_
            refine xNil ?_
            refine TQ.qn ?_
            refine AW.ret ?_
            refine TQ.qr ?_
            obtain rfl := Option.some.inj H
            exact endsR (RL.cons (RV.tmp eZ) (VO.flat rfl) RL.nil) List.nodup_nil
          · refine AW.condF eZ (decide_eq_false h7) ?_
            refine AW.skip ?_
            refine TQ.qn ?_
            refine AW.seq ?_
            refine AW.seq ?_
            refine AW.regs ?_
            refine oFaddrN (m := 5) (eS rfl (eS rfl (eS rfl (eS rfl (eS rfl (eS rfl (eS rfl (eS rfl (eS rfl (eS rfl (eS rfl (eS rfl eZ)))))))))))) rfl ?_
            refine oLoadV (q := 5) (c := (.d (.int .i64 a1.To))) eZ (bS rfl bZ) rfl rfl ?_
            refine oFaddrN (m := 5) (eS rfl (eS rfl (eS rfl (eS rfl (eS rfl (eS rfl (eS rfl (eS rfl (eS rfl (eS rfl (eS rfl (eS rfl (eS rfl eZ))))))))))))) rfl ?_
            refine oLoadV (q := 5) (c := (.d (.int .i64 a2.To))) eZ bZ rfl rfl ?_
            refine oNeq (eS rfl (eS rfl eZ)) eZ ?_
            refine xNil ?_
            refine TQ.qn ?_
            refine AW.weaken (wk_mk [] (SL.cons (k := 34) eZ rfl VWk.rfl (SL.cons (k := 3) (eS rfl (eS rfl (eS rfl (eS rfl (eS rfl (eS rfl (eS rfl (eS rfl (eS rfl (eS rfl (eS rfl (eS rfl (eS rfl (eS rfl (eS rfl (eS rfl eZ)))))))))))))))) rfl VWk.rfl (SL.cons (k := 2) (eS rfl (eS rfl (eS rfl (eS rfl (eS rfl (eS rfl (eS rfl (eS rfl (eS rfl (eS rfl (eS rfl (eS rfl (eS rfl (eS rfl (eS rfl (eS rfl (eS rfl eZ))))))))))))))))) rfl VWk.rfl SL.nil))) (BL.keep rfl (BL.keep rfl BL.nil)) (BK.cons (n := 192) rfl bZ rfl rfl (BK.cons (n := 128) rfl (bS rfl bZ) rfl rfl BK.nil))) ?_
            rcases oite H with ⟨h8, H⟩ | ⟨h8, H⟩
            · refine AW.condT eZ (decide_eq_true h8) ?_
              refine AW.seq ?_
              refine AW.regs ?_
              refine oMov eC ?_
              refine xNil ?_
              refine TQ.qn ?_
              refine AW.ret ?_
              refine TQ.qr ?_
              obtain rfl := Option.some.inj H
              exact endsR (RL.cons (RV.tmp eZ) (VO.flat rfl) RL.nil) List.nodup_nil
            · refine AW.condF eZ (decide_eq_false h8) ?_
              refine AW.skip ?_
              refine TQ.qn ?_
              refine AW.seq ?_
              refine AW.seq ?_
              refine AW.regs ?_
              refine oFaddrN (m := 6) (eS rfl (eS rfl eZ)) rfl ?_
              refine oLoadV (q := 6) (c := (.d (.sl 2 (List.map d_TCell a1.Cells)))) eZ (bS rfl bZ) rfl rfl ?_
              refine oFaddrN (m := 6) (eS rfl (eS rfl (eS rfl eZ))) rfl ?_
              refine oLoadV (q := 6) (c := (.d (.sl 2 (List.map d_TCell a2.Cells)))) eZ bZ rfl rfl ?_
              obtain ⟨v9, h10, H⟩ := obind H
              refine oCall (u := (.one (.d (.bool v9)))) eC Cl.fn (c_laws_eqCellS h10) (Evs.cons (eS rfl (eS rfl eZ)) (Evs.cons eZ Evs.nil)) (VDs.cons VD.plain (VDs.cons VD.plain VDs.nil)) rfl ?_
              refine oInv eZ ?_
              refine xNil ?_
              refine TQ.qn ?_
              rcases oite H with ⟨h11, H⟩ | ⟨h11, H⟩
              · refine AW.condF eZ (congrArg Bool.not h11) ?_
                refine AW.skip ?_
                refine TQ.qn ?_
                refine AW.seq ?_
                refine AW.regs ?_
                refine oMov eC ?_
                refine xNil ?_
                refine TQ.qn ?_
                refine AW.ret ?_
                obtain rfl := Option.some.inj H
                exact endsR (RL.cons (RV.tmp eZ) (VO.flat rfl) RL.nil) List.nodup_nil
              · refine AW.condT eZ (congrArg Bool.not (nt h11)) ?_
                refine AW.seq ?_
                refine AW.regs ?_
                refine oMov eC ?_
                refine xNil ?_
                refine TQ.qn ?_
                refine AW.ret ?_
                refine TQ.qr ?_
                obtain rfl := Option.some.inj H
                exact endsR (RL.cons (RV.tmp eZ) (VO.flat rfl) RL.nil) List.nodup_nil

theorem c_laws_FnExactMoveRank {a1 : TMove} {r : Bool} (H : m_laws_FnExactMoveRank a1 = some r) : Fn Try.prog k_laws_FnExactMoveRank (lent [(.agg (d_TMove a1))]) true [(.bool r)] := by
  refine i_laws_FnExactMoveRank_fn (Nat.le_of_ble_eq_true rfl) ?_
  rw [init_mk]
  refine AW.weaken (wk_mk [] (SL.cons (v := (.agg [(.d (.int .i64 a1.No)), (.d (.int .i64 a1.Stage)), (.d (.int .i64 a1.Lo)), (.d (.int .i64 a1.Hi)), (.d (.int .i64 a1.From)), (.d (.int .i64 a1.To)), (.d (.sl 2 (List.map d_TCell a1.Cells)))])) eZ rfl VWk.rfl SL.nil) BL.nil BK.nil) ?_
  unfold m_laws_FnExactMoveRank at H
  unfold i_laws_FnExactMoveRank
  refine AW.seq ?_
  refine AW.regs ?_
  refine oBox (n := 64) (m := 7) (cs := [(.d (.int .i64 a1.No)), (.d (.int .i64 a1.Stage)), (.d (.int .i64 a1.Lo)), (.d (.int .i64 a1.Hi)), (.d (.int .i64 a1.From)), (.d (.int .i64 a1.To)), (.d (.sl 2 (List.map d_TCell a1.Cells)))]) rfl eZ rfl rfl nZ ?_
  refine oMov eC ?_
  refine xNil ?_
  refine TQ.qn ?_
  refine AW.seq ?_
  refine AW.regs ?_
  refine oMov eC ?_
  refine xNil ?_
  refine TQ.qn ?_
  refine AW.seq ?_
  refine AW.regs ?_
  refine oLoadVA (es := [(.d (.int .i64 a1.No)), (.d (.int .i64 a1.Stage)), (.d (.int .i64 a1.Lo)), (.d (.int .i64 a1.Hi)), (.d (.int .i64 a1.From)), (.d (.int .i64 a1.To)), (.d (.sl 2 (List.map d_TCell a1.Cells)))]) (eS rfl (eS rfl eZ)) bZ rfl ?_
  refine oMov (eS rfl eZ) ?_
  obtain ⟨v2, h3, H⟩ := obind H
  refine oCall (u := (.one (.d (.int .i64 v2)))) eC Cl.fn (c_laws_szMove h3) (Evs.cons (eS rfl eZ) (Evs.cons eZ Evs.nil)) (VDs.cons (VD.agg rfl) (VDs.cons VD.plain VDs.nil)) rfl ?_
  refine oMov eZ ?_
  refine xNil ?_
  refine TQ.qn ?_
  refine AW.seq ?_
  refine AW.seq ?_
  refine AW.regs ?_
  refine oMov eZ ?_
  refine oLss eZ eC ?_
  refine xNil ?_
  refine TQ.qn ?_
  rcases oite H with ⟨h4, H⟩ | ⟨h4, H⟩
  · refine AW.condT eZ (decide_eq_true h4) ?_
    refine AW.seq ?_
    refine AW.regs ?_
    refine oMov eC ?_
    refine xNil ?_
    refine TQ.qn ?_
    refine AW.ret ?_
    refine TQ.qr ?_
    obtain rfl := Option.some.inj H
    exact endsR (RL.cons (RV.tmp eZ) (VO.flat rfl) RL.nil) List.nodup_nil
  · refine AW.condF eZ (decide_eq_false h4) ?_
    refine AW.skip ?_
    refine TQ.qn ?_
    refine AW.seq ?_
    refine AW.regs ?_
    refine oLoadVA (es := [(.d (.int .i64 a1.No)), (.d (.int .i64 a1.Stage)), (.d (.int .i64 a1.Lo)), (.d (.int .i64 a1.Hi)), (.d (.int .i64 a1.From)), (.d (.int .i64 a1.To)), (.d (.sl 2 (List.map d_TCell a1.Cells)))]) (eS rfl (eS rfl (eS rfl (eS rfl (eS rfl (eS rfl (eS rfl (eS rfl eZ)))))))) bZ rfl ?_
    obtain ⟨v5, h6, H⟩ := obind H
    refine oCall (u := (.agg [(.d (.int .i64 v5.No)), (.d (.int .i64 v5.Stage)), (.d (.int .i64 v5.Lo)), (.d (.int .i64 v5.Hi)), (.d (.int .i64 v5.From)), (.d (.int .i64 v5.To)), (.d (.sl 2 (List.map d_TCell v5.Cells)))])) eC Cl.fn (c_laws_toMove h6) (Evs.cons eZ Evs.nil) (VDs.cons (VD.agg rfl) VDs.nil) rfl ?_
    obtain ⟨v7, h8, H⟩ := obind H
    refine oCall (u := (.one (.d (.int .i64 v7)))) eC Cl.fn (c_spec_MoveRank h8) (Evs.cons eZ Evs.nil) (VDs.cons (VD.agg rfl) VDs.nil) rfl ?_
    refine oMov eZ ?_
    refine xNil ?_
    refine TQ.qn ?_
    refine AW.seq ?_
    refine AW.regs ?_
    refine oLoadVA (es := [(.d (.int .i64 a1.No)), (.d (.int .i64 a1.Stage)), (.d (.int .i64 a1.Lo)), (.d (.int .i64 a1.Hi)), (.d (.int .i64 a1.From)), (.d (.int .i64 a1.To)), (.d (.sl 2 (List.map d_TCell a1.Cells)))]) (eS rfl (eS rfl (eS rfl (eS rfl (eS rfl (eS rfl (eS rfl (eS rfl (eS rfl (eS rfl (eS rfl (eS rfl eZ)))))))))))) bZ rfl ?_
    obtain ⟨v9, h10, H⟩ := obind H
    refine oCall (u := (.agg [(.d (.int .i64 v9.No)), (.d (.int .i64 v9.Stage)), (.d (.int .i64 v9.Lo)), (.d (.int .i64 v9.Hi)), (.d (.int .i64 v9.From)), (.d (.int .i64 v9.To)), (.d (.sl 2 (List.map d_TCell v9.Cells)))])) eC Cl.fn (c_laws_toMove h10) (Evs.cons eZ Evs.nil) (VDs.cons (VD.agg rfl) VDs.nil) rfl ?_
    refine oVar (n := 320) (m := 7) rfl rfl (nS rfl nZ) ?_
    refine oStoreV (es := [(.d (.int .i64 v9.No)), (.d (.int .i64 v9.Stage)), (.d (.int .i64 v9.Lo)), (.d (.int .i64 v9.Hi)), (.d (.int .i64 v9.From)), (.d (.int .i64 v9.To)), (.d (.sl 2 (List.map d_TCell v9.Cells)))]) eZ (eS rfl eZ) rfl rfl bZ rfl ?_
    refine xNil ?_
    refine TQ.qn ?_
    refine AW.weaken (wk_mk [] (SL.cons (k := 5) eZ rfl VWk.rfl (SL.cons (k := 4) (eS rfl (eS rfl (eS rfl eZ))) rfl VWk.rfl (SL.cons (k := 1) (eS rfl (eS rfl (eS rfl (eS rfl (eS rfl (eS rfl (eS rfl (eS rfl (eS rfl (eS rfl (eS rfl (eS rfl (eS rfl (eS rfl (eS rfl eZ))))))))))))))) rfl VWk.rfl SL.nil))) (BL.keep rfl (BL.keep rfl (BL.keep rfl BL.nil))) (BK.cons (n := 320) rfl bZ rfl rfl (BK.cons (n := 64) rfl (bS rfl (bS rfl bZ)) rfl rfl BK.nil))) ?_
    refine AW.seq ?_
    refine AW.regs ?_
    refine oLoadVA (es := [(.d (.int .i64 v9.No)), (.d (.int .i64 v9.Stage)), (.d (.int .i64 v9.Lo)), (.d (.int .i64 v9.Hi)), (.d (.int .i64 v9.From)), (.d (.int .i64 v9.To)), (.d (.sl 2 (List.map d_TCell v9.Cells)))]) eZ bZ rfl ?_
    obtain ⟨v11, h12, H⟩ := obind H
    refine oCall (u := (.one (.d (.int .i64 v11)))) eC Cl.fn (c_impl_MoveRank h12) (Evs.cons eZ Evs.nil) (VDs.cons (VD.agg rfl) VDs.nil) rfl ?_
    refine oMov eZ ?_
    refine xNil ?_
    refine TQ.qn ?_
    refine AW.seq ?_
    refine AW.seq ?_
    refine AW.regs ?_
    refine oMov eZ ?_
    refine oMov (eS rfl (eS rfl (eS rfl (eS rfl (eS rfl eZ))))) ?_
    refine oNeq (eS rfl eZ) eZ ?_
    refine xNil ?_
    refine TQ.qn ?_
    rcases oite H with ⟨h13, H⟩ | ⟨h13, H⟩
    · refine AW.condT eZ (decide_eq_true h13) ?_
      refine AW.seq ?_
      refine AW.regs ?_
      refine oMov eC ?_
      refine xNil ?_
      refine TQ.qn ?_
      refine AW.ret ?_
      refine TQ.qr ?_
      obtain rfl := Option.some.inj H
      exact endsR (RL.cons (RV.tmp eZ) (VO.flat rfl) RL.nil) List.nodup_nil
    · refine AW.condF eZ (decide_eq_false h13) ?_
      refine AW.skip ?_
      refine TQ.qn ?_
      refine AW.seq ?_
      refine AW.seq ?_
      refine AW.regd ?_
      refine oLoadVA (es := [(.d (.int .i64 v9.No)), (.d (.int .i64 v9.Stage)), (.d (.int .i64 v9.Lo)), (.d (.int .i64 v9.Hi)), (.d (.int .i64 v9.From)), (.d (.int .i64 v9.To)), (.d (.sl 2 (List.map d_TCell v9.Cells)))]) (eS rfl (eS rfl (eS rfl (eS rfl (eS rfl (eS rfl eZ)))))) (hB rfl bZ) rfl ?_
      refine oLoadVA (es := [(.d (.int .i64 a1.No)), (.d (.int .i64 a1.Stage)), (.d (.int .i64 a1.Lo)), (.d (.int .i64 a1.Hi)), (.d (.int .i64 a1.From)), (.d (.int .i64 a1.To)), (.d (.sl 2 (List.map d_TCell a1.Cells)))]) (eS rfl (eS rfl (eS rfl (eS rfl (eS rfl (eS rfl (eS rfl (eS rfl (eS rfl eZ))))))))) (bS rfl bZ) rfl ?_
      obtain ⟨v14, h15, H⟩ := obind H
      refine oCall (u := (.agg [(.d (.int .i64 v14.No)), (.d (.int .i64 v14.Stage)), (.d (.int .i64 v14.Lo)), (.d (.int .i64 v14.Hi)), (.d (.int .i64 v14.From)), (.d (.int .i64 v14.To)), (.d (.sl 2 (List.map d_TCell v14.Cells)))])) eC Cl.fn (c_laws_toMove h15) (Evs.cons eZ Evs.nil) (VDs.cons (VD.agg rfl) VDs.nil) rfl ?_
      obtain ⟨v16, h17, H⟩ := obind H
      refine oCall (u := (.one (.d (.bool v16)))) eC Cl.fn (c_laws_eqMove h17) (Evs.cons (eS rfl (eS rfl eZ)) (Evs.cons eZ Evs.nil)) (VDs.cons (VD.agg rfl) (VDs.cons (VD.agg rfl) VDs.nil)) rfl ?_
      refine oInv eZ ?_
      refine xNil ?_
      refine TQ.qn ?_
      rcases oite H with ⟨h18, H⟩ | ⟨h18, H⟩
      · refine AW.condF eZ (congrArg Bool.not h18) ?_
        refine AW.skip ?_
        refine TQ.qn ?_
        refine AW.seq ?_
        refine AW.regs ?_
        refine oMov eC ?_
        refine xNil ?_
        refine TQ.qn ?_
        refine AW.ret ?_
        obtain rfl := Option.some.inj H
        exact endsR (RL.cons (RV.tmp eZ) (VO.flat rfl) RL.nil) List.nodup_nil
      · refine AW.condT eZ (congrArg Bool.not (nt h18)) ?_
        refine AW.seq ?_
        refine AW.regs ?_
        refine oMov eC ?_
        refine xNil ?_
        refine TQ.qn ?_
        refine AW.ret ?_
        refine TQ.qr ?_
        obtain rfl := Option.some.inj H
        exact endsR (RL.cons (RV.tmp eZ) (VO.flat rfl) RL.nil) List.nodup_nil

end Go.AW
