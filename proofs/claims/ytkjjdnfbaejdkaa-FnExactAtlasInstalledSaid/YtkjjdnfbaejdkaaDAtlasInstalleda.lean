/- That functions of the program compute what the plain functions say: printed by a program of the prover's own (tool/dec.py). Conditions: each theorem's own. -/
import Derived.Test.YtkjjdnfbaejdkaaMAtlasInstalled
import Derived.Test.YtkjjdnfbaejdkaaGAtlasInstalled
set_option linter.unusedVariables false
set_option linter.unusedSimpArgs false
set_option maxRecDepth 100000
namespace Go.AW
open Go.Proofs

theorem c_laws_szPartS {a1 : (List TPart)} {a2 : Int} {r : Int} (H : m_laws_szPartS a1 a2 = some r) : Fn Try.prog k_laws_szPartS (lent [(.sl 3 (List.map d_TPart a1)), (.int .i64 a2)]) true [(.int .i64 r)] := by
  refine i_laws_szPartS_fn (Nat.le_of_ble_eq_true rfl) ?_
  rw [init_mk]
  refine AW.weaken (wk_mk [] (SL.cons (v := (.one (.d (.sl 3 (List.map d_TPart a1))))) eZ rfl VWk.rfl (SL.cons (v := (.one (.d (.int .i64 a2)))) (eS rfl eZ) rfl VWk.rfl SL.nil)) BL.nil BK.nil) ?_
  unfold m_laws_szPartS at H
  unfold i_laws_szPartS
  refine AW.seq ?_
  refine AW.regs ?_
  refine oMov eC ?_
  refine xNil ?_
  refine TQ.qn ?_
  refine AW.seq ?_
  refine AW.regs ?_
  refine oMov (eS rfl (eS rfl eZ)) ?_
  refine oMov (eS rfl (eS rfl eZ)) ?_
  refine oLenD eZ (n := a1.length) (List.length_map _) ?_
  refine oSub (eS rfl (eS rfl eZ)) eZ ?_
  refine oMov eZ ?_
  refine xNil ?_
  refine TQ.qn ?_
  refine AW.seq ?_
  refine AW.seq ?_
  refine AW.regs ?_
  refine oMov eZ ?_
  refine oLss eZ eC ?_
  refine xNil ?_
  refine TQ.qn ?_
  rcases oite H with ⟨h3, H⟩ | ⟨h3, H⟩
  · refine AW.condT eZ (decide_eq_true h3) ?_
    refine AW.seq ?_
    refine AW.regs ?_
    refine oMov eC ?_
    refine xNil ?_
    refine TQ.qn ?_
    refine AW.ret ?_
    refine TQ.qr ?_
    obtain rfl := Option.some.inj H
    exact endsR (RL.cons (RV.tmp eZ) (VO.flat rfl) RL.nil) List.nodup_nil
  · refine AW.condF eZ (decide_eq_false h3) ?_
    refine AW.skip ?_
    refine TQ.qn ?_
    refine AW.seq ?_
    refine AW.regs ?_
    refine oMov (eS rfl (eS rfl eZ)) ?_
    refine oMov eZ ?_
    refine xNil ?_
    refine TQ.qn ?_
    refine AW.ret ?_
    obtain rfl := Option.some.inj H
    exact endsR (RL.cons (RV.tmp eZ) (VO.flat rfl) RL.nil) List.nodup_nil

theorem c_laws_szCellS {a1 : (List TCell)} {a2 : Int} {r : Int} (H : m_laws_szCellS a1 a2 = some r) : Fn Try.prog k_laws_szCellS (lent [(.sl 2 (List.map d_TCell a1)), (.int .i64 a2)]) true [(.int .i64 r)] := by
  refine i_laws_szCellS_fn (Nat.le_of_ble_eq_true rfl) ?_
  rw [init_mk]
  refine AW.weaken (wk_mk [] (SL.cons (v := (.one (.d (.sl 2 (List.map d_TCell a1))))) eZ rfl VWk.rfl (SL.cons (v := (.one (.d (.int .i64 a2)))) (eS rfl eZ) rfl VWk.rfl SL.nil)) BL.nil BK.nil) ?_
  unfold m_laws_szCellS at H
  unfold i_laws_szCellS
  refine AW.seq ?_
  refine AW.regs ?_
  refine oMov eC ?_
  refine xNil ?_
  refine TQ.qn ?_
  refine AW.seq ?_
  refine AW.regs ?_
  refine oMov (eS rfl (eS rfl eZ)) ?_
  refine oMov (eS rfl (eS rfl eZ)) ?_
  refine oLenD eZ (n := a1.length) (List.length_map _) ?_
  refine oSub (eS rfl (eS rfl eZ)) eZ ?_
  refine oMov eZ ?_
  refine xNil ?_
  refine TQ.qn ?_
  refine AW.seq ?_
  refine AW.seq ?_
  refine AW.regs ?_
  refine oMov eZ ?_
  refine oLss eZ eC ?_
  refine xNil ?_
  refine TQ.qn ?_
  rcases oite H with ⟨h3, H⟩ | ⟨h3, H⟩
  · refine AW.condT eZ (decide_eq_true h3) ?_
    refine AW.seq ?_
    refine AW.regs ?_
    refine oMov eC ?_
    refine xNil ?_
    refine TQ.qn ?_
    refine AW.ret ?_
    refine TQ.qr ?_
    obtain rfl := Option.some.inj H
    exact endsR (RL.cons (RV.tmp eZ) (VO.flat rfl) RL.nil) List.nodup_nil
  · refine AW.condF eZ (decide_eq_false h3) ?_
    refine AW.skip ?_
    refine TQ.qn ?_
    refine AW.seq ?_
    refine AW.regs ?_
    refine oMov (eS rfl (eS rfl eZ)) ?_
    refine oMov eZ ?_
    refine xNil ?_
    refine TQ.qn ?_
    refine AW.ret ?_
    obtain rfl := Option.some.inj H
    exact endsR (RL.cons (RV.tmp eZ) (VO.flat rfl) RL.nil) List.nodup_nil

theorem c_laws_szMove {a1 : TMove} {a2 : Int} {r : Int} (H : m_laws_szMove a1 a2 = some r) : Fn Try.prog k_laws_szMove (lent [(.agg (d_TMove a1)), (.int .i64 a2)]) true [(.int .i64 r)] := by
  refine i_laws_szMove_fn (Nat.le_of_ble_eq_true rfl) ?_
  rw [init_mk]
  refine AW.weaken (wk_mk [] (SL.cons (v := (.agg [(.d (.int .i64 a1.No)), (.d (.int .i64 a1.Stage)), (.d (.int .i64 a1.Lo)), (.d (.int .i64 a1.Hi)), (.d (.int .i64 a1.From)), (.d (.int .i64 a1.To)), (.d (.sl 2 (List.map d_TCell a1.Cells)))])) eZ rfl VWk.rfl (SL.cons (v := (.one (.d (.int .i64 a2)))) (eS rfl eZ) rfl VWk.rfl SL.nil)) BL.nil BK.nil) ?_
  unfold m_laws_szMove at H
  unfold i_laws_szMove
  refine AW.seq ?_
  refine AW.regs ?_
  refine oBox (n := 128) (m := 7) (cs := [(.d (.int .i64 a1.No)), (.d (.int .i64 a1.Stage)), (.d (.int .i64 a1.Lo)), (.d (.int .i64 a1.Hi)), (.d (.int .i64 a1.From)), (.d (.int .i64 a1.To)), (.d (.sl 2 (List.map d_TCell a1.Cells)))]) rfl eZ rfl rfl nZ ?_
  refine oMov eC ?_
  refine xNil ?_
  refine TQ.qn ?_
  refine AW.seq ?_
  refine AW.regs ?_
  refine oFaddrN (m := 6) (eS rfl eZ) rfl ?_
  refine oLoadV (q := 6) (c := (.d (.sl 2 (List.map d_TCell a1.Cells)))) eZ bZ rfl rfl ?_
  refine oMov (eS rfl (eS rfl (eS rfl (eS rfl (eS rfl eZ))))) ?_
  obtain ⟨v3, h4, H⟩ := obind H
  refine oCall (u := (.one (.d (.int .i64 v3)))) eC Cl.fn (c_laws_szCellS h4) (Evs.cons (eS rfl eZ) (Evs.cons eZ Evs.nil)) (VDs.cons VD.plain (VDs.cons VD.plain VDs.nil)) rfl ?_
  refine oMov eZ ?_
  refine xNil ?_
  refine TQ.qn ?_
  refine AW.seq ?_
  refine AW.seq ?_
  refine AW.regs ?_
  refine oMov eZ ?_
  refine oLss eZ eC ?_
  refine xNil ?_
  refine TQ.qn ?_
  rcases oite H with ⟨h5, H⟩ | ⟨h5, H⟩
  · refine AW.condT eZ (decide_eq_true h5) ?_
    refine AW.seq ?_
    refine AW.regs ?_
    refine oMov eC ?_
    refine xNil ?_
    refine TQ.qn ?_
    refine AW.ret ?_
    refine TQ.qr ?_
    obtain rfl := Option.some.inj H
    exact endsR (RL.cons (RV.tmp eZ) (VO.flat rfl) RL.nil) List.nodup_nil
  · refine AW.condF eZ (decide_eq_false h5) ?_
    refine AW.skip ?_
    refine TQ.qn ?_
    refine AW.seq ?_
    refine AW.regs ?_
    refine oMov (eS rfl (eS rfl eZ)) ?_
    refine oMov eZ ?_
    refine xNil ?_
    refine TQ.qn ?_
    refine AW.ret ?_
    obtain rfl := Option.some.inj H
    exact endsR (RL.cons (RV.tmp eZ) (VO.flat rfl) RL.nil) List.nodup_nil

theorem c_laws_szAtlas {a1 : TAtlas} {a2 : Int} {r : Int} (H : m_laws_szAtlas a1 a2 = some r) : Fn Try.prog k_laws_szAtlas (lent [(.agg (d_TAtlas a1)), (.int .i64 a2)]) true [(.int .i64 r)] := by
  refine i_laws_szAtlas_fn (Nat.le_of_ble_eq_true rfl) ?_
  rw [init_mk]
  refine AW.weaken (wk_mk [] (SL.cons (v := (.agg [(.d (.int .i64 a1.Epoch)), (.d (.sl 3 (List.map d_TPart a1.Parts))), (.d (.int .i64 a1.Move.No)), (.d (.int .i64 a1.Move.Stage)), (.d (.int .i64 a1.Move.Lo)), (.d (.int .i64 a1.Move.Hi)), (.d (.int .i64 a1.Move.From)), (.d (.int .i64 a1.Move.To)), (.d (.sl 2 (List.map d_TCell a1.Move.Cells)))])) eZ rfl VWk.rfl (SL.cons (v := (.one (.d (.int .i64 a2)))) (eS rfl eZ) rfl VWk.rfl SL.nil)) BL.nil BK.nil) ?_
  unfold m_laws_szAtlas at H
  unfold i_laws_szAtlas
  refine AW.seq ?_
  refine AW.regs ?_
  refine oBox (n := 128) (m := 9) (cs := [(.d (.int .i64 a1.Epoch)), (.d (.sl 3 (List.map d_TPart a1.Parts))), (.d (.int .i64 a1.Move.No)), (.d (.int .i64 a1.Move.Stage)), (.d (.int .i64 a1.Move.Lo)), (.d (.int .i64 a1.Move.Hi)), (.d (.int .i64 a1.Move.From)), (.d (.int .i64 a1.Move.To)), (.d (.sl 2 (List.map d_TCell a1.Move.Cells)))]) rfl eZ rfl rfl nZ ?_
  refine oMov eC ?_
  refine xNil ?_
  refine TQ.qn ?_
  refine AW.seq ?_
  refine AW.regs ?_
  refine oFaddrN (m := 1) (eS rfl eZ) rfl ?_
  refine oLoadV (q := 1) (c := (.d (.sl 3 (List.map d_TPart a1.Parts)))) eZ bZ rfl rfl ?_
  refine oMov (eS rfl (eS rfl (eS rfl (eS rfl (eS rfl eZ))))) ?_
  obtain ⟨v3, h4, H⟩ := obind H
  refine oCall (u := (.one (.d (.int .i64 v3)))) eC Cl.fn (c_laws_szPartS h4) (Evs.cons (eS rfl eZ) (Evs.cons eZ Evs.nil)) (VDs.cons VD.plain (VDs.cons VD.plain VDs.nil)) rfl ?_
  refine oMov eZ ?_
  refine xNil ?_
  refine TQ.qn ?_
  refine AW.seq ?_
  refine AW.seq ?_
  refine AW.regs ?_
  refine oMov eZ ?_
  refine oLss eZ eC ?_
  refine xNil ?_
  refine TQ.qn ?_
  rcases oite H with ⟨h5, H⟩ | ⟨h5, H⟩
  · refine AW.condT eZ (decide_eq_true h5) ?_
    refine AW.seq ?_
    refine AW.regs ?_
    refine oMov eC ?_
    refine xNil ?_
    refine TQ.qn ?_
    refine AW.ret ?_
    refine TQ.qr ?_
    obtain rfl := Option.some.inj H
    exact endsR (RL.cons (RV.tmp eZ) (VO.flat rfl) RL.nil) List.nodup_nil
  · refine AW.condF eZ (decide_eq_false h5) ?_
    refine AW.skip ?_
    refine TQ.qn ?_
    refine AW.seq ?_
    refine AW.regs ?_
    refine oFaddrN (m := 2) (eS rfl (eS rfl (eS rfl (eS rfl (eS rfl (eS rfl (eS rfl (eS rfl eZ)))))))) rfl ?_
    refine oLoadVA (es := [(.d (.int .i64 a1.Move.No)), (.d (.int .i64 a1.Move.Stage)), (.d (.int .i64 a1.Move.Lo)), (.d (.int .i64 a1.Move.Hi)), (.d (.int .i64 a1.Move.From)), (.d (.int .i64 a1.Move.To)), (.d (.sl 2 (List.map d_TCell a1.Move.Cells)))]) eZ bZ rfl ?_
    refine oMov (eS rfl (eS rfl (eS rfl (eS rfl eZ)))) ?_
    obtain ⟨v6, h7, H⟩ := obind H
    refine oCall (u := (.one (.d (.int .i64 v6)))) eC Cl.fn (c_laws_szMove h7) (Evs.cons (eS rfl eZ) (Evs.cons eZ Evs.nil)) (VDs.cons (VD.agg rfl) (VDs.cons VD.plain VDs.nil)) rfl ?_
    refine oMov eZ ?_
    refine xNil ?_
    refine TQ.qn ?_
    refine AW.weaken (wk_mk [128] (SL.cons (k := 1) eZ rfl VWk.rfl SL.nil) (BL.drop rfl BL.nil) BK.nil) ?_
    refine AW.seq ?_
    refine AW.seq ?_
    refine AW.regs ?_
    refine oMov eZ ?_
    refine oLss eZ eC ?_
    refine xNil ?_
    refine TQ.qn ?_
    rcases oite H with ⟨h8, H⟩ | ⟨h8, H⟩
    · refine AW.condT eZ (decide_eq_true h8) ?_
      refine AW.seq ?_
      refine AW.regs ?_
      refine oMov eC ?_
      refine xNil ?_
      refine TQ.qn ?_
      refine AW.ret ?_
      refine TQ.qr ?_
      obtain rfl := Option.some.inj H
      exact endsR (RL.cons (RV.tmp eZ) (VO.flat rfl) RL.nil) List.nodup_nil
    · refine AW.condF eZ (decide_eq_false h8) ?_
      refine AW.skip ?_
      refine TQ.qn ?_
      refine AW.seq ?_
      refine AW.regs ?_
      refine oMov (eS rfl (eS rfl eZ)) ?_
      refine oMov eZ ?_
      refine xNil ?_
      refine TQ.qn ?_
      refine AW.ret ?_
      obtain rfl := Option.some.inj H
      exact endsR (RL.cons (RV.tmp eZ) (VO.flat rfl) RL.nil) List.nodup_nil

theorem c_laws_toPart {a1 : TPart} {r : TPart} (H : m_laws_toPart a1 = some r) : Fn Try.prog k_laws_toPart (lent [(.agg (d_TPart a1))]) true [(.agg (d_TPart r))] := by
  refine i_laws_toPart_fn (Nat.le_of_ble_eq_true rfl) ?_
  rw [init_mk]
  refine AW.weaken (wk_mk [] (SL.cons (v := (.agg [(.d (.int .i64 a1.Lo)), (.d (.int .i64 a1.Hi)), (.d (.int .i64 a1.Owner))])) eZ rfl VWk.rfl SL.nil) BL.nil BK.nil) ?_
  unfold m_laws_toPart at H
  unfold i_laws_toPart
  refine AW.seq ?_
  refine AW.regs ?_
  refine oBox (n := 64) (m := 3) (cs := [(.d (.int .i64 a1.Lo)), (.d (.int .i64 a1.Hi)), (.d (.int .i64 a1.Owner))]) rfl eZ rfl rfl nZ ?_
  refine oVar (n := 128) (m := 3) rfl rfl (nS rfl nZ) ?_
  refine xNil ?_
  refine TQ.qn ?_
  refine AW.seq ?_
  refine AW.regs ?_
  refine oVar (n := 192) (m := 3) rfl rfl (nS rfl (nS rfl nZ)) ?_
  refine xNil ?_
  refine TQ.qn ?_
  refine AW.seq ?_
  refine AW.regs ?_
  refine oFaddrN (m := 0) (eS rfl (eS rfl eZ)) rfl ?_
  refine oLoadV (q := 0) (c := (.d (.int .i64 a1.Lo))) eZ (bS rfl (bS rfl bZ)) rfl rfl ?_
  refine oFaddrN (m := 0) (eS rfl (eS rfl eZ)) rfl ?_
  refine oStoreV (es := [(.d (.int .i64 a1.Lo)), (.d (.int .i64 0)), (.d (.int .i64 0))]) eZ (eS rfl eZ) rfl rfl bZ rfl ?_
  refine xNil ?_
  refine TQ.qn ?_
  refine AW.seq ?_
  refine AW.regs ?_
  refine oFaddrN (m := 1) (eS rfl (eS rfl (eS rfl (eS rfl (eS rfl eZ))))) rfl ?_
  refine oLoadV (q := 1) (c := (.d (.int .i64 a1.Hi))) eZ (bS rfl (bS rfl (bS rfl bZ))) rfl rfl ?_
  refine oFaddrN (m := 1) (eS rfl (eS rfl (eS rfl (eS rfl (eS rfl eZ))))) rfl ?_
  refine oStoreV (es := [(.d (.int .i64 a1.Lo)), (.d (.int .i64 a1.Hi)), (.d (.int .i64 0))]) eZ (eS rfl eZ) rfl rfl bZ rfl ?_
  refine xNil ?_
  refine TQ.qn ?_
  refine AW.seq ?_
  refine AW.regs ?_
  refine oFaddrN (m := 2) (eS rfl (eS rfl (eS rfl (eS rfl (eS rfl (eS rfl (eS rfl (eS rfl eZ)))))))) rfl ?_
  refine oLoadV (q := 2) (c := (.d (.int .i64 a1.Owner))) eZ (bS rfl (bS rfl (bS rfl (bS rfl bZ)))) rfl rfl ?_
  refine oFaddrN (m := 2) (eS rfl (eS rfl (eS rfl (eS rfl (eS rfl (eS rfl (eS rfl (eS rfl eZ)))))))) rfl ?_
  refine oStoreV (es := [(.d (.int .i64 a1.Lo)), (.d (.int .i64 a1.Hi)), (.d (.int .i64 a1.Owner))]) eZ (eS rfl eZ) rfl rfl bZ rfl ?_
  refine xNil ?_
  refine TQ.qn ?_
  refine AW.seq ?_
  refine AW.regs ?_
  refine oLoadVA (es := [(.d (.int .i64 a1.Lo)), (.d (.int .i64 a1.Hi)), (.d (.int .i64 a1.Owner))]) (eS rfl (eS rfl (eS rfl (eS rfl (eS rfl (eS rfl (eS rfl (eS rfl (eS rfl eZ))))))))) bZ rfl ?_
  refine oStoreV (es := [(.d (.int .i64 a1.Lo)), (.d (.int .i64 a1.Hi)), (.d (.int .i64 a1.Owner))]) (eS rfl (eS rfl (eS rfl (eS rfl (eS rfl (eS rfl (eS rfl (eS rfl (eS rfl (eS rfl (eS rfl eZ))))))))))) eZ rfl rfl (bS rfl (bS rfl (bS rfl (bS rfl bZ)))) rfl ?_
  refine xNil ?_
  refine TQ.qn ?_
  refine AW.ret ?_
  obtain rfl := Option.some.inj H
  exact endsR (RL.cons (RV.cellA (es := [(.d (.int .i64 a1.Lo)), (.d (.int .i64 a1.Hi)), (.d (.int .i64 a1.Owner))]) (eS rfl (eS rfl (eS rfl (eS rfl (eS rfl (eS rfl (eS rfl (eS rfl (eS rfl (eS rfl (eS rfl eZ))))))))))) bZ rfl) (VO.agg (ds := [(.int .i64 a1.Lo), (.int .i64 a1.Hi), (.int .i64 a1.Owner)]) rfl rfl) RL.nil) List.nodup_nil

theorem c_laws_toPartS {a1 : (List TPart)} {r : (List TPart)} (H : m_laws_toPartS a1 = some r) : Fn Try.prog k_laws_toPartS (lent [(.sl 3 (List.map d_TPart a1))]) true [(.sl 3 (List.map d_TPart r))] := by
  refine i_laws_toPartS_fn (Nat.le_of_ble_eq_true rfl) ?_
  rw [init_mk]
  refine AW.weaken (wk_mk [] (SL.cons (v := (.one (.d (.sl 3 (List.map d_TPart a1))))) eZ rfl VWk.rfl SL.nil) BL.nil BK.nil) ?_
  unfold m_laws_toPartS at H
  unfold i_laws_toPartS
  refine AW.seq ?_
  refine AW.regs ?_
  refine oMov eC ?_
  refine xNil ?_
  refine TQ.qn ?_
  refine AW.seq ?_
  refine AW.regs ?_
  refine oMov (eS rfl eZ) ?_
  refine oLenD eZ (n := a1.length) (List.length_map _) ?_
  obtain ⟨h2, H⟩ := oguard H
  refine oMksl (f := d_TPart) (zv := (TPart.mk 0 0 0)) (own := true) (m := 448) (q := (Int.toNat (a1.length : Int))) rfl rfl eZ eZ h2.1 h2.2 rfl (by decide) rfl nZ ?_
  refine oMov eZ ?_
  refine xNil ?_
  refine TQ.qn ?_
  refine AW.seqJ (fun t3 : (List TPart) => laws_toPartS_j3 t3 = some r) (fun t3 => mk [(3, (.one (.sl 320128 0 t3.length)))] [(320128, (.data 3 (List.map d_TPart t3) true none))] noG) ?_ ?_
  · intro t3 H
    unfold laws_toPartS_j3 at H
    refine AW.seq ?_
    refine AW.regs ?_
    refine oMov eZ ?_
    refine oMov eZ ?_
    refine xNil ?_
    refine TQ.qn ?_
    refine AW.ret ?_
    obtain rfl := Option.some.inj H
    exact endsR (RL.cons (RV.tmp eZ) (VO.sl bZ (List.length_map _) (allFlat fun _ => rfl)) RL.nil) (by decide)
  · refine AW.seq ?_
    refine AW.regs ?_
    refine oMov eC ?_
    refine xNil ?_
    refine TQ.qn ?_
    refine AW.block ?_
    refine AW.iter (fun s5 : ((List TPart) × Int) => mk [(0, (.one (.d (.sl 3 (List.map d_TPart a1))))), (3, (.one (.sl 320192 0 s5.1.length))), (4, (.one (.d (.int .i64 s5.2))))] [(320192, (.data 3 (List.map d_TPart s5.1) true none))] noG) H ((wk_mk [] (SL.cons (eS rfl (eS rfl (eS rfl (eS rfl (eS rfl (eS rfl eZ)))))) rfl VWk.rfl (SL.cons (eS rfl eZ) rfl (VWk.one (CWk.len (by first | (simp; done) | (simp; omega) | omega))) (SL.cons eZ rfl VWk.rfl SL.nil))) (BL.keep rfl BL.nil) (BK.cons rfl bZ rfl rfl BK.nil)).trans (wk_ren 448 320192 rfl rfl (nS rfl nZ))) ?_
    intro kb6 s5 H
    unfold laws_toPartS_b5 at H
    refine AW.seq ?_
    refine AW.seq ?_
    refine AW.regs ?_
    refine oMov (eS rfl (eS rfl eZ)) ?_
    refine oMov (eS rfl eZ) ?_
    refine oLenD eZ (n := a1.length) (List.length_map _) ?_
    refine oLss (eS rfl (eS rfl eZ)) eZ ?_
    refine xNil ?_
    refine TQ.qn ?_
    rcases oite H with ⟨h7, H⟩ | ⟨h7, H⟩
    · refine AW.condT eZ (decide_eq_true h7) ?_
      refine AW.skip ?_
      refine TQ.qn ?_
      refine AW.seq ?_
      refine AW.block ?_
      refine AW.regs ?_
      refine oMov (eS rfl (eS rfl (eS rfl (eS rfl (eS rfl eZ))))) ?_
      refine oMov (eS rfl (eS rfl (eS rfl (eS rfl (eS rfl (eS rfl (eS rfl eZ))))))) ?_
      refine oMov (eS rfl (eS rfl (eS rfl (eS rfl (eS rfl (eS rfl eZ)))))) ?_
      refine oMov (eS rfl (eS rfl (eS rfl (eS rfl (eS rfl (eS rfl (eS rfl (eS rfl (eS rfl eZ))))))))) ?_
      obtain ⟨v8, h9, H⟩ := obind H
      refine oAtD (eS rfl eZ) eZ h9 ?_
      refine oLoadBA (es := [(.d (.int .i64 v8.Lo)), (.d (.int .i64 v8.Hi)), (.d (.int .i64 v8.Owner))]) eZ rfl ?_
      obtain ⟨v10, h11, H⟩ := obind H
      refine oCall (u := (.agg [(.d (.int .i64 v10.Lo)), (.d (.int .i64 v10.Hi)), (.d (.int .i64 v10.Owner))])) eC Cl.fn (c_laws_toPart h11) (Evs.cons eZ Evs.nil) (VDs.cons (VD.agg rfl) VDs.nil) rfl ?_
      obtain ⟨v12, h13, H⟩ := obind H
      refine oAtN (eS rfl (eS rfl (eS rfl (eS rfl (eS rfl (eS rfl eZ)))))) (eS rfl (eS rfl (eS rfl (eS rfl (eS rfl eZ))))) bZ rfl h13 ?_
      refine oStoreD (t := v12) (t' := v10) (es := [(.int .i64 v10.Lo), (.int .i64 v10.Hi), (.int .i64 v10.Owner)]) eZ (eS rfl eZ) rfl rfl bZ (idx_at h13) rfl rfl ?_
      refine xNil ?_
      refine BQ.qn ?_
      refine TQ.qn ?_
      refine AW.regs ?_
      refine oMov (eS rfl (eS rfl (eS rfl (eS rfl (eS rfl (eS rfl (eS rfl (eS rfl (eS rfl (eS rfl (eS rfl (eS rfl (eS rfl (eS rfl eZ)))))))))))))) ?_
      refine oAdd eZ eC ?_
      refine oMov eZ ?_
      refine xNil ?_
      exact TQ.qn ⟨(s5.1.set (Int.toNat s5.2) v10, (IntKind.wrap .i64 (s5.2 + 1))), H, (wk_mk [] (SL.cons (eS rfl (eS rfl (eS rfl (eS rfl (eS rfl (eS rfl (eS rfl (eS rfl (eS rfl (eS rfl (eS rfl (eS rfl (eS rfl (eS rfl (eS rfl eZ))))))))))))))) rfl VWk.rfl (SL.cons (eS rfl (eS rfl (eS rfl (eS rfl (eS rfl (eS rfl (eS rfl (eS rfl (eS rfl (eS rfl (eS rfl (eS rfl (eS rfl (eS rfl (eS rfl (eS rfl eZ)))))))))))))))) rfl (VWk.one (CWk.len (by first | (simp; done) | (simp; omega) | omega))) (SL.cons eZ rfl VWk.rfl SL.nil))) (BL.keep rfl (BL.keep rfl BL.nil)) (BK.cons rfl bZ rfl rfl BK.nil))⟩
    · refine AW.condF eZ (decide_eq_false h7) ?_
      refine AW.exit ?_
      refine TQ.qe ?_
      refine TQ.qe ?_
      refine BQ.qe ?_
      exact TQ.qn ⟨s5.1, H, ((wk_mk [] (SL.cons (eS rfl (eS rfl (eS rfl (eS rfl (eS rfl eZ))))) rfl VWk.rfl SL.nil) (BL.keep rfl BL.nil) (BK.cons rfl bZ rfl rfl BK.nil)).trans (wk_ren 320192 320128 rfl rfl (nS rfl nZ)))⟩

theorem c_laws_toCell {a1 : TCell} {r : TCell} (H : m_laws_toCell a1 = some r) : Fn Try.prog k_laws_toCell (lent [(.agg (d_TCell a1))]) true [(.agg (d_TCell r))] := by
  refine i_laws_toCell_fn (Nat.le_of_ble_eq_true rfl) ?_
  rw [init_mk]
  refine AW.weaken (wk_mk [] (SL.cons (v := (.agg [(.d (.int .i64 a1.Key)), (.d (.int .i64 a1.Value))])) eZ rfl VWk.rfl SL.nil) BL.nil BK.nil) ?_
  unfold m_laws_toCell at H
  unfold i_laws_toCell
  refine AW.seq ?_
  refine AW.regs ?_
  refine oBox (n := 64) (m := 2) (cs := [(.d (.int .i64 a1.Key)), (.d (.int .i64 a1.Value))]) rfl eZ rfl rfl nZ ?_
  refine oVar (n := 128) (m := 2) rfl rfl (nS rfl nZ) ?_
  refine xNil ?_
  refine TQ.qn ?_
  refine AW.seq ?_
  refine AW.regs ?_
  refine oVar (n := 192) (m := 2) rfl rfl (nS rfl (nS rfl nZ)) ?_
  refine xNil ?_
  refine TQ.qn ?_
  refine AW.seq ?_
  refine AW.regs ?_
  refine oFaddrN (m := 0) (eS rfl (eS rfl eZ)) rfl ?_
  refine oLoadV (q := 0) (c := (.d (.int .i64 a1.Key))) eZ (bS rfl (bS rfl bZ)) rfl rfl ?_
  refine oFaddrN (m := 0) (eS rfl (eS rfl eZ)) rfl ?_
  refine oStoreV (es := [(.d (.int .i64 a1.Key)), (.d (.int .i64 0))]) eZ (eS rfl eZ) rfl rfl bZ rfl ?_
  refine xNil ?_
  refine TQ.qn ?_
  refine AW.seq ?_
  refine AW.regs ?_
  refine oFaddrN (m := 1) (eS rfl (eS rfl (eS rfl (eS rfl (eS rfl eZ))))) rfl ?_
  refine oLoadV (q := 1) (c := (.d (.int .i64 a1.Value))) eZ (bS rfl (bS rfl (bS rfl bZ))) rfl rfl ?_
  refine oFaddrN (m := 1) (eS rfl (eS rfl (eS rfl (eS rfl (eS rfl eZ))))) rfl ?_
  refine oStoreV (es := [(.d (.int .i64 a1.Key)), (.d (.int .i64 a1.Value))]) eZ (eS rfl eZ) rfl rfl bZ rfl ?_
  refine xNil ?_
  refine TQ.qn ?_
  refine AW.seq ?_
  refine AW.regs ?_
  refine oLoadVA (es := [(.d (.int .i64 a1.Key)), (.d (.int .i64 a1.Value))]) (eS rfl (eS rfl (eS rfl (eS rfl (eS rfl (eS rfl eZ)))))) bZ rfl ?_
  refine oStoreV (es := [(.d (.int .i64 a1.Key)), (.d (.int .i64 a1.Value))]) (eS rfl (eS rfl (eS rfl (eS rfl (eS rfl (eS rfl (eS rfl (eS rfl eZ)))))))) eZ rfl rfl (bS rfl (bS rfl (bS rfl bZ))) rfl ?_
  refine xNil ?_
  refine TQ.qn ?_
  refine AW.ret ?_
  obtain rfl := Option.some.inj H
  exact endsR (RL.cons (RV.cellA (es := [(.d (.int .i64 a1.Key)), (.d (.int .i64 a1.Value))]) (eS rfl (eS rfl (eS rfl (eS rfl (eS rfl (eS rfl (eS rfl (eS rfl eZ)))))))) bZ rfl) (VO.agg (ds := [(.int .i64 a1.Key), (.int .i64 a1.Value)]) rfl rfl) RL.nil) List.nodup_nil

theorem c_laws_toCellS {a1 : (List TCell)} {r : (List TCell)} (H : m_laws_toCellS a1 = some r) : Fn Try.prog k_laws_toCellS (lent [(.sl 2 (List.map d_TCell a1))]) true [(.sl 2 (List.map d_TCell r))] := by
  refine i_laws_toCellS_fn (Nat.le_of_ble_eq_true rfl) ?_
  rw [init_mk]
  refine AW.weaken (wk_mk [] (SL.cons (v := (.one (.d (.sl 2 (List.map d_TCell a1))))) eZ rfl VWk.rfl SL.nil) BL.nil BK.nil) ?_
  unfold m_laws_toCellS at H
  unfold i_laws_toCellS
  refine AW.seq ?_
  refine AW.regs ?_
  refine oMov eC ?_
  refine xNil ?_
  refine TQ.qn ?_
  refine AW.seq ?_
  refine AW.regs ?_
  refine oMov (eS rfl eZ) ?_
  refine oLenD eZ (n := a1.length) (List.length_map _) ?_
  obtain ⟨h2, H⟩ := oguard H
  refine oMksl (f := d_TCell) (zv := (TCell.mk 0 0)) (own := true) (m := 448) (q := (Int.toNat (a1.length : Int))) rfl rfl eZ eZ h2.1 h2.2 rfl (by decide) rfl nZ ?_
  refine oMov eZ ?_
  refine xNil ?_
  refine TQ.qn ?_
  refine AW.seqJ (fun t3 : (List TCell) => laws_toCellS_j3 t3 = some r) (fun t3 => mk [(3, (.one (.sl 320128 0 t3.length)))] [(320128, (.data 2 (List.map d_TCell t3) true none))] noG) ?_ ?_
  · intro t3 H
    unfold laws_toCellS_j3 at H
    refine AW.seq ?_
    refine AW.regs ?_
    refine oMov eZ ?_
    refine oMov eZ ?_
    refine xNil ?_
    refine TQ.qn ?_
    refine AW.ret ?_
    obtain rfl := Option.some.inj H
    exact endsR (RL.cons (RV.tmp eZ) (VO.sl bZ (List.length_map _) (allFlat fun _ => rfl)) RL.nil) (by decide)
  · refine AW.seq ?_
    refine AW.regs ?_
    refine oMov eC ?_
    refine xNil ?_
    refine TQ.qn ?_
    refine AW.block ?_
    refine AW.iter (fun s5 : ((List TCell) × Int) => mk [(0, (.one (.d (.sl 2 (List.map d_TCell a1))))), (3, (.one (.sl 320192 0 s5.1.length))), (4, (.one (.d (.int .i64 s5.2))))] [(320192, (.data 2 (List.map d_TCell s5.1) true none))] noG) H ((wk_mk [] (SL.cons (eS rfl (eS rfl (eS rfl (eS rfl (eS rfl (eS rfl eZ)))))) rfl VWk.rfl (SL.cons (eS rfl eZ) rfl (VWk.one (CWk.len (by first | (simp; done) | (simp; omega) | omega))) (SL.cons eZ rfl VWk.rfl SL.nil))) (BL.keep rfl BL.nil) (BK.cons rfl bZ rfl rfl BK.nil)).trans (wk_ren 448 320192 rfl rfl (nS rfl nZ))) ?_
    intro kb6 s5 H
    unfold laws_toCellS_b5 at H
    refine AW.seq ?_
    refine AW.seq ?_
    refine AW.regs ?_
    refine oMov (eS rfl (eS rfl eZ)) ?_
    refine oMov (eS rfl eZ) ?_
    refine oLenD eZ (n := a1.length) (List.length_map _) ?_
    refine oLss (eS rfl (eS rfl eZ)) eZ ?_
    refine xNil ?_
    refine TQ.qn ?_
    rcases oite H with ⟨h7, H⟩ | ⟨h7, H⟩
    · refine AW.condT eZ (decide_eq_true h7) ?_
      refine AW.skip ?_
      refine TQ.qn ?_
      refine AW.seq ?_
      refine AW.block ?_
      refine AW.regs ?_
      refine oMov (eS rfl (eS rfl (eS rfl (eS rfl (eS rfl eZ))))) ?_
      refine oMov (eS rfl (eS rfl (eS rfl (eS rfl (eS rfl (eS rfl (eS rfl eZ))))))) ?_
      refine oMov (eS rfl (eS rfl (eS rfl (eS rfl (eS rfl (eS rfl eZ)))))) ?_
      refine oMov (eS rfl (eS rfl (eS rfl (eS rfl (eS rfl (eS rfl (eS rfl (eS rfl (eS rfl eZ))))))))) ?_
      obtain ⟨v8, h9, H⟩ := obind H
      refine oAtD (eS rfl eZ) eZ h9 ?_
      refine oLoadBA (es := [(.d (.int .i64 v8.Key)), (.d (.int .i64 v8.Value))]) eZ rfl ?_
      obtain ⟨v10, h11, H⟩ := obind H
      refine oCall (u := (.agg [(.d (.int .i64 v10.Key)), (.d (.int .i64 v10.Value))])) eC Cl.fn (c_laws_toCell h11) (Evs.cons eZ Evs.nil) (VDs.cons (VD.agg rfl) VDs.nil) rfl ?_
      obtain ⟨v12, h13, H⟩ := obind H
      refine oAtN (eS rfl (eS rfl (eS rfl (eS rfl (eS rfl (eS rfl eZ)))))) (eS rfl (eS rfl (eS rfl (eS rfl (eS rfl eZ))))) bZ rfl h13 ?_
      refine oStoreD (t := v12) (t' := v10) (es := [(.int .i64 v10.Key), (.int .i64 v10.Value)]) eZ (eS rfl eZ) rfl rfl bZ (idx_at h13) rfl rfl ?_
      refine xNil ?_
      refine BQ.qn ?_
      refine TQ.qn ?_
      refine AW.regs ?_
      refine oMov (eS rfl (eS rfl (eS rfl (eS rfl (eS rfl (eS rfl (eS rfl (eS rfl (eS rfl (eS rfl (eS rfl (eS rfl (eS rfl (eS rfl eZ)))))))))))))) ?_
      refine oAdd eZ eC ?_
      refine oMov eZ ?_
      refine xNil ?_
      exact TQ.qn ⟨(s5.1.set (Int.toNat s5.2) v10, (IntKind.wrap .i64 (s5.2 + 1))), H, (wk_mk [] (SL.cons (eS rfl (eS rfl (eS rfl (eS rfl (eS rfl (eS rfl (eS rfl (eS rfl (eS rfl (eS rfl (eS rfl (eS rfl (eS rfl (eS rfl (eS rfl eZ))))))))))))))) rfl VWk.rfl (SL.cons (eS rfl (eS rfl (eS rfl (eS rfl (eS rfl (eS rfl (eS rfl (eS rfl (eS rfl (eS rfl (eS rfl (eS rfl (eS rfl (eS rfl (eS rfl (eS rfl eZ)))))))))))))))) rfl (VWk.one (CWk.len (by first | (simp; done) | (simp; omega) | omega))) (SL.cons eZ rfl VWk.rfl SL.nil))) (BL.keep rfl (BL.keep rfl BL.nil)) (BK.cons rfl bZ rfl rfl BK.nil))⟩
    · refine AW.condF eZ (decide_eq_false h7) ?_
      refine AW.exit ?_
      refine TQ.qe ?_
      refine TQ.qe ?_
      refine BQ.qe ?_
      exact TQ.qn ⟨s5.1, H, ((wk_mk [] (SL.cons (eS rfl (eS rfl (eS rfl (eS rfl (eS rfl eZ))))) rfl VWk.rfl SL.nil) (BL.keep rfl BL.nil) (BK.cons rfl bZ rfl rfl BK.nil)).trans (wk_ren 320192 320128 rfl rfl (nS rfl nZ)))⟩

theorem c_laws_toMove {a1 : TMove} {r : TMove} (H : m_laws_toMove a1 = some r) : Fn Try.prog k_laws_toMove (lent [(.agg (d_TMove a1))]) true [(.agg (d_TMove r))] := by
  refine i_laws_toMove_fn (Nat.le_of_ble_eq_true rfl) ?_
  rw [init_mk]
  refine AW.weaken (wk_mk [] (SL.cons (v := (.agg [(.d (.int .i64 a1.No)), (.d (.int .i64 a1.Stage)), (.d (.int .i64 a1.Lo)), (.d (.int .i64 a1.Hi)), (.d (.int .i64 a1.From)), (.d (.int .i64 a1.To)), (.d (.sl 2 (List.map d_TCell a1.Cells)))])) eZ rfl VWk.rfl SL.nil) BL.nil BK.nil) ?_
  unfold m_laws_toMove at H
  unfold i_laws_toMove
  refine AW.seq ?_
  refine AW.regs ?_
  refine oBox (n := 64) (m := 7) (cs := [(.d (.int .i64 a1.No)), (.d (.int .i64 a1.Stage)), (.d (.int .i64 a1.Lo)), (.d (.int .i64 a1.Hi)), (.d (.int .i64 a1.From)), (.d (.int .i64 a1.To)), (.d (.sl 2 (List.map d_TCell a1.Cells)))]) rfl eZ rfl rfl nZ ?_
  refine oVar (n := 128) (m := 7) rfl rfl (nS rfl nZ) ?_
  refine xNil ?_
  refine TQ.qn ?_
  refine AW.seq ?_
  refine AW.regs ?_
  refine oVar (n := 192) (m := 7) rfl rfl (nS rfl (nS rfl nZ)) ?_
  refine xNil ?_
  refine TQ.qn ?_
  refine AW.seq ?_
  refine AW.regs ?_
  refine oFaddrN (m := 0) (eS rfl (eS rfl eZ)) rfl ?_
  refine oLoadV (q := 0) (c := (.d (.int .i64 a1.No))) eZ (bS rfl (bS rfl bZ)) rfl rfl ?_
  refine oFaddrN (m := 0) (eS rfl (eS rfl eZ)) rfl ?_
  refine oStoreV (es := [(.d (.int .i64 a1.No)), (.d (.int .i64 0)), (.d (.int .i64 0)), (.d (.int .i64 0)), (.d (.int .i64 0)), (.d (.int .i64 0)), .zs]) eZ (eS rfl eZ) rfl rfl bZ rfl ?_
  refine xNil ?_
  refine TQ.qn ?_
  refine AW.seq ?_
  refine AW.regs ?_
  refine oFaddrN (m := 1) (eS rfl (eS rfl (eS rfl (eS rfl (eS rfl eZ))))) rfl ?_
  refine oLoadV (q := 1) (c := (.d (.int .i64 a1.Stage))) eZ (bS rfl (bS rfl (bS rfl bZ))) rfl rfl ?_
  refine oFaddrN (m := 1) (eS rfl (eS rfl (eS rfl (eS rfl (eS rfl eZ))))) rfl ?_
  refine oStoreV (es := [(.d (.int .i64 a1.No)), (.d (.int .i64 a1.Stage)), (.d (.int .i64 0)), (.d (.int .i64 0)), (.d (.int .i64 0)), (.d (.int .i64 0)), .zs]) eZ (eS rfl eZ) rfl rfl bZ rfl ?_
  refine xNil ?_
  refine TQ.qn ?_
  refine AW.seq ?_
  refine AW.regs ?_
  refine oFaddrN (m := 2) (eS rfl (eS rfl (eS rfl (eS rfl (eS rfl (eS rfl (eS rfl (eS rfl eZ)))))))) rfl ?_
  refine oLoadV (q := 2) (c := (.d (.int .i64 a1.Lo))) eZ (bS rfl (bS rfl (bS rfl (bS rfl bZ)))) rfl rfl ?_
  refine oFaddrN (m := 2) (eS rfl (eS rfl (eS rfl (eS rfl (eS rfl (eS rfl (eS rfl (eS rfl eZ)))))))) rfl ?_
  refine oStoreV (es := [(.d (.int .i64 a1.No)), (.d (.int .i64 a1.Stage)), (.d (.int .i64 a1.Lo)), (.d (.int .i64 0)), (.d (.int .i64 0)), (.d (.int .i64 0)), .zs]) eZ (eS rfl eZ) rfl rfl bZ rfl ?_
  refine xNil ?_
  refine TQ.qn ?_
  refine AW.seq ?_
  refine AW.regs ?_
  refine oFaddrN (m := 3) (eS rfl (eS rfl (eS rfl (eS rfl (eS rfl (eS rfl (eS rfl (eS rfl (eS rfl (eS rfl (eS rfl eZ))))))))))) rfl ?_
  refine oLoadV (q := 3) (c := (.d (.int .i64 a1.Hi))) eZ (bS rfl (bS rfl (bS rfl (bS rfl (bS rfl bZ))))) rfl rfl ?_
  refine oFaddrN (m := 3) (eS rfl (eS rfl (eS rfl (eS rfl (eS rfl (eS rfl (eS rfl (eS rfl (eS rfl (eS rfl (eS rfl eZ))))))))))) rfl ?_
  refine oStoreV (es := [(.d (.int .i64 a1.No)), (.d (.int .i64 a1.Stage)), (.d (.int .i64 a1.Lo)), (.d (.int .i64 a1.Hi)), (.d (.int .i64 0)), (.d (.int .i64 0)), .zs]) eZ (eS rfl eZ) rfl rfl bZ rfl ?_
  refine xNil ?_
  refine TQ.qn ?_
  refine AW.weaken (wk_mk [] (SL.cons (k := 3) (eS rfl (eS rfl (eS rfl (eS rfl (eS rfl (eS rfl (eS rfl (eS rfl (eS rfl (eS rfl (eS rfl (eS rfl eZ)))))))))))) rfl VWk.rfl (SL.cons (k := 2) (eS rfl (eS rfl (eS rfl (eS rfl (eS rfl (eS rfl (eS rfl (eS rfl (eS rfl (eS rfl (eS rfl (eS rfl (eS rfl eZ))))))))))))) rfl VWk.rfl (SL.cons (k := 1) (eS rfl (eS rfl (eS rfl (eS rfl (eS rfl (eS rfl (eS rfl (eS rfl (eS rfl (eS rfl (eS rfl (eS rfl (eS rfl (eS rfl eZ)))))))))))))) rfl VWk.rfl SL.nil))) (BL.keep rfl (BL.keep rfl (BL.keep rfl (BL.keep rfl (BL.keep rfl (BL.keep rfl (BL.keep rfl BL.nil))))))) (BK.cons (n := 192) rfl bZ rfl rfl (BK.cons (n := 128) rfl (bS rfl (bS rfl (bS rfl (bS rfl (bS rfl bZ))))) rfl rfl (BK.cons (n := 64) rfl (bS rfl (bS rfl (bS rfl (bS rfl (bS rfl (bS rfl bZ)))))) rfl rfl BK.nil)))) ?_
  refine AW.seq ?_
  refine AW.regs ?_
  refine oFaddrN (m := 4) (eS rfl (eS rfl eZ)) rfl ?_
  refine oLoadV (q := 4) (c := (.d (.int .i64 a1.From))) eZ (bS rfl (bS rfl bZ)) rfl rfl ?_
  refine oFaddrN (m := 4) (eS rfl (eS rfl eZ)) rfl ?_
  refine oStoreV (es := [(.d (.int .i64 a1.No)), (.d (.int .i64 a1.Stage)), (.d (.int .i64 a1.Lo)), (.d (.int .i64 a1.Hi)), (.d (.int .i64 a1.From)), (.d (.int .i64 0)), .zs]) eZ (eS rfl eZ) rfl rfl bZ rfl ?_
  refine xNil ?_
  refine TQ.qn ?_
  refine AW.seq ?_
  refine AW.regs ?_
  refine oFaddrN (m := 5) (eS rfl (eS rfl (eS rfl (eS rfl (eS rfl eZ))))) rfl ?_
  refine oLoadV (q := 5) (c := (.d (.int .i64 a1.To))) eZ (bS rfl (bS rfl (bS rfl bZ))) rfl rfl ?_
  refine oFaddrN (m := 5) (eS rfl (eS rfl (eS rfl (eS rfl (eS rfl eZ))))) rfl ?_
  refine oStoreV (es := [(.d (.int .i64 a1.No)), (.d (.int .i64 a1.Stage)), (.d (.int .i64 a1.Lo)), (.d (.int .i64 a1.Hi)), (.d (.int .i64 a1.From)), (.d (.int .i64 a1.To)), .zs]) eZ (eS rfl eZ) rfl rfl bZ rfl ?_
  refine xNil ?_
  refine TQ.qn ?_
  refine AW.seq ?_
  refine AW.regs ?_
  refine oFaddrN (m := 6) (eS rfl (eS rfl (eS rfl (eS rfl (eS rfl (eS rfl (eS rfl (eS rfl eZ)))))))) rfl ?_
  refine oLoadV (q := 6) (c := (.d (.sl 2 (List.map d_TCell a1.Cells)))) eZ (bS rfl (bS rfl (bS rfl (bS rfl bZ)))) rfl rfl ?_
  obtain ⟨v2, h3, H⟩ := obind H
  refine oCallN (u := (.one (.sl 1536 0 v2.length))) (bs := [(1536, (.data 2 (List.map d_TCell v2) true none))]) eC Cl.fn (c_laws_toCellS h3) (Evs.cons eZ Evs.nil) (VDs.cons VD.plain VDs.nil) (by simp [bindR, bindV, bindVs, bindC, bindCs]) rfl (fC (nS rfl (nS rfl (nS rfl (nS rfl (nS rfl nZ))))) rfl (fC (nS rfl (nS rfl (nS rfl (nS rfl (nS rfl nZ))))) rfl fN)) ?_
  refine oFaddrN (m := 6) (eS rfl (eS rfl (eS rfl (eS rfl (eS rfl (eS rfl (eS rfl (eS rfl (eS rfl eZ))))))))) rfl ?_
  refine oStoreV (es := [(.d (.int .i64 a1.No)), (.d (.int .i64 a1.Stage)), (.d (.int .i64 a1.Lo)), (.d (.int .i64 a1.Hi)), (.d (.int .i64 a1.From)), (.d (.int .i64 a1.To)), (.sl 1536 0 v2.length)]) eZ (eS rfl eZ) rfl rfl (bS rfl bZ) rfl ?_
  refine xNil ?_
  refine TQ.qn ?_
  refine AW.seq ?_
  refine AW.regs ?_
  refine oLoadVA (es := [(.d (.int .i64 a1.No)), (.d (.int .i64 a1.Stage)), (.d (.int .i64 a1.Lo)), (.d (.int .i64 a1.Hi)), (.d (.int .i64 a1.From)), (.d (.int .i64 a1.To)), (.sl 1536 0 v2.length)]) (eS rfl (eS rfl (eS rfl (eS rfl (eS rfl (eS rfl (eS rfl (eS rfl (eS rfl (eS rfl eZ)))))))))) bZ rfl ?_
  refine oStoreV (es := [(.d (.int .i64 a1.No)), (.d (.int .i64 a1.Stage)), (.d (.int .i64 a1.Lo)), (.d (.int .i64 a1.Hi)), (.d (.int .i64 a1.From)), (.d (.int .i64 a1.To)), (.sl 1536 0 v2.length)]) (eS rfl (eS rfl (eS rfl (eS rfl (eS rfl (eS rfl (eS rfl (eS rfl (eS rfl (eS rfl (eS rfl (eS rfl eZ)))))))))))) eZ rfl rfl (bS rfl (bS rfl (bS rfl (bS rfl (bS rfl bZ))))) rfl ?_
  refine xNil ?_
  refine TQ.qn ?_
  refine AW.ret ?_
  obtain rfl := Option.some.inj H
  exact endsR (RL.cons (RV.cellA (es := [(.d (.int .i64 a1.No)), (.d (.int .i64 a1.Stage)), (.d (.int .i64 a1.Lo)), (.d (.int .i64 a1.Hi)), (.d (.int .i64 a1.From)), (.d (.int .i64 a1.To)), (.sl 1536 0 v2.length)]) (eS rfl (eS rfl (eS rfl (eS rfl (eS rfl (eS rfl (eS rfl (eS rfl (eS rfl (eS rfl (eS rfl (eS rfl eZ)))))))))))) bZ rfl) (VO.aggs (VOs.cons (VO.flat rfl) (VOs.cons (VO.flat rfl) (VOs.cons (VO.flat rfl) (VOs.cons (VO.flat rfl) (VOs.cons (VO.flat rfl) (VOs.cons (VO.flat rfl) (VOs.cons (VO.sl (bS rfl (bS rfl bZ)) (List.length_map _) (allFlat fun _ => rfl)) VOs.nil)))))))) RL.nil) (by decide)

theorem c_laws_toAtlas {a1 : TAtlas} {r : TAtlas} (H : m_laws_toAtlas a1 = some r) : Fn Try.prog k_laws_toAtlas (lent [(.agg (d_TAtlas a1))]) true [(.agg (d_TAtlas r))] := by
  refine i_laws_toAtlas_fn (Nat.le_of_ble_eq_true rfl) ?_
  rw [init_mk]
  refine AW.weaken (wk_mk [] (SL.cons (v := (.agg [(.d (.int .i64 a1.Epoch)), (.d (.sl 3 (List.map d_TPart a1.Parts))), (.d (.int .i64 a1.Move.No)), (.d (.int .i64 a1.Move.Stage)), (.d (.int .i64 a1.Move.Lo)), (.d (.int .i64 a1.Move.Hi)), (.d (.int .i64 a1.Move.From)), (.d (.int .i64 a1.Move.To)), (.d (.sl 2 (List.map d_TCell a1.Move.Cells)))])) eZ rfl VWk.rfl SL.nil) BL.nil BK.nil) ?_
  unfold m_laws_toAtlas at H
  unfold i_laws_toAtlas
  refine AW.seq ?_
  refine AW.regs ?_
  refine oBox (n := 64) (m := 9) (cs := [(.d (.int .i64 a1.Epoch)), (.d (.sl 3 (List.map d_TPart a1.Parts))), (.d (.int .i64 a1.Move.No)), (.d (.int .i64 a1.Move.Stage)), (.d (.int .i64 a1.Move.Lo)), (.d (.int .i64 a1.Move.Hi)), (.d (.int .i64 a1.Move.From)), (.d (.int .i64 a1.Move.To)), (.d (.sl 2 (List.map d_TCell a1.Move.Cells)))]) rfl eZ rfl rfl nZ ?_
  refine oVar (n := 128) (m := 9) rfl rfl (nS rfl nZ) ?_
  refine xNil ?_
  refine TQ.qn ?_
  refine AW.seq ?_
  refine AW.regs ?_
  refine oVar (n := 192) (m := 9) rfl rfl (nS rfl (nS rfl nZ)) ?_
  refine xNil ?_
  refine TQ.qn ?_
  refine AW.seq ?_
  refine AW.regs ?_
  refine oFaddrN (m := 0) (eS rfl (eS rfl eZ)) rfl ?_
  refine oLoadV (q := 0) (c := (.d (.int .i64 a1.Epoch))) eZ (bS rfl (bS rfl bZ)) rfl rfl ?_
  refine oFaddrN (m := 0) (eS rfl (eS rfl eZ)) rfl ?_
  refine oStoreV (es := [(.d (.int .i64 a1.Epoch)), .zs, (.d (.int .i64 0)), (.d (.int .i64 0)), (.d (.int .i64 0)), (.d (.int .i64 0)), (.d (.int .i64 0)), (.d (.int .i64 0)), .zs]) eZ (eS rfl eZ) rfl rfl bZ rfl ?_
  refine xNil ?_
  refine TQ.qn ?_
  refine AW.seq ?_
  refine AW.regs ?_
  refine oFaddrN (m := 1) (eS rfl (eS rfl (eS rfl (eS rfl (eS rfl eZ))))) rfl ?_
  refine oLoadV (q := 1) (c := (.d (.sl 3 (List.map d_TPart a1.Parts)))) eZ (bS rfl (bS rfl (bS rfl bZ))) rfl rfl ?_
  obtain ⟨v2, h3, H⟩ := obind H
  refine oCallN (u := (.one (.sl 576 0 v2.length))) (bs := [(576, (.data 3 (List.map d_TPart v2) true none))]) eC Cl.fn (c_laws_toPartS h3) (Evs.cons eZ Evs.nil) (VDs.cons VD.plain VDs.nil) (by simp [bindR, bindV, bindVs, bindC, bindCs]) rfl (fC (nS rfl (nS rfl (nS rfl (nS rfl nZ)))) rfl (fC (nS rfl (nS rfl (nS rfl (nS rfl nZ)))) rfl fN)) ?_
  refine oFaddrN (m := 1) (eS rfl (eS rfl (eS rfl (eS rfl (eS rfl (eS rfl eZ)))))) rfl ?_
  refine oStoreV (es := [(.d (.int .i64 a1.Epoch)), (.sl 576 0 v2.length), (.d (.int .i64 0)), (.d (.int .i64 0)), (.d (.int .i64 0)), (.d (.int .i64 0)), (.d (.int .i64 0)), (.d (.int .i64 0)), .zs]) eZ (eS rfl eZ) rfl rfl (bS rfl bZ) rfl ?_
  refine xNil ?_
  refine TQ.qn ?_
  refine AW.seq ?_
  refine AW.regs ?_
  refine oFaddrN (m := 2) (eS rfl (eS rfl (eS rfl (eS rfl (eS rfl (eS rfl (eS rfl (eS rfl (eS rfl eZ))))))))) rfl ?_
  refine oLoadVA (es := [(.d (.int .i64 a1.Move.No)), (.d (.int .i64 a1.Move.Stage)), (.d (.int .i64 a1.Move.Lo)), (.d (.int .i64 a1.Move.Hi)), (.d (.int .i64 a1.Move.From)), (.d (.int .i64 a1.Move.To)), (.d (.sl 2 (List.map d_TCell a1.Move.Cells)))]) eZ (bS rfl (bS rfl (bS rfl (bS rfl (bS rfl bZ))))) rfl ?_
  obtain ⟨v4, h5, H⟩ := obind H
  refine oCallN (u := (.agg [(.d (.int .i64 v4.No)), (.d (.int .i64 v4.Stage)), (.d (.int .i64 v4.Lo)), (.d (.int .i64 v4.Hi)), (.d (.int .i64 v4.From)), (.d (.int .i64 v4.To)), (.sl 838 0 v4.Cells.length)])) (bs := [(838, (.data 2 (List.map d_TCell v4.Cells) true none))]) eC Cl.fn (c_laws_toMove h5) (Evs.cons eZ Evs.nil) (VDs.cons (VD.agg rfl) VDs.nil) (by simp [bindR, bindV, bindVs, bindC, bindCs]) rfl (fC (nS rfl (nS rfl (nS rfl (nS rfl (nS rfl (nS rfl nZ)))))) rfl (fC (nS rfl (nS rfl (nS rfl (nS rfl (nS rfl (nS rfl nZ)))))) rfl fN)) ?_
  refine oFaddrN (m := 2) (eS rfl (eS rfl (eS rfl (eS rfl (eS rfl (eS rfl (eS rfl (eS rfl (eS rfl (eS rfl eZ)))))))))) rfl ?_
  refine oStoreV (es := [(.d (.int .i64 a1.Epoch)), (.sl 576 0 v2.length), (.d (.int .i64 v4.No)), (.d (.int .i64 v4.Stage)), (.d (.int .i64 v4.Lo)), (.d (.int .i64 v4.Hi)), (.d (.int .i64 v4.From)), (.d (.int .i64 v4.To)), (.sl 838 0 v4.Cells.length)]) eZ (eS rfl eZ) rfl rfl (bS rfl bZ) rfl ?_
  refine xNil ?_
  refine TQ.qn ?_
  refine AW.seq ?_
  refine AW.regs ?_
  refine oLoadVA (es := [(.d (.int .i64 a1.Epoch)), (.sl 576 0 v2.length), (.d (.int .i64 v4.No)), (.d (.int .i64 v4.Stage)), (.d (.int .i64 v4.Lo)), (.d (.int .i64 v4.Hi)), (.d (.int .i64 v4.From)), (.d (.int .i64 v4.To)), (.sl 838 0 v4.Cells.length)]) (eS rfl (eS rfl (eS rfl (eS rfl (eS rfl (eS rfl (eS rfl (eS rfl (eS rfl (eS rfl (eS rfl eZ))))))))))) bZ rfl ?_
  refine oStoreV (es := [(.d (.int .i64 a1.Epoch)), (.sl 576 0 v2.length), (.d (.int .i64 v4.No)), (.d (.int .i64 v4.Stage)), (.d (.int .i64 v4.Lo)), (.d (.int .i64 v4.Hi)), (.d (.int .i64 v4.From)), (.d (.int .i64 v4.To)), (.sl 838 0 v4.Cells.length)]) (eS rfl (eS rfl (eS rfl (eS rfl (eS rfl (eS rfl (eS rfl (eS rfl (eS rfl (eS rfl (eS rfl (eS rfl (eS rfl eZ))))))))))))) eZ rfl rfl (bS rfl (bS rfl (bS rfl (bS rfl (bS rfl (bS rfl bZ)))))) rfl ?_
  refine xNil ?_
  refine TQ.qn ?_
  refine AW.weaken (wk_mk [192, 64] (SL.cons (k := 2) (eS rfl (eS rfl (eS rfl (eS rfl (eS rfl (eS rfl (eS rfl (eS rfl (eS rfl (eS rfl (eS rfl (eS rfl (eS rfl eZ))))))))))))) rfl VWk.rfl SL.nil) (BL.keep rfl (BL.drop rfl (BL.keep rfl (BL.drop rfl (BL.keep rfl (BL.drop rfl (BL.drop rfl (BL.keep rfl (BL.drop rfl BL.nil))))))))) (BK.cons (n := 128) rfl bZ rfl rfl (BK.cons (n := 838) rfl (bS rfl (bS rfl bZ)) rfl rfl (BK.cons (n := 576) rfl (bS rfl (bS rfl (bS rfl (bS rfl bZ)))) rfl rfl BK.nil)))) ?_
  refine AW.ret ?_
  obtain rfl := Option.some.inj H
  exact endsR (RL.cons (RV.cellA (es := [(.d (.int .i64 a1.Epoch)), (.sl 576 0 v2.length), (.d (.int .i64 v4.No)), (.d (.int .i64 v4.Stage)), (.d (.int .i64 v4.Lo)), (.d (.int .i64 v4.Hi)), (.d (.int .i64 v4.From)), (.d (.int .i64 v4.To)), (.sl 838 0 v4.Cells.length)]) eZ bZ rfl) (VO.aggs (VOs.cons (VO.flat rfl) (VOs.cons (VO.sl (bS rfl (bS rfl bZ)) (List.length_map _) (allFlat fun _ => rfl)) (VOs.cons (VO.flat rfl) (VOs.cons (VO.flat rfl) (VOs.cons (VO.flat rfl) (VOs.cons (VO.flat rfl) (VOs.cons (VO.flat rfl) (VOs.cons (VO.flat rfl) (VOs.cons (VO.sl (bS rfl bZ) (List.length_map _) (allFlat fun _ => rfl)) VOs.nil)))))))))) RL.nil) (by decide)

theorem c_spec_l1In {a1 : Int} {a2 : Int} {a3 : Int} {r : Bool} (H : m_spec_l1In a1 a2 a3 = some r) : Fn Try.prog k_spec_l1In (lent [(.int .i64 a1), (.int .i64 a2), (.int .i64 a3)]) true [(.bool r)] := by
  refine i_spec_l1In_fn (Nat.le_of_ble_eq_true rfl) ?_
  rw [init_mk]
  refine AW.weaken (wk_mk [] (SL.cons (v := (.one (.d (.int .i64 a1)))) eZ rfl VWk.rfl (SL.cons (v := (.one (.d (.int .i64 a2)))) (eS rfl eZ) rfl VWk.rfl (SL.cons (v := (.one (.d (.int .i64 a3)))) (eS rfl (eS rfl eZ)) rfl VWk.rfl SL.nil))) BL.nil BK.nil) ?_
  unfold m_spec_l1In at H
  unfold i_spec_l1In
  refine AW.seq ?_
  refine AW.regs ?_
  refine oMov eC ?_
  refine xNil ?_
  refine TQ.qn ?_
  refine AW.seq ?_
  refine AW.regs ?_
  refine oMov (eS rfl eZ) ?_
  refine oMov (eS rfl (eS rfl (eS rfl eZ))) ?_
  refine oGeq (eS rfl eZ) eZ ?_
  refine oMov eZ ?_
  rcases oite H with ⟨h4, H⟩ | ⟨h4, H⟩
  · refine gDo eZ (decide_eq_true h4) ?_
    refine oMov (eS rfl (eS rfl (eS rfl (eS rfl (eS rfl eZ))))) ?_
    refine gDo (eS rfl eZ) (decide_eq_true h4) ?_
    refine oMov (eS rfl (eS rfl (eS rfl (eS rfl (eS rfl (eS rfl (eS rfl (eS rfl eZ)))))))) ?_
    refine gDo (eS rfl (eS rfl eZ)) (decide_eq_true h4) ?_
    refine oLeq (eS rfl eZ) eZ ?_
    refine oPickT (eS rfl (eS rfl (eS rfl eZ))) (decide_eq_true h4) eZ ?_
    refine oMov eZ ?_
    refine xNil ?_
    refine TQ.qn ?_
    refine AW.ret ?_
    obtain rfl := Option.some.inj H
    exact endsR (RL.cons (RV.tmp eZ) (VO.flat rfl) RL.nil) List.nodup_nil
  · refine gSkip eZ (decide_eq_false h4) rfl ?_
    refine gSkip (eS rfl eZ) (decide_eq_false h4) rfl ?_
    refine gSkip (eS rfl (eS rfl eZ)) (decide_eq_false h4) rfl ?_
    refine oPickF (eS rfl (eS rfl (eS rfl eZ))) (decide_eq_false h4) eC ?_
    refine oMov eZ ?_
    refine xNil ?_
    refine TQ.qn ?_
    refine AW.ret ?_
    obtain rfl := Option.some.inj H
    exact endsR (RL.cons (RV.tmp eZ) (VO.flat rfl) RL.nil) List.nodup_nil

theorem c_spec_PartsOk {a1 : (List TPart)} {r : Bool} (H : m_spec_PartsOk a1 = some r) : Fn Try.prog k_spec_PartsOk (lent [(.sl 3 (List.map d_TPart a1))]) true [(.bool r)] := by
  refine i_spec_PartsOk_fn (Nat.le_of_ble_eq_true rfl) ?_
  rw [init_mk]
  refine AW.weaken (wk_mk [] (SL.cons (v := (.one (.d (.sl 3 (List.map d_TPart a1))))) eZ rfl VWk.rfl SL.nil) BL.nil BK.nil) ?_
  unfold m_spec_PartsOk at H
  unfold i_spec_PartsOk
  refine AW.seq ?_
  refine AW.regs ?_
  refine oMov eC ?_
  refine xNil ?_
  refine TQ.qn ?_
  refine AW.seq ?_
  refine AW.regs ?_
  refine oMov (eS rfl eZ) ?_
  refine oLenD eZ (n := a1.length) (List.length_map _) ?_
  refine oMov eZ ?_
  refine xNil ?_
  refine TQ.qn ?_
  refine AW.seq ?_
  refine AW.seqJ (fun t2 : Bool => (spec_PartsOk_j2 a1) t2 = some r) (fun t2 => mk [(0, (.one (.d (.sl 3 (List.map d_TPart a1))))), (3, (.one (.d (.int .i64 (a1.length : Int))))), (26, (.one (.d (.bool t2))))] [] noG) ?_ ?_
  · intro t2 H
    unfold spec_PartsOk_j2 at H
    rcases oite H with ⟨h4, H⟩ | ⟨h4, H⟩
    · refine AW.condT (eS rfl (eS rfl eZ)) h4 ?_
      refine AW.seq ?_
      refine AW.regs ?_
      refine oMov eC ?_
      refine xNil ?_
      refine TQ.qn ?_
      refine AW.ret ?_
      refine TQ.qr ?_
      obtain rfl := Option.some.inj H
      exact endsR (RL.cons (RV.tmp eZ) (VO.flat rfl) RL.nil) List.nodup_nil
    · refine AW.condF (eS rfl (eS rfl eZ)) (nt h4) ?_
      refine AW.skip ?_
      refine TQ.qn ?_
      refine AW.seqJ (fun t5 : Unit => spec_PartsOk_j5 t5 = some r) (fun t5 => mk [] [] noG) ?_ ?_
      · intro t5 H
        unfold spec_PartsOk_j5 at H
        refine AW.seq ?_
        refine AW.regs ?_
        refine oMov eC ?_
        refine xNil ?_
        refine TQ.qn ?_
        refine AW.ret ?_
        obtain rfl := Option.some.inj H
        exact endsR (RL.cons (RV.tmp eZ) (VO.flat rfl) RL.nil) List.nodup_nil
      · refine AW.seq ?_
        refine AW.regs ?_
        refine oMov eC ?_
        refine xNil ?_
        refine TQ.qn ?_
        refine AW.block ?_
        refine AW.iter (fun s7 : Int => mk [(0, (.one (.d (.sl 3 (List.map d_TPart a1))))), (3, (.one (.d (.int .i64 (a1.length : Int))))), (4, (.one (.d (.int .i64 s7))))] [] noG) H (wk_mk [] (SL.cons (eS rfl eZ) rfl VWk.rfl (SL.cons (eS rfl (eS rfl eZ)) rfl VWk.rfl (SL.cons eZ rfl VWk.rfl SL.nil))) BL.nil BK.nil) ?_
        intro kb8 s7 H
        unfold spec_PartsOk_b7 at H
        refine AW.seq ?_
        refine AW.seq ?_
        refine AW.regs ?_
        refine oMov (eS rfl (eS rfl eZ)) ?_
        refine oMov (eS rfl (eS rfl eZ)) ?_
        refine oLss (eS rfl eZ) eZ ?_
        refine xNil ?_
        refine TQ.qn ?_
        rcases oite H with ⟨h9, H⟩ | ⟨h9, H⟩
        · refine AW.condT eZ (decide_eq_true h9) ?_
          refine AW.skip ?_
          refine TQ.qn ?_
          refine AW.seq ?_
          refine AW.block ?_
          refine AW.seq ?_
          refine AW.regs ?_
          refine oMov (eS rfl (eS rfl (eS rfl eZ))) ?_
          refine oMov (eS rfl (eS rfl (eS rfl (eS rfl (eS rfl (eS rfl eZ)))))) ?_
          obtain ⟨v10, h11, H⟩ := obind H
          refine oAtD (eS rfl eZ) eZ h11 ?_
          refine oLoadBA (es := [(.d (.int .i64 v10.Lo)), (.d (.int .i64 v10.Hi)), (.d (.int .i64 v10.Owner))]) eZ rfl ?_
          refine oVar (n := 320) (m := 3) rfl rfl nZ ?_
          refine oStoreV (es := [(.d (.int .i64 v10.Lo)), (.d (.int .i64 v10.Hi)), (.d (.int .i64 v10.Owner))]) eZ (eS rfl eZ) rfl rfl bZ rfl ?_
          refine xNil ?_
          refine TQ.qn ?_
          refine AW.seqJ (fun t12 : Bool => (spec_PartsOk_j12 kb8 s7) t12 = some r) (fun t12 => mk [(0, (.one (.d (.sl 3 (List.map d_TPart a1))))), (3, (.one (.d (.int .i64 (a1.length : Int))))), (4, (.one (.d (.int .i64 s7)))), (71, (.one (.d (.bool t12))))] [] noG) ?_ ?_
          · intro t12 H
            unfold spec_PartsOk_j12 at H
            rcases oite H with ⟨h14, H⟩ | ⟨h14, H⟩
            · refine AW.condT (eS rfl (eS rfl (eS rfl eZ))) h14 ?_
              refine AW.seq ?_
              refine AW.regs ?_
              refine oMov eC ?_
              refine xNil ?_
              refine TQ.qn ?_
              refine AW.ret ?_
              refine BQ.qr ?_
              refine TQ.qr ?_
              refine TQ.qr ?_
              refine BQ.qr ?_
              refine TQ.qr ?_
              obtain rfl := Option.some.inj H
              exact endsR (RL.cons (RV.tmp eZ) (VO.flat rfl) RL.nil) List.nodup_nil
            · refine AW.condF (eS rfl (eS rfl (eS rfl eZ))) (nt h14) ?_
              refine AW.skip ?_
              refine BQ.qn ?_
              refine TQ.qn ?_
              refine AW.regs ?_
              refine oMov (eS rfl (eS rfl eZ)) ?_
              refine oAdd eZ eC ?_
              refine oMov eZ ?_
              refine xNil ?_
              exact TQ.qn ⟨(IntKind.wrap .i64 (s7 + 1)), H, (wk_mk [] (SL.cons (eS rfl (eS rfl (eS rfl eZ))) rfl VWk.rfl (SL.cons (eS rfl (eS rfl (eS rfl (eS rfl eZ)))) rfl VWk.rfl (SL.cons eZ rfl VWk.rfl SL.nil))) BL.nil BK.nil)⟩
          · refine AW.regd ?_
            refine oFaddrN (m := 0) eZ rfl ?_
            refine oLoadV (q := 0) (c := (.d (.int .i64 v10.Lo))) eZ bZ rfl rfl ?_
            refine oFaddrN (m := 1) (eS rfl (eS rfl eZ)) rfl ?_
            refine oLoadV (q := 1) (c := (.d (.int .i64 v10.Hi))) eZ bZ rfl rfl ?_
            refine oGeq (eS rfl (eS rfl eZ)) eZ ?_
            refine oMov eZ ?_
            rcases oite H with ⟨h15, H⟩ | ⟨h15, H⟩
            · refine gSkip eZ (decide_eq_true h15) rfl ?_
              refine gSkip (eS rfl eZ) (decide_eq_true h15) rfl ?_
              refine gSkip (eS rfl (eS rfl eZ)) (decide_eq_true h15) rfl ?_
              refine oPickT (eS rfl (eS rfl (eS rfl eZ))) (decide_eq_true h15) eC ?_
              refine oMov eZ ?_
              refine gSkip eZ rfl rfl ?_
              refine gSkip (eS rfl eZ) rfl rfl ?_
              refine gSkip (eS rfl (eS rfl eZ)) rfl rfl ?_
              refine oPickT (eS rfl (eS rfl (eS rfl eZ))) rfl eC ?_
              refine oMov eZ ?_
              refine gSkip eZ rfl rfl ?_
              refine gSkip (eS rfl eZ) rfl rfl ?_
              refine gSkip (eS rfl (eS rfl eZ)) rfl rfl ?_
              refine gSkip (eS rfl (eS rfl (eS rfl eZ))) rfl rfl ?_
              refine oPickT (eS rfl (eS rfl (eS rfl (eS rfl eZ)))) rfl eC ?_
              refine oMov eZ ?_
              refine gSkip eZ rfl rfl ?_
              refine gSkip (eS rfl eZ) rfl rfl ?_
              refine gSkip (eS rfl (eS rfl eZ)) rfl rfl ?_
              refine gSkipU eZ rfl ?_
              refine gSkipU (eS rfl eZ) rfl ?_
              refine gSkipU (eS rfl (eS rfl eZ)) rfl ?_
              refine gSkipU (eS rfl (eS rfl (eS rfl eZ))) rfl ?_
              refine gSkipU (eS rfl (eS rfl (eS rfl (eS rfl eZ)))) rfl ?_
              refine gSkipU (eS rfl (eS rfl (eS rfl (eS rfl (eS rfl eZ))))) rfl ?_
              refine gSkipU (eS rfl (eS rfl (eS rfl (eS rfl (eS rfl (eS rfl eZ)))))) rfl ?_
              refine gSkipU (eS rfl (eS rfl (eS rfl (eS rfl (eS rfl (eS rfl (eS rfl eZ))))))) rfl ?_
              refine gSkipU (eS rfl (eS rfl (eS rfl (eS rfl (eS rfl (eS rfl (eS rfl (eS rfl eZ)))))))) rfl ?_
              refine gSkip (eS rfl (eS rfl (eS rfl (eS rfl (eS rfl (eS rfl (eS rfl (eS rfl (eS rfl (eS rfl (eS rfl (eS rfl eZ)))))))))))) rfl rfl ?_
              refine oPickT (eS rfl (eS rfl (eS rfl (eS rfl (eS rfl (eS rfl (eS rfl (eS rfl (eS rfl (eS rfl (eS rfl (eS rfl (eS rfl eZ))))))))))))) rfl eC ?_
              refine xNil ?_
              exact TQ.qn ⟨true, H, (wk_mk [320] (SL.cons (eS rfl (eS rfl (eS rfl (eS rfl (eS rfl (eS rfl (eS rfl (eS rfl (eS rfl (eS rfl (eS rfl (eS rfl (eS rfl (eS rfl (eS rfl (eS rfl (eS rfl (eS rfl (eS rfl (eS rfl (eS rfl (eS rfl (eS rfl (eS rfl (eS rfl (eS rfl (eS rfl (eS rfl (eS rfl (eS rfl (eS rfl (eS rfl (eS rfl (eS rfl (eS rfl (eS rfl (eS rfl (eS rfl (eS rfl (eS rfl (eS rfl (eS rfl (eS rfl (eS rfl eZ)))))))))))))))))))))))))))))))))))))))))))) rfl VWk.rfl (SL.cons (eS rfl (eS rfl (eS rfl (eS rfl (eS rfl (eS rfl (eS rfl (eS rfl (eS rfl (eS rfl (eS rfl (eS rfl (eS rfl (eS rfl (eS rfl (eS rfl (eS rfl (eS rfl (eS rfl (eS rfl (eS rfl (eS rfl (eS rfl (eS rfl (eS rfl (eS rfl (eS rfl (eS rfl (eS rfl (eS rfl (eS rfl (eS rfl (eS rfl (eS rfl (eS rfl (eS rfl (eS rfl (eS rfl (eS rfl (eS rfl (eS rfl (eS rfl (eS rfl (eS rfl (eS rfl eZ))))))))))))))))))))))))))))))))))))))))))))) rfl VWk.rfl (SL.cons (eS rfl (eS rfl (eS rfl (eS rfl (eS rfl (eS rfl (eS rfl (eS rfl (eS rfl (eS rfl (eS rfl (eS rfl (eS rfl (eS rfl (eS rfl (eS rfl (eS rfl (eS rfl (eS rfl (eS rfl (eS rfl (eS rfl (eS rfl (eS rfl (eS rfl (eS rfl (eS rfl (eS rfl (eS rfl (eS rfl (eS rfl (eS rfl (eS rfl (eS rfl (eS rfl (eS rfl (eS rfl (eS rfl (eS rfl (eS rfl (eS rfl (eS rfl (eS rfl (eS rfl (eS rfl (eS rfl eZ)))))))))))))))))))))))))))))))))))))))))))))) rfl VWk.rfl (SL.cons eZ rfl VWk.rfl SL.nil)))) (BL.drop rfl (BL.drop rfl BL.nil)) BK.nil)⟩
            · refine gDo eZ (decide_eq_false h15) ?_
              refine oFaddrN (m := 0) (eS rfl (eS rfl (eS rfl (eS rfl (eS rfl (eS rfl eZ)))))) rfl ?_
              refine gDo (eS rfl eZ) (decide_eq_false h15) ?_
              refine oLoadV (q := 0) (c := (.d (.int .i64 v10.Lo))) eZ bZ rfl rfl ?_
              refine gDo (eS rfl (eS rfl eZ)) (decide_eq_false h15) ?_
              refine oLss eZ eC ?_
              refine oPickF (eS rfl (eS rfl (eS rfl eZ))) (decide_eq_false h15) eZ ?_
              refine oMov eZ ?_
              rcases oite H with ⟨h16, H⟩ | ⟨h16, H⟩
              · refine gSkip eZ (decide_eq_true h16) rfl ?_
                refine gSkip (eS rfl eZ) (decide_eq_true h16) rfl ?_
                refine gSkip (eS rfl (eS rfl eZ)) (decide_eq_true h16) rfl ?_
                refine oPickT (eS rfl (eS rfl (eS rfl eZ))) (decide_eq_true h16) eC ?_
                refine oMov eZ ?_
                refine gSkip eZ rfl rfl ?_
                refine gSkip (eS rfl eZ) rfl rfl ?_
                refine gSkip (eS rfl (eS rfl eZ)) rfl rfl ?_
                refine gSkip (eS rfl (eS rfl (eS rfl eZ))) rfl rfl ?_
                refine oPickT (eS rfl (eS rfl (eS rfl (eS rfl eZ)))) rfl eC ?_
                refine oMov eZ ?_
                refine gSkip eZ rfl rfl ?_
                refine gSkip (eS rfl eZ) rfl rfl ?_
                refine gSkip (eS rfl (eS rfl eZ)) rfl rfl ?_
                refine gSkipU eZ rfl ?_
                refine gSkipU (eS rfl eZ) rfl ?_
                refine gSkipU (eS rfl (eS rfl eZ)) rfl ?_
                refine gSkipU (eS rfl (eS rfl (eS rfl eZ))) rfl ?_
                refine gSkipU (eS rfl (eS rfl (eS rfl (eS rfl eZ)))) rfl ?_
                refine gSkipU (eS rfl (eS rfl (eS rfl (eS rfl (eS rfl eZ))))) rfl ?_
                refine gSkipU (eS rfl (eS rfl (eS rfl (eS rfl (eS rfl (eS rfl eZ)))))) rfl ?_
                refine gSkipU (eS rfl (eS rfl (eS rfl (eS rfl (eS rfl (eS rfl (eS rfl eZ))))))) rfl ?_
                refine gSkipU (eS rfl (eS rfl (eS rfl (eS rfl (eS rfl (eS rfl (eS rfl (eS rfl eZ)))))))) rfl ?_
                refine gSkip (eS rfl (eS rfl (eS rfl (eS rfl (eS rfl (eS rfl (eS rfl (eS rfl (eS rfl (eS rfl (eS rfl (eS rfl eZ)))))))))))) rfl rfl ?_
                refine oPickT (eS rfl (eS rfl (eS rfl (eS rfl (eS rfl (eS rfl (eS rfl (eS rfl (eS rfl (eS rfl (eS rfl (eS rfl (eS rfl eZ))))))))))))) rfl eC ?_
                refine xNil ?_
                exact TQ.qn ⟨true, H, (wk_mk [320] (SL.cons (eS rfl (eS rfl (eS rfl (eS rfl (eS rfl (eS rfl (eS rfl (eS rfl (eS rfl (eS rfl (eS rfl (eS rfl (eS rfl (eS rfl (eS rfl (eS rfl (eS rfl (eS rfl (eS rfl (eS rfl (eS rfl (eS rfl (eS rfl (eS rfl (eS rfl (eS rfl (eS rfl (eS rfl (eS rfl (eS rfl (eS rfl (eS rfl (eS rfl (eS rfl (eS rfl (eS rfl (eS rfl (eS rfl (eS rfl (eS rfl (eS rfl (eS rfl (eS rfl (eS rfl eZ)))))))))))))))))))))))))))))))))))))))))))) rfl VWk.rfl (SL.cons (eS rfl (eS rfl (eS rfl (eS rfl (eS rfl (eS rfl (eS rfl (eS rfl (eS rfl (eS rfl (eS rfl (eS rfl (eS rfl (eS rfl (eS rfl (eS rfl (eS rfl (eS rfl (eS rfl (eS rfl (eS rfl (eS rfl (eS rfl (eS rfl (eS rfl (eS rfl (eS rfl (eS rfl (eS rfl (eS rfl (eS rfl (eS rfl (eS rfl (eS rfl (eS rfl (eS rfl (eS rfl (eS rfl (eS rfl (eS rfl (eS rfl (eS rfl (eS rfl (eS rfl (eS rfl eZ))))))))))))))))))))))))))))))))))))))))))))) rfl VWk.rfl (SL.cons (eS rfl (eS rfl (eS rfl (eS rfl (eS rfl (eS rfl (eS rfl (eS rfl (eS rfl (eS rfl (eS rfl (eS rfl (eS rfl (eS rfl (eS rfl (eS rfl (eS rfl (eS rfl (eS rfl (eS rfl (eS rfl (eS rfl (eS rfl (eS rfl (eS rfl (eS rfl (eS rfl (eS rfl (eS rfl (eS rfl (eS rfl (eS rfl (eS rfl (eS rfl (eS rfl (eS rfl (eS rfl (eS rfl (eS rfl (eS rfl (eS rfl (eS rfl (eS rfl (eS rfl (eS rfl (eS rfl eZ)))))))))))))))))))))))))))))))))))))))))))))) rfl VWk.rfl (SL.cons eZ rfl VWk.rfl SL.nil)))) (BL.drop rfl (BL.drop rfl BL.nil)) BK.nil)⟩
              · refine gDo eZ (decide_eq_false h16) ?_
                refine oFaddrN (m := 1) (eS rfl (eS rfl (eS rfl (eS rfl (eS rfl (eS rfl (eS rfl (eS rfl (eS rfl (eS rfl (eS rfl eZ))))))))))) rfl ?_
                refine gDo (eS rfl eZ) (decide_eq_false h16) ?_
                refine oLoadV (q := 1) (c := (.d (.int .i64 v10.Hi))) eZ bZ rfl rfl ?_
                refine gDo (eS rfl (eS rfl eZ)) (decide_eq_false h16) ?_
                refine oGtr eZ eC ?_
                refine oPickF (eS rfl (eS rfl (eS rfl eZ))) (decide_eq_false h16) eZ ?_
                refine oMov eZ ?_
                rcases oite H with ⟨h17, H⟩ | ⟨h17, H⟩
                · refine gSkip eZ (decide_eq_true h17) rfl ?_
                  refine gSkip (eS rfl eZ) (decide_eq_true h17) rfl ?_
                  refine gSkip (eS rfl (eS rfl eZ)) (decide_eq_true h17) rfl ?_
                  refine gSkip (eS rfl (eS rfl (eS rfl eZ))) (decide_eq_true h17) rfl ?_
                  refine oPickT (eS rfl (eS rfl (eS rfl (eS rfl eZ)))) (decide_eq_true h17) eC ?_
                  refine oMov eZ ?_
                  refine gSkip eZ rfl rfl ?_
                  refine gSkip (eS rfl eZ) rfl rfl ?_
                  refine gSkip (eS rfl (eS rfl eZ)) rfl rfl ?_
                  refine gSkipU eZ rfl ?_
                  refine gSkipU (eS rfl eZ) rfl ?_
                  refine gSkipU (eS rfl (eS rfl eZ)) rfl ?_
                  refine gSkipU (eS rfl (eS rfl (eS rfl eZ))) rfl ?_
                  refine gSkipU (eS rfl (eS rfl (eS rfl (eS rfl eZ)))) rfl ?_
                  refine gSkipU (eS rfl (eS rfl (eS rfl (eS rfl (eS rfl eZ))))) rfl ?_
                  refine gSkipU (eS rfl (eS rfl (eS rfl (eS rfl (eS rfl (eS rfl eZ)))))) rfl ?_
                  refine gSkipU (eS rfl (eS rfl (eS rfl (eS rfl (eS rfl (eS rfl (eS rfl eZ))))))) rfl ?_
                  refine gSkipU (eS rfl (eS rfl (eS rfl (eS rfl (eS rfl (eS rfl (eS rfl (eS rfl eZ)))))))) rfl ?_
                  refine gSkip (eS rfl (eS rfl (eS rfl (eS rfl (eS rfl (eS rfl (eS rfl (eS rfl (eS rfl (eS rfl (eS rfl (eS rfl eZ)))))))))))) rfl rfl ?_
                  refine oPickT (eS rfl (eS rfl (eS rfl (eS rfl (eS rfl (eS rfl (eS rfl (eS rfl (eS rfl (eS rfl (eS rfl (eS rfl (eS rfl eZ))))))))))))) rfl eC ?_
                  refine xNil ?_
                  exact TQ.qn ⟨true, H, (wk_mk [320] (SL.cons (eS rfl (eS rfl (eS rfl (eS rfl (eS rfl (eS rfl (eS rfl (eS rfl (eS rfl (eS rfl (eS rfl (eS rfl (eS rfl (eS rfl (eS rfl (eS rfl (eS rfl (eS rfl (eS rfl (eS rfl (eS rfl (eS rfl (eS rfl (eS rfl (eS rfl (eS rfl (eS rfl (eS rfl (eS rfl (eS rfl (eS rfl (eS rfl (eS rfl (eS rfl (eS rfl (eS rfl (eS rfl (eS rfl (eS rfl (eS rfl (eS rfl (eS rfl (eS rfl (eS rfl eZ)))))))))))))))))))))))))))))))))))))))))))) rfl VWk.rfl (SL.cons (eS rfl (eS rfl (eS rfl (eS rfl (eS rfl (eS rfl (eS rfl (eS rfl (eS rfl (eS rfl (eS rfl (eS rfl (eS rfl (eS rfl (eS rfl (eS rfl (eS rfl (eS rfl (eS rfl (eS rfl (eS rfl (eS rfl (eS rfl (eS rfl (eS rfl (eS rfl (eS rfl (eS rfl (eS rfl (eS rfl (eS rfl (eS rfl (eS rfl (eS rfl (eS rfl (eS rfl (eS rfl (eS rfl (eS rfl (eS rfl (eS rfl (eS rfl (eS rfl (eS rfl (eS rfl eZ))))))))))))))))))))))))))))))))))))))))))))) rfl VWk.rfl (SL.cons (eS rfl (eS rfl (eS rfl (eS rfl (eS rfl (eS rfl (eS rfl (eS rfl (eS rfl (eS rfl (eS rfl (eS rfl (eS rfl (eS rfl (eS rfl (eS rfl (eS rfl (eS rfl (eS rfl (eS rfl (eS rfl (eS rfl (eS rfl (eS rfl (eS rfl (eS rfl (eS rfl (eS rfl (eS rfl (eS rfl (eS rfl (eS rfl (eS rfl (eS rfl (eS rfl (eS rfl (eS rfl (eS rfl (eS rfl (eS rfl (eS rfl (eS rfl (eS rfl (eS rfl (eS rfl (eS rfl eZ)))))))))))))))))))))))))))))))))))))))))))))) rfl VWk.rfl (SL.cons eZ rfl VWk.rfl SL.nil)))) (BL.drop rfl (BL.drop rfl BL.nil)) BK.nil)⟩
                · refine gDo eZ (decide_eq_false h17) ?_
                  refine oFaddrN (m := 2) (eS rfl (eS rfl (eS rfl (eS rfl (eS rfl (eS rfl (eS rfl (eS rfl (eS rfl (eS rfl (eS rfl (eS rfl (eS rfl (eS rfl (eS rfl (eS rfl eZ)))))))))))))))) rfl ?_
                  refine gDo (eS rfl eZ) (decide_eq_false h17) ?_
                  refine oLoadV (q := 2) (c := (.d (.int .i64 v10.Owner))) eZ bZ rfl rfl ?_
                  refine gDo (eS rfl (eS rfl eZ)) (decide_eq_false h17) ?_
                  obtain ⟨v18, h19, H⟩ := obind H
                  refine oCall (u := (.one (.d (.bool v18)))) eC Cl.fn (c_spec_l1In h19) (Evs.cons eZ (Evs.cons eC (Evs.cons eC Evs.nil))) (VDs.cons VD.plain (VDs.cons VD.plain (VDs.cons VD.plain VDs.nil))) rfl ?_
                  refine gDo (eS rfl (eS rfl (eS rfl eZ))) (decide_eq_false h17) ?_
                  refine oInv eZ ?_
                  refine oPickF (eS rfl (eS rfl (eS rfl (eS rfl eZ)))) (decide_eq_false h17) eZ ?_
                  refine oMov eZ ?_
                  rcases oite H with ⟨h20, H⟩ | ⟨h20, H⟩
                  · refine gDo eZ (congrArg Bool.not h20) ?_
                    refine oMov (eS rfl (eS rfl (eS rfl (eS rfl (eS rfl (eS rfl (eS rfl (eS rfl (eS rfl (eS rfl (eS rfl (eS rfl (eS rfl (eS rfl (eS rfl (eS rfl (eS rfl (eS rfl (eS rfl (eS rfl (eS rfl (eS rfl (eS rfl (eS rfl (eS rfl (eS rfl (eS rfl (eS rfl (eS rfl (eS rfl (eS rfl (eS rfl eZ)))))))))))))))))))))))))))))))) ?_
                    refine gDo (eS rfl eZ) (congrArg Bool.not h20) ?_
                    refine oGtr eZ eC ?_
                    refine gDo (eS rfl (eS rfl eZ)) (congrArg Bool.not h20) ?_
                    refine oMov eZ ?_
                    rcases oite H with ⟨h21, H⟩ | ⟨h21, H⟩
                    · refine gDo eZ (decide_eq_true h21) ?_
                      refine oMov (eS rfl (eS rfl (eS rfl (eS rfl (eS rfl (eS rfl (eS rfl (eS rfl (eS rfl (eS rfl (eS rfl (eS rfl (eS rfl (eS rfl (eS rfl (eS rfl (eS rfl (eS rfl (eS rfl (eS rfl (eS rfl (eS rfl (eS rfl (eS rfl (eS rfl (eS rfl (eS rfl (eS rfl (eS rfl (eS rfl (eS rfl (eS rfl (eS rfl eZ))))))))))))))))))))))))))))))))) ?_
                      refine gDo (eS rfl eZ) (decide_eq_true h21) ?_
                      refine oMov (eS rfl (eS rfl (eS rfl (eS rfl (eS rfl (eS rfl (eS rfl (eS rfl (eS rfl (eS rfl (eS rfl (eS rfl (eS rfl (eS rfl (eS rfl (eS rfl (eS rfl (eS rfl (eS rfl (eS rfl (eS rfl (eS rfl (eS rfl (eS rfl (eS rfl (eS rfl (eS rfl (eS rfl (eS rfl (eS rfl (eS rfl (eS rfl (eS rfl (eS rfl (eS rfl (eS rfl eZ)))))))))))))))))))))))))))))))))))) ?_
                      refine gDo (eS rfl (eS rfl eZ)) (decide_eq_true h21) ?_
                      refine oSub eZ eC ?_
                      refine gDo (eS rfl (eS rfl (eS rfl eZ))) (decide_eq_true h21) ?_
                      obtain ⟨v22, h23, H⟩ := obind H
                      refine oAtD (eS rfl (eS rfl eZ)) eZ h23 ?_
                      refine gDo (eS rfl (eS rfl (eS rfl (eS rfl eZ)))) (decide_eq_true h21) ?_
                      refine oFaddrB (m := 1) eZ rfl ?_
                      refine gDo (eS rfl (eS rfl (eS rfl (eS rfl (eS rfl eZ))))) (decide_eq_true h21) ?_
                      refine oLoadB (e := (.int .i64 v22.Hi)) eZ rfl ?_
                      refine gDo (eS rfl (eS rfl (eS rfl (eS rfl (eS rfl (eS rfl eZ)))))) (decide_eq_true h21) ?_
                      refine oFaddrN (m := 0) (eS rfl (eS rfl (eS rfl (eS rfl (eS rfl (eS rfl (eS rfl (eS rfl (eS rfl (eS rfl (eS rfl (eS rfl (eS rfl (eS rfl (eS rfl (eS rfl (eS rfl (eS rfl (eS rfl (eS rfl (eS rfl (eS rfl (eS rfl (eS rfl (eS rfl (eS rfl (eS rfl (eS rfl (eS rfl (eS rfl (eS rfl eZ))))))))))))))))))))))))))))))) rfl ?_
                      refine gDo (eS rfl (eS rfl (eS rfl (eS rfl (eS rfl (eS rfl (eS rfl eZ))))))) (decide_eq_true h21) ?_
                      refine oLoadV (q := 0) (c := (.d (.int .i64 v10.Lo))) eZ bZ rfl rfl ?_
                      refine gDo (eS rfl (eS rfl (eS rfl (eS rfl (eS rfl (eS rfl (eS rfl (eS rfl eZ)))))))) (decide_eq_true h21) ?_
                      refine oNeq (eS rfl (eS rfl eZ)) eZ ?_
                      refine gDo (eS rfl (eS rfl (eS rfl (eS rfl (eS rfl (eS rfl (eS rfl (eS rfl (eS rfl (eS rfl (eS rfl (eS rfl eZ)))))))))))) (congrArg Bool.not h20) ?_
                      refine oPickT (eS rfl (eS rfl (eS rfl (eS rfl (eS rfl (eS rfl (eS rfl (eS rfl (eS rfl eZ))))))))) (decide_eq_true h21) eZ ?_
                      refine oPickF (eS rfl (eS rfl (eS rfl (eS rfl (eS rfl (eS rfl (eS rfl (eS rfl (eS rfl (eS rfl (eS rfl (eS rfl (eS rfl eZ))))))))))))) (congrArg Bool.not h20) eZ ?_
                      refine xNil ?_
                      exact TQ.qn ⟨(decide (¬ v22.Hi = v10.Lo)), H, (wk_mk [320] (SL.cons (eS rfl (eS rfl (eS rfl (eS rfl (eS rfl (eS rfl (eS rfl (eS rfl (eS rfl (eS rfl (eS rfl (eS rfl (eS rfl (eS rfl (eS rfl (eS rfl (eS rfl (eS rfl (eS rfl (eS rfl (eS rfl (eS rfl (eS rfl (eS rfl (eS rfl (eS rfl (eS rfl (eS rfl (eS rfl (eS rfl (eS rfl (eS rfl (eS rfl (eS rfl (eS rfl (eS rfl (eS rfl (eS rfl (eS rfl (eS rfl (eS rfl (eS rfl (eS rfl (eS rfl eZ)))))))))))))))))))))))))))))))))))))))))))) rfl VWk.rfl (SL.cons (eS rfl (eS rfl (eS rfl (eS rfl (eS rfl (eS rfl (eS rfl (eS rfl (eS rfl (eS rfl (eS rfl (eS rfl (eS rfl (eS rfl (eS rfl (eS rfl (eS rfl (eS rfl (eS rfl (eS rfl (eS rfl (eS rfl (eS rfl (eS rfl (eS rfl (eS rfl (eS rfl (eS rfl (eS rfl (eS rfl (eS rfl (eS rfl (eS rfl (eS rfl (eS rfl (eS rfl (eS rfl (eS rfl (eS rfl (eS rfl (eS rfl (eS rfl (eS rfl (eS rfl (eS rfl eZ))))))))))))))))))))))))))))))))))))))))))))) rfl VWk.rfl (SL.cons (eS rfl (eS rfl (eS rfl (eS rfl (eS rfl (eS rfl (eS rfl (eS rfl (eS rfl (eS rfl (eS rfl (eS rfl (eS rfl (eS rfl (eS rfl (eS rfl (eS rfl (eS rfl (eS rfl (eS rfl (eS rfl (eS rfl (eS rfl (eS rfl (eS rfl (eS rfl (eS rfl (eS rfl (eS rfl (eS rfl (eS rfl (eS rfl (eS rfl (eS rfl (eS rfl (eS rfl (eS rfl (eS rfl (eS rfl (eS rfl (eS rfl (eS rfl (eS rfl (eS rfl (eS rfl (eS rfl eZ)))))))))))))))))))))))))))))))))))))))))))))) rfl VWk.rfl (SL.cons eZ rfl VWk.rfl SL.nil)))) (BL.drop rfl (BL.drop rfl BL.nil)) BK.nil)⟩
                    · refine gSkip eZ (decide_eq_false h21) rfl ?_
                      refine gSkip (eS rfl eZ) (decide_eq_false h21) rfl ?_
                      refine gSkip (eS rfl (eS rfl eZ)) (decide_eq_false h21) rfl ?_
                      refine gSkip (eS rfl (eS rfl (eS rfl eZ))) (decide_eq_false h21) rfl ?_
                      refine gSkip (eS rfl (eS rfl (eS rfl (eS rfl eZ)))) (decide_eq_false h21) rfl ?_
                      refine gSkip (eS rfl (eS rfl (eS rfl (eS rfl (eS rfl eZ))))) (decide_eq_false h21) rfl ?_
                      refine gSkip (eS rfl (eS rfl (eS rfl (eS rfl (eS rfl (eS rfl eZ)))))) (decide_eq_false h21) rfl ?_
                      refine gSkip (eS rfl (eS rfl (eS rfl (eS rfl (eS rfl (eS rfl (eS rfl eZ))))))) (decide_eq_false h21) rfl ?_
                      refine gSkip (eS rfl (eS rfl (eS rfl (eS rfl (eS rfl (eS rfl (eS rfl (eS rfl eZ)))))))) (decide_eq_false h21) rfl ?_
                      refine gDo (eS rfl (eS rfl (eS rfl (eS rfl (eS rfl (eS rfl (eS rfl (eS rfl (eS rfl (eS rfl (eS rfl (eS rfl eZ)))))))))))) (congrArg Bool.not h20) ?_
                      refine oPickF (eS rfl (eS rfl (eS rfl (eS rfl (eS rfl (eS rfl (eS rfl (eS rfl (eS rfl eZ))))))))) (decide_eq_false h21) eC ?_
                      refine oPickF (eS rfl (eS rfl (eS rfl (eS rfl (eS rfl (eS rfl (eS rfl (eS rfl (eS rfl (eS rfl (eS rfl (eS rfl (eS rfl eZ))))))))))))) (congrArg Bool.not h20) eZ ?_
                      refine xNil ?_
                      exact TQ.qn ⟨false, H, (wk_mk [320] (SL.cons (eS rfl (eS rfl (eS rfl (eS rfl (eS rfl (eS rfl (eS rfl (eS rfl (eS rfl (eS rfl (eS rfl (eS rfl (eS rfl (eS rfl (eS rfl (eS rfl (eS rfl (eS rfl (eS rfl (eS rfl (eS rfl (eS rfl (eS rfl (eS rfl (eS rfl (eS rfl (eS rfl (eS rfl (eS rfl (eS rfl (eS rfl (eS rfl (eS rfl (eS rfl (eS rfl (eS rfl (eS rfl (eS rfl (eS rfl (eS rfl (eS rfl (eS rfl (eS rfl (eS rfl eZ)))))))))))))))))))))))))))))))))))))))))))) rfl VWk.rfl (SL.cons (eS rfl (eS rfl (eS rfl (eS rfl (eS rfl (eS rfl (eS rfl (eS rfl (eS rfl (eS rfl (eS rfl (eS rfl (eS rfl (eS rfl (eS rfl (eS rfl (eS rfl (eS rfl (eS rfl (eS rfl (eS rfl (eS rfl (eS rfl (eS rfl (eS rfl (eS rfl (eS rfl (eS rfl (eS rfl (eS rfl (eS rfl (eS rfl (eS rfl (eS rfl (eS rfl (eS rfl (eS rfl (eS rfl (eS rfl (eS rfl (eS rfl (eS rfl (eS rfl (eS rfl (eS rfl eZ))))))))))))))))))))))))))))))))))))))))))))) rfl VWk.rfl (SL.cons (eS rfl (eS rfl (eS rfl (eS rfl (eS rfl (eS rfl (eS rfl (eS rfl (eS rfl (eS rfl (eS rfl (eS rfl (eS rfl (eS rfl (eS rfl (eS rfl (eS rfl (eS rfl (eS rfl (eS rfl (eS rfl (eS rfl (eS rfl (eS rfl (eS rfl (eS rfl (eS rfl (eS rfl (eS rfl (eS rfl (eS rfl (eS rfl (eS rfl (eS rfl (eS rfl (eS rfl (eS rfl (eS rfl (eS rfl (eS rfl (eS rfl (eS rfl (eS rfl (eS rfl (eS rfl (eS rfl eZ)))))))))))))))))))))))))))))))))))))))))))))) rfl VWk.rfl (SL.cons eZ rfl VWk.rfl SL.nil)))) (BL.drop rfl (BL.drop rfl BL.nil)) BK.nil)⟩
                  · refine gSkip eZ (congrArg Bool.not (nt h20)) rfl ?_
                    refine gSkip (eS rfl eZ) (congrArg Bool.not (nt h20)) rfl ?_
                    refine gSkip (eS rfl (eS rfl eZ)) (congrArg Bool.not (nt h20)) rfl ?_
                    refine gSkipU eZ rfl ?_
                    refine gSkipU (eS rfl eZ) rfl ?_
                    refine gSkipU (eS rfl (eS rfl eZ)) rfl ?_
                    refine gSkipU (eS rfl (eS rfl (eS rfl eZ))) rfl ?_
                    refine gSkipU (eS rfl (eS rfl (eS rfl (eS rfl eZ)))) rfl ?_
                    refine gSkipU (eS rfl (eS rfl (eS rfl (eS rfl (eS rfl eZ))))) rfl ?_
                    refine gSkipU (eS rfl (eS rfl (eS rfl (eS rfl (eS rfl (eS rfl eZ)))))) rfl ?_
                    refine gSkipU (eS rfl (eS rfl (eS rfl (eS rfl (eS rfl (eS rfl (eS rfl eZ))))))) rfl ?_
                    refine gSkipU (eS rfl (eS rfl (eS rfl (eS rfl (eS rfl (eS rfl (eS rfl (eS rfl eZ)))))))) rfl ?_
                    refine gSkip (eS rfl (eS rfl (eS rfl (eS rfl (eS rfl (eS rfl (eS rfl (eS rfl (eS rfl (eS rfl (eS rfl (eS rfl eZ)))))))))))) (congrArg Bool.not (nt h20)) rfl ?_
                    refine oPickT (eS rfl (eS rfl (eS rfl (eS rfl (eS rfl (eS rfl (eS rfl (eS rfl (eS rfl (eS rfl (eS rfl (eS rfl (eS rfl eZ))))))))))))) (congrArg Bool.not (nt h20)) eC ?_
                    refine xNil ?_
                    exact TQ.qn ⟨true, H, (wk_mk [320] (SL.cons (eS rfl (eS rfl (eS rfl (eS rfl (eS rfl (eS rfl (eS rfl (eS rfl (eS rfl (eS rfl (eS rfl (eS rfl (eS rfl (eS rfl (eS rfl (eS rfl (eS rfl (eS rfl (eS rfl (eS rfl (eS rfl (eS rfl (eS rfl (eS rfl (eS rfl (eS rfl (eS rfl (eS rfl (eS rfl (eS rfl (eS rfl (eS rfl (eS rfl (eS rfl (eS rfl (eS rfl (eS rfl (eS rfl (eS rfl (eS rfl (eS rfl (eS rfl (eS rfl (eS rfl eZ)))))))))))))))))))))))))))))))))))))))))))) rfl VWk.rfl (SL.cons (eS rfl (eS rfl (eS rfl (eS rfl (eS rfl (eS rfl (eS rfl (eS rfl (eS rfl (eS rfl (eS rfl (eS rfl (eS rfl (eS rfl (eS rfl (eS rfl (eS rfl (eS rfl (eS rfl (eS rfl (eS rfl (eS rfl (eS rfl (eS rfl (eS rfl (eS rfl (eS rfl (eS rfl (eS rfl (eS rfl (eS rfl (eS rfl (eS rfl (eS rfl (eS rfl (eS rfl (eS rfl (eS rfl (eS rfl (eS rfl (eS rfl (eS rfl (eS rfl (eS rfl (eS rfl eZ))))))))))))))))))))))))))))))))))))))))))))) rfl VWk.rfl (SL.cons (eS rfl (eS rfl (eS rfl (eS rfl (eS rfl (eS rfl (eS rfl (eS rfl (eS rfl (eS rfl (eS rfl (eS rfl (eS rfl (eS rfl (eS rfl (eS rfl (eS rfl (eS rfl (eS rfl (eS rfl (eS rfl (eS rfl (eS rfl (eS rfl (eS rfl (eS rfl (eS rfl (eS rfl (eS rfl (eS rfl (eS rfl (eS rfl (eS rfl (eS rfl (eS rfl (eS rfl (eS rfl (eS rfl (eS rfl (eS rfl (eS rfl (eS rfl (eS rfl (eS rfl (eS rfl (eS rfl eZ)))))))))))))))))))))))))))))))))))))))))))))) rfl VWk.rfl (SL.cons eZ rfl VWk.rfl SL.nil)))) (BL.drop rfl (BL.drop rfl BL.nil)) BK.nil)⟩
        · refine AW.condF eZ (decide_eq_false h9) ?_
          refine AW.exit ?_
          refine TQ.qe ?_
          refine TQ.qe ?_
          refine BQ.qe ?_
          exact TQ.qn ⟨(), H, (wk_mk [] SL.nil BL.nil BK.nil)⟩
  · refine AW.regs ?_
    refine oMov eZ ?_
    obtain ⟨v24, h25, H⟩ := obind H
    refine oCall (u := (.one (.d (.bool v24)))) eC Cl.fn (c_spec_l1In h25) (Evs.cons eZ (Evs.cons eC (Evs.cons eC Evs.nil))) (VDs.cons VD.plain (VDs.cons VD.plain (VDs.cons VD.plain VDs.nil))) rfl ?_
    refine oInv eZ ?_
    refine oMov eZ ?_
    rcases oite H with ⟨h26, H⟩ | ⟨h26, H⟩
    · refine gDo eZ (congrArg Bool.not h26) ?_
      refine oMov (eS rfl (eS rfl (eS rfl (eS rfl (eS rfl (eS rfl (eS rfl (eS rfl eZ)))))))) ?_
      refine gDo (eS rfl eZ) (congrArg Bool.not h26) ?_
      obtain ⟨v27, h28, H⟩ := obind H
      refine oAtD eZ eC h28 ?_
      refine gDo (eS rfl (eS rfl eZ)) (congrArg Bool.not h26) ?_
      refine oFaddrB (m := 0) eZ rfl ?_
      refine gDo (eS rfl (eS rfl (eS rfl eZ))) (congrArg Bool.not h26) ?_
      refine oLoadB (e := (.int .i64 v27.Lo)) eZ rfl ?_
      refine gDo (eS rfl (eS rfl (eS rfl (eS rfl eZ)))) (congrArg Bool.not h26) ?_
      refine oNeq eZ eC ?_
      refine oPickF (eS rfl (eS rfl (eS rfl (eS rfl (eS rfl eZ))))) (congrArg Bool.not h26) eZ ?_
      refine oMov eZ ?_
      rcases oite H with ⟨h29, H⟩ | ⟨h29, H⟩
      · refine gSkip eZ (decide_eq_true h29) rfl ?_
        refine gSkip (eS rfl eZ) (decide_eq_true h29) rfl ?_
        refine gSkip (eS rfl (eS rfl eZ)) (decide_eq_true h29) rfl ?_
        refine gSkip (eS rfl (eS rfl (eS rfl eZ))) (decide_eq_true h29) rfl ?_
        refine gSkip (eS rfl (eS rfl (eS rfl (eS rfl eZ)))) (decide_eq_true h29) rfl ?_
        refine gSkip (eS rfl (eS rfl (eS rfl (eS rfl (eS rfl eZ))))) (decide_eq_true h29) rfl ?_
        refine gSkip (eS rfl (eS rfl (eS rfl (eS rfl (eS rfl (eS rfl eZ)))))) (decide_eq_true h29) rfl ?_
        refine oPickT (eS rfl (eS rfl (eS rfl (eS rfl (eS rfl (eS rfl (eS rfl eZ))))))) (decide_eq_true h29) eC ?_
        refine xNil ?_
        exact TQ.qn ⟨true, H, (wk_mk [] (SL.cons (eS rfl (eS rfl (eS rfl (eS rfl (eS rfl (eS rfl (eS rfl (eS rfl (eS rfl (eS rfl (eS rfl (eS rfl (eS rfl (eS rfl (eS rfl (eS rfl (eS rfl (eS rfl (eS rfl (eS rfl (eS rfl (eS rfl (eS rfl eZ))))))))))))))))))))))) rfl VWk.rfl (SL.cons (eS rfl (eS rfl (eS rfl (eS rfl (eS rfl (eS rfl (eS rfl (eS rfl (eS rfl (eS rfl (eS rfl (eS rfl (eS rfl (eS rfl (eS rfl (eS rfl (eS rfl (eS rfl (eS rfl eZ))))))))))))))))))) rfl VWk.rfl (SL.cons eZ rfl VWk.rfl SL.nil))) BL.nil BK.nil)⟩
      · refine gDo eZ (decide_eq_false h29) ?_
        refine oMov (eS rfl (eS rfl (eS rfl (eS rfl (eS rfl (eS rfl (eS rfl (eS rfl (eS rfl (eS rfl (eS rfl (eS rfl (eS rfl (eS rfl (eS rfl eZ))))))))))))))) ?_
        refine gDo (eS rfl eZ) (decide_eq_false h29) ?_
        refine oMov (eS rfl (eS rfl (eS rfl (eS rfl (eS rfl (eS rfl (eS rfl (eS rfl (eS rfl (eS rfl (eS rfl (eS rfl eZ)))))))))))) ?_
        refine gDo (eS rfl (eS rfl eZ)) (decide_eq_false h29) ?_
        refine oSub eZ eC ?_
        refine gDo (eS rfl (eS rfl (eS rfl eZ))) (decide_eq_false h29) ?_
        obtain ⟨v30, h31, H⟩ := obind H
        refine oAtD (eS rfl (eS rfl eZ)) eZ h31 ?_
        refine gDo (eS rfl (eS rfl (eS rfl (eS rfl eZ)))) (decide_eq_false h29) ?_
        refine oFaddrB (m := 1) eZ rfl ?_
        refine gDo (eS rfl (eS rfl (eS rfl (eS rfl (eS rfl eZ))))) (decide_eq_false h29) ?_
        refine oLoadB (e := (.int .i64 v30.Hi)) eZ rfl ?_
        refine gDo (eS rfl (eS rfl (eS rfl (eS rfl (eS rfl (eS rfl eZ)))))) (decide_eq_false h29) ?_
        refine oNeq eZ eC ?_
        refine oPickF (eS rfl (eS rfl (eS rfl (eS rfl (eS rfl (eS rfl (eS rfl eZ))))))) (decide_eq_false h29) eZ ?_
        refine xNil ?_
        exact TQ.qn ⟨(decide (¬ v30.Hi = 1000)), H, (wk_mk [] (SL.cons (eS rfl (eS rfl (eS rfl (eS rfl (eS rfl (eS rfl (eS rfl (eS rfl (eS rfl (eS rfl (eS rfl (eS rfl (eS rfl (eS rfl (eS rfl (eS rfl (eS rfl (eS rfl (eS rfl (eS rfl (eS rfl (eS rfl (eS rfl eZ))))))))))))))))))))))) rfl VWk.rfl (SL.cons (eS rfl (eS rfl (eS rfl (eS rfl (eS rfl (eS rfl (eS rfl (eS rfl (eS rfl (eS rfl (eS rfl (eS rfl (eS rfl (eS rfl (eS rfl (eS rfl (eS rfl (eS rfl (eS rfl eZ))))))))))))))))))) rfl VWk.rfl (SL.cons eZ rfl VWk.rfl SL.nil))) BL.nil BK.nil)⟩
    · refine gSkip eZ (congrArg Bool.not (nt h26)) rfl ?_
      refine gSkip (eS rfl eZ) (congrArg Bool.not (nt h26)) rfl ?_
      refine gSkip (eS rfl (eS rfl eZ)) (congrArg Bool.not (nt h26)) rfl ?_
      refine gSkip (eS rfl (eS rfl (eS rfl eZ))) (congrArg Bool.not (nt h26)) rfl ?_
      refine gSkip (eS rfl (eS rfl (eS rfl (eS rfl eZ)))) (congrArg Bool.not (nt h26)) rfl ?_
      refine oPickT (eS rfl (eS rfl (eS rfl (eS rfl (eS rfl eZ))))) (congrArg Bool.not (nt h26)) eC ?_
      refine oMov eZ ?_
      refine gSkip eZ rfl rfl ?_
      refine gSkip (eS rfl eZ) rfl rfl ?_
      refine gSkip (eS rfl (eS rfl eZ)) rfl rfl ?_
      refine gSkip (eS rfl (eS rfl (eS rfl eZ))) rfl rfl ?_
      refine gSkip (eS rfl (eS rfl (eS rfl (eS rfl eZ)))) rfl rfl ?_
      refine gSkip (eS rfl (eS rfl (eS rfl (eS rfl (eS rfl eZ))))) rfl rfl ?_
      refine gSkip (eS rfl (eS rfl (eS rfl (eS rfl (eS rfl (eS rfl eZ)))))) rfl rfl ?_
      refine oPickT (eS rfl (eS rfl (eS rfl (eS rfl (eS rfl (eS rfl (eS rfl eZ))))))) rfl eC ?_
      refine xNil ?_
      exact TQ.qn ⟨true, H, (wk_mk [] (SL.cons (eS rfl (eS rfl (eS rfl (eS rfl (eS rfl (eS rfl (eS rfl (eS rfl (eS rfl (eS rfl (eS rfl (eS rfl (eS rfl (eS rfl (eS rfl (eS rfl (eS rfl (eS rfl (eS rfl (eS rfl (eS rfl (eS rfl (eS rfl eZ))))))))))))))))))))))) rfl VWk.rfl (SL.cons (eS rfl (eS rfl (eS rfl (eS rfl (eS rfl (eS rfl (eS rfl (eS rfl (eS rfl (eS rfl (eS rfl (eS rfl (eS rfl (eS rfl (eS rfl (eS rfl (eS rfl (eS rfl (eS rfl eZ))))))))))))))))))) rfl VWk.rfl (SL.cons eZ rfl VWk.rfl SL.nil))) BL.nil BK.nil)⟩

theorem c_spec_l10Key {a1 : Int} {r : Bool} (H : m_spec_l10Key a1 = some r) : Fn Try.prog k_spec_l10Key (lent [(.int .i64 a1)]) true [(.bool r)] := by
  refine i_spec_l10Key_fn (Nat.le_of_ble_eq_true rfl) ?_
  rw [init_mk]
  refine AW.weaken (wk_mk [] (SL.cons (v := (.one (.d (.int .i64 a1)))) eZ rfl VWk.rfl SL.nil) BL.nil BK.nil) ?_
  unfold m_spec_l10Key at H
  unfold i_spec_l10Key
  refine AW.seq ?_
  refine AW.regs ?_
  refine oMov eC ?_
  refine xNil ?_
  refine TQ.qn ?_
  refine AW.seq ?_
  refine AW.regs ?_
  refine oMov (eS rfl eZ) ?_
  obtain ⟨v2, h3, H⟩ := obind H
  refine oCall (u := (.one (.d (.bool v2)))) eC Cl.fn (c_spec_l1In h3) (Evs.cons eZ (Evs.cons eC (Evs.cons eC Evs.nil))) (VDs.cons VD.plain (VDs.cons VD.plain (VDs.cons VD.plain VDs.nil))) rfl ?_
  refine oMov eZ ?_
  refine xNil ?_
  refine TQ.qn ?_
  refine AW.ret ?_
  obtain rfl := Option.some.inj H
  exact endsR (RL.cons (RV.tmp eZ) (VO.flat rfl) RL.nil) List.nodup_nil

theorem c_spec_l1Whole {a1 : Int} {r : Bool} (H : m_spec_l1Whole a1 = some r) : Fn Try.prog k_spec_l1Whole (lent [(.int .i64 a1)]) true [(.bool r)] := by
  refine i_spec_l1Whole_fn (Nat.le_of_ble_eq_true rfl) ?_
  rw [init_mk]
  refine AW.weaken (wk_mk [] (SL.cons (v := (.one (.d (.int .i64 a1)))) eZ rfl VWk.rfl SL.nil) BL.nil BK.nil) ?_
  unfold m_spec_l1Whole at H
  unfold i_spec_l1Whole
  refine AW.seq ?_
  refine AW.regs ?_
  refine oMov eC ?_
  refine xNil ?_
  refine TQ.qn ?_
  refine AW.seq ?_
  refine AW.regs ?_
  refine oMov (eS rfl eZ) ?_
  obtain ⟨v2, h3, H⟩ := obind H
  refine oCall (u := (.one (.d (.bool v2)))) eC Cl.fn (c_spec_l1In h3) (Evs.cons eZ (Evs.cons eC (Evs.cons eC Evs.nil))) (VDs.cons VD.plain (VDs.cons VD.plain (VDs.cons VD.plain VDs.nil))) rfl ?_
  refine oMov eZ ?_
  refine xNil ?_
  refine TQ.qn ?_
  refine AW.ret ?_
  obtain rfl := Option.some.inj H
  exact endsR (RL.cons (RV.tmp eZ) (VO.flat rfl) RL.nil) List.nodup_nil

theorem c_spec_StoreOk {a1 : (List TCell)} {r : Bool} (H : m_spec_StoreOk a1 = some r) : Fn Try.prog k_spec_StoreOk (lent [(.sl 2 (List.map d_TCell a1))]) true [(.bool r)] := by
  refine i_spec_StoreOk_fn (Nat.le_of_ble_eq_true rfl) ?_
  rw [init_mk]
  refine AW.weaken (wk_mk [] (SL.cons (v := (.one (.d (.sl 2 (List.map d_TCell a1))))) eZ rfl VWk.rfl SL.nil) BL.nil BK.nil) ?_
  unfold m_spec_StoreOk at H
  unfold i_spec_StoreOk
  refine AW.seq ?_
  refine AW.regs ?_
  refine oMov eC ?_
  refine xNil ?_
  refine TQ.qn ?_
  refine AW.seq ?_
  refine AW.seq ?_
  refine AW.regs ?_
  refine oMov (eS rfl eZ) ?_
  refine oLenD eZ (n := a1.length) (List.length_map _) ?_
  refine oGtr eZ eC ?_
  refine xNil ?_
  refine TQ.qn ?_
  rcases oite H with ⟨h2, H⟩ | ⟨h2, H⟩
  · refine AW.condT eZ (decide_eq_true h2) ?_
    refine AW.seq ?_
    refine AW.regs ?_
    refine oMov eC ?_
    refine xNil ?_
    refine TQ.qn ?_
    refine AW.ret ?_
    refine TQ.qr ?_
    obtain rfl := Option.some.inj H
    exact endsR (RL.cons (RV.tmp eZ) (VO.flat rfl) RL.nil) List.nodup_nil
  · refine AW.condF eZ (decide_eq_false h2) ?_
    refine AW.skip ?_
    refine TQ.qn ?_
    refine AW.seqJ (fun t3 : Unit => spec_StoreOk_j3 t3 = some r) (fun t3 => mk [] [] noG) ?_ ?_
    · intro t3 H
      unfold spec_StoreOk_j3 at H
      refine AW.seq ?_
      refine AW.regs ?_
      refine oMov eC ?_
      refine xNil ?_
      refine TQ.qn ?_
      refine AW.ret ?_
      obtain rfl := Option.some.inj H
      exact endsR (RL.cons (RV.tmp eZ) (VO.flat rfl) RL.nil) List.nodup_nil
    · refine AW.seq ?_
      refine AW.regs ?_
      refine oMov eC ?_
      refine xNil ?_
      refine TQ.qn ?_
      refine AW.block ?_
      refine AW.iter (fun s5 : Int => mk [(0, (.one (.d (.sl 2 (List.map d_TCell a1))))), (3, (.one (.d (.int .i64 s5))))] [] noG) H (wk_mk [] (SL.cons (eS rfl (eS rfl (eS rfl (eS rfl (eS rfl eZ))))) rfl VWk.rfl (SL.cons eZ rfl VWk.rfl SL.nil)) BL.nil BK.nil) ?_
      intro kb6 s5 H
      unfold spec_StoreOk_b5 at H
      refine AW.seq ?_
      refine AW.seq ?_
      refine AW.regs ?_
      refine oMov (eS rfl eZ) ?_
      refine oMov (eS rfl eZ) ?_
      refine oLenD eZ (n := a1.length) (List.length_map _) ?_
      refine oLss (eS rfl (eS rfl eZ)) eZ ?_
      refine xNil ?_
      refine TQ.qn ?_
      rcases oite H with ⟨h7, H⟩ | ⟨h7, H⟩
      · refine AW.condT eZ (decide_eq_true h7) ?_
        refine AW.skip ?_
        refine TQ.qn ?_
        refine AW.seq ?_
        refine AW.block ?_
        refine AW.seqJ (fun t8 : Bool => (spec_StoreOk_j8 kb6 s5) t8 = some r) (fun t8 => mk [(0, (.one (.d (.sl 2 (List.map d_TCell a1))))), (3, (.one (.d (.int .i64 s5)))), (46, (.one (.d (.bool t8))))] [] noG) ?_ ?_
        · intro t8 H
          unfold spec_StoreOk_j8 at H
          rcases oite H with ⟨h10, H⟩ | ⟨h10, H⟩
          · refine AW.condT (eS rfl (eS rfl eZ)) h10 ?_
            refine AW.seq ?_
            refine AW.regs ?_
            refine oMov eC ?_
            refine xNil ?_
            refine TQ.qn ?_
            refine AW.ret ?_
            refine BQ.qr ?_
            refine TQ.qr ?_
            refine TQ.qr ?_
            refine BQ.qr ?_
            refine TQ.qr ?_
            obtain rfl := Option.some.inj H
            exact endsR (RL.cons (RV.tmp eZ) (VO.flat rfl) RL.nil) List.nodup_nil
          · refine AW.condF (eS rfl (eS rfl eZ)) (nt h10) ?_
            refine AW.skip ?_
            refine BQ.qn ?_
            refine TQ.qn ?_
            refine AW.regs ?_
            refine oMov (eS rfl eZ) ?_
            refine oAdd eZ eC ?_
            refine oMov eZ ?_
            refine xNil ?_
            exact TQ.qn ⟨(IntKind.wrap .i64 (s5 + 1)), H, (wk_mk [] (SL.cons (eS rfl (eS rfl (eS rfl eZ))) rfl VWk.rfl (SL.cons eZ rfl VWk.rfl SL.nil)) BL.nil BK.nil)⟩
        · refine AW.regd ?_
          refine oMov (eS rfl (eS rfl (eS rfl (eS rfl eZ)))) ?_
          refine oMov (eS rfl (eS rfl (eS rfl (eS rfl (eS rfl (eS rfl eZ)))))) ?_
          obtain ⟨v11, h12, H⟩ := obind H
          refine oAtD (eS rfl eZ) eZ h12 ?_
          refine oFaddrB (m := 0) eZ rfl ?_
          refine oLoadB (e := (.int .i64 v11.Key)) eZ rfl ?_
          obtain ⟨v13, h14, H⟩ := obind H
          refine oCall (u := (.one (.d (.bool v13)))) eC Cl.fn (c_spec_l10Key h14) (Evs.cons eZ Evs.nil) (VDs.cons VD.plain VDs.nil) rfl ?_
          refine oInv eZ ?_
          refine oMov eZ ?_
          rcases oite H with ⟨h15, H⟩ | ⟨h15, H⟩
          · refine gDo eZ (congrArg Bool.not h15) ?_
            refine oMov (eS rfl (eS rfl (eS rfl (eS rfl (eS rfl (eS rfl (eS rfl (eS rfl (eS rfl (eS rfl (eS rfl (eS rfl eZ)))))))))))) ?_
            refine gDo (eS rfl eZ) (congrArg Bool.not h15) ?_
            refine oMov (eS rfl (eS rfl (eS rfl (eS rfl (eS rfl (eS rfl (eS rfl (eS rfl (eS rfl (eS rfl (eS rfl (eS rfl (eS rfl (eS rfl eZ)))))))))))))) ?_
            refine gDo (eS rfl (eS rfl eZ)) (congrArg Bool.not h15) ?_
            obtain ⟨v16, h17, H⟩ := obind H
            refine oAtD (eS rfl eZ) eZ h17 ?_
            refine gDo (eS rfl (eS rfl (eS rfl eZ))) (congrArg Bool.not h15) ?_
            refine oFaddrB (m := 1) eZ rfl ?_
            refine gDo (eS rfl (eS rfl (eS rfl (eS rfl eZ)))) (congrArg Bool.not h15) ?_
            refine oLoadB (e := (.int .i64 v16.Value)) eZ rfl ?_
            refine gDo (eS rfl (eS rfl (eS rfl (eS rfl (eS rfl eZ))))) (congrArg Bool.not h15) ?_
            obtain ⟨v18, h19, H⟩ := obind H
            refine oCall (u := (.one (.d (.bool v18)))) eC Cl.fn (c_spec_l1Whole h19) (Evs.cons eZ Evs.nil) (VDs.cons VD.plain VDs.nil) rfl ?_
            refine gDo (eS rfl (eS rfl (eS rfl (eS rfl (eS rfl (eS rfl eZ)))))) (congrArg Bool.not h15) ?_
            refine oInv eZ ?_
            refine oPickF (eS rfl (eS rfl (eS rfl (eS rfl (eS rfl (eS rfl (eS rfl eZ))))))) (congrArg Bool.not h15) eZ ?_
            refine oMov eZ ?_
            rcases oite H with ⟨h20, H⟩ | ⟨h20, H⟩
            · refine gDo eZ (congrArg Bool.not h20) ?_
              refine oMov (eS rfl (eS rfl (eS rfl (eS rfl (eS rfl (eS rfl (eS rfl (eS rfl (eS rfl (eS rfl (eS rfl (eS rfl (eS rfl (eS rfl (eS rfl (eS rfl (eS rfl (eS rfl (eS rfl (eS rfl (eS rfl (eS rfl eZ)))))))))))))))))))))) ?_
              refine gDo (eS rfl eZ) (congrArg Bool.not h20) ?_
              refine oGtr eZ eC ?_
              refine gDo (eS rfl (eS rfl eZ)) (congrArg Bool.not h20) ?_
              refine oMov eZ ?_
              rcases oite H with ⟨h21, H⟩ | ⟨h21, H⟩
              · refine gDo eZ (decide_eq_true h21) ?_
                refine oMov (eS rfl (eS rfl (eS rfl (eS rfl (eS rfl (eS rfl (eS rfl (eS rfl (eS rfl (eS rfl (eS rfl (eS rfl (eS rfl (eS rfl (eS rfl (eS rfl (eS rfl (eS rfl (eS rfl (eS rfl (eS rfl (eS rfl (eS rfl (eS rfl eZ)))))))))))))))))))))))) ?_
                refine gDo (eS rfl eZ) (decide_eq_true h21) ?_
                refine oMov (eS rfl (eS rfl (eS rfl (eS rfl (eS rfl (eS rfl (eS rfl (eS rfl (eS rfl (eS rfl (eS rfl (eS rfl (eS rfl (eS rfl (eS rfl (eS rfl (eS rfl (eS rfl (eS rfl (eS rfl (eS rfl (eS rfl (eS rfl (eS rfl (eS rfl (eS rfl eZ)))))))))))))))))))))))))) ?_
                refine gDo (eS rfl (eS rfl eZ)) (decide_eq_true h21) ?_
                refine oSub eZ eC ?_
                refine gDo (eS rfl (eS rfl (eS rfl eZ))) (decide_eq_true h21) ?_
                obtain ⟨v22, h23, H⟩ := obind H
                refine oAtD (eS rfl (eS rfl eZ)) eZ h23 ?_
                refine gDo (eS rfl (eS rfl (eS rfl (eS rfl eZ)))) (decide_eq_true h21) ?_
                refine oFaddrB (m := 0) eZ rfl ?_
                refine gDo (eS rfl (eS rfl (eS rfl (eS rfl (eS rfl eZ))))) (decide_eq_true h21) ?_
                refine oLoadB (e := (.int .i64 v22.Key)) eZ rfl ?_
                refine gDo (eS rfl (eS rfl (eS rfl (eS rfl (eS rfl (eS rfl eZ)))))) (decide_eq_true h21) ?_
                refine oMov (eS rfl (eS rfl (eS rfl (eS rfl (eS rfl (eS rfl (eS rfl (eS rfl (eS rfl (eS rfl (eS rfl (eS rfl (eS rfl (eS rfl (eS rfl (eS rfl (eS rfl (eS rfl (eS rfl (eS rfl (eS rfl (eS rfl (eS rfl (eS rfl (eS rfl (eS rfl (eS rfl (eS rfl (eS rfl (eS rfl eZ)))))))))))))))))))))))))))))) ?_
                refine gDo (eS rfl (eS rfl (eS rfl (eS rfl (eS rfl (eS rfl (eS rfl eZ))))))) (decide_eq_true h21) ?_
                refine oMov (eS rfl (eS rfl (eS rfl (eS rfl (eS rfl (eS rfl (eS rfl (eS rfl (eS rfl (eS rfl (eS rfl (eS rfl (eS rfl (eS rfl (eS rfl (eS rfl (eS rfl (eS rfl (eS rfl (eS rfl (eS rfl (eS rfl (eS rfl (eS rfl (eS rfl (eS rfl (eS rfl (eS rfl (eS rfl (eS rfl (eS rfl (eS rfl eZ)))))))))))))))))))))))))))))))) ?_
                refine gDo (eS rfl (eS rfl (eS rfl (eS rfl (eS rfl (eS rfl (eS rfl (eS rfl eZ)))))))) (decide_eq_true h21) ?_
                obtain ⟨v24, h25, H⟩ := obind H
                refine oAtD (eS rfl eZ) eZ h25 ?_
                refine gDo (eS rfl (eS rfl (eS rfl (eS rfl (eS rfl (eS rfl (eS rfl (eS rfl (eS rfl eZ))))))))) (decide_eq_true h21) ?_
                refine oFaddrB (m := 0) eZ rfl ?_
                refine gDo (eS rfl (eS rfl (eS rfl (eS rfl (eS rfl (eS rfl (eS rfl (eS rfl (eS rfl (eS rfl eZ)))))))))) (decide_eq_true h21) ?_
                refine oLoadB (e := (.int .i64 v24.Key)) eZ rfl ?_
                refine gDo (eS rfl (eS rfl (eS rfl (eS rfl (eS rfl (eS rfl (eS rfl (eS rfl (eS rfl (eS rfl (eS rfl eZ))))))))))) (decide_eq_true h21) ?_
                refine oGeq (eS rfl (eS rfl (eS rfl (eS rfl (eS rfl eZ))))) eZ ?_
                refine gDo (eS rfl (eS rfl (eS rfl (eS rfl (eS rfl (eS rfl (eS rfl (eS rfl (eS rfl (eS rfl (eS rfl (eS rfl (eS rfl (eS rfl (eS rfl eZ))))))))))))))) (congrArg Bool.not h20) ?_
                refine oPickT (eS rfl (eS rfl (eS rfl (eS rfl (eS rfl (eS rfl (eS rfl (eS rfl (eS rfl (eS rfl (eS rfl (eS rfl eZ)))))))))))) (decide_eq_true h21) eZ ?_
                refine oPickF (eS rfl (eS rfl (eS rfl (eS rfl (eS rfl (eS rfl (eS rfl (eS rfl (eS rfl (eS rfl (eS rfl (eS rfl (eS rfl (eS rfl (eS rfl (eS rfl eZ)))))))))))))))) (congrArg Bool.not h20) eZ ?_
                refine xNil ?_
                exact TQ.qn ⟨(decide (v24.Key ≤ v22.Key)), H, (wk_mk [] (SL.cons (eS rfl (eS rfl (eS rfl (eS rfl (eS rfl (eS rfl (eS rfl (eS rfl (eS rfl (eS rfl (eS rfl (eS rfl (eS rfl (eS rfl (eS rfl (eS rfl (eS rfl (eS rfl (eS rfl (eS rfl (eS rfl (eS rfl (eS rfl (eS rfl (eS rfl (eS rfl (eS rfl (eS rfl (eS rfl (eS rfl (eS rfl (eS rfl (eS rfl (eS rfl (eS rfl (eS rfl (eS rfl (eS rfl eZ)))))))))))))))))))))))))))))))))))))) rfl VWk.rfl (SL.cons (eS rfl (eS rfl (eS rfl (eS rfl (eS rfl (eS rfl (eS rfl (eS rfl (eS rfl (eS rfl (eS rfl (eS rfl (eS rfl (eS rfl (eS rfl (eS rfl (eS rfl (eS rfl (eS rfl (eS rfl (eS rfl (eS rfl (eS rfl (eS rfl (eS rfl (eS rfl (eS rfl (eS rfl (eS rfl (eS rfl (eS rfl (eS rfl (eS rfl (eS rfl (eS rfl (eS rfl (eS rfl (eS rfl (eS rfl eZ))))))))))))))))))))))))))))))))))))))) rfl VWk.rfl (SL.cons eZ rfl VWk.rfl SL.nil))) BL.nil BK.nil)⟩
              · refine gSkip eZ (decide_eq_false h21) rfl ?_
                refine gSkip (eS rfl eZ) (decide_eq_false h21) rfl ?_
                refine gSkip (eS rfl (eS rfl eZ)) (decide_eq_false h21) rfl ?_
                refine gSkip (eS rfl (eS rfl (eS rfl eZ))) (decide_eq_false h21) rfl ?_
                refine gSkip (eS rfl (eS rfl (eS rfl (eS rfl eZ)))) (decide_eq_false h21) rfl ?_
                refine gSkip (eS rfl (eS rfl (eS rfl (eS rfl (eS rfl eZ))))) (decide_eq_false h21) rfl ?_
                refine gSkip (eS rfl (eS rfl (eS rfl (eS rfl (eS rfl (eS rfl eZ)))))) (decide_eq_false h21) rfl ?_
                refine gSkip (eS rfl (eS rfl (eS rfl (eS rfl (eS rfl (eS rfl (eS rfl eZ))))))) (decide_eq_false h21) rfl ?_
                refine gSkip (eS rfl (eS rfl (eS rfl (eS rfl (eS rfl (eS rfl (eS rfl (eS rfl eZ)))))))) (decide_eq_false h21) rfl ?_
                refine gSkip (eS rfl (eS rfl (eS rfl (eS rfl (eS rfl (eS rfl (eS rfl (eS rfl (eS rfl eZ))))))))) (decide_eq_false h21) rfl ?_
                refine gSkip (eS rfl (eS rfl (eS rfl (eS rfl (eS rfl (eS rfl (eS rfl (eS rfl (eS rfl (eS rfl eZ)))))))))) (decide_eq_false h21) rfl ?_
                refine gSkip (eS rfl (eS rfl (eS rfl (eS rfl (eS rfl (eS rfl (eS rfl (eS rfl (eS rfl (eS rfl (eS rfl eZ))))))))))) (decide_eq_false h21) rfl ?_
                refine gDo (eS rfl (eS rfl (eS rfl (eS rfl (eS rfl (eS rfl (eS rfl (eS rfl (eS rfl (eS rfl (eS rfl (eS rfl (eS rfl (eS rfl (eS rfl eZ))))))))))))))) (congrArg Bool.not h20) ?_
                refine oPickF (eS rfl (eS rfl (eS rfl (eS rfl (eS rfl (eS rfl (eS rfl (eS rfl (eS rfl (eS rfl (eS rfl (eS rfl eZ)))))))))))) (decide_eq_false h21) eC ?_
                refine oPickF (eS rfl (eS rfl (eS rfl (eS rfl (eS rfl (eS rfl (eS rfl (eS rfl (eS rfl (eS rfl (eS rfl (eS rfl (eS rfl (eS rfl (eS rfl (eS rfl eZ)))))))))))))))) (congrArg Bool.not h20) eZ ?_
                refine xNil ?_
                exact TQ.qn ⟨false, H, (wk_mk [] (SL.cons (eS rfl (eS rfl (eS rfl (eS rfl (eS rfl (eS rfl (eS rfl (eS rfl (eS rfl (eS rfl (eS rfl (eS rfl (eS rfl (eS rfl (eS rfl (eS rfl (eS rfl (eS rfl (eS rfl (eS rfl (eS rfl (eS rfl (eS rfl (eS rfl (eS rfl (eS rfl (eS rfl (eS rfl (eS rfl (eS rfl (eS rfl (eS rfl (eS rfl (eS rfl (eS rfl (eS rfl (eS rfl (eS rfl eZ)))))))))))))))))))))))))))))))))))))) rfl VWk.rfl (SL.cons (eS rfl (eS rfl (eS rfl (eS rfl (eS rfl (eS rfl (eS rfl (eS rfl (eS rfl (eS rfl (eS rfl (eS rfl (eS rfl (eS rfl (eS rfl (eS rfl (eS rfl (eS rfl (eS rfl (eS rfl (eS rfl (eS rfl (eS rfl (eS rfl (eS rfl (eS rfl (eS rfl (eS rfl (eS rfl (eS rfl (eS rfl (eS rfl (eS rfl (eS rfl (eS rfl (eS rfl (eS rfl (eS rfl (eS rfl eZ))))))))))))))))))))))))))))))))))))))) rfl VWk.rfl (SL.cons eZ rfl VWk.rfl SL.nil))) BL.nil BK.nil)⟩
            · refine gSkip eZ (congrArg Bool.not (nt h20)) rfl ?_
              refine gSkip (eS rfl eZ) (congrArg Bool.not (nt h20)) rfl ?_
              refine gSkip (eS rfl (eS rfl eZ)) (congrArg Bool.not (nt h20)) rfl ?_
              refine gSkipU eZ rfl ?_
              refine gSkipU (eS rfl eZ) rfl ?_
              refine gSkipU (eS rfl (eS rfl eZ)) rfl ?_
              refine gSkipU (eS rfl (eS rfl (eS rfl eZ))) rfl ?_
              refine gSkipU (eS rfl (eS rfl (eS rfl (eS rfl eZ)))) rfl ?_
              refine gSkipU (eS rfl (eS rfl (eS rfl (eS rfl (eS rfl eZ))))) rfl ?_
              refine gSkipU (eS rfl (eS rfl (eS rfl (eS rfl (eS rfl (eS rfl eZ)))))) rfl ?_
              refine gSkipU (eS rfl (eS rfl (eS rfl (eS rfl (eS rfl (eS rfl (eS rfl eZ))))))) rfl ?_
              refine gSkipU (eS rfl (eS rfl (eS rfl (eS rfl (eS rfl (eS rfl (eS rfl (eS rfl eZ)))))))) rfl ?_
              refine gSkipU (eS rfl (eS rfl (eS rfl (eS rfl (eS rfl (eS rfl (eS rfl (eS rfl (eS rfl eZ))))))))) rfl ?_
              refine gSkipU (eS rfl (eS rfl (eS rfl (eS rfl (eS rfl (eS rfl (eS rfl (eS rfl (eS rfl (eS rfl eZ)))))))))) rfl ?_
              refine gSkipU (eS rfl (eS rfl (eS rfl (eS rfl (eS rfl (eS rfl (eS rfl (eS rfl (eS rfl (eS rfl (eS rfl eZ))))))))))) rfl ?_
              refine gSkip (eS rfl (eS rfl (eS rfl (eS rfl (eS rfl (eS rfl (eS rfl (eS rfl (eS rfl (eS rfl (eS rfl (eS rfl (eS rfl (eS rfl (eS rfl eZ))))))))))))))) (congrArg Bool.not (nt h20)) rfl ?_
              refine oPickT (eS rfl (eS rfl (eS rfl (eS rfl (eS rfl (eS rfl (eS rfl (eS rfl (eS rfl (eS rfl (eS rfl (eS rfl (eS rfl (eS rfl (eS rfl (eS rfl eZ)))))))))))))))) (congrArg Bool.not (nt h20)) eC ?_
              refine xNil ?_
              exact TQ.qn ⟨true, H, (wk_mk [] (SL.cons (eS rfl (eS rfl (eS rfl (eS rfl (eS rfl (eS rfl (eS rfl (eS rfl (eS rfl (eS rfl (eS rfl (eS rfl (eS rfl (eS rfl (eS rfl (eS rfl (eS rfl (eS rfl (eS rfl (eS rfl (eS rfl (eS rfl (eS rfl (eS rfl (eS rfl (eS rfl (eS rfl (eS rfl (eS rfl (eS rfl (eS rfl (eS rfl (eS rfl (eS rfl (eS rfl (eS rfl (eS rfl (eS rfl eZ)))))))))))))))))))))))))))))))))))))) rfl VWk.rfl (SL.cons (eS rfl (eS rfl (eS rfl (eS rfl (eS rfl (eS rfl (eS rfl (eS rfl (eS rfl (eS rfl (eS rfl (eS rfl (eS rfl (eS rfl (eS rfl (eS rfl (eS rfl (eS rfl (eS rfl (eS rfl (eS rfl (eS rfl (eS rfl (eS rfl (eS rfl (eS rfl (eS rfl (eS rfl (eS rfl (eS rfl (eS rfl (eS rfl (eS rfl (eS rfl (eS rfl (eS rfl (eS rfl (eS rfl (eS rfl eZ))))))))))))))))))))))))))))))))))))))) rfl VWk.rfl (SL.cons eZ rfl VWk.rfl SL.nil))) BL.nil BK.nil)⟩
          · refine gSkip eZ (congrArg Bool.not (nt h15)) rfl ?_
            refine gSkip (eS rfl eZ) (congrArg Bool.not (nt h15)) rfl ?_
            refine gSkip (eS rfl (eS rfl eZ)) (congrArg Bool.not (nt h15)) rfl ?_
            refine gSkip (eS rfl (eS rfl (eS rfl eZ))) (congrArg Bool.not (nt h15)) rfl ?_
            refine gSkip (eS rfl (eS rfl (eS rfl (eS rfl eZ)))) (congrArg Bool.not (nt h15)) rfl ?_
            refine gSkip (eS rfl (eS rfl (eS rfl (eS rfl (eS rfl eZ))))) (congrArg Bool.not (nt h15)) rfl ?_
            refine gSkip (eS rfl (eS rfl (eS rfl (eS rfl (eS rfl (eS rfl eZ)))))) (congrArg Bool.not (nt h15)) rfl ?_
            refine oPickT (eS rfl (eS rfl (eS rfl (eS rfl (eS rfl (eS rfl (eS rfl eZ))))))) (congrArg Bool.not (nt h15)) eC ?_
            refine oMov eZ ?_
            refine gSkip eZ rfl rfl ?_
            refine gSkip (eS rfl eZ) rfl rfl ?_
            refine gSkip (eS rfl (eS rfl eZ)) rfl rfl ?_
            refine gSkipU eZ rfl ?_
            refine gSkipU (eS rfl eZ) rfl ?_
            refine gSkipU (eS rfl (eS rfl eZ)) rfl ?_
            refine gSkipU (eS rfl (eS rfl (eS rfl eZ))) rfl ?_
            refine gSkipU (eS rfl (eS rfl (eS rfl (eS rfl eZ)))) rfl ?_
            refine gSkipU (eS rfl (eS rfl (eS rfl (eS rfl (eS rfl eZ))))) rfl ?_
            refine gSkipU (eS rfl (eS rfl (eS rfl (eS rfl (eS rfl (eS rfl eZ)))))) rfl ?_
            refine gSkipU (eS rfl (eS rfl (eS rfl (eS rfl (eS rfl (eS rfl (eS rfl eZ))))))) rfl ?_
            refine gSkipU (eS rfl (eS rfl (eS rfl (eS rfl (eS rfl (eS rfl (eS rfl (eS rfl eZ)))))))) rfl ?_
            refine gSkipU (eS rfl (eS rfl (eS rfl (eS rfl (eS rfl (eS rfl (eS rfl (eS rfl (eS rfl eZ))))))))) rfl ?_
            refine gSkipU (eS rfl (eS rfl (eS rfl (eS rfl (eS rfl (eS rfl (eS rfl (eS rfl (eS rfl (eS rfl eZ)))))))))) rfl ?_
            refine gSkipU (eS rfl (eS rfl (eS rfl (eS rfl (eS rfl (eS rfl (eS rfl (eS rfl (eS rfl (eS rfl (eS rfl eZ))))))))))) rfl ?_
            refine gSkip (eS rfl (eS rfl (eS rfl (eS rfl (eS rfl (eS rfl (eS rfl (eS rfl (eS rfl (eS rfl (eS rfl (eS rfl (eS rfl (eS rfl (eS rfl eZ))))))))))))))) rfl rfl ?_
            refine oPickT (eS rfl (eS rfl (eS rfl (eS rfl (eS rfl (eS rfl (eS rfl (eS rfl (eS rfl (eS rfl (eS rfl (eS rfl (eS rfl (eS rfl (eS rfl (eS rfl eZ)))))))))))))))) rfl eC ?_
            refine xNil ?_
            exact TQ.qn ⟨true, H, (wk_mk [] (SL.cons (eS rfl (eS rfl (eS rfl (eS rfl (eS rfl (eS rfl (eS rfl (eS rfl (eS rfl (eS rfl (eS rfl (eS rfl (eS rfl (eS rfl (eS rfl (eS rfl (eS rfl (eS rfl (eS rfl (eS rfl (eS rfl (eS rfl (eS rfl (eS rfl (eS rfl (eS rfl (eS rfl (eS rfl (eS rfl (eS rfl (eS rfl (eS rfl (eS rfl (eS rfl (eS rfl (eS rfl (eS rfl (eS rfl eZ)))))))))))))))))))))))))))))))))))))) rfl VWk.rfl (SL.cons (eS rfl (eS rfl (eS rfl (eS rfl (eS rfl (eS rfl (eS rfl (eS rfl (eS rfl (eS rfl (eS rfl (eS rfl (eS rfl (eS rfl (eS rfl (eS rfl (eS rfl (eS rfl (eS rfl (eS rfl (eS rfl (eS rfl (eS rfl (eS rfl (eS rfl (eS rfl (eS rfl (eS rfl (eS rfl (eS rfl (eS rfl (eS rfl (eS rfl (eS rfl (eS rfl (eS rfl (eS rfl (eS rfl (eS rfl eZ))))))))))))))))))))))))))))))))))))))) rfl VWk.rfl (SL.cons eZ rfl VWk.rfl SL.nil))) BL.nil BK.nil)⟩
      · refine AW.condF eZ (decide_eq_false h7) ?_
        refine AW.exit ?_
        refine TQ.qe ?_
        refine TQ.qe ?_
        refine BQ.qe ?_
        exact TQ.qn ⟨(), H, (wk_mk [] SL.nil BL.nil BK.nil)⟩

theorem c_spec_RangeOk {a1 : TRange} {r : Bool} (H : m_spec_RangeOk a1 = some r) : Fn Try.prog k_spec_RangeOk (lent [(.agg (d_TRange a1))]) true [(.bool r)] := by
  refine i_spec_RangeOk_fn (Nat.le_of_ble_eq_true rfl) ?_
  rw [init_mk]
  refine AW.weaken (wk_mk [] (SL.cons (v := (.agg [(.d (.int .i64 a1.Lo)), (.d (.int .i64 a1.Hi))])) eZ rfl VWk.rfl SL.nil) BL.nil BK.nil) ?_
  unfold m_spec_RangeOk at H
  unfold i_spec_RangeOk
  refine AW.seq ?_
  refine AW.regs ?_
  refine oBox (n := 64) (m := 2) (cs := [(.d (.int .i64 a1.Lo)), (.d (.int .i64 a1.Hi))]) rfl eZ rfl rfl nZ ?_
  refine oMov eC ?_
  refine xNil ?_
  refine TQ.qn ?_
  refine AW.seq ?_
  refine AW.regs ?_
  refine oFaddrN (m := 0) (eS rfl eZ) rfl ?_
  refine oLoadV (q := 0) (c := (.d (.int .i64 a1.Lo))) eZ bZ rfl rfl ?_
  refine oGeq eZ eC ?_
  refine oMov eZ ?_
  rcases oite H with ⟨h2, H⟩ | ⟨h2, H⟩
  · refine gDo eZ (decide_eq_true h2) ?_
    refine oFaddrN (m := 0) (eS rfl (eS rfl (eS rfl (eS rfl (eS rfl eZ))))) rfl ?_
    refine gDo (eS rfl eZ) (decide_eq_true h2) ?_
    refine oLoadV (q := 0) (c := (.d (.int .i64 a1.Lo))) eZ bZ rfl rfl ?_
    refine gDo (eS rfl (eS rfl eZ)) (decide_eq_true h2) ?_
    refine oFaddrN (m := 1) (eS rfl (eS rfl (eS rfl (eS rfl (eS rfl (eS rfl (eS rfl eZ))))))) rfl ?_
    refine gDo (eS rfl (eS rfl (eS rfl eZ))) (decide_eq_true h2) ?_
    refine oLoadV (q := 1) (c := (.d (.int .i64 a1.Hi))) eZ bZ rfl rfl ?_
    refine gDo (eS rfl (eS rfl (eS rfl (eS rfl eZ)))) (decide_eq_true h2) ?_
    refine oLss (eS rfl (eS rfl eZ)) eZ ?_
    refine oPickT (eS rfl (eS rfl (eS rfl (eS rfl (eS rfl eZ))))) (decide_eq_true h2) eZ ?_
    refine oMov eZ ?_
    rcases oite H with ⟨h3, H⟩ | ⟨h3, H⟩
    · refine gDo eZ (decide_eq_true h3) ?_
      refine oFaddrN (m := 1) (eS rfl (eS rfl (eS rfl (eS rfl (eS rfl (eS rfl (eS rfl (eS rfl (eS rfl (eS rfl (eS rfl (eS rfl eZ)))))))))))) rfl ?_
      refine gDo (eS rfl eZ) (decide_eq_true h3) ?_
      refine oLoadV (q := 1) (c := (.d (.int .i64 a1.Hi))) eZ bZ rfl rfl ?_
      refine gDo (eS rfl (eS rfl eZ)) (decide_eq_true h3) ?_
      refine oLeq eZ eC ?_
      refine oPickT (eS rfl (eS rfl (eS rfl eZ))) (decide_eq_true h3) eZ ?_
      refine oMov eZ ?_
      refine xNil ?_
      refine TQ.qn ?_
      refine AW.weaken (wk_mk [64] (SL.cons (k := 2) eZ rfl VWk.rfl SL.nil) (BL.drop rfl BL.nil) BK.nil) ?_
      refine AW.ret ?_
      obtain rfl := Option.some.inj H
      exact endsR (RL.cons (RV.tmp eZ) (VO.flat rfl) RL.nil) List.nodup_nil
    · refine gSkip eZ (decide_eq_false h3) rfl ?_
      refine gSkip (eS rfl eZ) (decide_eq_false h3) rfl ?_
      refine gSkip (eS rfl (eS rfl eZ)) (decide_eq_false h3) rfl ?_
      refine oPickF (eS rfl (eS rfl (eS rfl eZ))) (decide_eq_false h3) eC ?_
      refine oMov eZ ?_
      refine xNil ?_
      refine TQ.qn ?_
      refine AW.weaken (wk_mk [64] (SL.cons (k := 2) eZ rfl VWk.rfl SL.nil) (BL.drop rfl BL.nil) BK.nil) ?_
      refine AW.ret ?_
      obtain rfl := Option.some.inj H
      exact endsR (RL.cons (RV.tmp eZ) (VO.flat rfl) RL.nil) List.nodup_nil
  · refine gSkip eZ (decide_eq_false h2) rfl ?_
    refine gSkip (eS rfl eZ) (decide_eq_false h2) rfl ?_
    refine gSkip (eS rfl (eS rfl eZ)) (decide_eq_false h2) rfl ?_
    refine gSkip (eS rfl (eS rfl (eS rfl eZ))) (decide_eq_false h2) rfl ?_
    refine gSkip (eS rfl (eS rfl (eS rfl (eS rfl eZ)))) (decide_eq_false h2) rfl ?_
    refine oPickF (eS rfl (eS rfl (eS rfl (eS rfl (eS rfl eZ))))) (decide_eq_false h2) eC ?_
    refine oMov eZ ?_
    refine gSkip eZ rfl rfl ?_
    refine gSkip (eS rfl eZ) rfl rfl ?_
    refine gSkip (eS rfl (eS rfl eZ)) rfl rfl ?_
    refine oPickF (eS rfl (eS rfl (eS rfl eZ))) rfl eC ?_
    refine oMov eZ ?_
    refine xNil ?_
    refine TQ.qn ?_
    refine AW.weaken (wk_mk [64] (SL.cons (k := 2) eZ rfl VWk.rfl SL.nil) (BL.drop rfl BL.nil) BK.nil) ?_
    refine AW.ret ?_
    obtain rfl := Option.some.inj H
    exact endsR (RL.cons (RV.tmp eZ) (VO.flat rfl) RL.nil) List.nodup_nil

theorem c_spec_l15Group {a1 : Int} {r : Bool} (H : m_spec_l15Group a1 = some r) : Fn Try.prog k_spec_l15Group (lent [(.int .i64 a1)]) true [(.bool r)] := by
  refine i_spec_l15Group_fn (Nat.le_of_ble_eq_true rfl) ?_
  rw [init_mk]
  refine AW.weaken (wk_mk [] (SL.cons (v := (.one (.d (.int .i64 a1)))) eZ rfl VWk.rfl SL.nil) BL.nil BK.nil) ?_
  unfold m_spec_l15Group at H
  unfold i_spec_l15Group
  refine AW.seq ?_
  refine AW.regs ?_
  refine oMov eC ?_
  refine xNil ?_
  refine TQ.qn ?_
  refine AW.seq ?_
  refine AW.regs ?_
  refine oMov (eS rfl eZ) ?_
  obtain ⟨v2, h3, H⟩ := obind H
  refine oCall (u := (.one (.d (.bool v2)))) eC Cl.fn (c_spec_l1In h3) (Evs.cons eZ (Evs.cons eC (Evs.cons eC Evs.nil))) (VDs.cons VD.plain (VDs.cons VD.plain (VDs.cons VD.plain VDs.nil))) rfl ?_
  refine oMov eZ ?_
  refine xNil ?_
  refine TQ.qn ?_
  refine AW.ret ?_
  obtain rfl := Option.some.inj H
  exact endsR (RL.cons (RV.tmp eZ) (VO.flat rfl) RL.nil) List.nodup_nil

theorem c_spec_l15In {a1 : (List TCell)} {a2 : TMove} {r : Bool} (H : m_spec_l15In a1 a2 = some r) : Fn Try.prog k_spec_l15In (lent [(.sl 2 (List.map d_TCell a1)), (.agg (d_TMove a2))]) true [(.bool r)] := by
  refine i_spec_l15In_fn (Nat.le_of_ble_eq_true rfl) ?_
  rw [init_mk]
  refine AW.weaken (wk_mk [] (SL.cons (v := (.one (.d (.sl 2 (List.map d_TCell a1))))) eZ rfl VWk.rfl (SL.cons (v := (.agg [(.d (.int .i64 a2.No)), (.d (.int .i64 a2.Stage)), (.d (.int .i64 a2.Lo)), (.d (.int .i64 a2.Hi)), (.d (.int .i64 a2.From)), (.d (.int .i64 a2.To)), (.d (.sl 2 (List.map d_TCell a2.Cells)))])) (eS rfl eZ) rfl VWk.rfl SL.nil)) BL.nil BK.nil) ?_
  unfold m_spec_l15In at H
  unfold i_spec_l15In
  refine AW.seq ?_
  refine AW.regs ?_
  refine oBox (n := 192) (m := 7) (cs := [(.d (.int .i64 a2.No)), (.d (.int .i64 a2.Stage)), (.d (.int .i64 a2.Lo)), (.d (.int .i64 a2.Hi)), (.d (.int .i64 a2.From)), (.d (.int .i64 a2.To)), (.d (.sl 2 (List.map d_TCell a2.Cells)))]) rfl (eS rfl eZ) rfl rfl nZ ?_
  refine oMov eC ?_
  refine xNil ?_
  refine TQ.qn ?_
  refine AW.seqJ (fun t3 : Unit => spec_l15In_j3 t3 = some r) (fun t3 => mk [] [] noG) ?_ ?_
  · intro t3 H
    unfold spec_l15In_j3 at H
    refine AW.seq ?_
    refine AW.regs ?_
    refine oMov eC ?_
    refine xNil ?_
    refine TQ.qn ?_
    refine AW.ret ?_
    obtain rfl := Option.some.inj H
    exact endsR (RL.cons (RV.tmp eZ) (VO.flat rfl) RL.nil) List.nodup_nil
  · refine AW.seq ?_
    refine AW.regs ?_
    refine oMov eC ?_
    refine xNil ?_
    refine TQ.qn ?_
    refine AW.block ?_
    refine AW.iter (fun s5 : Int => mk [(0, (.one (.d (.sl 2 (List.map d_TCell a1))))), (3, (.one (.ptr (.nm 192 0 0)))), (5, (.one (.d (.int .i64 s5))))] [(192, (.vars 7 [(.d (.int .i64 a2.No)), (.d (.int .i64 a2.Stage)), (.d (.int .i64 a2.Lo)), (.d (.int .i64 a2.Hi)), (.d (.int .i64 a2.From)), (.d (.int .i64 a2.To)), (.d (.sl 2 (List.map d_TCell a2.Cells)))]))] noG) H (wk_mk [] (SL.cons (eS rfl (eS rfl (eS rfl eZ))) rfl VWk.rfl (SL.cons (eS rfl (eS rfl eZ)) rfl VWk.rfl (SL.cons eZ rfl VWk.rfl SL.nil))) (BL.keep rfl BL.nil) (BK.cons rfl bZ rfl rfl BK.nil)) ?_
    intro kb6 s5 H
    unfold spec_l15In_b5 at H
    refine AW.seq ?_
    refine AW.seq ?_
    refine AW.regs ?_
    refine oMov (eS rfl (eS rfl eZ)) ?_
    refine oMov (eS rfl eZ) ?_
    refine oLenD eZ (n := a1.length) (List.length_map _) ?_
    refine oLss (eS rfl (eS rfl eZ)) eZ ?_
    refine xNil ?_
    refine TQ.qn ?_
    rcases oite H with ⟨h7, H⟩ | ⟨h7, H⟩
    · refine AW.condT eZ (decide_eq_true h7) ?_
      refine AW.skip ?_
      refine TQ.qn ?_
      refine AW.seq ?_
      refine AW.block ?_
      refine AW.seq ?_
      refine AW.regd ?_
      refine oMov (eS rfl (eS rfl (eS rfl (eS rfl eZ)))) ?_
      refine oMov (eS rfl (eS rfl (eS rfl (eS rfl (eS rfl (eS rfl (eS rfl eZ))))))) ?_
      obtain ⟨v8, h9, H⟩ := obind H
      refine oAtD (eS rfl eZ) eZ h9 ?_
      refine oFaddrB (m := 0) eZ rfl ?_
      refine oLoadB (e := (.int .i64 v8.Key)) eZ rfl ?_
      refine oFaddrN (m := 2) (eS rfl (eS rfl (eS rfl (eS rfl (eS rfl (eS rfl (eS rfl (eS rfl (eS rfl (eS rfl eZ)))))))))) rfl ?_
      refine oLoadV (q := 2) (c := (.d (.int .i64 a2.Lo))) eZ bZ rfl rfl ?_
      refine oFaddrN (m := 3) (eS rfl (eS rfl (eS rfl (eS rfl (eS rfl (eS rfl (eS rfl (eS rfl (eS rfl (eS rfl (eS rfl (eS rfl eZ)))))))))))) rfl ?_
      refine oLoadV (q := 3) (c := (.d (.int .i64 a2.Hi))) eZ bZ rfl rfl ?_
      refine oSub eZ eC ?_
      obtain ⟨v10, h11, H⟩ := obind H
      refine oCall (u := (.one (.d (.bool v10)))) eC Cl.fn (c_spec_l1In h11) (Evs.cons (eS rfl (eS rfl (eS rfl (eS rfl (eS rfl eZ))))) (Evs.cons (eS rfl (eS rfl (eS rfl eZ))) (Evs.cons eZ Evs.nil))) (VDs.cons VD.plain (VDs.cons VD.plain (VDs.cons VD.plain VDs.nil))) rfl ?_
      refine oInv eZ ?_
      refine xNil ?_
      refine TQ.qn ?_
      refine AW.weaken (wk_mk [] (SL.cons (k := 23) eZ rfl VWk.rfl (SL.cons (k := 0) (eS rfl (eS rfl (eS rfl (eS rfl (eS rfl (eS rfl (eS rfl (eS rfl (eS rfl (eS rfl (eS rfl (eS rfl (eS rfl (eS rfl (eS rfl (eS rfl eZ)))))))))))))))) rfl VWk.rfl (SL.cons (k := 3) (eS rfl (eS rfl (eS rfl (eS rfl (eS rfl (eS rfl (eS rfl (eS rfl (eS rfl (eS rfl (eS rfl (eS rfl (eS rfl (eS rfl (eS rfl (eS rfl (eS rfl eZ))))))))))))))))) rfl VWk.rfl (SL.cons (k := 5) (eS rfl (eS rfl (eS rfl (eS rfl (eS rfl (eS rfl (eS rfl (eS rfl (eS rfl (eS rfl (eS rfl (eS rfl (eS rfl (eS rfl (eS rfl (eS rfl (eS rfl (eS rfl eZ)))))))))))))))))) rfl VWk.rfl SL.nil)))) (BL.keep rfl BL.nil) (BK.cons (n := 192) rfl bZ rfl rfl BK.nil)) ?_
      rcases oite H with ⟨h12, H⟩ | ⟨h12, H⟩
      · refine AW.condF eZ (congrArg Bool.not h12) ?_
        refine AW.skip ?_
        refine BQ.qn ?_
        refine TQ.qn ?_
        refine AW.regs ?_
        refine oMov (eS rfl (eS rfl (eS rfl eZ))) ?_
        refine oAdd eZ eC ?_
        refine oMov eZ ?_
        refine xNil ?_
        exact TQ.qn ⟨(IntKind.wrap .i64 (s5 + 1)), H, (wk_mk [] (SL.cons (eS rfl (eS rfl (eS rfl (eS rfl eZ)))) rfl VWk.rfl (SL.cons (eS rfl (eS rfl (eS rfl (eS rfl (eS rfl eZ))))) rfl VWk.rfl (SL.cons eZ rfl VWk.rfl SL.nil))) (BL.keep rfl BL.nil) (BK.cons rfl bZ rfl rfl BK.nil))⟩
      · refine AW.condT eZ (congrArg Bool.not (nt h12)) ?_
        refine AW.seq ?_
        refine AW.regs ?_
        refine oMov eC ?_
        refine xNil ?_
        refine TQ.qn ?_
        refine AW.ret ?_
        refine BQ.qr ?_
        refine TQ.qr ?_
        refine TQ.qr ?_
        refine BQ.qr ?_
        refine TQ.qr ?_
        obtain rfl := Option.some.inj H
        exact endsR (RL.cons (RV.tmp eZ) (VO.flat rfl) RL.nil) List.nodup_nil
    · refine AW.condF eZ (decide_eq_false h7) ?_
      refine AW.exit ?_
      refine TQ.qe ?_
      refine TQ.qe ?_
      refine BQ.qe ?_
      exact TQ.qn ⟨(), H, (wk_mk [192] SL.nil (BL.drop rfl BL.nil) BK.nil)⟩

theorem c_spec_AtlasOk {a1 : TAtlas} {r : Bool} (H : m_spec_AtlasOk a1 = some r) : Fn Try.prog k_spec_AtlasOk (lent [(.agg (d_TAtlas a1))]) true [(.bool r)] := by
  refine i_spec_AtlasOk_fn (Nat.le_of_ble_eq_true rfl) ?_
  rw [init_mk]
  refine AW.weaken (wk_mk [] (SL.cons (v := (.agg [(.d (.int .i64 a1.Epoch)), (.d (.sl 3 (List.map d_TPart a1.Parts))), (.d (.int .i64 a1.Move.No)), (.d (.int .i64 a1.Move.Stage)), (.d (.int .i64 a1.Move.Lo)), (.d (.int .i64 a1.Move.Hi)), (.d (.int .i64 a1.Move.From)), (.d (.int .i64 a1.Move.To)), (.d (.sl 2 (List.map d_TCell a1.Move.Cells)))])) eZ rfl VWk.rfl SL.nil) BL.nil BK.nil) ?_
  unfold m_spec_AtlasOk at H
  unfold i_spec_AtlasOk
  refine AW.seq ?_
  refine AW.regs ?_
  refine oBox (n := 64) (m := 9) (cs := [(.d (.int .i64 a1.Epoch)), (.d (.sl 3 (List.map d_TPart a1.Parts))), (.d (.int .i64 a1.Move.No)), (.d (.int .i64 a1.Move.Stage)), (.d (.int .i64 a1.Move.Lo)), (.d (.int .i64 a1.Move.Hi)), (.d (.int .i64 a1.Move.From)), (.d (.int .i64 a1.Move.To)), (.d (.sl 2 (List.map d_TCell a1.Move.Cells)))]) rfl eZ rfl rfl nZ ?_
  refine oMov eC ?_
  refine xNil ?_
  refine TQ.qn ?_
  refine AW.seq ?_
  refine AW.regs ?_
  refine oFaddrN (m := 2) (eS rfl eZ) rfl ?_
  refine oLoadVA (es := [(.d (.int .i64 a1.Move.No)), (.d (.int .i64 a1.Move.Stage)), (.d (.int .i64 a1.Move.Lo)), (.d (.int .i64 a1.Move.Hi)), (.d (.int .i64 a1.Move.From)), (.d (.int .i64 a1.Move.To)), (.d (.sl 2 (List.map d_TCell a1.Move.Cells)))]) eZ bZ rfl ?_
  refine oVar (n := 192) (m := 7) rfl rfl (nS rfl nZ) ?_
  refine oStoreV (es := [(.d (.int .i64 a1.Move.No)), (.d (.int .i64 a1.Move.Stage)), (.d (.int .i64 a1.Move.Lo)), (.d (.int .i64 a1.Move.Hi)), (.d (.int .i64 a1.Move.From)), (.d (.int .i64 a1.Move.To)), (.d (.sl 2 (List.map d_TCell a1.Move.Cells)))]) eZ (eS rfl eZ) rfl rfl bZ rfl ?_
  refine xNil ?_
  refine TQ.qn ?_
  refine AW.seq ?_
  refine AW.seqJ (fun t2 : Bool => (spec_AtlasOk_j2 a1) t2 = some r) (fun t2 => mk [(3, (.one (.ptr (.nm 192 0 0)))), (33, (.one (.d (.bool t2))))] [(192, (.vars 7 [(.d (.int .i64 a1.Move.No)), (.d (.int .i64 a1.Move.Stage)), (.d (.int .i64 a1.Move.Lo)), (.d (.int .i64 a1.Move.Hi)), (.d (.int .i64 a1.Move.From)), (.d (.int .i64 a1.Move.To)), (.d (.sl 2 (List.map d_TCell a1.Move.Cells)))]))] noG) ?_ ?_
  · intro t2 H
    unfold spec_AtlasOk_j2 at H
    rcases oite H with ⟨h4, H⟩ | ⟨h4, H⟩
    · refine AW.condT (eS rfl eZ) h4 ?_
      refine AW.seq ?_
      refine AW.regs ?_
      refine oMov eC ?_
      refine xNil ?_
      refine TQ.qn ?_
      refine AW.ret ?_
      refine TQ.qr ?_
      obtain rfl := Option.some.inj H
      exact endsR (RL.cons (RV.tmp eZ) (VO.flat rfl) RL.nil) List.nodup_nil
    · refine AW.condF (eS rfl eZ) (nt h4) ?_
      refine AW.skip ?_
      refine TQ.qn ?_
      refine AW.seq ?_
      refine AW.seq ?_
      refine AW.regs ?_
      refine oFaddrN (m := 1) eZ rfl ?_
      refine oLoadV (q := 1) (c := (.d (.int .i64 a1.Move.Stage))) eZ bZ rfl rfl ?_
      refine oEql eZ eC ?_
      refine xNil ?_
      refine TQ.qn ?_
      rcases oite H with ⟨h5, H⟩ | ⟨h5, H⟩
      · refine AW.condT eZ (decide_eq_true h5) ?_
        refine AW.seq ?_
        refine AW.regs ?_
        refine oFaddrN (m := 2) (eS rfl (eS rfl (eS rfl eZ))) rfl ?_
        refine oLoadV (q := 2) (c := (.d (.int .i64 a1.Move.Lo))) eZ bZ rfl rfl ?_
        refine oEql eZ eC ?_
        refine oMov eZ ?_
        rcases oite H with ⟨h6, H⟩ | ⟨h6, H⟩
        · refine gDo eZ (decide_eq_true h6) ?_
          refine oFaddrN (m := 3) (eS rfl (eS rfl (eS rfl (eS rfl (eS rfl (eS rfl (eS rfl eZ))))))) rfl ?_
          refine gDo (eS rfl eZ) (decide_eq_true h6) ?_
          refine oLoadV (q := 3) (c := (.d (.int .i64 a1.Move.Hi))) eZ bZ rfl rfl ?_
          refine gDo (eS rfl (eS rfl eZ)) (decide_eq_true h6) ?_
          refine oEql eZ eC ?_
          refine oPickT (eS rfl (eS rfl (eS rfl eZ))) (decide_eq_true h6) eZ ?_
          refine oMov eZ ?_
          rcases oite H with ⟨h7, H⟩ | ⟨h7, H⟩
          · refine gDo eZ (decide_eq_true h7) ?_
            refine oFaddrN (m := 4) (eS rfl (eS rfl (eS rfl (eS rfl (eS rfl (eS rfl (eS rfl (eS rfl (eS rfl (eS rfl (eS rfl (eS rfl eZ)))))))))))) rfl ?_
            refine gDo (eS rfl eZ) (decide_eq_true h7) ?_
            refine oLoadV (q := 4) (c := (.d (.int .i64 a1.Move.From))) eZ bZ rfl rfl ?_
            refine gDo (eS rfl (eS rfl eZ)) (decide_eq_true h7) ?_
            refine oEql eZ eC ?_
            refine oPickT (eS rfl (eS rfl (eS rfl eZ))) (decide_eq_true h7) eZ ?_
            refine oMov eZ ?_
            rcases oite H with ⟨h8, H⟩ | ⟨h8, H⟩
            · refine gDo eZ (decide_eq_true h8) ?_
              refine oFaddrN (m := 5) (eS rfl (eS rfl (eS rfl (eS rfl (eS rfl (eS rfl (eS rfl (eS rfl (eS rfl (eS rfl (eS rfl (eS rfl (eS rfl (eS rfl (eS rfl (eS rfl (eS rfl eZ))))))))))))))))) rfl ?_
              refine gDo (eS rfl eZ) (decide_eq_true h8) ?_
              refine oLoadV (q := 5) (c := (.d (.int .i64 a1.Move.To))) eZ bZ rfl rfl ?_
              refine gDo (eS rfl (eS rfl eZ)) (decide_eq_true h8) ?_
              refine oEql eZ eC ?_
              refine oPickT (eS rfl (eS rfl (eS rfl eZ))) (decide_eq_true h8) eZ ?_
              refine oMov eZ ?_
              rcases oite H with ⟨h9, H⟩ | ⟨h9, H⟩
              · refine gDo eZ (decide_eq_true h9) ?_
                refine oFaddrN (m := 6) (eS rfl (eS rfl (eS rfl (eS rfl (eS rfl (eS rfl (eS rfl (eS rfl (eS rfl (eS rfl (eS rfl (eS rfl (eS rfl (eS rfl (eS rfl (eS rfl (eS rfl (eS rfl (eS rfl (eS rfl (eS rfl (eS rfl eZ)))))))))))))))))))))) rfl ?_
                refine gDo (eS rfl eZ) (decide_eq_true h9) ?_
                refine oLoadV (q := 6) (c := (.d (.sl 2 (List.map d_TCell a1.Move.Cells)))) eZ bZ rfl rfl ?_
                refine gDo (eS rfl (eS rfl eZ)) (decide_eq_true h9) ?_
                refine oLenD eZ (n := a1.Move.Cells.length) (List.length_map _) ?_
                refine gDo (eS rfl (eS rfl (eS rfl eZ))) (decide_eq_true h9) ?_
                refine oEql eZ eC ?_
                refine oPickT (eS rfl (eS rfl (eS rfl (eS rfl eZ)))) (decide_eq_true h9) eZ ?_
                refine oMov eZ ?_
                refine xNil ?_
                refine TQ.qn ?_
                refine AW.weaken (wk_mk [192] (SL.cons (k := 2) eZ rfl VWk.rfl SL.nil) (BL.drop rfl BL.nil) BK.nil) ?_
                refine AW.ret ?_
                refine TQ.qr ?_
                obtain rfl := Option.some.inj H
                exact endsR (RL.cons (RV.tmp eZ) (VO.flat rfl) RL.nil) List.nodup_nil
              · refine gSkip eZ (decide_eq_false h9) rfl ?_
                refine gSkip (eS rfl eZ) (decide_eq_false h9) rfl ?_
                refine gSkip (eS rfl (eS rfl eZ)) (decide_eq_false h9) rfl ?_
                refine gSkip (eS rfl (eS rfl (eS rfl eZ))) (decide_eq_false h9) rfl ?_
                refine oPickF (eS rfl (eS rfl (eS rfl (eS rfl eZ)))) (decide_eq_false h9) eC ?_
                refine oMov eZ ?_
                refine xNil ?_
                refine TQ.qn ?_
                refine AW.weaken (wk_mk [192] (SL.cons (k := 2) eZ rfl VWk.rfl SL.nil) (BL.drop rfl BL.nil) BK.nil) ?_
                refine AW.ret ?_
                refine TQ.qr ?_
                obtain rfl := Option.some.inj H
                exact endsR (RL.cons (RV.tmp eZ) (VO.flat rfl) RL.nil) List.nodup_nil
            · refine gSkip eZ (decide_eq_false h8) rfl ?_
              refine gSkip (eS rfl eZ) (decide_eq_false h8) rfl ?_
              refine gSkip (eS rfl (eS rfl eZ)) (decide_eq_false h8) rfl ?_
              refine oPickF (eS rfl (eS rfl (eS rfl eZ))) (decide_eq_false h8) eC ?_
              refine oMov eZ ?_
              refine gSkip eZ rfl rfl ?_
              refine gSkip (eS rfl eZ) rfl rfl ?_
              refine gSkip (eS rfl (eS rfl eZ)) rfl rfl ?_
              refine gSkip (eS rfl (eS rfl (eS rfl eZ))) rfl rfl ?_
              refine oPickF (eS rfl (eS rfl (eS rfl (eS rfl eZ)))) rfl eC ?_
              refine oMov eZ ?_
              refine xNil ?_
              refine TQ.qn ?_
              refine AW.weaken (wk_mk [192] (SL.cons (k := 2) eZ rfl VWk.rfl SL.nil) (BL.drop rfl BL.nil) BK.nil) ?_
              refine AW.ret ?_
              refine TQ.qr ?_
              obtain rfl := Option.some.inj H
              exact endsR (RL.cons (RV.tmp eZ) (VO.flat rfl) RL.nil) List.nodup_nil
          · refine gSkip eZ (decide_eq_false h7) rfl ?_
            refine gSkip (eS rfl eZ) (decide_eq_false h7) rfl ?_
            refine gSkip (eS rfl (eS rfl eZ)) (decide_eq_false h7) rfl ?_
            refine oPickF (eS rfl (eS rfl (eS rfl eZ))) (decide_eq_false h7) eC ?_
            refine oMov eZ ?_
            refine gSkip eZ rfl rfl ?_
            refine gSkip (eS rfl eZ) rfl rfl ?_
            refine gSkip (eS rfl (eS rfl eZ)) rfl rfl ?_
            refine oPickF (eS rfl (eS rfl (eS rfl eZ))) rfl eC ?_
            refine oMov eZ ?_
            refine gSkip eZ rfl rfl ?_
            refine gSkip (eS rfl eZ) rfl rfl ?_
            refine gSkip (eS rfl (eS rfl eZ)) rfl rfl ?_
            refine gSkip (eS rfl (eS rfl (eS rfl eZ))) rfl rfl ?_
            refine oPickF (eS rfl (eS rfl (eS rfl (eS rfl eZ)))) rfl eC ?_
            refine oMov eZ ?_
            refine xNil ?_
            refine TQ.qn ?_
            refine AW.weaken (wk_mk [192] (SL.cons (k := 2) eZ rfl VWk.rfl SL.nil) (BL.drop rfl BL.nil) BK.nil) ?_
            refine AW.ret ?_
            refine TQ.qr ?_
            obtain rfl := Option.some.inj H
            exact endsR (RL.cons (RV.tmp eZ) (VO.flat rfl) RL.nil) List.nodup_nil
        · refine gSkip eZ (decide_eq_false h6) rfl ?_
          refine gSkip (eS rfl eZ) (decide_eq_false h6) rfl ?_
          refine gSkip (eS rfl (eS rfl eZ)) (decide_eq_false h6) rfl ?_
          refine oPickF (eS rfl (eS rfl (eS rfl eZ))) (decide_eq_false h6) eC ?_
          refine oMov eZ ?_
          refine gSkip eZ rfl rfl ?_
          refine gSkip (eS rfl eZ) rfl rfl ?_
          refine gSkip (eS rfl (eS rfl eZ)) rfl rfl ?_
          refine oPickF (eS rfl (eS rfl (eS rfl eZ))) rfl eC ?_
          refine oMov eZ ?_
          refine gSkip eZ rfl rfl ?_
          refine gSkip (eS rfl eZ) rfl rfl ?_
          refine gSkip (eS rfl (eS rfl eZ)) rfl rfl ?_
          refine oPickF (eS rfl (eS rfl (eS rfl eZ))) rfl eC ?_
          refine oMov eZ ?_
          refine gSkip eZ rfl rfl ?_
          refine gSkip (eS rfl eZ) rfl rfl ?_
          refine gSkip (eS rfl (eS rfl eZ)) rfl rfl ?_
          refine gSkip (eS rfl (eS rfl (eS rfl eZ))) rfl rfl ?_
          refine oPickF (eS rfl (eS rfl (eS rfl (eS rfl eZ)))) rfl eC ?_
          refine oMov eZ ?_
          refine xNil ?_
          refine TQ.qn ?_
          refine AW.weaken (wk_mk [192] (SL.cons (k := 2) eZ rfl VWk.rfl SL.nil) (BL.drop rfl BL.nil) BK.nil) ?_
          refine AW.ret ?_
          refine TQ.qr ?_
          obtain rfl := Option.some.inj H
          exact endsR (RL.cons (RV.tmp eZ) (VO.flat rfl) RL.nil) List.nodup_nil
      · refine AW.condF eZ (decide_eq_false h5) ?_
        refine AW.skip ?_
        refine TQ.qn ?_
        refine AW.seq ?_
        refine AW.seqJ (fun t10 : Bool => (spec_AtlasOk_j10 a1) t10 = some r) (fun t10 => mk [(3, (.one (.ptr (.nm 192 0 0)))), (91, (.one (.d (.bool t10))))] [(192, (.vars 7 [(.d (.int .i64 a1.Move.No)), (.d (.int .i64 a1.Move.Stage)), (.d (.int .i64 a1.Move.Lo)), (.d (.int .i64 a1.Move.Hi)), (.d (.int .i64 a1.Move.From)), (.d (.int .i64 a1.Move.To)), (.d (.sl 2 (List.map d_TCell a1.Move.Cells)))]))] noG) ?_ ?_
        · intro t10 H
          unfold spec_AtlasOk_j10 at H
          rcases oite H with ⟨h12, H⟩ | ⟨h12, H⟩
          · refine AW.condT (eS rfl eZ) h12 ?_
            refine AW.seq ?_
            refine AW.regs ?_
            refine oMov eC ?_
            refine xNil ?_
            refine TQ.qn ?_
            refine AW.ret ?_
            refine TQ.qr ?_
            obtain rfl := Option.some.inj H
            exact endsR (RL.cons (RV.tmp eZ) (VO.flat rfl) RL.nil) List.nodup_nil
          · refine AW.condF (eS rfl eZ) (nt h12) ?_
            refine AW.skip ?_
            refine TQ.qn ?_
            refine AW.seq ?_
            refine AW.regs ?_
            refine oFaddrN (m := 6) eZ rfl ?_
            refine oLoadV (q := 6) (c := (.d (.sl 2 (List.map d_TCell a1.Move.Cells)))) eZ bZ rfl rfl ?_
            refine oLoadVA (es := [(.d (.int .i64 a1.Move.No)), (.d (.int .i64 a1.Move.Stage)), (.d (.int .i64 a1.Move.Lo)), (.d (.int .i64 a1.Move.Hi)), (.d (.int .i64 a1.Move.From)), (.d (.int .i64 a1.Move.To)), (.d (.sl 2 (List.map d_TCell a1.Move.Cells)))]) (eS rfl (eS rfl eZ)) bZ rfl ?_
            obtain ⟨v13, h14, H⟩ := obind H
            refine oCall (u := (.one (.d (.bool v13)))) eC Cl.fn (c_spec_l15In h14) (Evs.cons (eS rfl eZ) (Evs.cons eZ Evs.nil)) (VDs.cons VD.plain (VDs.cons (VD.agg rfl) VDs.nil)) rfl ?_
            refine oMov eZ ?_
            rcases oite H with ⟨h15, H⟩ | ⟨h15, H⟩
            · refine gDo eZ h15 ?_
              refine oFaddrN (m := 1) (eS rfl (eS rfl (eS rfl (eS rfl (eS rfl eZ))))) rfl ?_
              refine gDo (eS rfl eZ) h15 ?_
              refine oLoadV (q := 1) (c := (.d (.int .i64 a1.Move.Stage))) eZ bZ rfl rfl ?_
              refine gDo (eS rfl (eS rfl eZ)) h15 ?_
              refine oEql eZ eC ?_
              refine gDo (eS rfl (eS rfl (eS rfl eZ))) h15 ?_
              refine oMov eZ ?_
              rcases oite H with ⟨h16, H⟩ | ⟨h16, H⟩
              · refine gSkip eZ (decide_eq_true h16) rfl ?_
                refine gSkip (eS rfl eZ) (decide_eq_true h16) rfl ?_
                refine gSkip (eS rfl (eS rfl eZ)) (decide_eq_true h16) rfl ?_
                refine gSkip (eS rfl (eS rfl (eS rfl eZ))) (decide_eq_true h16) rfl ?_
                refine gDo (eS rfl (eS rfl (eS rfl (eS rfl (eS rfl (eS rfl (eS rfl (eS rfl eZ)))))))) h15 ?_
                refine oPickT (eS rfl (eS rfl (eS rfl (eS rfl eZ)))) (decide_eq_true h16) eC ?_
                refine oPickT (eS rfl (eS rfl (eS rfl (eS rfl (eS rfl (eS rfl (eS rfl (eS rfl (eS rfl eZ))))))))) h15 eZ ?_
                refine oMov eZ ?_
                refine xNil ?_
                refine TQ.qn ?_
                refine AW.weaken (wk_mk [192] (SL.cons (k := 2) eZ rfl VWk.rfl SL.nil) (BL.drop rfl BL.nil) BK.nil) ?_
                refine AW.ret ?_
                obtain rfl := Option.some.inj H
                exact endsR (RL.cons (RV.tmp eZ) (VO.flat rfl) RL.nil) List.nodup_nil
              · refine gDo eZ (decide_eq_false h16) ?_
                refine oFaddrN (m := 6) (eS rfl (eS rfl (eS rfl (eS rfl (eS rfl (eS rfl (eS rfl (eS rfl (eS rfl eZ))))))))) rfl ?_
                refine gDo (eS rfl eZ) (decide_eq_false h16) ?_
                refine oLoadV (q := 6) (c := (.d (.sl 2 (List.map d_TCell a1.Move.Cells)))) eZ bZ rfl rfl ?_
                refine gDo (eS rfl (eS rfl eZ)) (decide_eq_false h16) ?_
                refine oLenD eZ (n := a1.Move.Cells.length) (List.length_map _) ?_
                refine gDo (eS rfl (eS rfl (eS rfl eZ))) (decide_eq_false h16) ?_
                refine oEql eZ eC ?_
                refine gDo (eS rfl (eS rfl (eS rfl (eS rfl (eS rfl (eS rfl (eS rfl (eS rfl eZ)))))))) h15 ?_
                refine oPickF (eS rfl (eS rfl (eS rfl (eS rfl eZ)))) (decide_eq_false h16) eZ ?_
                refine oPickT (eS rfl (eS rfl (eS rfl (eS rfl (eS rfl (eS rfl (eS rfl (eS rfl (eS rfl eZ))))))))) h15 eZ ?_
                refine oMov eZ ?_
                refine xNil ?_
                refine TQ.qn ?_
                refine AW.weaken (wk_mk [192] (SL.cons (k := 2) eZ rfl VWk.rfl SL.nil) (BL.drop rfl BL.nil) BK.nil) ?_
                refine AW.ret ?_
                obtain rfl := Option.some.inj H
                exact endsR (RL.cons (RV.tmp eZ) (VO.flat rfl) RL.nil) List.nodup_nil
            · refine gSkip eZ (nt h15) rfl ?_
              refine gSkip (eS rfl eZ) (nt h15) rfl ?_
              refine gSkip (eS rfl (eS rfl eZ)) (nt h15) rfl ?_
              refine gSkip (eS rfl (eS rfl (eS rfl eZ))) (nt h15) rfl ?_
              refine gSkipU eZ rfl ?_
              refine gSkipU (eS rfl eZ) rfl ?_
              refine gSkipU (eS rfl (eS rfl eZ)) rfl ?_
              refine gSkipU (eS rfl (eS rfl (eS rfl eZ))) rfl ?_
              refine gSkip (eS rfl (eS rfl (eS rfl (eS rfl (eS rfl (eS rfl (eS rfl (eS rfl eZ)))))))) (nt h15) rfl ?_
              refine oPickF (eS rfl (eS rfl (eS rfl (eS rfl (eS rfl (eS rfl (eS rfl (eS rfl (eS rfl eZ))))))))) (nt h15) eC ?_
              refine oMov eZ ?_
              refine xNil ?_
              refine TQ.qn ?_
              refine AW.weaken (wk_mk [192] (SL.cons (k := 2) eZ rfl VWk.rfl SL.nil) (BL.drop rfl BL.nil) BK.nil) ?_
              refine AW.ret ?_
              obtain rfl := Option.some.inj H
              exact endsR (RL.cons (RV.tmp eZ) (VO.flat rfl) RL.nil) List.nodup_nil
        · refine AW.regs ?_
          refine oFaddrN (m := 0) (eS rfl (eS rfl (eS rfl eZ))) rfl ?_
          refine oLoadV (q := 0) (c := (.d (.int .i64 a1.Move.No))) eZ bZ rfl rfl ?_
          refine oLss eZ eC ?_
          refine oMov eZ ?_
          rcases oite H with ⟨h17, H⟩ | ⟨h17, H⟩
          · refine gSkip eZ (decide_eq_true h17) rfl ?_
            refine gSkip (eS rfl eZ) (decide_eq_true h17) rfl ?_
            refine gSkip (eS rfl (eS rfl eZ)) (decide_eq_true h17) rfl ?_
            refine gSkip (eS rfl (eS rfl (eS rfl eZ))) (decide_eq_true h17) rfl ?_
            refine gSkip (eS rfl (eS rfl (eS rfl (eS rfl eZ)))) (decide_eq_true h17) rfl ?_
            refine gSkip (eS rfl (eS rfl (eS rfl (eS rfl (eS rfl eZ))))) (decide_eq_true h17) rfl ?_
            refine gSkip (eS rfl (eS rfl (eS rfl (eS rfl (eS rfl (eS rfl eZ)))))) (decide_eq_true h17) rfl ?_
            refine oPickT (eS rfl (eS rfl (eS rfl (eS rfl (eS rfl (eS rfl (eS rfl eZ))))))) (decide_eq_true h17) eC ?_
            refine oMov eZ ?_
            refine gSkip eZ rfl rfl ?_
            refine gSkip (eS rfl eZ) rfl rfl ?_
            refine gSkip (eS rfl (eS rfl eZ)) rfl rfl ?_
            refine gSkip (eS rfl (eS rfl (eS rfl eZ))) rfl rfl ?_
            refine oPickT (eS rfl (eS rfl (eS rfl (eS rfl eZ)))) rfl eC ?_
            refine oMov eZ ?_
            refine gSkip eZ rfl rfl ?_
            refine gSkip (eS rfl eZ) rfl rfl ?_
            refine gSkip (eS rfl (eS rfl eZ)) rfl rfl ?_
            refine gSkip (eS rfl (eS rfl (eS rfl eZ))) rfl rfl ?_
            refine oPickT (eS rfl (eS rfl (eS rfl (eS rfl eZ)))) rfl eC ?_
            refine oMov eZ ?_
            refine gSkip eZ rfl rfl ?_
            refine gSkip (eS rfl eZ) rfl rfl ?_
            refine gSkip (eS rfl (eS rfl eZ)) rfl rfl ?_
            refine gSkip (eS rfl (eS rfl (eS rfl eZ))) rfl rfl ?_
            refine gSkip (eS rfl (eS rfl (eS rfl (eS rfl eZ)))) rfl rfl ?_
            refine oPickT (eS rfl (eS rfl (eS rfl (eS rfl (eS rfl eZ))))) rfl eC ?_
            refine xNil ?_
            exact TQ.qn ⟨true, H, (wk_mk [] (SL.cons (eS rfl (eS rfl (eS rfl (eS rfl (eS rfl (eS rfl (eS rfl (eS rfl (eS rfl (eS rfl (eS rfl (eS rfl (eS rfl (eS rfl (eS rfl (eS rfl (eS rfl (eS rfl (eS rfl (eS rfl (eS rfl (eS rfl (eS rfl (eS rfl (eS rfl (eS rfl (eS rfl (eS rfl (eS rfl (eS rfl (eS rfl (eS rfl (eS rfl (eS rfl eZ)))))))))))))))))))))))))))))))))) rfl VWk.rfl (SL.cons eZ rfl VWk.rfl SL.nil)) (BL.keep rfl BL.nil) (BK.cons rfl bZ rfl rfl BK.nil))⟩
          · refine gDo eZ (decide_eq_false h17) ?_
            refine oFaddrN (m := 2) (eS rfl (eS rfl (eS rfl (eS rfl (eS rfl (eS rfl (eS rfl eZ))))))) rfl ?_
            refine gDo (eS rfl eZ) (decide_eq_false h17) ?_
            refine oLoadV (q := 2) (c := (.d (.int .i64 a1.Move.Lo))) eZ bZ rfl rfl ?_
            refine gDo (eS rfl (eS rfl eZ)) (decide_eq_false h17) ?_
            refine oFaddrN (m := 3) (eS rfl (eS rfl (eS rfl (eS rfl (eS rfl (eS rfl (eS rfl (eS rfl (eS rfl eZ))))))))) rfl ?_
            refine gDo (eS rfl (eS rfl (eS rfl eZ))) (decide_eq_false h17) ?_
            refine oLoadV (q := 3) (c := (.d (.int .i64 a1.Move.Hi))) eZ bZ rfl rfl ?_
            refine gDo (eS rfl (eS rfl (eS rfl (eS rfl eZ)))) (decide_eq_false h17) ?_
            refine oBuild (cs := [(.d (.int .i64 a1.Move.Lo)), (.d (.int .i64 a1.Move.Hi))]) (PsCons (eS rfl (eS rfl eZ)) (PsCons eZ PsNil)) rfl ?_
            refine gDo (eS rfl (eS rfl (eS rfl (eS rfl (eS rfl eZ))))) (decide_eq_false h17) ?_
            obtain ⟨v18, h19, H⟩ := obind H
            refine oCall (u := (.one (.d (.bool v18)))) eC Cl.fn (c_spec_RangeOk h19) (Evs.cons eZ Evs.nil) (VDs.cons (VD.agg rfl) VDs.nil) rfl ?_
            refine gDo (eS rfl (eS rfl (eS rfl (eS rfl (eS rfl (eS rfl eZ)))))) (decide_eq_false h17) ?_
            refine oInv eZ ?_
            refine oPickF (eS rfl (eS rfl (eS rfl (eS rfl (eS rfl (eS rfl (eS rfl eZ))))))) (decide_eq_false h17) eZ ?_
            refine oMov eZ ?_
            rcases oite H with ⟨h20, H⟩ | ⟨h20, H⟩
            · refine gDo eZ (congrArg Bool.not h20) ?_
              refine oFaddrN (m := 4) (eS rfl (eS rfl (eS rfl (eS rfl (eS rfl (eS rfl (eS rfl (eS rfl (eS rfl (eS rfl (eS rfl (eS rfl (eS rfl (eS rfl (eS rfl (eS rfl eZ)))))))))))))))) rfl ?_
              refine gDo (eS rfl eZ) (congrArg Bool.not h20) ?_
              refine oLoadV (q := 4) (c := (.d (.int .i64 a1.Move.From))) eZ bZ rfl rfl ?_
              refine gDo (eS rfl (eS rfl eZ)) (congrArg Bool.not h20) ?_
              obtain ⟨v21, h22, H⟩ := obind H
              refine oCall (u := (.one (.d (.bool v21)))) eC Cl.fn (c_spec_l15Group h22) (Evs.cons eZ Evs.nil) (VDs.cons VD.plain VDs.nil) rfl ?_
              refine gDo (eS rfl (eS rfl (eS rfl eZ))) (congrArg Bool.not h20) ?_
              refine oInv eZ ?_
              refine oPickF (eS rfl (eS rfl (eS rfl (eS rfl eZ)))) (congrArg Bool.not h20) eZ ?_
              refine oMov eZ ?_
              rcases oite H with ⟨h23, H⟩ | ⟨h23, H⟩
              · refine gDo eZ (congrArg Bool.not h23) ?_
                refine oFaddrN (m := 5) (eS rfl (eS rfl (eS rfl (eS rfl (eS rfl (eS rfl (eS rfl (eS rfl (eS rfl (eS rfl (eS rfl (eS rfl (eS rfl (eS rfl (eS rfl (eS rfl (eS rfl (eS rfl (eS rfl (eS rfl (eS rfl (eS rfl eZ)))))))))))))))))))))) rfl ?_
                refine gDo (eS rfl eZ) (congrArg Bool.not h23) ?_
                refine oLoadV (q := 5) (c := (.d (.int .i64 a1.Move.To))) eZ bZ rfl rfl ?_
                refine gDo (eS rfl (eS rfl eZ)) (congrArg Bool.not h23) ?_
                obtain ⟨v24, h25, H⟩ := obind H
                refine oCall (u := (.one (.d (.bool v24)))) eC Cl.fn (c_spec_l15Group h25) (Evs.cons eZ Evs.nil) (VDs.cons VD.plain VDs.nil) rfl ?_
                refine gDo (eS rfl (eS rfl (eS rfl eZ))) (congrArg Bool.not h23) ?_
                refine oInv eZ ?_
                refine oPickF (eS rfl (eS rfl (eS rfl (eS rfl eZ)))) (congrArg Bool.not h23) eZ ?_
                refine oMov eZ ?_
                rcases oite H with ⟨h26, H⟩ | ⟨h26, H⟩
                · refine gDo eZ (congrArg Bool.not h26) ?_
                  refine oFaddrN (m := 4) (eS rfl (eS rfl (eS rfl (eS rfl (eS rfl (eS rfl (eS rfl (eS rfl (eS rfl (eS rfl (eS rfl (eS rfl (eS rfl (eS rfl (eS rfl (eS rfl (eS rfl (eS rfl (eS rfl (eS rfl (eS rfl (eS rfl (eS rfl (eS rfl (eS rfl (eS rfl (eS rfl (eS rfl eZ)))))))))))))))))))))))))))) rfl ?_
                  refine gDo (eS rfl eZ) (congrArg Bool.not h26) ?_
                  refine oLoadV (q := 4) (c := (.d (.int .i64 a1.Move.From))) eZ bZ rfl rfl ?_
                  refine gDo (eS rfl (eS rfl eZ)) (congrArg Bool.not h26) ?_
                  refine oFaddrN (m := 5) (eS rfl (eS rfl (eS rfl (eS rfl (eS rfl (eS rfl (eS rfl (eS rfl (eS rfl (eS rfl (eS rfl (eS rfl (eS rfl (eS rfl (eS rfl (eS rfl (eS rfl (eS rfl (eS rfl (eS rfl (eS rfl (eS rfl (eS rfl (eS rfl (eS rfl (eS rfl (eS rfl (eS rfl (eS rfl (eS rfl eZ)))))))))))))))))))))))))))))) rfl ?_
                  refine gDo (eS rfl (eS rfl (eS rfl eZ))) (congrArg Bool.not h26) ?_
                  refine oLoadV (q := 5) (c := (.d (.int .i64 a1.Move.To))) eZ bZ rfl rfl ?_
                  refine gDo (eS rfl (eS rfl (eS rfl (eS rfl eZ)))) (congrArg Bool.not h26) ?_
                  refine oEql (eS rfl (eS rfl eZ)) eZ ?_
                  refine oPickF (eS rfl (eS rfl (eS rfl (eS rfl (eS rfl eZ))))) (congrArg Bool.not h26) eZ ?_
                  refine xNil ?_
                  exact TQ.qn ⟨(decide (a1.Move.From = a1.Move.To)), H, (wk_mk [] (SL.cons (eS rfl (eS rfl (eS rfl (eS rfl (eS rfl (eS rfl (eS rfl (eS rfl (eS rfl (eS rfl (eS rfl (eS rfl (eS rfl (eS rfl (eS rfl (eS rfl (eS rfl (eS rfl (eS rfl (eS rfl (eS rfl (eS rfl (eS rfl (eS rfl (eS rfl (eS rfl (eS rfl (eS rfl (eS rfl (eS rfl (eS rfl (eS rfl (eS rfl (eS rfl eZ)))))))))))))))))))))))))))))))))) rfl VWk.rfl (SL.cons eZ rfl VWk.rfl SL.nil)) (BL.keep rfl BL.nil) (BK.cons rfl bZ rfl rfl BK.nil))⟩
                · refine gSkip eZ (congrArg Bool.not (nt h26)) rfl ?_
                  refine gSkip (eS rfl eZ) (congrArg Bool.not (nt h26)) rfl ?_
                  refine gSkip (eS rfl (eS rfl eZ)) (congrArg Bool.not (nt h26)) rfl ?_
                  refine gSkip (eS rfl (eS rfl (eS rfl eZ))) (congrArg Bool.not (nt h26)) rfl ?_
                  refine gSkip (eS rfl (eS rfl (eS rfl (eS rfl eZ)))) (congrArg Bool.not (nt h26)) rfl ?_
                  refine oPickT (eS rfl (eS rfl (eS rfl (eS rfl (eS rfl eZ))))) (congrArg Bool.not (nt h26)) eC ?_
                  refine xNil ?_
                  exact TQ.qn ⟨true, H, (wk_mk [] (SL.cons (eS rfl (eS rfl (eS rfl (eS rfl (eS rfl (eS rfl (eS rfl (eS rfl (eS rfl (eS rfl (eS rfl (eS rfl (eS rfl (eS rfl (eS rfl (eS rfl (eS rfl (eS rfl (eS rfl (eS rfl (eS rfl (eS rfl (eS rfl (eS rfl (eS rfl (eS rfl (eS rfl (eS rfl (eS rfl (eS rfl (eS rfl (eS rfl (eS rfl (eS rfl eZ)))))))))))))))))))))))))))))))))) rfl VWk.rfl (SL.cons eZ rfl VWk.rfl SL.nil)) (BL.keep rfl BL.nil) (BK.cons rfl bZ rfl rfl BK.nil))⟩
              · refine gSkip eZ (congrArg Bool.not (nt h23)) rfl ?_
                refine gSkip (eS rfl eZ) (congrArg Bool.not (nt h23)) rfl ?_
                refine gSkip (eS rfl (eS rfl eZ)) (congrArg Bool.not (nt h23)) rfl ?_
                refine gSkip (eS rfl (eS rfl (eS rfl eZ))) (congrArg Bool.not (nt h23)) rfl ?_
                refine oPickT (eS rfl (eS rfl (eS rfl (eS rfl eZ)))) (congrArg Bool.not (nt h23)) eC ?_
                refine oMov eZ ?_
                refine gSkip eZ rfl rfl ?_
                refine gSkip (eS rfl eZ) rfl rfl ?_
                refine gSkip (eS rfl (eS rfl eZ)) rfl rfl ?_
                refine gSkip (eS rfl (eS rfl (eS rfl eZ))) rfl rfl ?_
                refine gSkip (eS rfl (eS rfl (eS rfl (eS rfl eZ)))) rfl rfl ?_
                refine oPickT (eS rfl (eS rfl (eS rfl (eS rfl (eS rfl eZ))))) rfl eC ?_
                refine xNil ?_
                exact TQ.qn ⟨true, H, (wk_mk [] (SL.cons (eS rfl (eS rfl (eS rfl (eS rfl (eS rfl (eS rfl (eS rfl (eS rfl (eS rfl (eS rfl (eS rfl (eS rfl (eS rfl (eS rfl (eS rfl (eS rfl (eS rfl (eS rfl (eS rfl (eS rfl (eS rfl (eS rfl (eS rfl (eS rfl (eS rfl (eS rfl (eS rfl (eS rfl (eS rfl (eS rfl (eS rfl (eS rfl (eS rfl (eS rfl eZ)))))))))))))))))))))))))))))))))) rfl VWk.rfl (SL.cons eZ rfl VWk.rfl SL.nil)) (BL.keep rfl BL.nil) (BK.cons rfl bZ rfl rfl BK.nil))⟩
            · refine gSkip eZ (congrArg Bool.not (nt h20)) rfl ?_
              refine gSkip (eS rfl eZ) (congrArg Bool.not (nt h20)) rfl ?_
              refine gSkip (eS rfl (eS rfl eZ)) (congrArg Bool.not (nt h20)) rfl ?_
              refine gSkip (eS rfl (eS rfl (eS rfl eZ))) (congrArg Bool.not (nt h20)) rfl ?_
              refine oPickT (eS rfl (eS rfl (eS rfl (eS rfl eZ)))) (congrArg Bool.not (nt h20)) eC ?_
              refine oMov eZ ?_
              refine gSkip eZ rfl rfl ?_
              refine gSkip (eS rfl eZ) rfl rfl ?_
              refine gSkip (eS rfl (eS rfl eZ)) rfl rfl ?_
              refine gSkip (eS rfl (eS rfl (eS rfl eZ))) rfl rfl ?_
              refine oPickT (eS rfl (eS rfl (eS rfl (eS rfl eZ)))) rfl eC ?_
              refine oMov eZ ?_
              refine gSkip eZ rfl rfl ?_
              refine gSkip (eS rfl eZ) rfl rfl ?_
              refine gSkip (eS rfl (eS rfl eZ)) rfl rfl ?_
              refine gSkip (eS rfl (eS rfl (eS rfl eZ))) rfl rfl ?_
              refine gSkip (eS rfl (eS rfl (eS rfl (eS rfl eZ)))) rfl rfl ?_
              refine oPickT (eS rfl (eS rfl (eS rfl (eS rfl (eS rfl eZ))))) rfl eC ?_
              refine xNil ?_
              exact TQ.qn ⟨true, H, (wk_mk [] (SL.cons (eS rfl (eS rfl (eS rfl (eS rfl (eS rfl (eS rfl (eS rfl (eS rfl (eS rfl (eS rfl (eS rfl (eS rfl (eS rfl (eS rfl (eS rfl (eS rfl (eS rfl (eS rfl (eS rfl (eS rfl (eS rfl (eS rfl (eS rfl (eS rfl (eS rfl (eS rfl (eS rfl (eS rfl (eS rfl (eS rfl (eS rfl (eS rfl (eS rfl (eS rfl eZ)))))))))))))))))))))))))))))))))) rfl VWk.rfl (SL.cons eZ rfl VWk.rfl SL.nil)) (BL.keep rfl BL.nil) (BK.cons rfl bZ rfl rfl BK.nil))⟩
  · refine AW.regs ?_
    refine oFaddrN (m := 0) (eS rfl (eS rfl (eS rfl (eS rfl eZ)))) rfl ?_
    refine oLoadV (q := 0) (c := (.d (.int .i64 a1.Epoch))) eZ (bS rfl (bS rfl bZ)) rfl rfl ?_
    obtain ⟨v27, h28, H⟩ := obind H
    refine oCall (u := (.one (.d (.bool v27)))) eC Cl.fn (c_spec_l1In h28) (Evs.cons eZ (Evs.cons eC (Evs.cons eC Evs.nil))) (VDs.cons VD.plain (VDs.cons VD.plain (VDs.cons VD.plain VDs.nil))) rfl ?_
    refine oInv eZ ?_
    refine oMov eZ ?_
    rcases oite H with ⟨h29, H⟩ | ⟨h29, H⟩
    · refine gDo eZ (congrArg Bool.not h29) ?_
      refine oFaddrN (m := 1) (eS rfl (eS rfl (eS rfl (eS rfl (eS rfl (eS rfl (eS rfl (eS rfl (eS rfl eZ))))))))) rfl ?_
      refine gDo (eS rfl eZ) (congrArg Bool.not h29) ?_
      refine oLoadV (q := 1) (c := (.d (.sl 3 (List.map d_TPart a1.Parts)))) eZ (bS rfl (bS rfl bZ)) rfl rfl ?_
      refine gDo (eS rfl (eS rfl eZ)) (congrArg Bool.not h29) ?_
      obtain ⟨v30, h31, H⟩ := obind H
      refine oCall (u := (.one (.d (.bool v30)))) eC Cl.fn (c_spec_PartsOk h31) (Evs.cons eZ Evs.nil) (VDs.cons VD.plain VDs.nil) rfl ?_
      refine gDo (eS rfl (eS rfl (eS rfl eZ))) (congrArg Bool.not h29) ?_
      refine oInv eZ ?_
      refine oPickF (eS rfl (eS rfl (eS rfl (eS rfl eZ)))) (congrArg Bool.not h29) eZ ?_
      refine oMov eZ ?_
      rcases oite H with ⟨h32, H⟩ | ⟨h32, H⟩
      · refine gDo eZ (congrArg Bool.not h32) ?_
        refine oFaddrN (m := 0) (eS rfl (eS rfl (eS rfl (eS rfl (eS rfl (eS rfl (eS rfl (eS rfl (eS rfl (eS rfl (eS rfl eZ))))))))))) rfl ?_
        refine gDo (eS rfl eZ) (congrArg Bool.not h32) ?_
        refine oLoadV (q := 0) (c := (.d (.int .i64 a1.Move.No))) eZ bZ rfl rfl ?_
        refine gDo (eS rfl (eS rfl eZ)) (congrArg Bool.not h32) ?_
        obtain ⟨v33, h34, H⟩ := obind H
        refine oCall (u := (.one (.d (.bool v33)))) eC Cl.fn (c_spec_l1In h34) (Evs.cons eZ (Evs.cons eC (Evs.cons eC Evs.nil))) (VDs.cons VD.plain (VDs.cons VD.plain (VDs.cons VD.plain VDs.nil))) rfl ?_
        refine gDo (eS rfl (eS rfl (eS rfl eZ))) (congrArg Bool.not h32) ?_
        refine oInv eZ ?_
        refine oPickF (eS rfl (eS rfl (eS rfl (eS rfl eZ)))) (congrArg Bool.not h32) eZ ?_
        refine oMov eZ ?_
        rcases oite H with ⟨h35, H⟩ | ⟨h35, H⟩
        · refine gDo eZ (congrArg Bool.not h35) ?_
          refine oFaddrN (m := 1) (eS rfl (eS rfl (eS rfl (eS rfl (eS rfl (eS rfl (eS rfl (eS rfl (eS rfl (eS rfl (eS rfl (eS rfl (eS rfl (eS rfl (eS rfl (eS rfl (eS rfl eZ))))))))))))))))) rfl ?_
          refine gDo (eS rfl eZ) (congrArg Bool.not h35) ?_
          refine oLoadV (q := 1) (c := (.d (.int .i64 a1.Move.Stage))) eZ bZ rfl rfl ?_
          refine gDo (eS rfl (eS rfl eZ)) (congrArg Bool.not h35) ?_
          obtain ⟨v36, h37, H⟩ := obind H
          refine oCall (u := (.one (.d (.bool v36)))) eC Cl.fn (c_spec_l1In h37) (Evs.cons eZ (Evs.cons eC (Evs.cons eC Evs.nil))) (VDs.cons VD.plain (VDs.cons VD.plain (VDs.cons VD.plain VDs.nil))) rfl ?_
          refine gDo (eS rfl (eS rfl (eS rfl eZ))) (congrArg Bool.not h35) ?_
          refine oInv eZ ?_
          refine oPickF (eS rfl (eS rfl (eS rfl (eS rfl eZ)))) (congrArg Bool.not h35) eZ ?_
          refine oMov eZ ?_
          rcases oite H with ⟨h38, H⟩ | ⟨h38, H⟩
          · refine gDo eZ (congrArg Bool.not h38) ?_
            refine oFaddrN (m := 6) (eS rfl (eS rfl (eS rfl (eS rfl (eS rfl (eS rfl (eS rfl (eS rfl (eS rfl (eS rfl (eS rfl (eS rfl (eS rfl (eS rfl (eS rfl (eS rfl (eS rfl (eS rfl (eS rfl (eS rfl (eS rfl (eS rfl (eS rfl eZ))))))))))))))))))))))) rfl ?_
            refine gDo (eS rfl eZ) (congrArg Bool.not h38) ?_
            refine oLoadV (q := 6) (c := (.d (.sl 2 (List.map d_TCell a1.Move.Cells)))) eZ bZ rfl rfl ?_
            refine gDo (eS rfl (eS rfl eZ)) (congrArg Bool.not h38) ?_
            obtain ⟨v39, h40, H⟩ := obind H
            refine oCall (u := (.one (.d (.bool v39)))) eC Cl.fn (c_spec_StoreOk h40) (Evs.cons eZ Evs.nil) (VDs.cons VD.plain VDs.nil) rfl ?_
            refine gDo (eS rfl (eS rfl (eS rfl eZ))) (congrArg Bool.not h38) ?_
            refine oInv eZ ?_
            refine oPickF (eS rfl (eS rfl (eS rfl (eS rfl eZ)))) (congrArg Bool.not h38) eZ ?_
            refine xNil ?_
            exact TQ.qn ⟨(!v39), H, (wk_mk [64] (SL.cons (eS rfl (eS rfl (eS rfl (eS rfl (eS rfl (eS rfl (eS rfl (eS rfl (eS rfl (eS rfl (eS rfl (eS rfl (eS rfl (eS rfl (eS rfl (eS rfl (eS rfl (eS rfl (eS rfl (eS rfl (eS rfl (eS rfl (eS rfl (eS rfl (eS rfl (eS rfl (eS rfl (eS rfl eZ)))))))))))))))))))))))))))) rfl VWk.rfl (SL.cons eZ rfl VWk.rfl SL.nil)) (BL.keep rfl (BL.keep rfl (BL.drop rfl BL.nil))) (BK.cons rfl bZ rfl rfl BK.nil))⟩
          · refine gSkip eZ (congrArg Bool.not (nt h38)) rfl ?_
            refine gSkip (eS rfl eZ) (congrArg Bool.not (nt h38)) rfl ?_
            refine gSkip (eS rfl (eS rfl eZ)) (congrArg Bool.not (nt h38)) rfl ?_
            refine gSkip (eS rfl (eS rfl (eS rfl eZ))) (congrArg Bool.not (nt h38)) rfl ?_
            refine oPickT (eS rfl (eS rfl (eS rfl (eS rfl eZ)))) (congrArg Bool.not (nt h38)) eC ?_
            refine xNil ?_
            exact TQ.qn ⟨true, H, (wk_mk [64] (SL.cons (eS rfl (eS rfl (eS rfl (eS rfl (eS rfl (eS rfl (eS rfl (eS rfl (eS rfl (eS rfl (eS rfl (eS rfl (eS rfl (eS rfl (eS rfl (eS rfl (eS rfl (eS rfl (eS rfl (eS rfl (eS rfl (eS rfl (eS rfl (eS rfl (eS rfl (eS rfl (eS rfl (eS rfl eZ)))))))))))))))))))))))))))) rfl VWk.rfl (SL.cons eZ rfl VWk.rfl SL.nil)) (BL.keep rfl (BL.keep rfl (BL.drop rfl BL.nil))) (BK.cons rfl bZ rfl rfl BK.nil))⟩
        · refine gSkip eZ (congrArg Bool.not (nt h35)) rfl ?_
          refine gSkip (eS rfl eZ) (congrArg Bool.not (nt h35)) rfl ?_
          refine gSkip (eS rfl (eS rfl eZ)) (congrArg Bool.not (nt h35)) rfl ?_
          refine gSkip (eS rfl (eS rfl (eS rfl eZ))) (congrArg Bool.not (nt h35)) rfl ?_
          refine oPickT (eS rfl (eS rfl (eS rfl (eS rfl eZ)))) (congrArg Bool.not (nt h35)) eC ?_
          refine oMov eZ ?_
          refine gSkip eZ rfl rfl ?_
          refine gSkip (eS rfl eZ) rfl rfl ?_
          refine gSkip (eS rfl (eS rfl eZ)) rfl rfl ?_
          refine gSkip (eS rfl (eS rfl (eS rfl eZ))) rfl rfl ?_
          refine oPickT (eS rfl (eS rfl (eS rfl (eS rfl eZ)))) rfl eC ?_
          refine xNil ?_
          exact TQ.qn ⟨true, H, (wk_mk [64] (SL.cons (eS rfl (eS rfl (eS rfl (eS rfl (eS rfl (eS rfl (eS rfl (eS rfl (eS rfl (eS rfl (eS rfl (eS rfl (eS rfl (eS rfl (eS rfl (eS rfl (eS rfl (eS rfl (eS rfl (eS rfl (eS rfl (eS rfl (eS rfl (eS rfl (eS rfl (eS rfl (eS rfl (eS rfl eZ)))))))))))))))))))))))))))) rfl VWk.rfl (SL.cons eZ rfl VWk.rfl SL.nil)) (BL.keep rfl (BL.keep rfl (BL.drop rfl BL.nil))) (BK.cons rfl bZ rfl rfl BK.nil))⟩
      · refine gSkip eZ (congrArg Bool.not (nt h32)) rfl ?_
        refine gSkip (eS rfl eZ) (congrArg Bool.not (nt h32)) rfl ?_
        refine gSkip (eS rfl (eS rfl eZ)) (congrArg Bool.not (nt h32)) rfl ?_
        refine gSkip (eS rfl (eS rfl (eS rfl eZ))) (congrArg Bool.not (nt h32)) rfl ?_
        refine oPickT (eS rfl (eS rfl (eS rfl (eS rfl eZ)))) (congrArg Bool.not (nt h32)) eC ?_
        refine oMov eZ ?_
        refine gSkip eZ rfl rfl ?_
        refine gSkip (eS rfl eZ) rfl rfl ?_
        refine gSkip (eS rfl (eS rfl eZ)) rfl rfl ?_
        refine gSkip (eS rfl (eS rfl (eS rfl eZ))) rfl rfl ?_
        refine oPickT (eS rfl (eS rfl (eS rfl (eS rfl eZ)))) rfl eC ?_
        refine oMov eZ ?_
        refine gSkip eZ rfl rfl ?_
        refine gSkip (eS rfl eZ) rfl rfl ?_
        refine gSkip (eS rfl (eS rfl eZ)) rfl rfl ?_
        refine gSkip (eS rfl (eS rfl (eS rfl eZ))) rfl rfl ?_
        refine oPickT (eS rfl (eS rfl (eS rfl (eS rfl eZ)))) rfl eC ?_
        refine xNil ?_
        exact TQ.qn ⟨true, H, (wk_mk [64] (SL.cons (eS rfl (eS rfl (eS rfl (eS rfl (eS rfl (eS rfl (eS rfl (eS rfl (eS rfl (eS rfl (eS rfl (eS rfl (eS rfl (eS rfl (eS rfl (eS rfl (eS rfl (eS rfl (eS rfl (eS rfl (eS rfl (eS rfl (eS rfl (eS rfl (eS rfl (eS rfl (eS rfl (eS rfl eZ)))))))))))))))))))))))))))) rfl VWk.rfl (SL.cons eZ rfl VWk.rfl SL.nil)) (BL.keep rfl (BL.keep rfl (BL.drop rfl BL.nil))) (BK.cons rfl bZ rfl rfl BK.nil))⟩
    · refine gSkip eZ (congrArg Bool.not (nt h29)) rfl ?_
      refine gSkip (eS rfl eZ) (congrArg Bool.not (nt h29)) rfl ?_
      refine gSkip (eS rfl (eS rfl eZ)) (congrArg Bool.not (nt h29)) rfl ?_
      refine gSkip (eS rfl (eS rfl (eS rfl eZ))) (congrArg Bool.not (nt h29)) rfl ?_
      refine oPickT (eS rfl (eS rfl (eS rfl (eS rfl eZ)))) (congrArg Bool.not (nt h29)) eC ?_
      refine oMov eZ ?_
      refine gSkip eZ rfl rfl ?_
      refine gSkip (eS rfl eZ) rfl rfl ?_
      refine gSkip (eS rfl (eS rfl eZ)) rfl rfl ?_
      refine gSkip (eS rfl (eS rfl (eS rfl eZ))) rfl rfl ?_
      refine oPickT (eS rfl (eS rfl (eS rfl (eS rfl eZ)))) rfl eC ?_
      refine oMov eZ ?_
      refine gSkip eZ rfl rfl ?_
      refine gSkip (eS rfl eZ) rfl rfl ?_
      refine gSkip (eS rfl (eS rfl eZ)) rfl rfl ?_
      refine gSkip (eS rfl (eS rfl (eS rfl eZ))) rfl rfl ?_
      refine oPickT (eS rfl (eS rfl (eS rfl (eS rfl eZ)))) rfl eC ?_
      refine oMov eZ ?_
      refine gSkip eZ rfl rfl ?_
      refine gSkip (eS rfl eZ) rfl rfl ?_
      refine gSkip (eS rfl (eS rfl eZ)) rfl rfl ?_
      refine gSkip (eS rfl (eS rfl (eS rfl eZ))) rfl rfl ?_
      refine oPickT (eS rfl (eS rfl (eS rfl (eS rfl eZ)))) rfl eC ?_
      refine xNil ?_
      exact TQ.qn ⟨true, H, (wk_mk [64] (SL.cons (eS rfl (eS rfl (eS rfl (eS rfl (eS rfl (eS rfl (eS rfl (eS rfl (eS rfl (eS rfl (eS rfl (eS rfl (eS rfl (eS rfl (eS rfl (eS rfl (eS rfl (eS rfl (eS rfl (eS rfl (eS rfl (eS rfl (eS rfl (eS rfl (eS rfl (eS rfl (eS rfl (eS rfl eZ)))))))))))))))))))))))))))) rfl VWk.rfl (SL.cons eZ rfl VWk.rfl SL.nil)) (BL.keep rfl (BL.keep rfl (BL.drop rfl BL.nil))) (BK.cons rfl bZ rfl rfl BK.nil))⟩

theorem c_spec_l15Copy {a1 : TAtlas} {r : TAtlas} (H : m_spec_l15Copy a1 = some r) : Fn Try.prog k_spec_l15Copy (lent [(.agg (d_TAtlas a1))]) true [(.agg (d_TAtlas r))] := by
  refine i_spec_l15Copy_fn (Nat.le_of_ble_eq_true rfl) ?_
  rw [init_mk]
  refine AW.weaken (wk_mk [] (SL.cons (v := (.agg [(.d (.int .i64 a1.Epoch)), (.d (.sl 3 (List.map d_TPart a1.Parts))), (.d (.int .i64 a1.Move.No)), (.d (.int .i64 a1.Move.Stage)), (.d (.int .i64 a1.Move.Lo)), (.d (.int .i64 a1.Move.Hi)), (.d (.int .i64 a1.Move.From)), (.d (.int .i64 a1.Move.To)), (.d (.sl 2 (List.map d_TCell a1.Move.Cells)))])) eZ rfl VWk.rfl SL.nil) BL.nil BK.nil) ?_
  unfold m_spec_l15Copy at H
  unfold i_spec_l15Copy
  refine AW.seq ?_
  refine AW.regs ?_
  refine oBox (n := 64) (m := 9) (cs := [(.d (.int .i64 a1.Epoch)), (.d (.sl 3 (List.map d_TPart a1.Parts))), (.d (.int .i64 a1.Move.No)), (.d (.int .i64 a1.Move.Stage)), (.d (.int .i64 a1.Move.Lo)), (.d (.int .i64 a1.Move.Hi)), (.d (.int .i64 a1.Move.From)), (.d (.int .i64 a1.Move.To)), (.d (.sl 2 (List.map d_TCell a1.Move.Cells)))]) rfl eZ rfl rfl nZ ?_
  refine oVar (n := 128) (m := 9) rfl rfl (nS rfl nZ) ?_
  refine xNil ?_
  refine TQ.qn ?_
  refine AW.seq ?_
  refine AW.regs ?_
  refine oBsliceZ (m := 192) rfl (nS rfl (nS rfl nZ)) ?_
  refine oFaddrN (m := 1) (eS rfl (eS rfl eZ)) rfl ?_
  refine oLoadV (q := 1) (c := (.d (.sl 3 (List.map d_TPart a1.Parts)))) eZ (bS rfl bZ) rfl rfl ?_
  obtain ⟨h2, H⟩ := oguard H
  refine oAppZ (f := d_TPart) (m := 384) (own := true) (ys := a1.Parts) (q := a1.Parts.length) rfl rfl (eS rfl (eS rfl eZ)) eZ (El.lent fun _ _ => rfl) rfl h2 (by decide) (nS rfl (nS rfl nZ)) ?_
  refine oFaddrN (m := 1) (eS rfl (eS rfl (eS rfl (eS rfl (eS rfl eZ))))) rfl ?_
  refine oStoreV (es := [(.d (.int .i64 a1.Epoch)), (.sl 384 0 a1.Parts.length), (.d (.int .i64 a1.Move.No)), (.d (.int .i64 a1.Move.Stage)), (.d (.int .i64 a1.Move.Lo)), (.d (.int .i64 a1.Move.Hi)), (.d (.int .i64 a1.Move.From)), (.d (.int .i64 a1.Move.To)), (.d (.sl 2 (List.map d_TCell a1.Move.Cells)))]) eZ (eS rfl eZ) rfl rfl (bS rfl (bS rfl bZ)) rfl ?_
  refine xNil ?_
  refine TQ.qn ?_
  refine AW.seq ?_
  refine AW.regs ?_
  refine oBsliceZ (m := 512) rfl (nS rfl (nS rfl (nS rfl (nS rfl nZ)))) ?_
  refine oFaddrN (m := 2) (eS rfl (eS rfl (eS rfl (eS rfl (eS rfl (eS rfl (eS rfl eZ))))))) rfl ?_
  refine oFaddrN (m := 8) eZ rfl ?_
  refine oLoadV (q := 8) (c := (.d (.sl 2 (List.map d_TCell a1.Move.Cells)))) eZ bZ rfl rfl ?_
  obtain ⟨h3, H⟩ := oguard H
  refine oAppZ (f := d_TCell) (m := 768) (own := true) (ys := a1.Move.Cells) (q := a1.Move.Cells.length) rfl rfl (eS rfl (eS rfl (eS rfl eZ))) eZ (El.lent fun _ _ => rfl) rfl h3 (by decide) (nS rfl (nS rfl (nS rfl (nS rfl nZ)))) ?_
  refine oFaddrN (m := 2) (eS rfl (eS rfl (eS rfl (eS rfl (eS rfl (eS rfl (eS rfl (eS rfl (eS rfl (eS rfl (eS rfl eZ))))))))))) rfl ?_
  refine oFaddrN (m := 8) eZ rfl ?_
  refine oStoreV (es := [(.d (.int .i64 a1.Epoch)), (.sl 384 0 a1.Parts.length), (.d (.int .i64 a1.Move.No)), (.d (.int .i64 a1.Move.Stage)), (.d (.int .i64 a1.Move.Lo)), (.d (.int .i64 a1.Move.Hi)), (.d (.int .i64 a1.Move.From)), (.d (.int .i64 a1.Move.To)), (.sl 768 0 a1.Move.Cells.length)]) eZ (eS rfl (eS rfl eZ)) rfl rfl (bS rfl bZ) rfl ?_
  refine xNil ?_
  refine TQ.qn ?_
  refine AW.seq ?_
  refine AW.regs ?_
  refine oLoadVA (es := [(.d (.int .i64 a1.Epoch)), (.sl 384 0 a1.Parts.length), (.d (.int .i64 a1.Move.No)), (.d (.int .i64 a1.Move.Stage)), (.d (.int .i64 a1.Move.Lo)), (.d (.int .i64 a1.Move.Hi)), (.d (.int .i64 a1.Move.From)), (.d (.int .i64 a1.Move.To)), (.sl 768 0 a1.Move.Cells.length)]) (eS rfl (eS rfl (eS rfl (eS rfl (eS rfl (eS rfl (eS rfl (eS rfl (eS rfl (eS rfl (eS rfl (eS rfl (eS rfl eZ))))))))))))) bZ rfl ?_
  refine oStoreV (es := [(.d (.int .i64 a1.Epoch)), (.sl 384 0 a1.Parts.length), (.d (.int .i64 a1.Move.No)), (.d (.int .i64 a1.Move.Stage)), (.d (.int .i64 a1.Move.Lo)), (.d (.int .i64 a1.Move.Hi)), (.d (.int .i64 a1.Move.From)), (.d (.int .i64 a1.Move.To)), (.sl 768 0 a1.Move.Cells.length)]) (eS rfl (eS rfl (eS rfl (eS rfl (eS rfl (eS rfl (eS rfl (eS rfl (eS rfl (eS rfl (eS rfl (eS rfl (eS rfl eZ))))))))))))) eZ rfl rfl (bS rfl (bS rfl (bS rfl (bS rfl bZ)))) rfl ?_
  refine xNil ?_
  refine TQ.qn ?_
  refine AW.weaken (wk_mk [64] (SL.cons (k := 2) (eS rfl (eS rfl (eS rfl (eS rfl (eS rfl (eS rfl (eS rfl (eS rfl (eS rfl (eS rfl (eS rfl (eS rfl (eS rfl eZ))))))))))))) rfl VWk.rfl SL.nil) (BL.keep rfl (BL.drop rfl (BL.keep rfl (BL.drop rfl (BL.keep rfl (BL.keep rfl (BL.drop rfl BL.nil))))))) (BK.cons (n := 128) rfl bZ rfl rfl (BK.cons (n := 768) rfl (bS rfl (bS rfl bZ)) rfl rfl (BK.cons (n := 384) rfl (bS rfl (bS rfl (bS rfl (bS rfl bZ)))) rfl rfl BK.nil)))) ?_
  refine AW.ret ?_
  obtain rfl := Option.some.inj H
  exact endsR (RL.cons (RV.cellA (es := [(.d (.int .i64 a1.Epoch)), (.sl 384 0 a1.Parts.length), (.d (.int .i64 a1.Move.No)), (.d (.int .i64 a1.Move.Stage)), (.d (.int .i64 a1.Move.Lo)), (.d (.int .i64 a1.Move.Hi)), (.d (.int .i64 a1.Move.From)), (.d (.int .i64 a1.Move.To)), (.sl 768 0 a1.Move.Cells.length)]) eZ bZ rfl) (VO.aggs (VOs.cons (VO.flat rfl) (VOs.cons (VO.sl (bS rfl (bS rfl bZ)) (List.length_map _) (allFlat fun _ => rfl)) (VOs.cons (VO.flat rfl) (VOs.cons (VO.flat rfl) (VOs.cons (VO.flat rfl) (VOs.cons (VO.flat rfl) (VOs.cons (VO.flat rfl) (VOs.cons (VO.flat rfl) (VOs.cons (VO.sl (bS rfl bZ) (List.length_map _) (allFlat fun _ => rfl)) VOs.nil)))))))))) RL.nil) (by decide)

theorem c_spec_l1Min {a1 : Int} {a2 : Int} {r : Int} (H : m_spec_l1Min a1 a2 = some r) : Fn Try.prog k_spec_l1Min (lent [(.int .i64 a1), (.int .i64 a2)]) true [(.int .i64 r)] := by
  refine i_spec_l1Min_fn (Nat.le_of_ble_eq_true rfl) ?_
  rw [init_mk]
  refine AW.weaken (wk_mk [] (SL.cons (v := (.one (.d (.int .i64 a1)))) eZ rfl VWk.rfl (SL.cons (v := (.one (.d (.int .i64 a2)))) (eS rfl eZ) rfl VWk.rfl SL.nil)) BL.nil BK.nil) ?_
  unfold m_spec_l1Min at H
  unfold i_spec_l1Min
  refine AW.seq ?_
  refine AW.regs ?_
  refine oMov eC ?_
  refine xNil ?_
  refine TQ.qn ?_
  refine AW.seq ?_
  refine AW.seq ?_
  refine AW.regs ?_
  refine oMov (eS rfl eZ) ?_
  refine oMov (eS rfl (eS rfl (eS rfl eZ))) ?_
  refine oLss (eS rfl eZ) eZ ?_
  refine xNil ?_
  refine TQ.qn ?_
  rcases oite H with ⟨h3, H⟩ | ⟨h3, H⟩
  · refine AW.condT eZ (decide_eq_true h3) ?_
    refine AW.seq ?_
    refine AW.regs ?_
    refine oMov (eS rfl (eS rfl (eS rfl (eS rfl eZ)))) ?_
    refine oMov eZ ?_
    refine xNil ?_
    refine TQ.qn ?_
    refine AW.ret ?_
    refine TQ.qr ?_
    obtain rfl := Option.some.inj H
    exact endsR (RL.cons (RV.tmp eZ) (VO.flat rfl) RL.nil) List.nodup_nil
  · refine AW.condF eZ (decide_eq_false h3) ?_
    refine AW.skip ?_
    refine TQ.qn ?_
    refine AW.seq ?_
    refine AW.regs ?_
    refine oMov (eS rfl (eS rfl (eS rfl (eS rfl (eS rfl eZ))))) ?_
    refine oMov eZ ?_
    refine xNil ?_
    refine TQ.qn ?_
    refine AW.ret ?_
    obtain rfl := Option.some.inj H
    exact endsR (RL.cons (RV.tmp eZ) (VO.flat rfl) RL.nil) List.nodup_nil

theorem c_spec_MoveRank {a1 : TMove} {r : Int} (H : m_spec_MoveRank a1 = some r) : Fn Try.prog k_spec_MoveRank (lent [(.agg (d_TMove a1))]) true [(.int .i64 r)] := by
  refine i_spec_MoveRank_fn (Nat.le_of_ble_eq_true rfl) ?_
  rw [init_mk]
  refine AW.weaken (wk_mk [] (SL.cons (v := (.agg [(.d (.int .i64 a1.No)), (.d (.int .i64 a1.Stage)), (.d (.int .i64 a1.Lo)), (.d (.int .i64 a1.Hi)), (.d (.int .i64 a1.From)), (.d (.int .i64 a1.To)), (.d (.sl 2 (List.map d_TCell a1.Cells)))])) eZ rfl VWk.rfl SL.nil) BL.nil BK.nil) ?_
  unfold m_spec_MoveRank at H
  unfold i_spec_MoveRank
  refine AW.seq ?_
  refine AW.regs ?_
  refine oBox (n := 64) (m := 7) (cs := [(.d (.int .i64 a1.No)), (.d (.int .i64 a1.Stage)), (.d (.int .i64 a1.Lo)), (.d (.int .i64 a1.Hi)), (.d (.int .i64 a1.From)), (.d (.int .i64 a1.To)), (.d (.sl 2 (List.map d_TCell a1.Cells)))]) rfl eZ rfl rfl nZ ?_
  refine oMov eC ?_
  refine xNil ?_
  refine TQ.qn ?_
  refine AW.seq ?_
  refine AW.seqJ (fun t2 : Bool => (spec_MoveRank_j2 a1) t2 = some r) (fun t2 => mk [(1, (.one (.ptr (.nm 64 0 0)))), (12, (.one (.d (.bool t2))))] [(64, (.vars 7 [(.d (.int .i64 a1.No)), (.d (.int .i64 a1.Stage)), (.d (.int .i64 a1.Lo)), (.d (.int .i64 a1.Hi)), (.d (.int .i64 a1.From)), (.d (.int .i64 a1.To)), (.d (.sl 2 (List.map d_TCell a1.Cells)))]))] noG) ?_ ?_
  · intro t2 H
    unfold spec_MoveRank_j2 at H
    rcases oite H with ⟨h4, H⟩ | ⟨h4, H⟩
    · refine AW.condT (eS rfl eZ) h4 ?_
      refine AW.seq ?_
      refine AW.regs ?_
      refine oMov eC ?_
      refine xNil ?_
      refine TQ.qn ?_
      refine AW.ret ?_
      refine TQ.qr ?_
      obtain rfl := Option.some.inj H
      exact endsR (RL.cons (RV.tmp eZ) (VO.flat rfl) RL.nil) List.nodup_nil
    · refine AW.condF (eS rfl eZ) (nt h4) ?_
      refine AW.skip ?_
      refine TQ.qn ?_
      refine AW.seq ?_
      refine AW.regd ?_
      refine oFaddrN (m := 0) eZ rfl ?_
      refine oLoadV (q := 0) (c := (.d (.int .i64 a1.No))) eZ (hB rfl bZ) rfl rfl ?_
      refine oSub eZ eC ?_
      refine oMul eC eZ ?_
      refine oFaddrN (m := 1) (eS rfl (eS rfl (eS rfl (eS rfl eZ)))) rfl ?_
      refine oLoadV (q := 1) (c := (.d (.int .i64 a1.Stage))) eZ bZ rfl rfl ?_
      obtain ⟨v5, h6, H⟩ := obind H
      refine oCall (u := (.one (.d (.int .i64 v5)))) eC Cl.fn (c_spec_l1Min h6) (Evs.cons eZ (Evs.cons eC Evs.nil)) (VDs.cons VD.plain (VDs.cons VD.plain VDs.nil)) rfl ?_
      refine oAdd (eS rfl (eS rfl (eS rfl eZ))) eZ ?_
      refine oMov eZ ?_
      refine xNil ?_
      refine TQ.qn ?_
      refine AW.ret ?_
      obtain rfl := Option.some.inj H
      exact endsR (RL.cons (RV.tmp eZ) (VO.flat rfl) RL.nil) List.nodup_nil
  · refine AW.regs ?_
    refine oFaddrN (m := 0) (eS rfl eZ) rfl ?_
    refine oLoadV (q := 0) (c := (.d (.int .i64 a1.No))) eZ bZ rfl rfl ?_
    obtain ⟨v7, h8, H⟩ := obind H
    refine oCall (u := (.one (.d (.bool v7)))) eC Cl.fn (c_spec_l1In h8) (Evs.cons eZ (Evs.cons eC (Evs.cons eC Evs.nil))) (VDs.cons VD.plain (VDs.cons VD.plain (VDs.cons VD.plain VDs.nil))) rfl ?_
    refine oInv eZ ?_
    refine oMov eZ ?_
    rcases oite H with ⟨h9, H⟩ | ⟨h9, H⟩
    · refine gDo eZ (congrArg Bool.not h9) ?_
      refine oFaddrN (m := 1) (eS rfl (eS rfl (eS rfl (eS rfl (eS rfl (eS rfl eZ)))))) rfl ?_
      refine gDo (eS rfl eZ) (congrArg Bool.not h9) ?_
      refine oLoadV (q := 1) (c := (.d (.int .i64 a1.Stage))) eZ bZ rfl rfl ?_
      refine gDo (eS rfl (eS rfl eZ)) (congrArg Bool.not h9) ?_
      obtain ⟨v10, h11, H⟩ := obind H
      refine oCall (u := (.one (.d (.bool v10)))) eC Cl.fn (c_spec_l1In h11) (Evs.cons eZ (Evs.cons eC (Evs.cons eC Evs.nil))) (VDs.cons VD.plain (VDs.cons VD.plain (VDs.cons VD.plain VDs.nil))) rfl ?_
      refine gDo (eS rfl (eS rfl (eS rfl eZ))) (congrArg Bool.not h9) ?_
      refine oInv eZ ?_
      refine oPickF (eS rfl (eS rfl (eS rfl (eS rfl eZ)))) (congrArg Bool.not h9) eZ ?_
      refine xNil ?_
      exact TQ.qn ⟨(!v10), H, (wk_mk [] (SL.cons (eS rfl (eS rfl (eS rfl (eS rfl (eS rfl (eS rfl (eS rfl (eS rfl (eS rfl (eS rfl (eS rfl eZ))))))))))) rfl VWk.rfl (SL.cons eZ rfl VWk.rfl SL.nil)) (BL.keep rfl BL.nil) (BK.cons rfl bZ rfl rfl BK.nil))⟩
    · refine gSkip eZ (congrArg Bool.not (nt h9)) rfl ?_
      refine gSkip (eS rfl eZ) (congrArg Bool.not (nt h9)) rfl ?_
      refine gSkip (eS rfl (eS rfl eZ)) (congrArg Bool.not (nt h9)) rfl ?_
      refine gSkip (eS rfl (eS rfl (eS rfl eZ))) (congrArg Bool.not (nt h9)) rfl ?_
      refine oPickT (eS rfl (eS rfl (eS rfl (eS rfl eZ)))) (congrArg Bool.not (nt h9)) eC ?_
      refine xNil ?_
      exact TQ.qn ⟨true, H, (wk_mk [] (SL.cons (eS rfl (eS rfl (eS rfl (eS rfl (eS rfl (eS rfl (eS rfl (eS rfl (eS rfl (eS rfl (eS rfl eZ))))))))))) rfl VWk.rfl (SL.cons eZ rfl VWk.rfl SL.nil)) (BL.keep rfl BL.nil) (BK.cons rfl bZ rfl rfl BK.nil))⟩

theorem c_spec_AtlasInstalled {a1 : TAtlas} {a2 : Int} {a3 : Bool} {r : (TAtlas × Int)} (H : m_spec_AtlasInstalled a1 a2 a3 = some r) : Fn Try.prog k_spec_AtlasInstalled (lent [(.agg (d_TAtlas a1)), (.int .i64 a2), (.bool a3)]) true [(.agg (d_TAtlas r.1)), (.int .i64 r.2)] := by
  refine i_spec_AtlasInstalled_fn (Nat.le_of_ble_eq_true rfl) ?_
  rw [init_mk]
  refine AW.weaken (wk_mk [] (SL.cons (v := (.agg [(.d (.int .i64 a1.Epoch)), (.d (.sl 3 (List.map d_TPart a1.Parts))), (.d (.int .i64 a1.Move.No)), (.d (.int .i64 a1.Move.Stage)), (.d (.int .i64 a1.Move.Lo)), (.d (.int .i64 a1.Move.Hi)), (.d (.int .i64 a1.Move.From)), (.d (.int .i64 a1.Move.To)), (.d (.sl 2 (List.map d_TCell a1.Move.Cells)))])) eZ rfl VWk.rfl (SL.cons (v := (.one (.d (.int .i64 a2)))) (eS rfl eZ) rfl VWk.rfl (SL.cons (v := (.one (.d (.bool a3)))) (eS rfl (eS rfl eZ)) rfl VWk.rfl SL.nil))) BL.nil BK.nil) ?_
  unfold m_spec_AtlasInstalled at H
  unfold i_spec_AtlasInstalled
  refine AW.seq ?_
  refine AW.regs ?_
  refine oBox (n := 192) (m := 9) (cs := [(.d (.int .i64 a1.Epoch)), (.d (.sl 3 (List.map d_TPart a1.Parts))), (.d (.int .i64 a1.Move.No)), (.d (.int .i64 a1.Move.Stage)), (.d (.int .i64 a1.Move.Lo)), (.d (.int .i64 a1.Move.Hi)), (.d (.int .i64 a1.Move.From)), (.d (.int .i64 a1.Move.To)), (.d (.sl 2 (List.map d_TCell a1.Move.Cells)))]) rfl eZ rfl rfl nZ ?_
  refine oVar (n := 384) (m := 9) rfl rfl (nS rfl nZ) ?_
  refine oMov eC ?_
  refine xNil ?_
  refine TQ.qn ?_
  refine AW.seq ?_
  refine AW.seq ?_
  refine AW.regs ?_
  refine oLoadVA (es := [(.d (.int .i64 a1.Epoch)), (.d (.sl 3 (List.map d_TPart a1.Parts))), (.d (.int .i64 a1.Move.No)), (.d (.int .i64 a1.Move.Stage)), (.d (.int .i64 a1.Move.Lo)), (.d (.int .i64 a1.Move.Hi)), (.d (.int .i64 a1.Move.From)), (.d (.int .i64 a1.Move.To)), (.d (.sl 2 (List.map d_TCell a1.Move.Cells)))]) (eS rfl (eS rfl eZ)) (bS rfl bZ) rfl ?_
  obtain ⟨v4, h5, H⟩ := obind H
  refine oCall (u := (.one (.d (.bool v4)))) eC Cl.fn (c_spec_AtlasOk h5) (Evs.cons eZ Evs.nil) (VDs.cons (VD.agg rfl) VDs.nil) rfl ?_
  refine oInv eZ ?_
  refine xNil ?_
  refine TQ.qn ?_
  rcases oite H with ⟨h6, H⟩ | ⟨h6, H⟩
  · refine AW.condF eZ (congrArg Bool.not h6) ?_
    refine AW.skip ?_
    refine TQ.qn ?_
    refine AW.seq ?_
    refine AW.regs ?_
    refine oLoadVA (es := [(.d (.int .i64 a1.Epoch)), (.d (.sl 3 (List.map d_TPart a1.Parts))), (.d (.int .i64 a1.Move.No)), (.d (.int .i64 a1.Move.Stage)), (.d (.int .i64 a1.Move.Lo)), (.d (.int .i64 a1.Move.Hi)), (.d (.int .i64 a1.Move.From)), (.d (.int .i64 a1.Move.To)), (.d (.sl 2 (List.map d_TCell a1.Move.Cells)))]) (eS rfl (eS rfl (eS rfl (eS rfl (eS rfl eZ))))) (bS rfl bZ) rfl ?_
    obtain ⟨v7, h8, H⟩ := obind H
    refine oCallN (u := (.agg [(.d (.int .i64 v7.Epoch)), (.sl 961 0 v7.Parts.length), (.d (.int .i64 v7.Move.No)), (.d (.int .i64 v7.Move.Stage)), (.d (.int .i64 v7.Move.Lo)), (.d (.int .i64 v7.Move.Hi)), (.d (.int .i64 v7.Move.From)), (.d (.int .i64 v7.Move.To)), (.sl 968 0 v7.Move.Cells.length)])) (bs := [(961, (.data 3 (List.map d_TPart v7.Parts) true none)), (968, (.data 2 (List.map d_TCell v7.Move.Cells) true none))]) eC Cl.fn (c_spec_l15Copy h8) (Evs.cons eZ Evs.nil) (VDs.cons (VD.agg rfl) VDs.nil) (by simp [bindR, bindV, bindVs, bindC, bindCs]) rfl (fC (nS rfl (nS rfl nZ)) rfl (fC (nS rfl (nS rfl nZ)) rfl (fC (nS rfl (nS rfl nZ)) rfl fN))) ?_
    refine oVar (n := 512) (m := 9) rfl rfl (nS rfl (nS rfl (nS rfl (nS rfl nZ)))) ?_
    refine oStoreV (es := [(.d (.int .i64 v7.Epoch)), (.sl 961 0 v7.Parts.length), (.d (.int .i64 v7.Move.No)), (.d (.int .i64 v7.Move.Stage)), (.d (.int .i64 v7.Move.Lo)), (.d (.int .i64 v7.Move.Hi)), (.d (.int .i64 v7.Move.From)), (.d (.int .i64 v7.Move.To)), (.sl 968 0 v7.Move.Cells.length)]) eZ (eS rfl eZ) rfl rfl bZ rfl ?_
    refine xNil ?_
    refine TQ.qn ?_
    refine AW.seq ?_
    refine AW.seqJ (fun t9 : Bool => (spec_AtlasInstalled_j9 v7 a3 a1) t9 = some r) (fun t9 => mk [(2, (.one (.d (.bool a3)))), (3, (.one (.ptr (.nm 192 0 0)))), (6, (.one (.ptr (.nm 384 0 0)))), (8, (.one (.ptr (.nm 512 0 0)))), (34, (.one (.d (.bool t9))))] [(192, (.vars 9 [(.d (.int .i64 a1.Epoch)), (.d (.sl 3 (List.map d_TPart a1.Parts))), (.d (.int .i64 a1.Move.No)), (.d (.int .i64 a1.Move.Stage)), (.d (.int .i64 a1.Move.Lo)), (.d (.int .i64 a1.Move.Hi)), (.d (.int .i64 a1.Move.From)), (.d (.int .i64 a1.Move.To)), (.d (.sl 2 (List.map d_TCell a1.Move.Cells)))])), (384, (.vars 9 [(.d (.int .i64 0)), .zs, (.d (.int .i64 0)), (.d (.int .i64 0)), (.d (.int .i64 0)), (.d (.int .i64 0)), (.d (.int .i64 0)), (.d (.int .i64 0)), .zs])), (512, (.vars 9 [(.d (.int .i64 v7.Epoch)), (.sl 961 0 v7.Parts.length), (.d (.int .i64 v7.Move.No)), (.d (.int .i64 v7.Move.Stage)), (.d (.int .i64 v7.Move.Lo)), (.d (.int .i64 v7.Move.Hi)), (.d (.int .i64 v7.Move.From)), (.d (.int .i64 v7.Move.To)), (.sl 968 0 v7.Move.Cells.length)])), (961, (.data 3 (List.map d_TPart v7.Parts) true none)), (968, (.data 2 (List.map d_TCell v7.Move.Cells) true none))] noG) ?_ ?_
    · intro t9 H
      unfold spec_AtlasInstalled_j9 at H
      rcases oite H with ⟨h11, H⟩ | ⟨h11, H⟩
      · refine AW.condT (eS rfl (eS rfl (eS rfl (eS rfl eZ)))) h11 ?_
        refine AW.seq ?_
        refine AW.regs ?_
        refine oLoadVA (es := [(.d (.int .i64 v7.Epoch)), (.sl 961 0 v7.Parts.length), (.d (.int .i64 v7.Move.No)), (.d (.int .i64 v7.Move.Stage)), (.d (.int .i64 v7.Move.Lo)), (.d (.int .i64 v7.Move.Hi)), (.d (.int .i64 v7.Move.From)), (.d (.int .i64 v7.Move.To)), (.sl 968 0 v7.Move.Cells.length)]) (eS rfl (eS rfl (eS rfl eZ))) (bS rfl (bS rfl bZ)) rfl ?_
        refine oStoreV (es := [(.d (.int .i64 v7.Epoch)), (.sl 961 0 v7.Parts.length), (.d (.int .i64 v7.Move.No)), (.d (.int .i64 v7.Move.Stage)), (.d (.int .i64 v7.Move.Lo)), (.d (.int .i64 v7.Move.Hi)), (.d (.int .i64 v7.Move.From)), (.d (.int .i64 v7.Move.To)), (.sl 968 0 v7.Move.Cells.length)]) (eS rfl (eS rfl (eS rfl eZ))) eZ rfl rfl (bS rfl bZ) rfl ?_
        refine oMov eC ?_
        refine xNil ?_
        refine TQ.qn ?_
        refine AW.ret ?_
        refine TQ.qr ?_
        obtain rfl := Option.some.inj H
        exact endsR (RL.cons (RV.cellA (es := [(.d (.int .i64 v7.Epoch)), (.sl 961 0 v7.Parts.length), (.d (.int .i64 v7.Move.No)), (.d (.int .i64 v7.Move.Stage)), (.d (.int .i64 v7.Move.Lo)), (.d (.int .i64 v7.Move.Hi)), (.d (.int .i64 v7.Move.From)), (.d (.int .i64 v7.Move.To)), (.sl 968 0 v7.Move.Cells.length)]) (eS rfl (eS rfl (eS rfl (eS rfl eZ)))) bZ rfl) (VO.aggs (VOs.cons (VO.flat rfl) (VOs.cons (VO.sl (bS rfl (bS rfl (bS rfl (bS rfl bZ)))) (List.length_map _) (allFlat fun _ => rfl)) (VOs.cons (VO.flat rfl) (VOs.cons (VO.flat rfl) (VOs.cons (VO.flat rfl) (VOs.cons (VO.flat rfl) (VOs.cons (VO.flat rfl) (VOs.cons (VO.flat rfl) (VOs.cons (VO.sl (bS rfl (bS rfl (bS rfl (bS rfl (bS rfl bZ))))) (List.length_map _) (allFlat fun _ => rfl)) VOs.nil)))))))))) (RL.cons (RV.tmp eZ) (VO.flat rfl) RL.nil)) (by decide)
      · refine AW.condF (eS rfl (eS rfl (eS rfl (eS rfl eZ)))) (nt h11) ?_
        refine AW.skip ?_
        refine TQ.qn ?_
        refine AW.seq ?_
        refine AW.regs ?_
        refine oFaddrN (m := 2) (eS rfl (eS rfl (eS rfl eZ))) rfl ?_
        refine oFaddrN (m := 8) eZ rfl ?_
        refine oStoreV (es := [(.d (.int .i64 v7.Epoch)), (.sl 961 0 v7.Parts.length), (.d (.int .i64 v7.Move.No)), (.d (.int .i64 v7.Move.Stage)), (.d (.int .i64 v7.Move.Lo)), (.d (.int .i64 v7.Move.Hi)), (.d (.int .i64 v7.Move.From)), (.d (.int .i64 v7.Move.To)), .zs]) eZ eC rfl rfl (bS rfl (bS rfl bZ)) rfl ?_
        refine xNil ?_
        refine TQ.qn ?_
        refine AW.seq ?_
        refine AW.regs ?_
        refine oFaddrN (m := 2) (eS rfl (eS rfl (eS rfl (eS rfl (eS rfl eZ))))) rfl ?_
        refine oFaddrN (m := 3) eZ rfl ?_
        refine oStoreV (es := [(.d (.int .i64 v7.Epoch)), (.sl 961 0 v7.Parts.length), (.d (.int .i64 v7.Move.No)), (.d (.int .i64 4)), (.d (.int .i64 v7.Move.Lo)), (.d (.int .i64 v7.Move.Hi)), (.d (.int .i64 v7.Move.From)), (.d (.int .i64 v7.Move.To)), .zs]) eZ eC rfl rfl bZ rfl ?_
        refine xNil ?_
        refine TQ.qn ?_
        refine AW.seq ?_
        refine AW.seq ?_
        refine AW.regs ?_
        refine oMov (eS rfl (eS rfl (eS rfl (eS rfl eZ)))) ?_
        refine oInv eZ ?_
        refine xNil ?_
        refine TQ.qn ?_
        rcases oite H with ⟨h12, H⟩ | ⟨h12, H⟩
        · refine AW.condF eZ (congrArg Bool.not h12) ?_
          refine AW.skip ?_
          refine TQ.qn ?_
          refine AW.seq ?_
          refine AW.regs ?_
          refine oFaddrN (m := 2) (eS rfl (eS rfl (eS rfl (eS rfl (eS rfl (eS rfl (eS rfl (eS rfl (eS rfl eZ))))))))) rfl ?_
          refine oFaddrN (m := 3) eZ rfl ?_
          refine oStoreV (es := [(.d (.int .i64 v7.Epoch)), (.sl 961 0 v7.Parts.length), (.d (.int .i64 v7.Move.No)), (.d (.int .i64 3)), (.d (.int .i64 v7.Move.Lo)), (.d (.int .i64 v7.Move.Hi)), (.d (.int .i64 v7.Move.From)), (.d (.int .i64 v7.Move.To)), .zs]) eZ eC rfl rfl bZ rfl ?_
          refine xNil ?_
          refine TQ.qn ?_
          refine AW.seq ?_
          refine AW.regs ?_
          refine oFaddrN (m := 0) (eS rfl (eS rfl (eS rfl (eS rfl (eS rfl (eS rfl (eS rfl (eS rfl (eS rfl (eS rfl (eS rfl eZ))))))))))) rfl ?_
          refine oLoadV (q := 0) (c := (.d (.int .i64 v7.Epoch))) eZ bZ rfl rfl ?_
          refine oAdd eZ eC ?_
          refine oFaddrN (m := 0) (eS rfl (eS rfl (eS rfl (eS rfl (eS rfl (eS rfl (eS rfl (eS rfl (eS rfl (eS rfl (eS rfl (eS rfl (eS rfl (eS rfl eZ)))))))))))))) rfl ?_
          refine oStoreV (es := [(.d (.int .i64 (IntKind.wrap .i64 (v7.Epoch + 1)))), (.sl 961 0 v7.Parts.length), (.d (.int .i64 v7.Move.No)), (.d (.int .i64 3)), (.d (.int .i64 v7.Move.Lo)), (.d (.int .i64 v7.Move.Hi)), (.d (.int .i64 v7.Move.From)), (.d (.int .i64 v7.Move.To)), .zs]) eZ (eS rfl eZ) rfl rfl bZ rfl ?_
          refine xNil ?_
          refine TQ.qn ?_
          refine AW.weaken (wk_mk [968] (SL.cons (k := 3) (eS rfl (eS rfl (eS rfl (eS rfl (eS rfl (eS rfl (eS rfl (eS rfl (eS rfl (eS rfl (eS rfl (eS rfl (eS rfl eZ))))))))))))) rfl VWk.rfl (SL.cons (k := 6) (eS rfl (eS rfl (eS rfl (eS rfl (eS rfl (eS rfl (eS rfl (eS rfl (eS rfl (eS rfl (eS rfl (eS rfl (eS rfl (eS rfl eZ)))))))))))))) rfl VWk.rfl (SL.cons (k := 8) (eS rfl (eS rfl (eS rfl (eS rfl (eS rfl (eS rfl (eS rfl (eS rfl (eS rfl (eS rfl (eS rfl (eS rfl (eS rfl (eS rfl (eS rfl eZ))))))))))))))) rfl VWk.rfl SL.nil))) (BL.keep rfl (BL.keep rfl (BL.keep rfl (BL.keep rfl (BL.keep rfl (BL.keep rfl (BL.keep rfl (BL.keep rfl (BL.drop rfl BL.nil))))))))) (BK.cons (n := 512) rfl bZ rfl rfl (BK.cons (n := 192) rfl (bS rfl (bS rfl (bS rfl (bS rfl bZ)))) rfl rfl (BK.cons (n := 384) rfl (bS rfl (bS rfl (bS rfl (bS rfl (bS rfl bZ))))) rfl rfl (BK.cons (n := 961) rfl (bS rfl (bS rfl (bS rfl (bS rfl (bS rfl (bS rfl (bS rfl bZ))))))) rfl rfl BK.nil))))) ?_
          refine AW.seqJ (fun t13 : (List TPart) => (spec_AtlasInstalled_j13 v7) t13 = some r) (fun t13 => mk [(6, (.one (.ptr (.nm 384 0 0)))), (8, (.one (.ptr (.nm 512 0 0))))] [(384, (.vars 9 [(.d (.int .i64 0)), .zs, (.d (.int .i64 0)), (.d (.int .i64 0)), (.d (.int .i64 0)), (.d (.int .i64 0)), (.d (.int .i64 0)), (.d (.int .i64 0)), .zs])), (320128, (.data 3 (List.map d_TPart t13) true none)), (512, (.vars 9 [(.d (.int .i64 (IntKind.wrap .i64 (v7.Epoch + 1)))), (.sl 320128 0 t13.length), (.d (.int .i64 v7.Move.No)), (.d (.int .i64 3)), (.d (.int .i64 v7.Move.Lo)), (.d (.int .i64 v7.Move.Hi)), (.d (.int .i64 v7.Move.From)), (.d (.int .i64 v7.Move.To)), .zs]))] noG) ?_ ?_
          · intro t13 H
            unfold spec_AtlasInstalled_j13 at H
            refine AW.seq ?_
            refine AW.regs ?_
            refine oLoadVA (es := [(.d (.int .i64 (IntKind.wrap .i64 (v7.Epoch + 1)))), (.sl 320128 0 t13.length), (.d (.int .i64 v7.Move.No)), (.d (.int .i64 3)), (.d (.int .i64 v7.Move.Lo)), (.d (.int .i64 v7.Move.Hi)), (.d (.int .i64 v7.Move.From)), (.d (.int .i64 v7.Move.To)), .zs]) (eS rfl eZ) (bS rfl (bS rfl bZ)) rfl ?_
            refine oStoreV (es := [(.d (.int .i64 (IntKind.wrap .i64 (v7.Epoch + 1)))), (.sl 320128 0 t13.length), (.d (.int .i64 v7.Move.No)), (.d (.int .i64 3)), (.d (.int .i64 v7.Move.Lo)), (.d (.int .i64 v7.Move.Hi)), (.d (.int .i64 v7.Move.From)), (.d (.int .i64 v7.Move.To)), .zs]) (eS rfl eZ) eZ rfl rfl bZ rfl ?_
            refine oMov eC ?_
            refine xNil ?_
            refine TQ.qn ?_
            refine AW.ret ?_
            obtain rfl := Option.some.inj H
            exact endsR (RL.cons (RV.cellA (es := [(.d (.int .i64 (IntKind.wrap .i64 (v7.Epoch + 1)))), (.sl 320128 0 t13.length), (.d (.int .i64 v7.Move.No)), (.d (.int .i64 3)), (.d (.int .i64 v7.Move.Lo)), (.d (.int .i64 v7.Move.Hi)), (.d (.int .i64 v7.Move.From)), (.d (.int .i64 v7.Move.To)), .zs]) (eS rfl (eS rfl eZ)) bZ rfl) (VO.aggs (VOs.cons (VO.flat rfl) (VOs.cons (VO.sl (bS rfl (bS rfl bZ)) (List.length_map _) (allFlat fun _ => rfl)) (VOs.cons (VO.flat rfl) (VOs.cons (VO.flat rfl) (VOs.cons (VO.flat rfl) (VOs.cons (VO.flat rfl) (VOs.cons (VO.flat rfl) (VOs.cons (VO.flat rfl) (VOs.cons VO.zs VOs.nil)))))))))) (RL.cons (RV.tmp eZ) (VO.flat rfl) RL.nil)) (by decide)
          · refine AW.seq ?_
            refine AW.regs ?_
            refine oMov eC ?_
            refine xNil ?_
            refine TQ.qn ?_
            refine AW.block ?_
            refine AW.iter (fun s15 : (Int × (List TPart)) => mk [(3, (.one (.ptr (.nm 192 0 0)))), (6, (.one (.ptr (.nm 384 0 0)))), (8, (.one (.ptr (.nm 512 0 0)))), (9, (.one (.d (.int .i64 s15.1))))] [(192, (.vars 9 [(.d (.int .i64 a1.Epoch)), (.d (.sl 3 (List.map d_TPart a1.Parts))), (.d (.int .i64 a1.Move.No)), (.d (.int .i64 a1.Move.Stage)), (.d (.int .i64 a1.Move.Lo)), (.d (.int .i64 a1.Move.Hi)), (.d (.int .i64 a1.Move.From)), (.d (.int .i64 a1.Move.To)), (.d (.sl 2 (List.map d_TCell a1.Move.Cells)))])), (384, (.vars 9 [(.d (.int .i64 0)), .zs, (.d (.int .i64 0)), (.d (.int .i64 0)), (.d (.int .i64 0)), (.d (.int .i64 0)), (.d (.int .i64 0)), (.d (.int .i64 0)), .zs])), (320192, (.data 3 (List.map d_TPart s15.2) true none)), (512, (.vars 9 [(.d (.int .i64 (IntKind.wrap .i64 (v7.Epoch + 1)))), (.sl 320192 0 s15.2.length), (.d (.int .i64 v7.Move.No)), (.d (.int .i64 3)), (.d (.int .i64 v7.Move.Lo)), (.d (.int .i64 v7.Move.Hi)), (.d (.int .i64 v7.Move.From)), (.d (.int .i64 v7.Move.To)), .zs]))] noG) H ((wk_mk [] (SL.cons (eS rfl eZ) rfl VWk.rfl (SL.cons (eS rfl (eS rfl eZ)) rfl VWk.rfl (SL.cons (eS rfl (eS rfl (eS rfl eZ))) rfl VWk.rfl (SL.cons eZ rfl VWk.rfl SL.nil)))) (BL.keep rfl (BL.keep rfl (BL.keep rfl (BL.keep rfl BL.nil)))) (BK.cons rfl (bS rfl bZ) rfl rfl (BK.cons rfl (bS rfl (bS rfl bZ)) rfl rfl (BK.cons rfl (bS rfl (bS rfl (bS rfl bZ))) rfl rfl (BK.cons rfl bZ rfl (by first | rfl | simp) BK.nil))))).trans (wk_ren 961 320192 rfl rfl (nS rfl (nS rfl (nS rfl (nS rfl nZ)))))) ?_
            intro kb16 s15 H
            unfold spec_AtlasInstalled_b15 at H
            refine AW.seq ?_
            refine AW.seq ?_
            refine AW.regs ?_
            refine oMov (eS rfl (eS rfl (eS rfl eZ))) ?_
            refine oFaddrN (m := 1) (eS rfl (eS rfl (eS rfl eZ))) rfl ?_
            refine oLoadV (q := 1) (c := (.sl 320192 0 s15.2.length)) eZ (bS rfl (bS rfl (bS rfl bZ))) rfl rfl ?_
            refine oLenN eZ ?_
            refine oLss (eS rfl (eS rfl (eS rfl eZ))) eZ ?_
            refine xNil ?_
            refine TQ.qn ?_
            rcases oite H with ⟨h17, H⟩ | ⟨h17, H⟩
            · refine AW.condT eZ (decide_eq_true h17) ?_
              refine AW.skip ?_
              refine TQ.qn ?_
              refine AW.seq ?_
              refine AW.block ?_
              refine AW.seqJ (fun t18 : Bool => (spec_AtlasInstalled_j18 s15 kb16 a1) t18 = some r) (fun t18 => mk [(3, (.one (.ptr (.nm 192 0 0)))), (6, (.one (.ptr (.nm 384 0 0)))), (8, (.one (.ptr (.nm 512 0 0)))), (9, (.one (.d (.int .i64 s15.1)))), (77, (.one (.d (.bool t18))))] [(192, (.vars 9 [(.d (.int .i64 a1.Epoch)), (.d (.sl 3 (List.map d_TPart a1.Parts))), (.d (.int .i64 a1.Move.No)), (.d (.int .i64 a1.Move.Stage)), (.d (.int .i64 a1.Move.Lo)), (.d (.int .i64 a1.Move.Hi)), (.d (.int .i64 a1.Move.From)), (.d (.int .i64 a1.Move.To)), (.d (.sl 2 (List.map d_TCell a1.Move.Cells)))])), (384, (.vars 9 [(.d (.int .i64 0)), .zs, (.d (.int .i64 0)), (.d (.int .i64 0)), (.d (.int .i64 0)), (.d (.int .i64 0)), (.d (.int .i64 0)), (.d (.int .i64 0)), .zs])), (512, (.vars 9 [(.d (.int .i64 (IntKind.wrap .i64 (v7.Epoch + 1)))), (.sl 320192 0 s15.2.length), (.d (.int .i64 v7.Move.No)), (.d (.int .i64 3)), (.d (.int .i64 v7.Move.Lo)), (.d (.int .i64 v7.Move.Hi)), (.d (.int .i64 v7.Move.From)), (.d (.int .i64 v7.Move.To)), .zs])), (320192, (.data 3 (List.map d_TPart s15.2) true none))] noG) ?_ ?_
              · intro t18 H
                unfold spec_AtlasInstalled_j18 at H
                rcases oite H with ⟨h20, H⟩ | ⟨h20, H⟩
                · refine AW.condT (eS rfl (eS rfl (eS rfl (eS rfl eZ)))) h20 ?_
                  refine AW.regs ?_
                  refine oFaddrN (m := 1) (eS rfl (eS rfl eZ)) rfl ?_
                  refine oLoadV (q := 1) (c := (.sl 320192 0 s15.2.length)) eZ (bS rfl (bS rfl bZ)) rfl rfl ?_
                  refine oMov (eS rfl (eS rfl (eS rfl (eS rfl (eS rfl eZ))))) ?_
                  refine oFaddrN (m := 2) (eS rfl (eS rfl (eS rfl eZ))) rfl ?_
                  refine oFaddrN (m := 7) eZ rfl ?_
                  refine oLoadV (q := 7) (c := (.d (.int .i64 a1.Move.To))) eZ bZ rfl rfl ?_
                  obtain ⟨v21, h22, H⟩ := obind H
                  refine oAtN (eS rfl (eS rfl (eS rfl (eS rfl eZ)))) (eS rfl (eS rfl (eS rfl eZ))) (bS rfl (bS rfl (bS rfl bZ))) rfl h22 ?_
                  refine oFaddrN (m := 2) eZ rfl ?_
                  refine oStoreD (t := v21) (t' := (TPart.mk v21.Lo v21.Hi a1.Move.To)) (es := [(.int .i64 a1.Move.To)]) eZ (eS rfl (eS rfl eZ)) rfl rfl (bS rfl (bS rfl (bS rfl bZ))) (idx_at h22) rfl rfl ?_
                  refine xNil ?_
                  refine BQ.qn ?_
                  refine TQ.qn ?_
                  refine AW.regs ?_
                  refine oMov (eS rfl (eS rfl (eS rfl (eS rfl (eS rfl (eS rfl (eS rfl (eS rfl (eS rfl (eS rfl (eS rfl eZ))))))))))) ?_
                  refine oAdd eZ eC ?_
                  refine oMov eZ ?_
                  refine xNil ?_
                  exact TQ.qn ⟨((IntKind.wrap .i64 (s15.1 + 1)), s15.2.set (Int.toNat s15.1) (TPart.mk v21.Lo v21.Hi a1.Move.To)), H, (wk_mk [] (SL.cons (eS rfl (eS rfl (eS rfl (eS rfl (eS rfl (eS rfl (eS rfl (eS rfl (eS rfl (eS rfl (eS rfl eZ))))))))))) rfl VWk.rfl (SL.cons (eS rfl (eS rfl (eS rfl (eS rfl (eS rfl (eS rfl (eS rfl (eS rfl (eS rfl (eS rfl (eS rfl (eS rfl eZ)))))))))))) rfl VWk.rfl (SL.cons (eS rfl (eS rfl (eS rfl (eS rfl (eS rfl (eS rfl (eS rfl (eS rfl (eS rfl (eS rfl (eS rfl (eS rfl (eS rfl eZ))))))))))))) rfl VWk.rfl (SL.cons eZ rfl VWk.rfl SL.nil)))) (BL.keep rfl (BL.keep rfl (BL.keep rfl (BL.keep rfl (BL.keep rfl BL.nil))))) (BK.cons rfl (bS rfl bZ) rfl rfl (BK.cons rfl (bS rfl (bS rfl bZ)) rfl rfl (BK.cons rfl bZ rfl rfl (BK.cons rfl (bS rfl (bS rfl (bS rfl bZ))) rfl (by first | rfl | simp) BK.nil)))))⟩
                · refine AW.condF (eS rfl (eS rfl (eS rfl (eS rfl eZ)))) (nt h20) ?_
                  refine AW.skip ?_
                  refine BQ.qn ?_
                  refine TQ.qn ?_
                  refine AW.regs ?_
                  refine oMov (eS rfl (eS rfl (eS rfl eZ))) ?_
                  refine oAdd eZ eC ?_
                  refine oMov eZ ?_
                  refine xNil ?_
                  exact TQ.qn ⟨((IntKind.wrap .i64 (s15.1 + 1)), s15.2), H, (wk_mk [] (SL.cons (eS rfl (eS rfl (eS rfl eZ))) rfl VWk.rfl (SL.cons (eS rfl (eS rfl (eS rfl (eS rfl eZ)))) rfl VWk.rfl (SL.cons (eS rfl (eS rfl (eS rfl (eS rfl (eS rfl eZ))))) rfl VWk.rfl (SL.cons eZ rfl VWk.rfl SL.nil)))) (BL.keep rfl (BL.keep rfl (BL.keep rfl (BL.keep rfl BL.nil)))) (BK.cons rfl bZ rfl rfl (BK.cons rfl (bS rfl bZ) rfl rfl (BK.cons rfl (bS rfl (bS rfl (bS rfl bZ))) rfl rfl (BK.cons rfl (bS rfl (bS rfl bZ)) rfl (by first | rfl | simp) BK.nil)))))⟩
              · refine AW.regd ?_
                refine oFaddrN (m := 1) (eS rfl (eS rfl (eS rfl (eS rfl (eS rfl (eS rfl (eS rfl eZ))))))) rfl ?_
                refine oLoadV (q := 1) (c := (.sl 320192 0 s15.2.length)) eZ (bS rfl (bS rfl (bS rfl bZ))) rfl rfl ?_
                refine oMov (eS rfl (eS rfl (eS rfl (eS rfl (eS rfl (eS rfl (eS rfl (eS rfl (eS rfl (eS rfl eZ)))))))))) ?_
                obtain ⟨v23, h24, H⟩ := obind H
                refine oAtN (eS rfl eZ) eZ (bS rfl (bS rfl bZ)) rfl h24 ?_
                refine oFaddrN (m := 0) eZ rfl ?_
                refine oLoadD (t := v23) (e := (.int .i64 v23.Lo)) eZ (bS rfl (bS rfl bZ)) (idx_at h24) rfl rfl ?_
                refine oFaddrN (m := 2) (eS rfl (eS rfl (eS rfl (eS rfl (eS rfl (eS rfl (eS rfl (eS rfl (eS rfl (eS rfl (eS rfl eZ))))))))))) rfl ?_
                refine oFaddrN (m := 4) eZ rfl ?_
                refine oLoadV (q := 4) (c := (.d (.int .i64 a1.Move.Lo))) eZ bZ rfl rfl ?_
                refine oGeq (eS rfl (eS rfl (eS rfl eZ))) eZ ?_
                refine oMov eZ ?_
                rcases oite H with ⟨h25, H⟩ | ⟨h25, H⟩
                · refine gDo eZ (decide_eq_true h25) ?_
                  refine oFaddrN (m := 1) (eS rfl (eS rfl (eS rfl (eS rfl (eS rfl (eS rfl (eS rfl (eS rfl (eS rfl (eS rfl (eS rfl (eS rfl (eS rfl (eS rfl (eS rfl (eS rfl (eS rfl (eS rfl eZ)))))))))))))))))) rfl ?_
                  refine gDo (eS rfl eZ) (decide_eq_true h25) ?_
                  refine oLoadV (q := 1) (c := (.sl 320192 0 s15.2.length)) eZ (bS rfl (bS rfl (bS rfl bZ))) rfl rfl ?_
                  refine gDo (eS rfl (eS rfl eZ)) (decide_eq_true h25) ?_
                  refine oMov (eS rfl (eS rfl (eS rfl (eS rfl (eS rfl (eS rfl (eS rfl (eS rfl (eS rfl (eS rfl (eS rfl (eS rfl (eS rfl (eS rfl (eS rfl (eS rfl (eS rfl (eS rfl (eS rfl (eS rfl (eS rfl eZ))))))))))))))))))))) ?_
                  refine gDo (eS rfl (eS rfl (eS rfl eZ))) (decide_eq_true h25) ?_
                  obtain ⟨v26, h27, H⟩ := obind H
                  refine oAtN (eS rfl eZ) eZ (bS rfl (bS rfl bZ)) rfl h27 ?_
                  refine gDo (eS rfl (eS rfl (eS rfl (eS rfl eZ)))) (decide_eq_true h25) ?_
                  refine oFaddrN (m := 1) eZ rfl ?_
                  refine gDo (eS rfl (eS rfl (eS rfl (eS rfl (eS rfl eZ))))) (decide_eq_true h25) ?_
                  refine oLoadD (t := v26) (e := (.int .i64 v26.Hi)) eZ (bS rfl (bS rfl bZ)) (idx_at h27) rfl rfl ?_
                  refine gDo (eS rfl (eS rfl (eS rfl (eS rfl (eS rfl (eS rfl eZ)))))) (decide_eq_true h25) ?_
                  refine oFaddrN (m := 2) (eS rfl (eS rfl (eS rfl (eS rfl (eS rfl (eS rfl (eS rfl (eS rfl (eS rfl (eS rfl (eS rfl (eS rfl (eS rfl (eS rfl (eS rfl (eS rfl (eS rfl (eS rfl (eS rfl (eS rfl (eS rfl (eS rfl eZ)))))))))))))))))))))) rfl ?_
                  refine gDo (eS rfl (eS rfl (eS rfl (eS rfl (eS rfl (eS rfl (eS rfl eZ))))))) (decide_eq_true h25) ?_
                  refine oFaddrN (m := 5) eZ rfl ?_
                  refine gDo (eS rfl (eS rfl (eS rfl (eS rfl (eS rfl (eS rfl (eS rfl (eS rfl eZ)))))))) (decide_eq_true h25) ?_
                  refine oLoadV (q := 5) (c := (.d (.int .i64 a1.Move.Hi))) eZ bZ rfl rfl ?_
                  refine gDo (eS rfl (eS rfl (eS rfl (eS rfl (eS rfl (eS rfl (eS rfl (eS rfl (eS rfl eZ))))))))) (decide_eq_true h25) ?_
                  refine oLeq (eS rfl (eS rfl (eS rfl eZ))) eZ ?_
                  refine oPickT (eS rfl (eS rfl (eS rfl (eS rfl (eS rfl (eS rfl (eS rfl (eS rfl (eS rfl (eS rfl eZ)))))))))) (decide_eq_true h25) eZ ?_
                  refine xNil ?_
                  exact TQ.qn ⟨(decide (v26.Hi ≤ a1.Move.Hi)), H, (wk_mk [] (SL.cons (eS rfl (eS rfl (eS rfl (eS rfl (eS rfl (eS rfl (eS rfl (eS rfl (eS rfl (eS rfl (eS rfl (eS rfl (eS rfl (eS rfl (eS rfl (eS rfl (eS rfl (eS rfl (eS rfl (eS rfl (eS rfl (eS rfl (eS rfl (eS rfl (eS rfl (eS rfl (eS rfl eZ))))))))))))))))))))))))))) rfl VWk.rfl (SL.cons (eS rfl (eS rfl (eS rfl (eS rfl (eS rfl (eS rfl (eS rfl (eS rfl (eS rfl (eS rfl (eS rfl (eS rfl (eS rfl (eS rfl (eS rfl (eS rfl (eS rfl (eS rfl (eS rfl (eS rfl (eS rfl (eS rfl (eS rfl (eS rfl (eS rfl (eS rfl (eS rfl (eS rfl eZ)))))))))))))))))))))))))))) rfl VWk.rfl (SL.cons (eS rfl (eS rfl (eS rfl (eS rfl (eS rfl (eS rfl (eS rfl (eS rfl (eS rfl (eS rfl (eS rfl (eS rfl (eS rfl (eS rfl (eS rfl (eS rfl (eS rfl (eS rfl (eS rfl (eS rfl (eS rfl (eS rfl (eS rfl (eS rfl (eS rfl (eS rfl (eS rfl (eS rfl (eS rfl eZ))))))))))))))))))))))))))))) rfl VWk.rfl (SL.cons (eS rfl (eS rfl (eS rfl (eS rfl (eS rfl (eS rfl (eS rfl (eS rfl (eS rfl (eS rfl (eS rfl (eS rfl (eS rfl (eS rfl (eS rfl (eS rfl (eS rfl (eS rfl (eS rfl (eS rfl (eS rfl (eS rfl (eS rfl (eS rfl (eS rfl (eS rfl (eS rfl (eS rfl (eS rfl (eS rfl eZ)))))))))))))))))))))))))))))) rfl VWk.rfl (SL.cons eZ rfl VWk.rfl SL.nil))))) (BL.keep rfl (BL.keep rfl (BL.keep rfl (BL.keep rfl BL.nil)))) (BK.cons rfl bZ rfl rfl (BK.cons rfl (bS rfl bZ) rfl rfl (BK.cons rfl (bS rfl (bS rfl (bS rfl bZ))) rfl (by first | rfl | simp) (BK.cons rfl (bS rfl (bS rfl bZ)) rfl rfl BK.nil)))))⟩
                · refine gSkip eZ (decide_eq_false h25) rfl ?_
                  refine gSkip (eS rfl eZ) (decide_eq_false h25) rfl ?_
                  refine gSkip (eS rfl (eS rfl eZ)) (decide_eq_false h25) rfl ?_
                  refine gSkip (eS rfl (eS rfl (eS rfl eZ))) (decide_eq_false h25) rfl ?_
                  refine gSkip (eS rfl (eS rfl (eS rfl (eS rfl eZ)))) (decide_eq_false h25) rfl ?_
                  refine gSkip (eS rfl (eS rfl (eS rfl (eS rfl (eS rfl eZ))))) (decide_eq_false h25) rfl ?_
                  refine gSkip (eS rfl (eS rfl (eS rfl (eS rfl (eS rfl (eS rfl eZ)))))) (decide_eq_false h25) rfl ?_
                  refine gSkip (eS rfl (eS rfl (eS rfl (eS rfl (eS rfl (eS rfl (eS rfl eZ))))))) (decide_eq_false h25) rfl ?_
                  refine gSkip (eS rfl (eS rfl (eS rfl (eS rfl (eS rfl (eS rfl (eS rfl (eS rfl eZ)))))))) (decide_eq_false h25) rfl ?_
                  refine gSkip (eS rfl (eS rfl (eS rfl (eS rfl (eS rfl (eS rfl (eS rfl (eS rfl (eS rfl eZ))))))))) (decide_eq_false h25) rfl ?_
                  refine oPickF (eS rfl (eS rfl (eS rfl (eS rfl (eS rfl (eS rfl (eS rfl (eS rfl (eS rfl (eS rfl eZ)))))))))) (decide_eq_false h25) eC ?_
                  refine xNil ?_
                  exact TQ.qn ⟨false, H, (wk_mk [] (SL.cons (eS rfl (eS rfl (eS rfl (eS rfl (eS rfl (eS rfl (eS rfl (eS rfl (eS rfl (eS rfl (eS rfl (eS rfl (eS rfl (eS rfl (eS rfl (eS rfl (eS rfl (eS rfl (eS rfl (eS rfl (eS rfl (eS rfl (eS rfl (eS rfl (eS rfl (eS rfl (eS rfl eZ))))))))))))))))))))))))))) rfl VWk.rfl (SL.cons (eS rfl (eS rfl (eS rfl (eS rfl (eS rfl (eS rfl (eS rfl (eS rfl (eS rfl (eS rfl (eS rfl (eS rfl (eS rfl (eS rfl (eS rfl (eS rfl (eS rfl (eS rfl (eS rfl (eS rfl (eS rfl (eS rfl (eS rfl (eS rfl (eS rfl (eS rfl (eS rfl (eS rfl eZ)))))))))))))))))))))))))))) rfl VWk.rfl (SL.cons (eS rfl (eS rfl (eS rfl (eS rfl (eS rfl (eS rfl (eS rfl (eS rfl (eS rfl (eS rfl (eS rfl (eS rfl (eS rfl (eS rfl (eS rfl (eS rfl (eS rfl (eS rfl (eS rfl (eS rfl (eS rfl (eS rfl (eS rfl (eS rfl (eS rfl (eS rfl (eS rfl (eS rfl (eS rfl eZ))))))))))))))))))))))))))))) rfl VWk.rfl (SL.cons (eS rfl (eS rfl (eS rfl (eS rfl (eS rfl (eS rfl (eS rfl (eS rfl (eS rfl (eS rfl (eS rfl (eS rfl (eS rfl (eS rfl (eS rfl (eS rfl (eS rfl (eS rfl (eS rfl (eS rfl (eS rfl (eS rfl (eS rfl (eS rfl (eS rfl (eS rfl (eS rfl (eS rfl (eS rfl (eS rfl eZ)))))))))))))))))))))))))))))) rfl VWk.rfl (SL.cons eZ rfl VWk.rfl SL.nil))))) (BL.keep rfl (BL.keep rfl (BL.keep rfl (BL.keep rfl BL.nil)))) (BK.cons rfl bZ rfl rfl (BK.cons rfl (bS rfl bZ) rfl rfl (BK.cons rfl (bS rfl (bS rfl (bS rfl bZ))) rfl (by first | rfl | simp) (BK.cons rfl (bS rfl (bS rfl bZ)) rfl rfl BK.nil)))))⟩
            · refine AW.condF eZ (decide_eq_false h17) ?_
              refine AW.exit ?_
              refine TQ.qe ?_
              refine TQ.qe ?_
              refine BQ.qe ?_
              exact TQ.qn ⟨s15.2, H, ((wk_mk [192] (SL.cons (eS rfl (eS rfl (eS rfl (eS rfl (eS rfl (eS rfl eZ)))))) rfl VWk.rfl (SL.cons (eS rfl (eS rfl (eS rfl (eS rfl (eS rfl (eS rfl (eS rfl eZ))))))) rfl VWk.rfl SL.nil)) (BL.drop rfl (BL.keep rfl (BL.keep rfl (BL.keep rfl BL.nil)))) (BK.cons rfl (bS rfl bZ) rfl rfl (BK.cons rfl (bS rfl (bS rfl bZ)) rfl rfl (BK.cons rfl (bS rfl (bS rfl (bS rfl bZ))) rfl (by first | rfl | simp) BK.nil)))).trans (wk_ren 320192 320128 rfl rfl (nS rfl (nS rfl (nS rfl (nS rfl nZ))))))⟩
        · refine AW.condT eZ (congrArg Bool.not (nt h12)) ?_
          refine AW.seq ?_
          refine AW.regs ?_
          refine oLoadVA (es := [(.d (.int .i64 v7.Epoch)), (.sl 961 0 v7.Parts.length), (.d (.int .i64 v7.Move.No)), (.d (.int .i64 4)), (.d (.int .i64 v7.Move.Lo)), (.d (.int .i64 v7.Move.Hi)), (.d (.int .i64 v7.Move.From)), (.d (.int .i64 v7.Move.To)), .zs]) (eS rfl (eS rfl (eS rfl (eS rfl (eS rfl (eS rfl (eS rfl (eS rfl (eS rfl eZ))))))))) bZ rfl ?_
          refine oStoreV (es := [(.d (.int .i64 v7.Epoch)), (.sl 961 0 v7.Parts.length), (.d (.int .i64 v7.Move.No)), (.d (.int .i64 4)), (.d (.int .i64 v7.Move.Lo)), (.d (.int .i64 v7.Move.Hi)), (.d (.int .i64 v7.Move.From)), (.d (.int .i64 v7.Move.To)), .zs]) (eS rfl (eS rfl (eS rfl (eS rfl (eS rfl (eS rfl (eS rfl (eS rfl (eS rfl eZ))))))))) eZ rfl rfl (bS rfl (bS rfl (bS rfl bZ))) rfl ?_
          refine oMov eC ?_
          refine xNil ?_
          refine TQ.qn ?_
          refine AW.ret ?_
          refine TQ.qr ?_
          obtain rfl := Option.some.inj H
          exact endsR (RL.cons (RV.cellA (es := [(.d (.int .i64 v7.Epoch)), (.sl 961 0 v7.Parts.length), (.d (.int .i64 v7.Move.No)), (.d (.int .i64 4)), (.d (.int .i64 v7.Move.Lo)), (.d (.int .i64 v7.Move.Hi)), (.d (.int .i64 v7.Move.From)), (.d (.int .i64 v7.Move.To)), .zs]) (eS rfl (eS rfl (eS rfl (eS rfl (eS rfl (eS rfl (eS rfl (eS rfl (eS rfl (eS rfl eZ)))))))))) bZ rfl) (VO.aggs (VOs.cons (VO.flat rfl) (VOs.cons (VO.sl (bS rfl (bS rfl (bS rfl (bS rfl (bS rfl (bS rfl bZ)))))) (List.length_map _) (allFlat fun _ => rfl)) (VOs.cons (VO.flat rfl) (VOs.cons (VO.flat rfl) (VOs.cons (VO.flat rfl) (VOs.cons (VO.flat rfl) (VOs.cons (VO.flat rfl) (VOs.cons (VO.flat rfl) (VOs.cons VO.zs VOs.nil)))))))))) (RL.cons (RV.tmp eZ) (VO.flat rfl) RL.nil)) (by decide)
    · refine AW.regs ?_
      refine oFaddrN (m := 2) (eS rfl (eS rfl (eS rfl (eS rfl (eS rfl (eS rfl (eS rfl (eS rfl eZ)))))))) rfl ?_
      refine oFaddrN (m := 3) eZ rfl ?_
      refine oLoadV (q := 3) (c := (.d (.int .i64 a1.Move.Stage))) eZ (bS rfl (bS rfl (bS rfl (bS rfl (bS rfl bZ))))) rfl rfl ?_
      refine oNeq eZ eC ?_
      refine oMov eZ ?_
      rcases oite H with ⟨h28, H⟩ | ⟨h28, H⟩
      · refine gSkip eZ (decide_eq_true h28) rfl ?_
        refine gSkip (eS rfl eZ) (decide_eq_true h28) rfl ?_
        refine gSkip (eS rfl (eS rfl eZ)) (decide_eq_true h28) rfl ?_
        refine gSkip (eS rfl (eS rfl (eS rfl eZ))) (decide_eq_true h28) rfl ?_
        refine gSkip (eS rfl (eS rfl (eS rfl (eS rfl eZ)))) (decide_eq_true h28) rfl ?_
        refine oPickT (eS rfl (eS rfl (eS rfl (eS rfl (eS rfl eZ))))) (decide_eq_true h28) eC ?_
        refine oMov eZ ?_
        refine gSkip eZ rfl rfl ?_
        refine gSkip (eS rfl eZ) rfl rfl ?_
        refine gSkipU eZ rfl ?_
        refine gSkipU (eS rfl eZ) rfl ?_
        refine gSkipU (eS rfl (eS rfl eZ)) rfl ?_
        refine gSkip (eS rfl (eS rfl (eS rfl (eS rfl (eS rfl eZ))))) rfl rfl ?_
        refine oPickT (eS rfl (eS rfl (eS rfl (eS rfl (eS rfl (eS rfl eZ)))))) rfl eC ?_
        refine xNil ?_
        exact TQ.qn ⟨true, H, (wk_mk [] (SL.cons (eS rfl (eS rfl (eS rfl (eS rfl (eS rfl (eS rfl (eS rfl (eS rfl (eS rfl (eS rfl (eS rfl (eS rfl (eS rfl (eS rfl (eS rfl (eS rfl (eS rfl (eS rfl (eS rfl (eS rfl (eS rfl (eS rfl (eS rfl (eS rfl (eS rfl (eS rfl (eS rfl (eS rfl (eS rfl (eS rfl eZ)))))))))))))))))))))))))))))) rfl VWk.rfl (SL.cons (eS rfl (eS rfl (eS rfl (eS rfl (eS rfl (eS rfl (eS rfl (eS rfl (eS rfl (eS rfl (eS rfl (eS rfl (eS rfl (eS rfl (eS rfl (eS rfl (eS rfl (eS rfl (eS rfl (eS rfl (eS rfl (eS rfl (eS rfl (eS rfl (eS rfl (eS rfl (eS rfl eZ))))))))))))))))))))))))))) rfl VWk.rfl (SL.cons (eS rfl (eS rfl (eS rfl (eS rfl (eS rfl (eS rfl (eS rfl (eS rfl (eS rfl (eS rfl (eS rfl (eS rfl (eS rfl (eS rfl (eS rfl (eS rfl (eS rfl (eS rfl (eS rfl (eS rfl (eS rfl (eS rfl (eS rfl (eS rfl (eS rfl (eS rfl eZ)))))))))))))))))))))))))) rfl VWk.rfl (SL.cons (eS rfl (eS rfl (eS rfl (eS rfl (eS rfl (eS rfl (eS rfl (eS rfl (eS rfl (eS rfl (eS rfl (eS rfl (eS rfl (eS rfl (eS rfl (eS rfl (eS rfl (eS rfl (eS rfl eZ))))))))))))))))))) rfl VWk.rfl (SL.cons eZ rfl VWk.rfl SL.nil))))) (BL.keep rfl (BL.keep rfl (BL.keep rfl (BL.keep rfl (BL.keep rfl (BL.keep rfl BL.nil)))))) (BK.cons rfl (bS rfl (bS rfl (bS rfl (bS rfl (bS rfl bZ))))) rfl rfl (BK.cons rfl (bS rfl (bS rfl (bS rfl (bS rfl bZ)))) rfl rfl (BK.cons rfl bZ rfl (by first | rfl | simp) (BK.cons rfl (bS rfl (bS rfl (bS rfl bZ))) rfl rfl (BK.cons rfl (bS rfl (bS rfl bZ)) rfl rfl BK.nil))))))⟩
      · refine gDo eZ (decide_eq_false h28) ?_
        refine oFaddrN (m := 2) (eS rfl (eS rfl (eS rfl (eS rfl (eS rfl (eS rfl (eS rfl (eS rfl (eS rfl (eS rfl (eS rfl (eS rfl (eS rfl eZ))))))))))))) rfl ?_
        refine gDo (eS rfl eZ) (decide_eq_false h28) ?_
        refine oLoadVA (es := [(.d (.int .i64 a1.Move.No)), (.d (.int .i64 a1.Move.Stage)), (.d (.int .i64 a1.Move.Lo)), (.d (.int .i64 a1.Move.Hi)), (.d (.int .i64 a1.Move.From)), (.d (.int .i64 a1.Move.To)), (.d (.sl 2 (List.map d_TCell a1.Move.Cells)))]) eZ (bS rfl (bS rfl (bS rfl (bS rfl (bS rfl bZ))))) rfl ?_
        refine gDo (eS rfl (eS rfl eZ)) (decide_eq_false h28) ?_
        obtain ⟨v29, h30, H⟩ := obind H
        refine oCall (u := (.one (.d (.int .i64 v29)))) eC Cl.fn (c_spec_MoveRank h30) (Evs.cons eZ Evs.nil) (VDs.cons (VD.agg rfl) VDs.nil) rfl ?_
        refine gDo (eS rfl (eS rfl (eS rfl eZ))) (decide_eq_false h28) ?_
        refine oMov (eS rfl (eS rfl (eS rfl (eS rfl (eS rfl (eS rfl (eS rfl (eS rfl (eS rfl (eS rfl (eS rfl (eS rfl (eS rfl (eS rfl (eS rfl (eS rfl (eS rfl (eS rfl eZ)))))))))))))))))) ?_
        refine gDo (eS rfl (eS rfl (eS rfl (eS rfl eZ)))) (decide_eq_false h28) ?_
        refine oNeq (eS rfl eZ) eZ ?_
        refine oPickF (eS rfl (eS rfl (eS rfl (eS rfl (eS rfl eZ))))) (decide_eq_false h28) eZ ?_
        refine oMov eZ ?_
        rcases oite H with ⟨h31, H⟩ | ⟨h31, H⟩
        · refine gSkip eZ (decide_eq_true h31) rfl ?_
          refine gSkip (eS rfl eZ) (decide_eq_true h31) rfl ?_
          refine gSkipU eZ rfl ?_
          refine gSkipU (eS rfl eZ) rfl ?_
          refine gSkipU (eS rfl (eS rfl eZ)) rfl ?_
          refine gSkip (eS rfl (eS rfl (eS rfl (eS rfl (eS rfl eZ))))) (decide_eq_true h31) rfl ?_
          refine oPickT (eS rfl (eS rfl (eS rfl (eS rfl (eS rfl (eS rfl eZ)))))) (decide_eq_true h31) eC ?_
          refine xNil ?_
          exact TQ.qn ⟨true, H, (wk_mk [] (SL.cons (eS rfl (eS rfl (eS rfl (eS rfl (eS rfl (eS rfl (eS rfl (eS rfl (eS rfl (eS rfl (eS rfl (eS rfl (eS rfl (eS rfl (eS rfl (eS rfl (eS rfl (eS rfl (eS rfl (eS rfl (eS rfl (eS rfl (eS rfl (eS rfl (eS rfl (eS rfl (eS rfl (eS rfl (eS rfl (eS rfl eZ)))))))))))))))))))))))))))))) rfl VWk.rfl (SL.cons (eS rfl (eS rfl (eS rfl (eS rfl (eS rfl (eS rfl (eS rfl (eS rfl (eS rfl (eS rfl (eS rfl (eS rfl (eS rfl (eS rfl (eS rfl (eS rfl (eS rfl (eS rfl (eS rfl (eS rfl (eS rfl (eS rfl (eS rfl (eS rfl (eS rfl (eS rfl (eS rfl eZ))))))))))))))))))))))))))) rfl VWk.rfl (SL.cons (eS rfl (eS rfl (eS rfl (eS rfl (eS rfl (eS rfl (eS rfl (eS rfl (eS rfl (eS rfl (eS rfl (eS rfl (eS rfl (eS rfl (eS rfl (eS rfl (eS rfl (eS rfl (eS rfl (eS rfl (eS rfl (eS rfl (eS rfl (eS rfl (eS rfl (eS rfl eZ)))))))))))))))))))))))))) rfl VWk.rfl (SL.cons (eS rfl (eS rfl (eS rfl (eS rfl (eS rfl (eS rfl (eS rfl (eS rfl (eS rfl (eS rfl (eS rfl (eS rfl (eS rfl (eS rfl (eS rfl (eS rfl (eS rfl (eS rfl (eS rfl eZ))))))))))))))))))) rfl VWk.rfl (SL.cons eZ rfl VWk.rfl SL.nil))))) (BL.keep rfl (BL.keep rfl (BL.keep rfl (BL.keep rfl (BL.keep rfl (BL.keep rfl BL.nil)))))) (BK.cons rfl (bS rfl (bS rfl (bS rfl (bS rfl (bS rfl bZ))))) rfl rfl (BK.cons rfl (bS rfl (bS rfl (bS rfl (bS rfl bZ)))) rfl rfl (BK.cons rfl bZ rfl (by first | rfl | simp) (BK.cons rfl (bS rfl (bS rfl (bS rfl bZ))) rfl rfl (BK.cons rfl (bS rfl (bS rfl bZ)) rfl rfl BK.nil))))))⟩
        · refine gDo eZ (decide_eq_false h31) ?_
          refine oMov (eS rfl (eS rfl (eS rfl (eS rfl (eS rfl (eS rfl (eS rfl (eS rfl (eS rfl (eS rfl (eS rfl (eS rfl (eS rfl (eS rfl (eS rfl (eS rfl (eS rfl (eS rfl (eS rfl (eS rfl (eS rfl (eS rfl (eS rfl eZ))))))))))))))))))))))) ?_
          refine gDo (eS rfl eZ) (decide_eq_false h31) ?_
          refine oMov eZ ?_
          rcases oite H with ⟨h32, H⟩ | ⟨h32, H⟩
          · refine gDo eZ h32 ?_
            refine oFaddrN (m := 0) (eS rfl (eS rfl (eS rfl (eS rfl (eS rfl (eS rfl (eS rfl (eS rfl (eS rfl (eS rfl (eS rfl (eS rfl (eS rfl (eS rfl (eS rfl (eS rfl (eS rfl (eS rfl (eS rfl (eS rfl (eS rfl (eS rfl eZ)))))))))))))))))))))) rfl ?_
            refine gDo (eS rfl eZ) h32 ?_
            refine oLoadV (q := 0) (c := (.d (.int .i64 a1.Epoch))) eZ (bS rfl (bS rfl (bS rfl (bS rfl (bS rfl bZ))))) rfl rfl ?_
            refine gDo (eS rfl (eS rfl eZ)) h32 ?_
            refine oEql eZ eC ?_
            refine gDo (eS rfl (eS rfl (eS rfl (eS rfl (eS rfl eZ))))) (decide_eq_false h31) ?_
            refine oPickT (eS rfl (eS rfl (eS rfl eZ))) h32 eZ ?_
            refine oPickF (eS rfl (eS rfl (eS rfl (eS rfl (eS rfl (eS rfl eZ)))))) (decide_eq_false h31) eZ ?_
            refine xNil ?_
            exact TQ.qn ⟨(decide (a1.Epoch = 1000000)), H, (wk_mk [] (SL.cons (eS rfl (eS rfl (eS rfl (eS rfl (eS rfl (eS rfl (eS rfl (eS rfl (eS rfl (eS rfl (eS rfl (eS rfl (eS rfl (eS rfl (eS rfl (eS rfl (eS rfl (eS rfl (eS rfl (eS rfl (eS rfl (eS rfl (eS rfl (eS rfl (eS rfl (eS rfl (eS rfl (eS rfl (eS rfl (eS rfl eZ)))))))))))))))))))))))))))))) rfl VWk.rfl (SL.cons (eS rfl (eS rfl (eS rfl (eS rfl (eS rfl (eS rfl (eS rfl (eS rfl (eS rfl (eS rfl (eS rfl (eS rfl (eS rfl (eS rfl (eS rfl (eS rfl (eS rfl (eS rfl (eS rfl (eS rfl (eS rfl (eS rfl (eS rfl (eS rfl (eS rfl (eS rfl (eS rfl eZ))))))))))))))))))))))))))) rfl VWk.rfl (SL.cons (eS rfl (eS rfl (eS rfl (eS rfl (eS rfl (eS rfl (eS rfl (eS rfl (eS rfl (eS rfl (eS rfl (eS rfl (eS rfl (eS rfl (eS rfl (eS rfl (eS rfl (eS rfl (eS rfl (eS rfl (eS rfl (eS rfl (eS rfl (eS rfl (eS rfl (eS rfl eZ)))))))))))))))))))))))))) rfl VWk.rfl (SL.cons (eS rfl (eS rfl (eS rfl (eS rfl (eS rfl (eS rfl (eS rfl (eS rfl (eS rfl (eS rfl (eS rfl (eS rfl (eS rfl (eS rfl (eS rfl (eS rfl (eS rfl (eS rfl (eS rfl eZ))))))))))))))))))) rfl VWk.rfl (SL.cons eZ rfl VWk.rfl SL.nil))))) (BL.keep rfl (BL.keep rfl (BL.keep rfl (BL.keep rfl (BL.keep rfl (BL.keep rfl BL.nil)))))) (BK.cons rfl (bS rfl (bS rfl (bS rfl (bS rfl (bS rfl bZ))))) rfl rfl (BK.cons rfl (bS rfl (bS rfl (bS rfl (bS rfl bZ)))) rfl rfl (BK.cons rfl bZ rfl (by first | rfl | simp) (BK.cons rfl (bS rfl (bS rfl (bS rfl bZ))) rfl rfl (BK.cons rfl (bS rfl (bS rfl bZ)) rfl rfl BK.nil))))))⟩
          · refine gSkip eZ (nt h32) rfl ?_
            refine gSkip (eS rfl eZ) (nt h32) rfl ?_
            refine gSkip (eS rfl (eS rfl eZ)) (nt h32) rfl ?_
            refine gDo (eS rfl (eS rfl (eS rfl (eS rfl (eS rfl eZ))))) (decide_eq_false h31) ?_
            refine oPickF (eS rfl (eS rfl (eS rfl eZ))) (nt h32) eC ?_
            refine oPickF (eS rfl (eS rfl (eS rfl (eS rfl (eS rfl (eS rfl eZ)))))) (decide_eq_false h31) eZ ?_
            refine xNil ?_
            exact TQ.qn ⟨false, H, (wk_mk [] (SL.cons (eS rfl (eS rfl (eS rfl (eS rfl (eS rfl (eS rfl (eS rfl (eS rfl (eS rfl (eS rfl (eS rfl (eS rfl (eS rfl (eS rfl (eS rfl (eS rfl (eS rfl (eS rfl (eS rfl (eS rfl (eS rfl (eS rfl (eS rfl (eS rfl (eS rfl (eS rfl (eS rfl (eS rfl (eS rfl (eS rfl eZ)))))))))))))))))))))))))))))) rfl VWk.rfl (SL.cons (eS rfl (eS rfl (eS rfl (eS rfl (eS rfl (eS rfl (eS rfl (eS rfl (eS rfl (eS rfl (eS rfl (eS rfl (eS rfl (eS rfl (eS rfl (eS rfl (eS rfl (eS rfl (eS rfl (eS rfl (eS rfl (eS rfl (eS rfl (eS rfl (eS rfl (eS rfl (eS rfl eZ))))))))))))))))))))))))))) rfl VWk.rfl (SL.cons (eS rfl (eS rfl (eS rfl (eS rfl (eS rfl (eS rfl (eS rfl (eS rfl (eS rfl (eS rfl (eS rfl (eS rfl (eS rfl (eS rfl (eS rfl (eS rfl (eS rfl (eS rfl (eS rfl (eS rfl (eS rfl (eS rfl (eS rfl (eS rfl (eS rfl (eS rfl eZ)))))))))))))))))))))))))) rfl VWk.rfl (SL.cons (eS rfl (eS rfl (eS rfl (eS rfl (eS rfl (eS rfl (eS rfl (eS rfl (eS rfl (eS rfl (eS rfl (eS rfl (eS rfl (eS rfl (eS rfl (eS rfl (eS rfl (eS rfl (eS rfl eZ))))))))))))))))))) rfl VWk.rfl (SL.cons eZ rfl VWk.rfl SL.nil))))) (BL.keep rfl (BL.keep rfl (BL.keep rfl (BL.keep rfl (BL.keep rfl (BL.keep rfl BL.nil)))))) (BK.cons rfl (bS rfl (bS rfl (bS rfl (bS rfl (bS rfl bZ))))) rfl rfl (BK.cons rfl (bS rfl (bS rfl (bS rfl (bS rfl bZ)))) rfl rfl (BK.cons rfl bZ rfl (by first | rfl | simp) (BK.cons rfl (bS rfl (bS rfl (bS rfl bZ))) rfl rfl (BK.cons rfl (bS rfl (bS rfl bZ)) rfl rfl BK.nil))))))⟩
  · refine AW.condT eZ (congrArg Bool.not (nt h6)) ?_
    refine AW.seq ?_
    refine AW.regs ?_
    refine oBuild (cs := [(.d (.int .i64 0)), .zs, (.d (.int .i64 0)), (.d (.int .i64 0)), (.d (.int .i64 0)), (.d (.int .i64 0)), (.d (.int .i64 0)), (.d (.int .i64 0)), .zs]) PsNil rfl ?_
    refine oStoreV (es := [(.d (.int .i64 0)), .zs, (.d (.int .i64 0)), (.d (.int .i64 0)), (.d (.int .i64 0)), (.d (.int .i64 0)), (.d (.int .i64 0)), (.d (.int .i64 0)), .zs]) (eS rfl (eS rfl (eS rfl (eS rfl (eS rfl eZ))))) eZ rfl rfl bZ rfl ?_
    refine oMov eC ?_
    refine xNil ?_
    refine TQ.qn ?_
    refine AW.ret ?_
    refine TQ.qr ?_
    obtain rfl := Option.some.inj H
    exact endsR (RL.cons (RV.cellA (es := [(.d (.int .i64 0)), .zs, (.d (.int .i64 0)), (.d (.int .i64 0)), (.d (.int .i64 0)), (.d (.int .i64 0)), (.d (.int .i64 0)), (.d (.int .i64 0)), .zs]) (eS rfl (eS rfl (eS rfl (eS rfl (eS rfl (eS rfl eZ)))))) bZ rfl) (VO.aggs (VOs.cons (VO.flat rfl) (VOs.cons VO.zs (VOs.cons (VO.flat rfl) (VOs.cons (VO.flat rfl) (VOs.cons (VO.flat rfl) (VOs.cons (VO.flat rfl) (VOs.cons (VO.flat rfl) (VOs.cons (VO.flat rfl) (VOs.cons VO.zs VOs.nil)))))))))) (RL.cons (RV.tmp eZ) (VO.flat rfl) RL.nil)) List.nodup_nil

theorem c_impl_from {a1 : Int} {a2 : Int} {a3 : Int} {r : Bool} (H : m_impl_from a1 a2 a3 = some r) : Fn Try.prog k_impl_from (lent [(.int .i64 a1), (.int .i64 a2), (.int .i64 a3)]) true [(.bool r)] := by
  refine i_impl_from_fn (Nat.le_of_ble_eq_true rfl) ?_
  rw [init_mk]
  refine AW.weaken (wk_mk [] (SL.cons (v := (.one (.d (.int .i64 a1)))) eZ rfl VWk.rfl (SL.cons (v := (.one (.d (.int .i64 a2)))) (eS rfl eZ) rfl VWk.rfl (SL.cons (v := (.one (.d (.int .i64 a3)))) (eS rfl (eS rfl eZ)) rfl VWk.rfl SL.nil))) BL.nil BK.nil) ?_
  unfold m_impl_from at H
  unfold i_impl_from
  refine AW.seq ?_
  refine AW.regs ?_
  refine oMov eC ?_
  refine xNil ?_
  refine TQ.qn ?_
  refine AW.seq ?_
  refine AW.regs ?_
  refine oMov (eS rfl eZ) ?_
  refine oMov (eS rfl (eS rfl (eS rfl eZ))) ?_
  refine oGeq (eS rfl eZ) eZ ?_
  refine oMov eZ ?_
  rcases oite H with ⟨h4, H⟩ | ⟨h4, H⟩
  · refine gDo eZ (decide_eq_true h4) ?_
    refine oMov (eS rfl (eS rfl (eS rfl (eS rfl (eS rfl eZ))))) ?_
    refine gDo (eS rfl eZ) (decide_eq_true h4) ?_
    refine oMov (eS rfl (eS rfl (eS rfl (eS rfl (eS rfl (eS rfl (eS rfl (eS rfl eZ)))))))) ?_
    refine gDo (eS rfl (eS rfl eZ)) (decide_eq_true h4) ?_
    refine oLeq (eS rfl eZ) eZ ?_
    refine oPickT (eS rfl (eS rfl (eS rfl eZ))) (decide_eq_true h4) eZ ?_
    refine oMov eZ ?_
    refine xNil ?_
    refine TQ.qn ?_
    refine AW.ret ?_
    obtain rfl := Option.some.inj H
    exact endsR (RL.cons (RV.tmp eZ) (VO.flat rfl) RL.nil) List.nodup_nil
  · refine gSkip eZ (decide_eq_false h4) rfl ?_
    refine gSkip (eS rfl eZ) (decide_eq_false h4) rfl ?_
    refine gSkip (eS rfl (eS rfl eZ)) (decide_eq_false h4) rfl ?_
    refine oPickF (eS rfl (eS rfl (eS rfl eZ))) (decide_eq_false h4) eC ?_
    refine oMov eZ ?_
    refine xNil ?_
    refine TQ.qn ?_
    refine AW.ret ?_
    obtain rfl := Option.some.inj H
    exact endsR (RL.cons (RV.tmp eZ) (VO.flat rfl) RL.nil) List.nodup_nil

theorem c_impl_isGroup {a1 : Int} {r : Bool} (H : m_impl_isGroup a1 = some r) : Fn Try.prog k_impl_isGroup (lent [(.int .i64 a1)]) true [(.bool r)] := by
  refine i_impl_isGroup_fn (Nat.le_of_ble_eq_true rfl) ?_
  rw [init_mk]
  refine AW.weaken (wk_mk [] (SL.cons (v := (.one (.d (.int .i64 a1)))) eZ rfl VWk.rfl SL.nil) BL.nil BK.nil) ?_
  unfold m_impl_isGroup at H
  unfold i_impl_isGroup
  refine AW.seq ?_
  refine AW.regs ?_
  refine oMov eC ?_
  refine xNil ?_
  refine TQ.qn ?_
  refine AW.seq ?_
  refine AW.regs ?_
  refine oMov (eS rfl eZ) ?_
  obtain ⟨v2, h3, H⟩ := obind H
  refine oCall (u := (.one (.d (.bool v2)))) eC Cl.fn (c_impl_from h3) (Evs.cons eZ (Evs.cons eC (Evs.cons eC Evs.nil))) (VDs.cons VD.plain (VDs.cons VD.plain (VDs.cons VD.plain VDs.nil))) rfl ?_
  refine oMov eZ ?_
  refine xNil ?_
  refine TQ.qn ?_
  refine AW.ret ?_
  obtain rfl := Option.some.inj H
  exact endsR (RL.cons (RV.tmp eZ) (VO.flat rfl) RL.nil) List.nodup_nil

theorem c_impl_PartsOk {a1 : (List TPart)} {r : Bool} (H : m_impl_PartsOk a1 = some r) : Fn Try.prog k_impl_PartsOk (lent [(.sl 3 (List.map d_TPart a1))]) true [(.bool r)] := by
  refine i_impl_PartsOk_fn (Nat.le_of_ble_eq_true rfl) ?_
  rw [init_mk]
  refine AW.weaken (wk_mk [] (SL.cons (v := (.one (.d (.sl 3 (List.map d_TPart a1))))) eZ rfl VWk.rfl SL.nil) BL.nil BK.nil) ?_
  unfold m_impl_PartsOk at H
  unfold i_impl_PartsOk
  refine AW.seq ?_
  refine AW.regs ?_
  refine oMov eC ?_
  refine xNil ?_
  refine TQ.qn ?_
  refine AW.seq ?_
  refine AW.regs ?_
  refine oMov eC ?_
  refine xNil ?_
  refine TQ.qn ?_
  refine AW.seqJ (fun t2 : Int => (impl_PartsOk_j2 a1) t2 = some r) (fun t2 => mk [(0, (.one (.d (.sl 3 (List.map d_TPart a1))))), (3, (.one (.d (.int .i64 t2))))] [] noG) ?_ ?_
  · intro t2 H
    unfold impl_PartsOk_j2 at H
    refine AW.seq ?_
    refine AW.regs ?_
    refine oMov eZ ?_
    refine oLenD eZ (n := a1.length) (List.length_map _) ?_
    obtain ⟨v4, h5, H⟩ := obind H
    refine oCall (u := (.one (.d (.bool v4)))) eC Cl.fn (c_impl_from h5) (Evs.cons eZ (Evs.cons eC (Evs.cons eC Evs.nil))) (VDs.cons VD.plain (VDs.cons VD.plain (VDs.cons VD.plain VDs.nil))) rfl ?_
    refine oMov eZ ?_
    rcases oite H with ⟨h6, H⟩ | ⟨h6, H⟩
    · refine gDo eZ h6 ?_
      refine oMov (eS rfl (eS rfl (eS rfl (eS rfl (eS rfl eZ))))) ?_
      refine gDo (eS rfl eZ) h6 ?_
      refine oEql eZ eC ?_
      refine oPickT (eS rfl (eS rfl eZ)) h6 eZ ?_
      refine oMov eZ ?_
      refine xNil ?_
      refine TQ.qn ?_
      refine AW.ret ?_
      obtain rfl := Option.some.inj H
      exact endsR (RL.cons (RV.tmp eZ) (VO.flat rfl) RL.nil) List.nodup_nil
    · refine gSkip eZ (nt h6) rfl ?_
      refine gSkip (eS rfl eZ) (nt h6) rfl ?_
      refine oPickF (eS rfl (eS rfl eZ)) (nt h6) eC ?_
      refine oMov eZ ?_
      refine xNil ?_
      refine TQ.qn ?_
      refine AW.ret ?_
      obtain rfl := Option.some.inj H
      exact endsR (RL.cons (RV.tmp eZ) (VO.flat rfl) RL.nil) List.nodup_nil
  · refine AW.seq ?_
    refine AW.regs ?_
    refine oMov (eS rfl (eS rfl eZ)) ?_
    refine oLenD eZ (n := a1.length) (List.length_map _) ?_
    refine oMov eC ?_
    refine xNil ?_
    refine TQ.qn ?_
    refine AW.block ?_
    refine AW.iter (fun s7 : (Int × Int) => mk [(0, (.one (.d (.sl 3 (List.map d_TPart a1))))), (3, (.one (.d (.int .i64 s7.1)))), (6, (.one (.d (.sl 3 (List.map d_TPart a1))))), (7, (.one (.d (.int .i64 (a1.length : Int))))), (8, (.one (.d (.int .i64 s7.2))))] [] noG) H (wk_mk [] (SL.cons (eS rfl (eS rfl (eS rfl (eS rfl (eS rfl eZ))))) rfl VWk.rfl (SL.cons (eS rfl (eS rfl (eS rfl eZ))) rfl VWk.rfl (SL.cons (eS rfl (eS rfl eZ)) rfl VWk.rfl (SL.cons (eS rfl eZ) rfl VWk.rfl (SL.cons eZ rfl VWk.rfl SL.nil))))) BL.nil BK.nil) ?_
    intro kb8 s7 H
    unfold impl_PartsOk_b7 at H
    refine AW.seq ?_
    refine AW.regs ?_
    refine oLss (eS rfl (eS rfl (eS rfl (eS rfl eZ)))) (eS rfl (eS rfl (eS rfl eZ))) ?_
    refine xNil ?_
    refine TQ.qn ?_
    refine AW.seq ?_
    rcases oite H with ⟨h9, H⟩ | ⟨h9, H⟩
    · refine AW.condT eZ (decide_eq_true h9) ?_
      refine AW.skip ?_
      refine TQ.qn ?_
      refine AW.seq ?_
      refine AW.block ?_
      refine AW.seq ?_
      refine AW.regs ?_
      obtain ⟨v10, h11, H⟩ := obind H
      refine oAtD (eS rfl (eS rfl (eS rfl eZ))) (eS rfl (eS rfl (eS rfl (eS rfl (eS rfl eZ))))) h11 ?_
      refine oLoadBA (es := [(.d (.int .i64 v10.Lo)), (.d (.int .i64 v10.Hi)), (.d (.int .i64 v10.Owner))]) eZ rfl ?_
      refine oVar (n := 320) (m := 3) rfl rfl nZ ?_
      refine oStoreV (es := [(.d (.int .i64 v10.Lo)), (.d (.int .i64 v10.Hi)), (.d (.int .i64 v10.Owner))]) eZ (eS rfl eZ) rfl rfl bZ rfl ?_
      refine xNil ?_
      refine TQ.qn ?_
      refine AW.seq ?_
      refine AW.seqJ (fun t12 : Bool => (impl_PartsOk_j12 kb8 v10 s7) t12 = some r) (fun t12 => mk [(0, (.one (.d (.sl 3 (List.map d_TPart a1))))), (5, (.one (.ptr (.nm 320 0 0)))), (6, (.one (.d (.sl 3 (List.map d_TPart a1))))), (7, (.one (.d (.int .i64 (a1.length : Int))))), (8, (.one (.d (.int .i64 s7.2)))), (28, (.one (.d (.bool t12))))] [(320, (.vars 3 [(.d (.int .i64 v10.Lo)), (.d (.int .i64 v10.Hi)), (.d (.int .i64 v10.Owner))]))] noG) ?_ ?_
      · intro t12 H
        unfold impl_PartsOk_j12 at H
        rcases oite H with ⟨h14, H⟩ | ⟨h14, H⟩
        · refine AW.condT (eS rfl (eS rfl (eS rfl (eS rfl (eS rfl eZ))))) h14 ?_
          refine AW.seq ?_
          refine AW.regs ?_
          refine oMov eC ?_
          refine xNil ?_
          refine TQ.qn ?_
          refine AW.ret ?_
          refine TQ.qr ?_
          refine BQ.qr ?_
          refine TQ.qr ?_
          refine TQ.qr ?_
          refine BQ.qr ?_
          refine TQ.qr ?_
          obtain rfl := Option.some.inj H
          exact endsR (RL.cons (RV.tmp eZ) (VO.flat rfl) RL.nil) List.nodup_nil
        · refine AW.condF (eS rfl (eS rfl (eS rfl (eS rfl (eS rfl eZ))))) (nt h14) ?_
          refine AW.skip ?_
          refine TQ.qn ?_
          refine AW.regs ?_
          refine oFaddrN (m := 1) (eS rfl eZ) rfl ?_
          refine oLoadV (q := 1) (c := (.d (.int .i64 v10.Hi))) eZ bZ rfl rfl ?_
          refine oMov eZ ?_
          refine xNil ?_
          refine BQ.qn ?_
          refine TQ.qn ?_
          refine AW.regs ?_
          refine oAdd (eS rfl (eS rfl (eS rfl (eS rfl (eS rfl (eS rfl (eS rfl eZ))))))) eC ?_
          refine oMov eZ ?_
          refine xNil ?_
          exact TQ.qn ⟨(v10.Hi, (IntKind.wrap .i64 (s7.2 + 1))), H, (wk_mk [320] (SL.cons (eS rfl (eS rfl (eS rfl (eS rfl (eS rfl eZ))))) rfl VWk.rfl (SL.cons (eS rfl (eS rfl eZ)) rfl VWk.rfl (SL.cons (eS rfl (eS rfl (eS rfl (eS rfl (eS rfl (eS rfl (eS rfl eZ))))))) rfl VWk.rfl (SL.cons (eS rfl (eS rfl (eS rfl (eS rfl (eS rfl (eS rfl (eS rfl (eS rfl eZ)))))))) rfl VWk.rfl (SL.cons eZ rfl VWk.rfl SL.nil))))) (BL.drop rfl BL.nil) BK.nil)⟩
      · refine AW.regs ?_
        refine oFaddrN (m := 0) eZ rfl ?_
        refine oLoadV (q := 0) (c := (.d (.int .i64 v10.Lo))) eZ bZ rfl rfl ?_
        refine oMov (eS rfl (eS rfl (eS rfl (eS rfl (eS rfl (eS rfl (eS rfl eZ))))))) ?_
        refine oNeq (eS rfl eZ) eZ ?_
        refine oMov eZ ?_
        rcases oite H with ⟨h15, H⟩ | ⟨h15, H⟩
        · refine gSkip eZ (decide_eq_true h15) rfl ?_
          refine gSkip (eS rfl eZ) (decide_eq_true h15) rfl ?_
          refine gSkip (eS rfl (eS rfl eZ)) (decide_eq_true h15) rfl ?_
          refine gSkip (eS rfl (eS rfl (eS rfl eZ))) (decide_eq_true h15) rfl ?_
          refine gSkip (eS rfl (eS rfl (eS rfl (eS rfl eZ)))) (decide_eq_true h15) rfl ?_
          refine oPickT (eS rfl (eS rfl (eS rfl (eS rfl (eS rfl eZ))))) (decide_eq_true h15) eC ?_
          refine oMov eZ ?_
          refine gSkip eZ rfl rfl ?_
          refine gSkip (eS rfl eZ) rfl rfl ?_
          refine gSkip (eS rfl (eS rfl eZ)) rfl rfl ?_
          refine gSkip (eS rfl (eS rfl (eS rfl eZ))) rfl rfl ?_
          refine oPickT (eS rfl (eS rfl (eS rfl (eS rfl eZ)))) rfl eC ?_
          refine xNil ?_
          exact TQ.qn ⟨true, H, (wk_mk [] (SL.cons (eS rfl (eS rfl (eS rfl (eS rfl (eS rfl (eS rfl (eS rfl (eS rfl (eS rfl (eS rfl (eS rfl (eS rfl (eS rfl (eS rfl (eS rfl (eS rfl (eS rfl (eS rfl (eS rfl (eS rfl (eS rfl eZ))))))))))))))))))))) rfl VWk.rfl (SL.cons (eS rfl (eS rfl (eS rfl (eS rfl (eS rfl (eS rfl (eS rfl (eS rfl (eS rfl (eS rfl (eS rfl (eS rfl (eS rfl (eS rfl (eS rfl (eS rfl (eS rfl eZ))))))))))))))))) rfl VWk.rfl (SL.cons (eS rfl (eS rfl (eS rfl (eS rfl (eS rfl (eS rfl (eS rfl (eS rfl (eS rfl (eS rfl (eS rfl (eS rfl (eS rfl (eS rfl (eS rfl (eS rfl (eS rfl (eS rfl (eS rfl (eS rfl (eS rfl (eS rfl (eS rfl eZ))))))))))))))))))))))) rfl VWk.rfl (SL.cons (eS rfl (eS rfl (eS rfl (eS rfl (eS rfl (eS rfl (eS rfl (eS rfl (eS rfl (eS rfl (eS rfl (eS rfl (eS rfl (eS rfl (eS rfl (eS rfl (eS rfl (eS rfl (eS rfl (eS rfl (eS rfl (eS rfl (eS rfl (eS rfl eZ)))))))))))))))))))))))) rfl VWk.rfl (SL.cons (eS rfl (eS rfl (eS rfl (eS rfl (eS rfl (eS rfl (eS rfl (eS rfl (eS rfl (eS rfl (eS rfl (eS rfl (eS rfl (eS rfl (eS rfl (eS rfl (eS rfl (eS rfl (eS rfl (eS rfl (eS rfl (eS rfl (eS rfl (eS rfl (eS rfl eZ))))))))))))))))))))))))) rfl VWk.rfl (SL.cons eZ rfl VWk.rfl SL.nil)))))) (BL.keep rfl (BL.keep rfl BL.nil)) (BK.cons rfl bZ rfl rfl BK.nil))⟩
        · refine gDo eZ (decide_eq_false h15) ?_
          refine oFaddrN (m := 1) (eS rfl (eS rfl (eS rfl (eS rfl (eS rfl eZ))))) rfl ?_
          refine gDo (eS rfl eZ) (decide_eq_false h15) ?_
          refine oLoadV (q := 1) (c := (.d (.int .i64 v10.Hi))) eZ bZ rfl rfl ?_
          refine gDo (eS rfl (eS rfl eZ)) (decide_eq_false h15) ?_
          refine oFaddrN (m := 0) (eS rfl (eS rfl (eS rfl (eS rfl (eS rfl (eS rfl (eS rfl eZ))))))) rfl ?_
          refine gDo (eS rfl (eS rfl (eS rfl eZ))) (decide_eq_false h15) ?_
          refine oLoadV (q := 0) (c := (.d (.int .i64 v10.Lo))) eZ bZ rfl rfl ?_
          refine gDo (eS rfl (eS rfl (eS rfl (eS rfl eZ)))) (decide_eq_false h15) ?_
          refine oLeq (eS rfl (eS rfl eZ)) eZ ?_
          refine oPickF (eS rfl (eS rfl (eS rfl (eS rfl (eS rfl eZ))))) (decide_eq_false h15) eZ ?_
          refine oMov eZ ?_
          rcases oite H with ⟨h16, H⟩ | ⟨h16, H⟩
          · refine gSkip eZ (decide_eq_true h16) rfl ?_
            refine gSkip (eS rfl eZ) (decide_eq_true h16) rfl ?_
            refine gSkip (eS rfl (eS rfl eZ)) (decide_eq_true h16) rfl ?_
            refine gSkip (eS rfl (eS rfl (eS rfl eZ))) (decide_eq_true h16) rfl ?_
            refine oPickT (eS rfl (eS rfl (eS rfl (eS rfl eZ)))) (decide_eq_true h16) eC ?_
            refine xNil ?_
            exact TQ.qn ⟨true, H, (wk_mk [] (SL.cons (eS rfl (eS rfl (eS rfl (eS rfl (eS rfl (eS rfl (eS rfl (eS rfl (eS rfl (eS rfl (eS rfl (eS rfl (eS rfl (eS rfl (eS rfl (eS rfl (eS rfl (eS rfl (eS rfl (eS rfl (eS rfl eZ))))))))))))))))))))) rfl VWk.rfl (SL.cons (eS rfl (eS rfl (eS rfl (eS rfl (eS rfl (eS rfl (eS rfl (eS rfl (eS rfl (eS rfl (eS rfl (eS rfl (eS rfl (eS rfl (eS rfl (eS rfl (eS rfl eZ))))))))))))))))) rfl VWk.rfl (SL.cons (eS rfl (eS rfl (eS rfl (eS rfl (eS rfl (eS rfl (eS rfl (eS rfl (eS rfl (eS rfl (eS rfl (eS rfl (eS rfl (eS rfl (eS rfl (eS rfl (eS rfl (eS rfl (eS rfl (eS rfl (eS rfl (eS rfl (eS rfl eZ))))))))))))))))))))))) rfl VWk.rfl (SL.cons (eS rfl (eS rfl (eS rfl (eS rfl (eS rfl (eS rfl (eS rfl (eS rfl (eS rfl (eS rfl (eS rfl (eS rfl (eS rfl (eS rfl (eS rfl (eS rfl (eS rfl (eS rfl (eS rfl (eS rfl (eS rfl (eS rfl (eS rfl (eS rfl eZ)))))))))))))))))))))))) rfl VWk.rfl (SL.cons (eS rfl (eS rfl (eS rfl (eS rfl (eS rfl (eS rfl (eS rfl (eS rfl (eS rfl (eS rfl (eS rfl (eS rfl (eS rfl (eS rfl (eS rfl (eS rfl (eS rfl (eS rfl (eS rfl (eS rfl (eS rfl (eS rfl (eS rfl (eS rfl (eS rfl eZ))))))))))))))))))))))))) rfl VWk.rfl (SL.cons eZ rfl VWk.rfl SL.nil)))))) (BL.keep rfl (BL.keep rfl BL.nil)) (BK.cons rfl bZ rfl rfl BK.nil))⟩
          · refine gDo eZ (decide_eq_false h16) ?_
            refine oFaddrN (m := 2) (eS rfl (eS rfl (eS rfl (eS rfl (eS rfl (eS rfl (eS rfl (eS rfl (eS rfl (eS rfl (eS rfl (eS rfl eZ)))))))))))) rfl ?_
            refine gDo (eS rfl eZ) (decide_eq_false h16) ?_
            refine oLoadV (q := 2) (c := (.d (.int .i64 v10.Owner))) eZ bZ rfl rfl ?_
            refine gDo (eS rfl (eS rfl eZ)) (decide_eq_false h16) ?_
            obtain ⟨v17, h18, H⟩ := obind H
            refine oCall (u := (.one (.d (.bool v17)))) eC Cl.fn (c_impl_isGroup h18) (Evs.cons eZ Evs.nil) (VDs.cons VD.plain VDs.nil) rfl ?_
            refine gDo (eS rfl (eS rfl (eS rfl eZ))) (decide_eq_false h16) ?_
            refine oInv eZ ?_
            refine oPickF (eS rfl (eS rfl (eS rfl (eS rfl eZ)))) (decide_eq_false h16) eZ ?_
            refine xNil ?_
            exact TQ.qn ⟨(!v17), H, (wk_mk [] (SL.cons (eS rfl (eS rfl (eS rfl (eS rfl (eS rfl (eS rfl (eS rfl (eS rfl (eS rfl (eS rfl (eS rfl (eS rfl (eS rfl (eS rfl (eS rfl (eS rfl (eS rfl (eS rfl (eS rfl (eS rfl (eS rfl eZ))))))))))))))))))))) rfl VWk.rfl (SL.cons (eS rfl (eS rfl (eS rfl (eS rfl (eS rfl (eS rfl (eS rfl (eS rfl (eS rfl (eS rfl (eS rfl (eS rfl (eS rfl (eS rfl (eS rfl (eS rfl (eS rfl eZ))))))))))))))))) rfl VWk.rfl (SL.cons (eS rfl (eS rfl (eS rfl (eS rfl (eS rfl (eS rfl (eS rfl (eS rfl (eS rfl (eS rfl (eS rfl (eS rfl (eS rfl (eS rfl (eS rfl (eS rfl (eS rfl (eS rfl (eS rfl (eS rfl (eS rfl (eS rfl (eS rfl eZ))))))))))))))))))))))) rfl VWk.rfl (SL.cons (eS rfl (eS rfl (eS rfl (eS rfl (eS rfl (eS rfl (eS rfl (eS rfl (eS rfl (eS rfl (eS rfl (eS rfl (eS rfl (eS rfl (eS rfl (eS rfl (eS rfl (eS rfl (eS rfl (eS rfl (eS rfl (eS rfl (eS rfl (eS rfl eZ)))))))))))))))))))))))) rfl VWk.rfl (SL.cons (eS rfl (eS rfl (eS rfl (eS rfl (eS rfl (eS rfl (eS rfl (eS rfl (eS rfl (eS rfl (eS rfl (eS rfl (eS rfl (eS rfl (eS rfl (eS rfl (eS rfl (eS rfl (eS rfl (eS rfl (eS rfl (eS rfl (eS rfl (eS rfl (eS rfl eZ))))))))))))))))))))))))) rfl VWk.rfl (SL.cons eZ rfl VWk.rfl SL.nil)))))) (BL.keep rfl (BL.keep rfl BL.nil)) (BK.cons rfl bZ rfl rfl BK.nil))⟩
    · refine AW.condF eZ (decide_eq_false h9) ?_
      refine AW.exit ?_
      refine TQ.qe ?_
      refine TQ.qe ?_
      refine BQ.qe ?_
      exact TQ.qn ⟨s7.1, H, (wk_mk [] (SL.cons (eS rfl eZ) rfl VWk.rfl (SL.cons (eS rfl (eS rfl eZ)) rfl VWk.rfl SL.nil)) BL.nil BK.nil)⟩

theorem c_impl_Move_keys {a1 : TMove} {r : TRange} (H : m_impl_Move_keys a1 = some r) : Fn Try.prog k__impl_Move_keys (lent [(.agg (d_TMove a1))]) true [(.agg (d_TRange r))] := by
  refine i__impl_Move_keys_fn (Nat.le_of_ble_eq_true rfl) ?_
  rw [init_mk]
  refine AW.weaken (wk_mk [] (SL.cons (v := (.agg [(.d (.int .i64 a1.No)), (.d (.int .i64 a1.Stage)), (.d (.int .i64 a1.Lo)), (.d (.int .i64 a1.Hi)), (.d (.int .i64 a1.From)), (.d (.int .i64 a1.To)), (.d (.sl 2 (List.map d_TCell a1.Cells)))])) eZ rfl VWk.rfl SL.nil) BL.nil BK.nil) ?_
  unfold m_impl_Move_keys at H
  unfold i__impl_Move_keys
  refine AW.seq ?_
  refine AW.regs ?_
  refine oBox (n := 64) (m := 7) (cs := [(.d (.int .i64 a1.No)), (.d (.int .i64 a1.Stage)), (.d (.int .i64 a1.Lo)), (.d (.int .i64 a1.Hi)), (.d (.int .i64 a1.From)), (.d (.int .i64 a1.To)), (.d (.sl 2 (List.map d_TCell a1.Cells)))]) rfl eZ rfl rfl nZ ?_
  refine oVar (n := 128) (m := 2) rfl rfl (nS rfl nZ) ?_
  refine xNil ?_
  refine TQ.qn ?_
  refine AW.seq ?_
  refine AW.regs ?_
  refine oFaddrN (m := 2) (eS rfl eZ) rfl ?_
  refine oLoadV (q := 2) (c := (.d (.int .i64 a1.Lo))) eZ (bS rfl bZ) rfl rfl ?_
  refine oFaddrN (m := 3) (eS rfl (eS rfl (eS rfl eZ))) rfl ?_
  refine oLoadV (q := 3) (c := (.d (.int .i64 a1.Hi))) eZ (bS rfl bZ) rfl rfl ?_
  refine oBuild (cs := [(.d (.int .i64 a1.Lo)), (.d (.int .i64 a1.Hi))]) (PsCons (eS rfl (eS rfl eZ)) (PsCons eZ PsNil)) rfl ?_
  refine oStoreV (es := [(.d (.int .i64 a1.Lo)), (.d (.int .i64 a1.Hi))]) (eS rfl (eS rfl (eS rfl (eS rfl (eS rfl eZ))))) eZ rfl rfl bZ rfl ?_
  refine xNil ?_
  refine TQ.qn ?_
  refine AW.ret ?_
  obtain rfl := Option.some.inj H
  exact endsR (RL.cons (RV.cellA (es := [(.d (.int .i64 a1.Lo)), (.d (.int .i64 a1.Hi))]) (eS rfl (eS rfl (eS rfl (eS rfl (eS rfl eZ))))) bZ rfl) (VO.agg (ds := [(.int .i64 a1.Lo), (.int .i64 a1.Hi)]) rfl rfl) RL.nil) List.nodup_nil

theorem c_impl_RangeOk {a1 : TRange} {r : Bool} (H : m_impl_RangeOk a1 = some r) : Fn Try.prog k_impl_RangeOk (lent [(.agg (d_TRange a1))]) true [(.bool r)] := by
  refine i_impl_RangeOk_fn (Nat.le_of_ble_eq_true rfl) ?_
  rw [init_mk]
  refine AW.weaken (wk_mk [] (SL.cons (v := (.agg [(.d (.int .i64 a1.Lo)), (.d (.int .i64 a1.Hi))])) eZ rfl VWk.rfl SL.nil) BL.nil BK.nil) ?_
  unfold m_impl_RangeOk at H
  unfold i_impl_RangeOk
  refine AW.seq ?_
  refine AW.regs ?_
  refine oBox (n := 64) (m := 2) (cs := [(.d (.int .i64 a1.Lo)), (.d (.int .i64 a1.Hi))]) rfl eZ rfl rfl nZ ?_
  refine oMov eC ?_
  refine xNil ?_
  refine TQ.qn ?_
  refine AW.seq ?_
  refine AW.regs ?_
  refine oFaddrN (m := 0) (eS rfl eZ) rfl ?_
  refine oLoadV (q := 0) (c := (.d (.int .i64 a1.Lo))) eZ bZ rfl rfl ?_
  refine oGeq eZ eC ?_
  refine oMov eZ ?_
  rcases oite H with ⟨h2, H⟩ | ⟨h2, H⟩
  · refine gDo eZ (decide_eq_true h2) ?_
    refine oFaddrN (m := 0) (eS rfl (eS rfl (eS rfl (eS rfl (eS rfl eZ))))) rfl ?_
    refine gDo (eS rfl eZ) (decide_eq_true h2) ?_
    refine oLoadV (q := 0) (c := (.d (.int .i64 a1.Lo))) eZ bZ rfl rfl ?_
    refine gDo (eS rfl (eS rfl eZ)) (decide_eq_true h2) ?_
    refine oFaddrN (m := 1) (eS rfl (eS rfl (eS rfl (eS rfl (eS rfl (eS rfl (eS rfl eZ))))))) rfl ?_
    refine gDo (eS rfl (eS rfl (eS rfl eZ))) (decide_eq_true h2) ?_
    refine oLoadV (q := 1) (c := (.d (.int .i64 a1.Hi))) eZ bZ rfl rfl ?_
    refine gDo (eS rfl (eS rfl (eS rfl (eS rfl eZ)))) (decide_eq_true h2) ?_
    refine oLss (eS rfl (eS rfl eZ)) eZ ?_
    refine oPickT (eS rfl (eS rfl (eS rfl (eS rfl (eS rfl eZ))))) (decide_eq_true h2) eZ ?_
    refine oMov eZ ?_
    rcases oite H with ⟨h3, H⟩ | ⟨h3, H⟩
    · refine gDo eZ (decide_eq_true h3) ?_
      refine oFaddrN (m := 1) (eS rfl (eS rfl (eS rfl (eS rfl (eS rfl (eS rfl (eS rfl (eS rfl (eS rfl (eS rfl (eS rfl (eS rfl eZ)))))))))))) rfl ?_
      refine gDo (eS rfl eZ) (decide_eq_true h3) ?_
      refine oLoadV (q := 1) (c := (.d (.int .i64 a1.Hi))) eZ bZ rfl rfl ?_
      refine gDo (eS rfl (eS rfl eZ)) (decide_eq_true h3) ?_
      refine oLeq eZ eC ?_
      refine oPickT (eS rfl (eS rfl (eS rfl eZ))) (decide_eq_true h3) eZ ?_
      refine oMov eZ ?_
      refine xNil ?_
      refine TQ.qn ?_
      refine AW.weaken (wk_mk [64] (SL.cons (k := 2) eZ rfl VWk.rfl SL.nil) (BL.drop rfl BL.nil) BK.nil) ?_
      refine AW.ret ?_
      obtain rfl := Option.some.inj H
      exact endsR (RL.cons (RV.tmp eZ) (VO.flat rfl) RL.nil) List.nodup_nil
    · refine gSkip eZ (decide_eq_false h3) rfl ?_
      refine gSkip (eS rfl eZ) (decide_eq_false h3) rfl ?_
      refine gSkip (eS rfl (eS rfl eZ)) (decide_eq_false h3) rfl ?_
      refine oPickF (eS rfl (eS rfl (eS rfl eZ))) (decide_eq_false h3) eC ?_
      refine oMov eZ ?_
      refine xNil ?_
      refine TQ.qn ?_
      refine AW.weaken (wk_mk [64] (SL.cons (k := 2) eZ rfl VWk.rfl SL.nil) (BL.drop rfl BL.nil) BK.nil) ?_
      refine AW.ret ?_
      obtain rfl := Option.some.inj H
      exact endsR (RL.cons (RV.tmp eZ) (VO.flat rfl) RL.nil) List.nodup_nil
  · refine gSkip eZ (decide_eq_false h2) rfl ?_
    refine gSkip (eS rfl eZ) (decide_eq_false h2) rfl ?_
    refine gSkip (eS rfl (eS rfl eZ)) (decide_eq_false h2) rfl ?_
    refine gSkip (eS rfl (eS rfl (eS rfl eZ))) (decide_eq_false h2) rfl ?_
    refine gSkip (eS rfl (eS rfl (eS rfl (eS rfl eZ)))) (decide_eq_false h2) rfl ?_
    refine oPickF (eS rfl (eS rfl (eS rfl (eS rfl (eS rfl eZ))))) (decide_eq_false h2) eC ?_
    refine oMov eZ ?_
    refine gSkip eZ rfl rfl ?_
    refine gSkip (eS rfl eZ) rfl rfl ?_
    refine gSkip (eS rfl (eS rfl eZ)) rfl rfl ?_
    refine oPickF (eS rfl (eS rfl (eS rfl eZ))) rfl eC ?_
    refine oMov eZ ?_
    refine xNil ?_
    refine TQ.qn ?_
    refine AW.weaken (wk_mk [64] (SL.cons (k := 2) eZ rfl VWk.rfl SL.nil) (BL.drop rfl BL.nil) BK.nil) ?_
    refine AW.ret ?_
    obtain rfl := Option.some.inj H
    exact endsR (RL.cons (RV.tmp eZ) (VO.flat rfl) RL.nil) List.nodup_nil

theorem c_impl_isKey {a1 : Int} {r : Bool} (H : m_impl_isKey a1 = some r) : Fn Try.prog k_impl_isKey (lent [(.int .i64 a1)]) true [(.bool r)] := by
  refine i_impl_isKey_fn (Nat.le_of_ble_eq_true rfl) ?_
  rw [init_mk]
  refine AW.weaken (wk_mk [] (SL.cons (v := (.one (.d (.int .i64 a1)))) eZ rfl VWk.rfl SL.nil) BL.nil BK.nil) ?_
  unfold m_impl_isKey at H
  unfold i_impl_isKey
  refine AW.seq ?_
  refine AW.regs ?_
  refine oMov eC ?_
  refine xNil ?_
  refine TQ.qn ?_
  refine AW.seq ?_
  refine AW.regs ?_
  refine oMov (eS rfl eZ) ?_
  obtain ⟨v2, h3, H⟩ := obind H
  refine oCall (u := (.one (.d (.bool v2)))) eC Cl.fn (c_impl_from h3) (Evs.cons eZ (Evs.cons eC (Evs.cons eC Evs.nil))) (VDs.cons VD.plain (VDs.cons VD.plain (VDs.cons VD.plain VDs.nil))) rfl ?_
  refine oMov eZ ?_
  refine xNil ?_
  refine TQ.qn ?_
  refine AW.ret ?_
  obtain rfl := Option.some.inj H
  exact endsR (RL.cons (RV.tmp eZ) (VO.flat rfl) RL.nil) List.nodup_nil

theorem c_impl_isWhole {a1 : Int} {r : Bool} (H : m_impl_isWhole a1 = some r) : Fn Try.prog k_impl_isWhole (lent [(.int .i64 a1)]) true [(.bool r)] := by
  refine i_impl_isWhole_fn (Nat.le_of_ble_eq_true rfl) ?_
  rw [init_mk]
  refine AW.weaken (wk_mk [] (SL.cons (v := (.one (.d (.int .i64 a1)))) eZ rfl VWk.rfl SL.nil) BL.nil BK.nil) ?_
  unfold m_impl_isWhole at H
  unfold i_impl_isWhole
  refine AW.seq ?_
  refine AW.regs ?_
  refine oMov eC ?_
  refine xNil ?_
  refine TQ.qn ?_
  refine AW.seq ?_
  refine AW.regs ?_
  refine oMov (eS rfl eZ) ?_
  obtain ⟨v2, h3, H⟩ := obind H
  refine oCall (u := (.one (.d (.bool v2)))) eC Cl.fn (c_impl_from h3) (Evs.cons eZ (Evs.cons eC (Evs.cons eC Evs.nil))) (VDs.cons VD.plain (VDs.cons VD.plain (VDs.cons VD.plain VDs.nil))) rfl ?_
  refine oMov eZ ?_
  refine xNil ?_
  refine TQ.qn ?_
  refine AW.ret ?_
  obtain rfl := Option.some.inj H
  exact endsR (RL.cons (RV.tmp eZ) (VO.flat rfl) RL.nil) List.nodup_nil

end Go.AW
