/- That functions of the program compute what the plain functions say: printed by a program of the prover's own (tool/dec.py). Conditions: each theorem's own. -/
import Derived.Test.YtnhleppnhaakgaaMAtlasSplit
import Derived.Test.YtnhleppnhaakgaaGAtlasSplit
set_option linter.unusedVariables false
set_option linter.unusedSimpArgs false
set_option maxRecDepth 100000
namespace Go.AW
open Go.Proofs

theorem c_laws_szPartS {a1 : (List TPart)} {a2 : Int} {r : Int} (H : m_laws_szPartS a1 a2 = some r) : Fn Try.prog k_laws_szPartS (lent [(.sl 3 (List.map d_TPart a1)), (.int .i64 a2)]) true [(.int .i64 r)] := by
  refine i_laws_szPartS_fn (Nat.le_of_ble_eq_true rfl) ?_
  rw [init_mk]
  refine AW.weaken (wk_mk [] (SL.cons (v := (.one (.d (.sl 3 (List.map d_TPart a1))))) eZ rfl VWk.rfl (SL.cons (v := (.one (.d (.int .i64 a2)))) (eS rfl eZ) rfl VWk.rfl SL.nil)) BL.nil BK.nil) ?_
  unfold m_laws_szPartS at H
  unfold i_laws_szPartS
  refine AW.seq ?_
  refine AW.regs ?_
  refine oMov eC ?_
  refine xNil ?_
  refine TQ.qn ?_
  refine AW.seq ?_
  refine AW.regs ?_
  refine oMov (eR rfl) ?_
  refine oMov (eR rfl) ?_
  refine oLenD eZ (n := a1.length) (List.length_map _) ?_
  refine oSub (eR rfl) eZ ?_
  refine oMov eZ ?_
  refine xNil ?_
  refine TQ.qn ?_
  refine AW.seq ?_
  refine AW.seq ?_
  refine AW.regs ?_
  refine oMov eZ ?_
  refine oLss eZ eC ?_
  refine xNil ?_
  refine TQ.qn ?_
  rcases oite H with ⟨h3, H⟩ | ⟨h3, H⟩
  · refine AW.condT eZ (decide_eq_true h3) ?_
    refine AW.seq ?_
    refine AW.regs ?_
    refine oMov eC ?_
    refine xNil ?_
    refine TQ.qn ?_
    refine AW.ret ?_
    refine TQ.qr ?_
    obtain rfl := Option.some.inj H
    exact endsR (RL.cons (RV.tmp eZ) (VO.flat rfl) RL.nil) List.nodup_nil
  · refine AW.condF eZ (decide_eq_false h3) ?_
    refine AW.skip ?_
    refine TQ.qn ?_
    refine AW.seq ?_
    refine AW.regs ?_
    refine oMov (eR rfl) ?_
    refine oMov eZ ?_
    refine xNil ?_
    refine TQ.qn ?_
    refine AW.ret ?_
    obtain rfl := Option.some.inj H
    exact endsR (RL.cons (RV.tmp eZ) (VO.flat rfl) RL.nil) List.nodup_nil

theorem c_laws_szCellS {a1 : (List TCell)} {a2 : Int} {r : Int} (H : m_laws_szCellS a1 a2 = some r) : Fn Try.prog k_laws_szCellS (lent [(.sl 2 (List.map d_TCell a1)), (.int .i64 a2)]) true [(.int .i64 r)] := by
  refine i_laws_szCellS_fn (Nat.le_of_ble_eq_true rfl) ?_
  rw [init_mk]
  refine AW.weaken (wk_mk [] (SL.cons (v := (.one (.d (.sl 2 (List.map d_TCell a1))))) eZ rfl VWk.rfl (SL.cons (v := (.one (.d (.int .i64 a2)))) (eS rfl eZ) rfl VWk.rfl SL.nil)) BL.nil BK.nil) ?_
  unfold m_laws_szCellS at H
  unfold i_laws_szCellS
  refine AW.seq ?_
  refine AW.regs ?_
  refine oMov eC ?_
  refine xNil ?_
  refine TQ.qn ?_
  refine AW.seq ?_
  refine AW.regs ?_
  refine oMov (eR rfl) ?_
  refine oMov (eR rfl) ?_
  refine oLenD eZ (n := a1.length) (List.length_map _) ?_
  refine oSub (eR rfl) eZ ?_
  refine oMov eZ ?_
  refine xNil ?_
  refine TQ.qn ?_
  refine AW.seq ?_
  refine AW.seq ?_
  refine AW.regs ?_
  refine oMov eZ ?_
  refine oLss eZ eC ?_
  refine xNil ?_
  refine TQ.qn ?_
  rcases oite H with ⟨h3, H⟩ | ⟨h3, H⟩
  · refine AW.condT eZ (decide_eq_true h3) ?_
    refine AW.seq ?_
    refine AW.regs ?_
    refine oMov eC ?_
    refine xNil ?_
    refine TQ.qn ?_
    refine AW.ret ?_
    refine TQ.qr ?_
    obtain rfl := Option.some.inj H
    exact endsR (RL.cons (RV.tmp eZ) (VO.flat rfl) RL.nil) List.nodup_nil
  · refine AW.condF eZ (decide_eq_false h3) ?_
    refine AW.skip ?_
    refine TQ.qn ?_
    refine AW.seq ?_
    refine AW.regs ?_
    refine oMov (eR rfl) ?_
    refine oMov eZ ?_
    refine xNil ?_
    refine TQ.qn ?_
    refine AW.ret ?_
    obtain rfl := Option.some.inj H
    exact endsR (RL.cons (RV.tmp eZ) (VO.flat rfl) RL.nil) List.nodup_nil

theorem c_laws_szMove {a1 : TMove} {a2 : Int} {r : Int} (H : m_laws_szMove a1 a2 = some r) : Fn Try.prog k_laws_szMove (lent [(.agg (d_TMove a1)), (.int .i64 a2)]) true [(.int .i64 r)] := by
  refine i_laws_szMove_fn (Nat.le_of_ble_eq_true rfl) ?_
  rw [init_mk]
  refine AW.weaken (wk_mk [] (SL.cons (v := (.agg [(.d (.int .i64 a1.No)), (.d (.int .i64 a1.Stage)), (.d (.int .i64 a1.Lo)), (.d (.int .i64 a1.Hi)), (.d (.int .i64 a1.From)), (.d (.int .i64 a1.To)), (.d (.sl 2 (List.map d_TCell a1.Cells)))])) eZ rfl VWk.rfl (SL.cons (v := (.one (.d (.int .i64 a2)))) (eS rfl eZ) rfl VWk.rfl SL.nil)) BL.nil BK.nil) ?_
  unfold m_laws_szMove at H
  unfold i_laws_szMove
  refine AW.seq ?_
  refine AW.regs ?_
  refine oBox (n := 128) (m := 7) (cs := [(.d (.int .i64 a1.No)), (.d (.int .i64 a1.Stage)), (.d (.int .i64 a1.Lo)), (.d (.int .i64 a1.Hi)), (.d (.int .i64 a1.From)), (.d (.int .i64 a1.To)), (.d (.sl 2 (List.map d_TCell a1.Cells)))]) rfl eZ rfl rfl nZ ?_
  refine oMov eC ?_
  refine xNil ?_
  refine TQ.qn ?_
  refine AW.seq ?_
  refine AW.regs ?_
  refine oFaddrN (m := 6) (eS rfl eZ) rfl ?_
  refine oLoadV (q := 6) (c := (.d (.sl 2 (List.map d_TCell a1.Cells)))) eZ bZ rfl rfl ?_
  refine oMov (eR rfl) ?_
  obtain ⟨v3, h4, H⟩ := obind H
  refine oCall (u := (.one (.d (.int .i64 v3)))) eC Cl.fn (c_laws_szCellS h4) (Evs.cons (eS rfl eZ) (Evs.cons eZ Evs.nil)) (VDs.cons VD.plain (VDs.cons VD.plain VDs.nil)) rfl ?_
  refine oMov eZ ?_
  refine xNil ?_
  refine TQ.qn ?_
  refine AW.seq ?_
  refine AW.seq ?_
  refine AW.regs ?_
  refine oMov eZ ?_
  refine oLss eZ eC ?_
  refine xNil ?_
  refine TQ.qn ?_
  rcases oite H with ⟨h5, H⟩ | ⟨h5, H⟩
  · refine AW.condT eZ (decide_eq_true h5) ?_
    refine AW.seq ?_
    refine AW.regs ?_
    refine oMov eC ?_
    refine xNil ?_
    refine TQ.qn ?_
    refine AW.ret ?_
    refine TQ.qr ?_
    obtain rfl := Option.some.inj H
    exact endsR (RL.cons (RV.tmp eZ) (VO.flat rfl) RL.nil) List.nodup_nil
  · refine AW.condF eZ (decide_eq_false h5) ?_
    refine AW.skip ?_
    refine TQ.qn ?_
    refine AW.seq ?_
    refine AW.regs ?_
    refine oMov (eR rfl) ?_
    refine oMov eZ ?_
    refine xNil ?_
    refine TQ.qn ?_
    refine AW.ret ?_
    obtain rfl := Option.some.inj H
    exact endsR (RL.cons (RV.tmp eZ) (VO.flat rfl) RL.nil) List.nodup_nil

theorem c_laws_szAtlas {a1 : TAtlas} {a2 : Int} {r : Int} (H : m_laws_szAtlas a1 a2 = some r) : Fn Try.prog k_laws_szAtlas (lent [(.agg (d_TAtlas a1)), (.int .i64 a2)]) true [(.int .i64 r)] := by
  refine i_laws_szAtlas_fn (Nat.le_of_ble_eq_true rfl) ?_
  rw [init_mk]
  refine AW.weaken (wk_mk [] (SL.cons (v := (.agg [(.d (.int .i64 a1.Epoch)), (.d (.sl 3 (List.map d_TPart a1.Parts))), (.d (.int .i64 a1.Move.No)), (.d (.int .i64 a1.Move.Stage)), (.d (.int .i64 a1.Move.Lo)), (.d (.int .i64 a1.Move.Hi)), (.d (.int .i64 a1.Move.From)), (.d (.int .i64 a1.Move.To)), (.d (.sl 2 (List.map d_TCell a1.Move.Cells)))])) eZ rfl VWk.rfl (SL.cons (v := (.one (.d (.int .i64 a2)))) (eS rfl eZ) rfl VWk.rfl SL.nil)) BL.nil BK.nil) ?_
  unfold m_laws_szAtlas at H
  unfold i_laws_szAtlas
  refine AW.seq ?_
  refine AW.regs ?_
  refine oBox (n := 128) (m := 9) (cs := [(.d (.int .i64 a1.Epoch)), (.d (.sl 3 (List.map d_TPart a1.Parts))), (.d (.int .i64 a1.Move.No)), (.d (.int .i64 a1.Move.Stage)), (.d (.int .i64 a1.Move.Lo)), (.d (.int .i64 a1.Move.Hi)), (.d (.int .i64 a1.Move.From)), (.d (.int .i64 a1.Move.To)), (.d (.sl 2 (List.map d_TCell a1.Move.Cells)))]) rfl eZ rfl rfl nZ ?_
  refine oMov eC ?_
  refine xNil ?_
  refine TQ.qn ?_
  refine AW.seq ?_
  refine AW.regs ?_
  refine oFaddrN (m := 1) (eS rfl eZ) rfl ?_
  refine oLoadV (q := 1) (c := (.d (.sl 3 (List.map d_TPart a1.Parts)))) eZ bZ rfl rfl ?_
  refine oMov (eR rfl) ?_
  obtain ⟨v3, h4, H⟩ := obind H
  refine oCall (u := (.one (.d (.int .i64 v3)))) eC Cl.fn (c_laws_szPartS h4) (Evs.cons (eS rfl eZ) (Evs.cons eZ Evs.nil)) (VDs.cons VD.plain (VDs.cons VD.plain VDs.nil)) rfl ?_
  refine oMov eZ ?_
  refine xNil ?_
  refine TQ.qn ?_
  refine AW.seq ?_
  refine AW.seq ?_
  refine AW.regs ?_
  refine oMov eZ ?_
  refine oLss eZ eC ?_
  refine xNil ?_
  refine TQ.qn ?_
  rcases oite H with ⟨h5, H⟩ | ⟨h5, H⟩
  · refine AW.condT eZ (decide_eq_true h5) ?_
    refine AW.seq ?_
    refine AW.regs ?_
    refine oMov eC ?_
    refine xNil ?_
    refine TQ.qn ?_
    refine AW.ret ?_
    refine TQ.qr ?_
    obtain rfl := Option.some.inj H
    exact endsR (RL.cons (RV.tmp eZ) (VO.flat rfl) RL.nil) List.nodup_nil
  · refine AW.condF eZ (decide_eq_false h5) ?_
    refine AW.skip ?_
    refine TQ.qn ?_
    refine AW.seq ?_
    refine AW.regs ?_
    refine oFaddrN (m := 2) (eR rfl) rfl ?_
    refine oLoadVA (es := [(.d (.int .i64 a1.Move.No)), (.d (.int .i64 a1.Move.Stage)), (.d (.int .i64 a1.Move.Lo)), (.d (.int .i64 a1.Move.Hi)), (.d (.int .i64 a1.Move.From)), (.d (.int .i64 a1.Move.To)), (.d (.sl 2 (List.map d_TCell a1.Move.Cells)))]) eZ bZ rfl ?_
    refine oMov (eR rfl) ?_
    obtain ⟨v6, h7, H⟩ := obind H
    refine oCall (u := (.one (.d (.int .i64 v6)))) eC Cl.fn (c_laws_szMove h7) (Evs.cons (eS rfl eZ) (Evs.cons eZ Evs.nil)) (VDs.cons (VD.agg rfl) (VDs.cons VD.plain VDs.nil)) rfl ?_
    refine oMov eZ ?_
    refine xNil ?_
    refine TQ.qn ?_
    refine AW.weaken (wk_mk [128] (SL.cons (k := 1) eZ rfl VWk.rfl SL.nil) (BL.drop rfl BL.nil) BK.nil) ?_
    refine AW.seq ?_
    refine AW.seq ?_
    refine AW.regs ?_
    refine oMov eZ ?_
    refine oLss eZ eC ?_
    refine xNil ?_
    refine TQ.qn ?_
    rcases oite H with ⟨h8, H⟩ | ⟨h8, H⟩
    · refine AW.condT eZ (decide_eq_true h8) ?_
      refine AW.seq ?_
      refine AW.regs ?_
      refine oMov eC ?_
      refine xNil ?_
      refine TQ.qn ?_
      refine AW.ret ?_
      refine TQ.qr ?_
      obtain rfl := Option.some.inj H
      exact endsR (RL.cons (RV.tmp eZ) (VO.flat rfl) RL.nil) List.nodup_nil
    · refine AW.condF eZ (decide_eq_false h8) ?_
      refine AW.skip ?_
      refine TQ.qn ?_
      refine AW.seq ?_
      refine AW.regs ?_
      refine oMov (eR rfl) ?_
      refine oMov eZ ?_
      refine xNil ?_
      refine TQ.qn ?_
      refine AW.ret ?_
      obtain rfl := Option.some.inj H
      exact endsR (RL.cons (RV.tmp eZ) (VO.flat rfl) RL.nil) List.nodup_nil

theorem c_laws_toPart {a1 : TPart} {r : TPart} (H : m_laws_toPart a1 = some r) : Fn Try.prog k_laws_toPart (lent [(.agg (d_TPart a1))]) true [(.agg (d_TPart r))] := by
  refine i_laws_toPart_fn (Nat.le_of_ble_eq_true rfl) ?_
  rw [init_mk]
  refine AW.weaken (wk_mk [] (SL.cons (v := (.agg [(.d (.int .i64 a1.Lo)), (.d (.int .i64 a1.Hi)), (.d (.int .i64 a1.Owner))])) eZ rfl VWk.rfl SL.nil) BL.nil BK.nil) ?_
  unfold m_laws_toPart at H
  unfold i_laws_toPart
  refine AW.seq ?_
  refine AW.regs ?_
  refine oBox (n := 64) (m := 3) (cs := [(.d (.int .i64 a1.Lo)), (.d (.int .i64 a1.Hi)), (.d (.int .i64 a1.Owner))]) rfl eZ rfl rfl nZ ?_
  refine oVar (n := 128) (m := 3) rfl rfl (nS rfl nZ) ?_
  refine xNil ?_
  refine TQ.qn ?_
  refine AW.seq ?_
  refine AW.regs ?_
  refine oVar (n := 192) (m := 3) rfl rfl (nS rfl (nS rfl nZ)) ?_
  refine xNil ?_
  refine TQ.qn ?_
  refine AW.seq ?_
  refine AW.regs ?_
  refine oFaddrN (m := 0) (eR rfl) rfl ?_
  refine oLoadV (q := 0) (c := (.d (.int .i64 a1.Lo))) eZ (bS rfl (bS rfl bZ)) rfl rfl ?_
  refine oFaddrN (m := 0) (eR rfl) rfl ?_
  refine oStoreV (es := [(.d (.int .i64 a1.Lo)), (.d (.int .i64 0)), (.d (.int .i64 0))]) eZ (eS rfl eZ) rfl rfl bZ rfl ?_
  refine xNil ?_
  refine TQ.qn ?_
  refine AW.seq ?_
  refine AW.regs ?_
  refine oFaddrN (m := 1) (eR rfl) rfl ?_
  refine oLoadV (q := 1) (c := (.d (.int .i64 a1.Hi))) eZ (bS rfl (bS rfl (bS rfl bZ))) rfl rfl ?_
  refine oFaddrN (m := 1) (eR rfl) rfl ?_
  refine oStoreV (es := [(.d (.int .i64 a1.Lo)), (.d (.int .i64 a1.Hi)), (.d (.int .i64 0))]) eZ (eS rfl eZ) rfl rfl bZ rfl ?_
  refine xNil ?_
  refine TQ.qn ?_
  refine AW.seq ?_
  refine AW.regs ?_
  refine oFaddrN (m := 2) (eR rfl) rfl ?_
  refine oLoadV (q := 2) (c := (.d (.int .i64 a1.Owner))) eZ (bS rfl (bS rfl (bS rfl (bS rfl bZ)))) rfl rfl ?_
  refine oFaddrN (m := 2) (eR rfl) rfl ?_
  refine oStoreV (es := [(.d (.int .i64 a1.Lo)), (.d (.int .i64 a1.Hi)), (.d (.int .i64 a1.Owner))]) eZ (eS rfl eZ) rfl rfl bZ rfl ?_
  refine xNil ?_
  refine TQ.qn ?_
  refine AW.seq ?_
  refine AW.regs ?_
  refine oLoadVA (es := [(.d (.int .i64 a1.Lo)), (.d (.int .i64 a1.Hi)), (.d (.int .i64 a1.Owner))]) (eR rfl) bZ rfl ?_
  refine oStoreV (es := [(.d (.int .i64 a1.Lo)), (.d (.int .i64 a1.Hi)), (.d (.int .i64 a1.Owner))]) (eR rfl) eZ rfl rfl (bS rfl (bS rfl (bS rfl (bS rfl bZ)))) rfl ?_
  refine xNil ?_
  refine TQ.qn ?_
  refine AW.ret ?_
  obtain rfl := Option.some.inj H
  exact endsR (RL.cons (RV.cellA (es := [(.d (.int .i64 a1.Lo)), (.d (.int .i64 a1.Hi)), (.d (.int .i64 a1.Owner))]) (eR rfl) bZ rfl) (VO.agg (ds := [(.int .i64 a1.Lo), (.int .i64 a1.Hi), (.int .i64 a1.Owner)]) rfl rfl) RL.nil) List.nodup_nil

theorem c_laws_toPartS {a1 : (List TPart)} {r : (List TPart)} (H : m_laws_toPartS a1 = some r) : Fn Try.prog k_laws_toPartS (lent [(.sl 3 (List.map d_TPart a1))]) true [(.sl 3 (List.map d_TPart r))] := by
  refine i_laws_toPartS_fn (Nat.le_of_ble_eq_true rfl) ?_
  rw [init_mk]
  refine AW.weaken (wk_mk [] (SL.cons (v := (.one (.d (.sl 3 (List.map d_TPart a1))))) eZ rfl VWk.rfl SL.nil) BL.nil BK.nil) ?_
  unfold m_laws_toPartS at H
  unfold i_laws_toPartS
  refine AW.seq ?_
  refine AW.regs ?_
  refine oMov eC ?_
  refine xNil ?_
  refine TQ.qn ?_
  refine AW.seq ?_
  refine AW.regs ?_
  refine oMov (eS rfl eZ) ?_
  refine oLenD eZ (n := a1.length) (List.length_map _) ?_
  obtain ⟨h2, H⟩ := oguard H
  refine oMksl (f := d_TPart) (zv := (TPart.mk 0 0 0)) (own := true) (m := 448) (q := (Int.toNat (a1.length : Int))) rfl rfl eZ eZ h2.1 h2.2 rfl (by decide) rfl nZ ?_
  refine oMov eZ ?_
  refine xNil ?_
  refine TQ.qn ?_
  refine AW.seqJ (fun t3 : (List TPart) => laws_toPartS_j3 t3 = some r) (fun t3 => mk [(3, (.one (.sl 320128 0 t3.length)))] [(320128, (.data 3 (List.map d_TPart t3) true none))] noG) ?_ ?_
  · intro t3 H
    unfold laws_toPartS_j3 at H
    refine AW.seq ?_
    refine AW.regs ?_
    refine oMov eZ ?_
    refine oMov eZ ?_
    refine xNil ?_
    refine TQ.qn ?_
    refine AW.ret ?_
    obtain rfl := Option.some.inj H
    exact endsR (RL.cons (RV.tmp eZ) (VO.sl bZ (List.length_map _) (allFlat fun _ => rfl)) RL.nil) (by decide)
  · refine AW.seq ?_
    refine AW.regs ?_
    refine oMov eC ?_
    refine xNil ?_
    refine TQ.qn ?_
    refine AW.block ?_
    refine AW.iter (fun s5 : ((List TPart) × Int) => mk [(0, (.one (.d (.sl 3 (List.map d_TPart a1))))), (3, (.one (.sl 320192 0 s5.1.length))), (4, (.one (.d (.int .i64 s5.2))))] [(320192, (.data 3 (List.map d_TPart s5.1) true none))] noG) H ((wk_mk [] (SL.cons (eR rfl) rfl VWk.rfl (SL.cons (eS rfl eZ) rfl (VWk.one (CWk.len (by first | (simp; done) | (simp; omega) | omega))) (SL.cons eZ rfl VWk.rfl SL.nil))) (BL.keep rfl BL.nil) (BK.cons rfl bZ rfl rfl BK.nil)).trans (wk_ren 448 320192 rfl rfl (nS rfl nZ))) ?_
    intro kb6 s5 H
    unfold laws_toPartS_b5 at H
    refine AW.seq ?_
    refine AW.seq ?_
    refine AW.regs ?_
    refine oMov (eR rfl) ?_
    refine oMov (eS rfl eZ) ?_
    refine oLenD eZ (n := a1.length) (List.length_map _) ?_
    refine oLss (eR rfl) eZ ?_
    refine xNil ?_
    refine TQ.qn ?_
    rcases oite H with ⟨h7, H⟩ | ⟨h7, H⟩
    · refine AW.condT eZ (decide_eq_true h7) ?_
      refine AW.skip ?_
      refine TQ.qn ?_
      refine AW.seq ?_
      refine AW.block ?_
      refine AW.regs ?_
      refine oMov (eR rfl) ?_
      refine oMov (eR rfl) ?_
      refine oMov (eR rfl) ?_
      refine oMov (eR rfl) ?_
      obtain ⟨v8, h9, H⟩ := obind H
      refine oAtD (eS rfl eZ) eZ h9 ?_
      refine oLoadBA (es := [(.d (.int .i64 v8.Lo)), (.d (.int .i64 v8.Hi)), (.d (.int .i64 v8.Owner))]) eZ rfl ?_
      obtain ⟨v10, h11, H⟩ := obind H
      refine oCall (u := (.agg [(.d (.int .i64 v10.Lo)), (.d (.int .i64 v10.Hi)), (.d (.int .i64 v10.Owner))])) eC Cl.fn (c_laws_toPart h11) (Evs.cons eZ Evs.nil) (VDs.cons (VD.agg rfl) VDs.nil) rfl ?_
      obtain ⟨v12, h13, H⟩ := obind H
      refine oAtN (eR rfl) (eR rfl) bZ rfl h13 ?_
      refine oStoreD (t := v12) (t' := v10) (es := [(.int .i64 v10.Lo), (.int .i64 v10.Hi), (.int .i64 v10.Owner)]) eZ (eS rfl eZ) rfl rfl bZ (idx_at h13) rfl rfl ?_
      refine xNil ?_
      refine BQ.qn ?_
      refine TQ.qn ?_
      refine AW.regs ?_
      refine oMov (eR rfl) ?_
      refine oAdd eZ eC ?_
      refine oMov eZ ?_
      refine xNil ?_
      exact TQ.qn ⟨(s5.1.set (Int.toNat s5.2) v10, (IntKind.wrap .i64 (s5.2 + 1))), H, (wk_mk [] (SL.cons (eR rfl) rfl VWk.rfl (SL.cons (eR rfl) rfl (VWk.one (CWk.len (by first | (simp; done) | (simp; omega) | omega))) (SL.cons eZ rfl VWk.rfl SL.nil))) (BL.keep rfl (BL.keep rfl BL.nil)) (BK.cons rfl bZ rfl rfl BK.nil))⟩
    · refine AW.condF eZ (decide_eq_false h7) ?_
      refine AW.exit ?_
      refine TQ.qe ?_
      refine TQ.qe ?_
      refine BQ.qe ?_
      exact TQ.qn ⟨s5.1, H, ((wk_mk [] (SL.cons (eR rfl) rfl VWk.rfl SL.nil) (BL.keep rfl BL.nil) (BK.cons rfl bZ rfl rfl BK.nil)).trans (wk_ren 320192 320128 rfl rfl (nS rfl nZ)))⟩

theorem c_laws_toCell {a1 : TCell} {r : TCell} (H : m_laws_toCell a1 = some r) : Fn Try.prog k_laws_toCell (lent [(.agg (d_TCell a1))]) true [(.agg (d_TCell r))] := by
  refine i_laws_toCell_fn (Nat.le_of_ble_eq_true rfl) ?_
  rw [init_mk]
  refine AW.weaken (wk_mk [] (SL.cons (v := (.agg [(.d (.int .i64 a1.Key)), (.d (.int .i64 a1.Value))])) eZ rfl VWk.rfl SL.nil) BL.nil BK.nil) ?_
  unfold m_laws_toCell at H
  unfold i_laws_toCell
  refine AW.seq ?_
  refine AW.regs ?_
  refine oBox (n := 64) (m := 2) (cs := [(.d (.int .i64 a1.Key)), (.d (.int .i64 a1.Value))]) rfl eZ rfl rfl nZ ?_
  refine oVar (n := 128) (m := 2) rfl rfl (nS rfl nZ) ?_
  refine xNil ?_
  refine TQ.qn ?_
  refine AW.seq ?_
  refine AW.regs ?_
  refine oVar (n := 192) (m := 2) rfl rfl (nS rfl (nS rfl nZ)) ?_
  refine xNil ?_
  refine TQ.qn ?_
  refine AW.seq ?_
  refine AW.regs ?_
  refine oFaddrN (m := 0) (eR rfl) rfl ?_
  refine oLoadV (q := 0) (c := (.d (.int .i64 a1.Key))) eZ (bS rfl (bS rfl bZ)) rfl rfl ?_
  refine oFaddrN (m := 0) (eR rfl) rfl ?_
  refine oStoreV (es := [(.d (.int .i64 a1.Key)), (.d (.int .i64 0))]) eZ (eS rfl eZ) rfl rfl bZ rfl ?_
  refine xNil ?_
  refine TQ.qn ?_
  refine AW.seq ?_
  refine AW.regs ?_
  refine oFaddrN (m := 1) (eR rfl) rfl ?_
  refine oLoadV (q := 1) (c := (.d (.int .i64 a1.Value))) eZ (bS rfl (bS rfl (bS rfl bZ))) rfl rfl ?_
  refine oFaddrN (m := 1) (eR rfl) rfl ?_
  refine oStoreV (es := [(.d (.int .i64 a1.Key)), (.d (.int .i64 a1.Value))]) eZ (eS rfl eZ) rfl rfl bZ rfl ?_
  refine xNil ?_
  refine TQ.qn ?_
  refine AW.seq ?_
  refine AW.regs ?_
  refine oLoadVA (es := [(.d (.int .i64 a1.Key)), (.d (.int .i64 a1.Value))]) (eR rfl) bZ rfl ?_
  refine oStoreV (es := [(.d (.int .i64 a1.Key)), (.d (.int .i64 a1.Value))]) (eR rfl) eZ rfl rfl (bS rfl (bS rfl (bS rfl bZ))) rfl ?_
  refine xNil ?_
  refine TQ.qn ?_
  refine AW.ret ?_
  obtain rfl := Option.some.inj H
  exact endsR (RL.cons (RV.cellA (es := [(.d (.int .i64 a1.Key)), (.d (.int .i64 a1.Value))]) (eR rfl) bZ rfl) (VO.agg (ds := [(.int .i64 a1.Key), (.int .i64 a1.Value)]) rfl rfl) RL.nil) List.nodup_nil

theorem c_laws_toCellS {a1 : (List TCell)} {r : (List TCell)} (H : m_laws_toCellS a1 = some r) : Fn Try.prog k_laws_toCellS (lent [(.sl 2 (List.map d_TCell a1))]) true [(.sl 2 (List.map d_TCell r))] := by
  refine i_laws_toCellS_fn (Nat.le_of_ble_eq_true rfl) ?_
  rw [init_mk]
  refine AW.weaken (wk_mk [] (SL.cons (v := (.one (.d (.sl 2 (List.map d_TCell a1))))) eZ rfl VWk.rfl SL.nil) BL.nil BK.nil) ?_
  unfold m_laws_toCellS at H
  unfold i_laws_toCellS
  refine AW.seq ?_
  refine AW.regs ?_
  refine oMov eC ?_
  refine xNil ?_
  refine TQ.qn ?_
  refine AW.seq ?_
  refine AW.regs ?_
  refine oMov (eS rfl eZ) ?_
  refine oLenD eZ (n := a1.length) (List.length_map _) ?_
  obtain ⟨h2, H⟩ := oguard H
  refine oMksl (f := d_TCell) (zv := (TCell.mk 0 0)) (own := true) (m := 448) (q := (Int.toNat (a1.length : Int))) rfl rfl eZ eZ h2.1 h2.2 rfl (by decide) rfl nZ ?_
  refine oMov eZ ?_
  refine xNil ?_
  refine TQ.qn ?_
  refine AW.seqJ (fun t3 : (List TCell) => laws_toCellS_j3 t3 = some r) (fun t3 => mk [(3, (.one (.sl 320128 0 t3.length)))] [(320128, (.data 2 (List.map d_TCell t3) true none))] noG) ?_ ?_
  · intro t3 H
    unfold laws_toCellS_j3 at H
    refine AW.seq ?_
    refine AW.regs ?_
    refine oMov eZ ?_
    refine oMov eZ ?_
    refine xNil ?_
    refine TQ.qn ?_
    refine AW.ret ?_
    obtain rfl := Option.some.inj H
    exact endsR (RL.cons (RV.tmp eZ) (VO.sl bZ (List.length_map _) (allFlat fun _ => rfl)) RL.nil) (by decide)
  · refine AW.seq ?_
    refine AW.regs ?_
    refine oMov eC ?_
    refine xNil ?_
    refine TQ.qn ?_
    refine AW.block ?_
    refine AW.iter (fun s5 : ((List TCell) × Int) => mk [(0, (.one (.d (.sl 2 (List.map d_TCell a1))))), (3, (.one (.sl 320192 0 s5.1.length))), (4, (.one (.d (.int .i64 s5.2))))] [(320192, (.data 2 (List.map d_TCell s5.1) true none))] noG) H ((wk_mk [] (SL.cons (eR rfl) rfl VWk.rfl (SL.cons (eS rfl eZ) rfl (VWk.one (CWk.len (by first | (simp; done) | (simp; omega) | omega))) (SL.cons eZ rfl VWk.rfl SL.nil))) (BL.keep rfl BL.nil) (BK.cons rfl bZ rfl rfl BK.nil)).trans (wk_ren 448 320192 rfl rfl (nS rfl nZ))) ?_
    intro kb6 s5 H
    unfold laws_toCellS_b5 at H
    refine AW.seq ?_
    refine AW.seq ?_
    refine AW.regs ?_
    refine oMov (eR rfl) ?_
    refine oMov (eS rfl eZ) ?_
    refine oLenD eZ (n := a1.length) (List.length_map _) ?_
    refine oLss (eR rfl) eZ ?_
    refine xNil ?_
    refine TQ.qn ?_
    rcases oite H with ⟨h7, H⟩ | ⟨h7, H⟩
    · refine AW.condT eZ (decide_eq_true h7) ?_
      refine AW.skip ?_
      refine TQ.qn ?_
      refine AW.seq ?_
      refine AW.block ?_
      refine AW.regs ?_
      refine oMov (eR rfl) ?_
      refine oMov (eR rfl) ?_
      refine oMov (eR rfl) ?_
      refine oMov (eR rfl) ?_
      obtain ⟨v8, h9, H⟩ := obind H
      refine oAtD (eS rfl eZ) eZ h9 ?_
      refine oLoadBA (es := [(.d (.int .i64 v8.Key)), (.d (.int .i64 v8.Value))]) eZ rfl ?_
      obtain ⟨v10, h11, H⟩ := obind H
      refine oCall (u := (.agg [(.d (.int .i64 v10.Key)), (.d (.int .i64 v10.Value))])) eC Cl.fn (c_laws_toCell h11) (Evs.cons eZ Evs.nil) (VDs.cons (VD.agg rfl) VDs.nil) rfl ?_
      obtain ⟨v12, h13, H⟩ := obind H
      refine oAtN (eR rfl) (eR rfl) bZ rfl h13 ?_
      refine oStoreD (t := v12) (t' := v10) (es := [(.int .i64 v10.Key), (.int .i64 v10.Value)]) eZ (eS rfl eZ) rfl rfl bZ (idx_at h13) rfl rfl ?_
      refine xNil ?_
      refine BQ.qn ?_
      refine TQ.qn ?_
      refine AW.regs ?_
      refine oMov (eR rfl) ?_
      refine oAdd eZ eC ?_
      refine oMov eZ ?_
      refine xNil ?_
      exact TQ.qn ⟨(s5.1.set (Int.toNat s5.2) v10, (IntKind.wrap .i64 (s5.2 + 1))), H, (wk_mk [] (SL.cons (eR rfl) rfl VWk.rfl (SL.cons (eR rfl) rfl (VWk.one (CWk.len (by first | (simp; done) | (simp; omega) | omega))) (SL.cons eZ rfl VWk.rfl SL.nil))) (BL.keep rfl (BL.keep rfl BL.nil)) (BK.cons rfl bZ rfl rfl BK.nil))⟩
    · refine AW.condF eZ (decide_eq_false h7) ?_
      refine AW.exit ?_
      refine TQ.qe ?_
      refine TQ.qe ?_
      refine BQ.qe ?_
      exact TQ.qn ⟨s5.1, H, ((wk_mk [] (SL.cons (eR rfl) rfl VWk.rfl SL.nil) (BL.keep rfl BL.nil) (BK.cons rfl bZ rfl rfl BK.nil)).trans (wk_ren 320192 320128 rfl rfl (nS rfl nZ)))⟩

theorem c_laws_toMove {a1 : TMove} {r : TMove} (H : m_laws_toMove a1 = some r) : Fn Try.prog k_laws_toMove (lent [(.agg (d_TMove a1))]) true [(.agg (d_TMove r))] := by
  refine i_laws_toMove_fn (Nat.le_of_ble_eq_true rfl) ?_
  rw [init_mk]
  refine AW.weaken (wk_mk [] (SL.cons (v := (.agg [(.d (.int .i64 a1.No)), (.d (.int .i64 a1.Stage)), (.d (.int .i64 a1.Lo)), (.d (.int .i64 a1.Hi)), (.d (.int .i64 a1.From)), (.d (.int .i64 a1.To)), (.d (.sl 2 (List.map d_TCell a1.Cells)))])) eZ rfl VWk.rfl SL.nil) BL.nil BK.nil) ?_
  unfold m_laws_toMove at H
  unfold i_laws_toMove
  refine AW.seq ?_
  refine AW.regs ?_
  refine oBox (n := 64) (m := 7) (cs := [(.d (.int .i64 a1.No)), (.d (.int .i64 a1.Stage)), (.d (.int .i64 a1.Lo)), (.d (.int .i64 a1.Hi)), (.d (.int .i64 a1.From)), (.d (.int .i64 a1.To)), (.d (.sl 2 (List.map d_TCell a1.Cells)))]) rfl eZ rfl rfl nZ ?_
  refine oVar (n := 128) (m := 7) rfl rfl (nS rfl nZ) ?_
  refine xNil ?_
  refine TQ.qn ?_
  refine AW.seq ?_
  refine AW.regs ?_
  refine oVar (n := 192) (m := 7) rfl rfl (nS rfl (nS rfl nZ)) ?_
  refine xNil ?_
  refine TQ.qn ?_
  refine AW.seq ?_
  refine AW.regs ?_
  refine oFaddrN (m := 0) (eR rfl) rfl ?_
  refine oLoadV (q := 0) (c := (.d (.int .i64 a1.No))) eZ (bS rfl (bS rfl bZ)) rfl rfl ?_
  refine oFaddrN (m := 0) (eR rfl) rfl ?_
  refine oStoreV (es := [(.d (.int .i64 a1.No)), (.d (.int .i64 0)), (.d (.int .i64 0)), (.d (.int .i64 0)), (.d (.int .i64 0)), (.d (.int .i64 0)), .zs]) eZ (eS rfl eZ) rfl rfl bZ rfl ?_
  refine xNil ?_
  refine TQ.qn ?_
  refine AW.seq ?_
  refine AW.regs ?_
  refine oFaddrN (m := 1) (eR rfl) rfl ?_
  refine oLoadV (q := 1) (c := (.d (.int .i64 a1.Stage))) eZ (bS rfl (bS rfl (bS rfl bZ))) rfl rfl ?_
  refine oFaddrN (m := 1) (eR rfl) rfl ?_
  refine oStoreV (es := [(.d (.int .i64 a1.No)), (.d (.int .i64 a1.Stage)), (.d (.int .i64 0)), (.d (.int .i64 0)), (.d (.int .i64 0)), (.d (.int .i64 0)), .zs]) eZ (eS rfl eZ) rfl rfl bZ rfl ?_
  refine xNil ?_
  refine TQ.qn ?_
  refine AW.seq ?_
  refine AW.regs ?_
  refine oFaddrN (m := 2) (eR rfl) rfl ?_
  refine oLoadV (q := 2) (c := (.d (.int .i64 a1.Lo))) eZ (bS rfl (bS rfl (bS rfl (bS rfl bZ)))) rfl rfl ?_
  refine oFaddrN (m := 2) (eR rfl) rfl ?_
  refine oStoreV (es := [(.d (.int .i64 a1.No)), (.d (.int .i64 a1.Stage)), (.d (.int .i64 a1.Lo)), (.d (.int .i64 0)), (.d (.int .i64 0)), (.d (.int .i64 0)), .zs]) eZ (eS rfl eZ) rfl rfl bZ rfl ?_
  refine xNil ?_
  refine TQ.qn ?_
  refine AW.seq ?_
  refine AW.regs ?_
  refine oFaddrN (m := 3) (eR rfl) rfl ?_
  refine oLoadV (q := 3) (c := (.d (.int .i64 a1.Hi))) eZ (bS rfl (bS rfl (bS rfl (bS rfl (bS rfl bZ))))) rfl rfl ?_
  refine oFaddrN (m := 3) (eR rfl) rfl ?_
  refine oStoreV (es := [(.d (.int .i64 a1.No)), (.d (.int .i64 a1.Stage)), (.d (.int .i64 a1.Lo)), (.d (.int .i64 a1.Hi)), (.d (.int .i64 0)), (.d (.int .i64 0)), .zs]) eZ (eS rfl eZ) rfl rfl bZ rfl ?_
  refine xNil ?_
  refine TQ.qn ?_
  refine AW.weaken (wk_mk [] (SL.cons (k := 3) (eR rfl) rfl VWk.rfl (SL.cons (k := 2) (eR rfl) rfl VWk.rfl (SL.cons (k := 1) (eR rfl) rfl VWk.rfl SL.nil))) (BL.keep rfl (BL.keep rfl (BL.keep rfl (BL.keep rfl (BL.keep rfl (BL.keep rfl (BL.keep rfl BL.nil))))))) (BK.cons (n := 192) rfl bZ rfl rfl (BK.cons (n := 128) rfl (bS rfl (bS rfl (bS rfl (bS rfl (bS rfl bZ))))) rfl rfl (BK.cons (n := 64) rfl (bS rfl (bS rfl (bS rfl (bS rfl (bS rfl (bS rfl bZ)))))) rfl rfl BK.nil)))) ?_
  refine AW.seq ?_
  refine AW.regs ?_
  refine oFaddrN (m := 4) (eR rfl) rfl ?_
  refine oLoadV (q := 4) (c := (.d (.int .i64 a1.From))) eZ (bS rfl (bS rfl bZ)) rfl rfl ?_
  refine oFaddrN (m := 4) (eR rfl) rfl ?_
  refine oStoreV (es := [(.d (.int .i64 a1.No)), (.d (.int .i64 a1.Stage)), (.d (.int .i64 a1.Lo)), (.d (.int .i64 a1.Hi)), (.d (.int .i64 a1.From)), (.d (.int .i64 0)), .zs]) eZ (eS rfl eZ) rfl rfl bZ rfl ?_
  refine xNil ?_
  refine TQ.qn ?_
  refine AW.seq ?_
  refine AW.regs ?_
  refine oFaddrN (m := 5) (eR rfl) rfl ?_
  refine oLoadV (q := 5) (c := (.d (.int .i64 a1.To))) eZ (bS rfl (bS rfl (bS rfl bZ))) rfl rfl ?_
  refine oFaddrN (m := 5) (eR rfl) rfl ?_
  refine oStoreV (es := [(.d (.int .i64 a1.No)), (.d (.int .i64 a1.Stage)), (.d (.int .i64 a1.Lo)), (.d (.int .i64 a1.Hi)), (.d (.int .i64 a1.From)), (.d (.int .i64 a1.To)), .zs]) eZ (eS rfl eZ) rfl rfl bZ rfl ?_
  refine xNil ?_
  refine TQ.qn ?_
  refine AW.seq ?_
  refine AW.regs ?_
  refine oFaddrN (m := 6) (eR rfl) rfl ?_
  refine oLoadV (q := 6) (c := (.d (.sl 2 (List.map d_TCell a1.Cells)))) eZ (bS rfl (bS rfl (bS rfl (bS rfl bZ)))) rfl rfl ?_
  obtain ⟨v2, h3, H⟩ := obind H
  refine oCallN (u := (.one (.sl 1536 0 v2.length))) (bs := [(1536, (.data 2 (List.map d_TCell v2) true none))]) eC Cl.fn (c_laws_toCellS h3) (Evs.cons eZ Evs.nil) (VDs.cons VD.plain VDs.nil) (by simp [bindR, bindV, bindVs, bindC, bindCs]) rfl (fC (nS rfl (nS rfl (nS rfl (nS rfl (nS rfl nZ))))) rfl (fC (nS rfl (nS rfl (nS rfl (nS rfl (nS rfl nZ))))) rfl fN)) ?_
  refine oFaddrN (m := 6) (eR rfl) rfl ?_
  refine oStoreV (es := [(.d (.int .i64 a1.No)), (.d (.int .i64 a1.Stage)), (.d (.int .i64 a1.Lo)), (.d (.int .i64 a1.Hi)), (.d (.int .i64 a1.From)), (.d (.int .i64 a1.To)), (.sl 1536 0 v2.length)]) eZ (eS rfl eZ) rfl rfl (bS rfl bZ) rfl ?_
  refine xNil ?_
  refine TQ.qn ?_
  refine AW.seq ?_
  refine AW.regs ?_
  refine oLoadVA (es := [(.d (.int .i64 a1.No)), (.d (.int .i64 a1.Stage)), (.d (.int .i64 a1.Lo)), (.d (.int .i64 a1.Hi)), (.d (.int .i64 a1.From)), (.d (.int .i64 a1.To)), (.sl 1536 0 v2.length)]) (eR rfl) bZ rfl ?_
  refine oStoreV (es := [(.d (.int .i64 a1.No)), (.d (.int .i64 a1.Stage)), (.d (.int .i64 a1.Lo)), (.d (.int .i64 a1.Hi)), (.d (.int .i64 a1.From)), (.d (.int .i64 a1.To)), (.sl 1536 0 v2.length)]) (eR rfl) eZ rfl rfl (bS rfl (bS rfl (bS rfl (bS rfl (bS rfl bZ))))) rfl ?_
  refine xNil ?_
  refine TQ.qn ?_
  refine AW.ret ?_
  obtain rfl := Option.some.inj H
  exact endsR (RL.cons (RV.cellA (es := [(.d (.int .i64 a1.No)), (.d (.int .i64 a1.Stage)), (.d (.int .i64 a1.Lo)), (.d (.int .i64 a1.Hi)), (.d (.int .i64 a1.From)), (.d (.int .i64 a1.To)), (.sl 1536 0 v2.length)]) (eR rfl) bZ rfl) (VO.aggs (VOs.cons (VO.flat rfl) (VOs.cons (VO.flat rfl) (VOs.cons (VO.flat rfl) (VOs.cons (VO.flat rfl) (VOs.cons (VO.flat rfl) (VOs.cons (VO.flat rfl) (VOs.cons (VO.sl (bS rfl (bS rfl bZ)) (List.length_map _) (allFlat fun _ => rfl)) VOs.nil)))))))) RL.nil) (by decide)

theorem c_laws_toAtlas {a1 : TAtlas} {r : TAtlas} (H : m_laws_toAtlas a1 = some r) : Fn Try.prog k_laws_toAtlas (lent [(.agg (d_TAtlas a1))]) true [(.agg (d_TAtlas r))] := by
  refine i_laws_toAtlas_fn (Nat.le_of_ble_eq_true rfl) ?_
  rw [init_mk]
  refine AW.weaken (wk_mk [] (SL.cons (v := (.agg [(.d (.int .i64 a1.Epoch)), (.d (.sl 3 (List.map d_TPart a1.Parts))), (.d (.int .i64 a1.Move.No)), (.d (.int .i64 a1.Move.Stage)), (.d (.int .i64 a1.Move.Lo)), (.d (.int .i64 a1.Move.Hi)), (.d (.int .i64 a1.Move.From)), (.d (.int .i64 a1.Move.To)), (.d (.sl 2 (List.map d_TCell a1.Move.Cells)))])) eZ rfl VWk.rfl SL.nil) BL.nil BK.nil) ?_
  unfold m_laws_toAtlas at H
  unfold i_laws_toAtlas
  refine AW.seq ?_
  refine AW.regs ?_
  refine oBox (n := 64) (m := 9) (cs := [(.d (.int .i64 a1.Epoch)), (.d (.sl 3 (List.map d_TPart a1.Parts))), (.d (.int .i64 a1.Move.No)), (.d (.int .i64 a1.Move.Stage)), (.d (.int .i64 a1.Move.Lo)), (.d (.int .i64 a1.Move.Hi)), (.d (.int .i64 a1.Move.From)), (.d (.int .i64 a1.Move.To)), (.d (.sl 2 (List.map d_TCell a1.Move.Cells)))]) rfl eZ rfl rfl nZ ?_
  refine oVar (n := 128) (m := 9) rfl rfl (nS rfl nZ) ?_
  refine xNil ?_
  refine TQ.qn ?_
  refine AW.seq ?_
  refine AW.regs ?_
  refine oVar (n := 192) (m := 9) rfl rfl (nS rfl (nS rfl nZ)) ?_
  refine xNil ?_
  refine TQ.qn ?_
  refine AW.seq ?_
  refine AW.regs ?_
  refine oFaddrN (m := 0) (eR rfl) rfl ?_
  refine oLoadV (q := 0) (c := (.d (.int .i64 a1.Epoch))) eZ (bS rfl (bS rfl bZ)) rfl rfl ?_
  refine oFaddrN (m := 0) (eR rfl) rfl ?_
  refine oStoreV (es := [(.d (.int .i64 a1.Epoch)), .zs, (.d (.int .i64 0)), (.d (.int .i64 0)), (.d (.int .i64 0)), (.d (.int .i64 0)), (.d (.int .i64 0)), (.d (.int .i64 0)), .zs]) eZ (eS rfl eZ) rfl rfl bZ rfl ?_
  refine xNil ?_
  refine TQ.qn ?_
  refine AW.seq ?_
  refine AW.regs ?_
  refine oFaddrN (m := 1) (eR rfl) rfl ?_
  refine oLoadV (q := 1) (c := (.d (.sl 3 (List.map d_TPart a1.Parts)))) eZ (bS rfl (bS rfl (bS rfl bZ))) rfl rfl ?_
  obtain ⟨v2, h3, H⟩ := obind H
  refine oCallN (u := (.one (.sl 576 0 v2.length))) (bs := [(576, (.data 3 (List.map d_TPart v2) true none))]) eC Cl.fn (c_laws_toPartS h3) (Evs.cons eZ Evs.nil) (VDs.cons VD.plain VDs.nil) (by simp [bindR, bindV, bindVs, bindC, bindCs]) rfl (fC (nS rfl (nS rfl (nS rfl (nS rfl nZ)))) rfl (fC (nS rfl (nS rfl (nS rfl (nS rfl nZ)))) rfl fN)) ?_
  refine oFaddrN (m := 1) (eR rfl) rfl ?_
  refine oStoreV (es := [(.d (.int .i64 a1.Epoch)), (.sl 576 0 v2.length), (.d (.int .i64 0)), (.d (.int .i64 0)), (.d (.int .i64 0)), (.d (.int .i64 0)), (.d (.int .i64 0)), (.d (.int .i64 0)), .zs]) eZ (eS rfl eZ) rfl rfl (bS rfl bZ) rfl ?_
  refine xNil ?_
  refine TQ.qn ?_
  refine AW.seq ?_
  refine AW.regs ?_
  refine oFaddrN (m := 2) (eR rfl) rfl ?_
  refine oLoadVA (es := [(.d (.int .i64 a1.Move.No)), (.d (.int .i64 a1.Move.Stage)), (.d (.int .i64 a1.Move.Lo)), (.d (.int .i64 a1.Move.Hi)), (.d (.int .i64 a1.Move.From)), (.d (.int .i64 a1.Move.To)), (.d (.sl 2 (List.map d_TCell a1.Move.Cells)))]) eZ (bS rfl (bS rfl (bS rfl (bS rfl (bS rfl bZ))))) rfl ?_
  obtain ⟨v4, h5, H⟩ := obind H
  refine oCallN (u := (.agg [(.d (.int .i64 v4.No)), (.d (.int .i64 v4.Stage)), (.d (.int .i64 v4.Lo)), (.d (.int .i64 v4.Hi)), (.d (.int .i64 v4.From)), (.d (.int .i64 v4.To)), (.sl 838 0 v4.Cells.length)])) (bs := [(838, (.data 2 (List.map d_TCell v4.Cells) true none))]) eC Cl.fn (c_laws_toMove h5) (Evs.cons eZ Evs.nil) (VDs.cons (VD.agg rfl) VDs.nil) (by simp [bindR, bindV, bindVs, bindC, bindCs]) rfl (fC (nS rfl (nS rfl (nS rfl (nS rfl (nS rfl (nS rfl nZ)))))) rfl (fC (nS rfl (nS rfl (nS rfl (nS rfl (nS rfl (nS rfl nZ)))))) rfl fN)) ?_
  refine oFaddrN (m := 2) (eR rfl) rfl ?_
  refine oStoreV (es := [(.d (.int .i64 a1.Epoch)), (.sl 576 0 v2.length), (.d (.int .i64 v4.No)), (.d (.int .i64 v4.Stage)), (.d (.int .i64 v4.Lo)), (.d (.int .i64 v4.Hi)), (.d (.int .i64 v4.From)), (.d (.int .i64 v4.To)), (.sl 838 0 v4.Cells.length)]) eZ (eS rfl eZ) rfl rfl (bS rfl bZ) rfl ?_
  refine xNil ?_
  refine TQ.qn ?_
  refine AW.seq ?_
  refine AW.regs ?_
  refine oLoadVA (es := [(.d (.int .i64 a1.Epoch)), (.sl 576 0 v2.length), (.d (.int .i64 v4.No)), (.d (.int .i64 v4.Stage)), (.d (.int .i64 v4.Lo)), (.d (.int .i64 v4.Hi)), (.d (.int .i64 v4.From)), (.d (.int .i64 v4.To)), (.sl 838 0 v4.Cells.length)]) (eR rfl) bZ rfl ?_
  refine oStoreV (es := [(.d (.int .i64 a1.Epoch)), (.sl 576 0 v2.length), (.d (.int .i64 v4.No)), (.d (.int .i64 v4.Stage)), (.d (.int .i64 v4.Lo)), (.d (.int .i64 v4.Hi)), (.d (.int .i64 v4.From)), (.d (.int .i64 v4.To)), (.sl 838 0 v4.Cells.length)]) (eR rfl) eZ rfl rfl (bS rfl (bS rfl (bS rfl (bS rfl (bS rfl (bS rfl bZ)))))) rfl ?_
  refine xNil ?_
  refine TQ.qn ?_
  refine AW.weaken (wk_mk [192, 64] (SL.cons (k := 2) (eR rfl) rfl VWk.rfl SL.nil) (BL.keep rfl (BL.drop rfl (BL.keep rfl (BL.drop rfl (BL.keep rfl (BL.drop rfl (BL.drop rfl (BL.keep rfl (BL.drop rfl BL.nil))))))))) (BK.cons (n := 128) rfl bZ rfl rfl (BK.cons (n := 838) rfl (bS rfl (bS rfl bZ)) rfl rfl (BK.cons (n := 576) rfl (bS rfl (bS rfl (bS rfl (bS rfl bZ)))) rfl rfl BK.nil)))) ?_
  refine AW.ret ?_
  obtain rfl := Option.some.inj H
  exact endsR (RL.cons (RV.cellA (es := [(.d (.int .i64 a1.Epoch)), (.sl 576 0 v2.length), (.d (.int .i64 v4.No)), (.d (.int .i64 v4.Stage)), (.d (.int .i64 v4.Lo)), (.d (.int .i64 v4.Hi)), (.d (.int .i64 v4.From)), (.d (.int .i64 v4.To)), (.sl 838 0 v4.Cells.length)]) eZ bZ rfl) (VO.aggs (VOs.cons (VO.flat rfl) (VOs.cons (VO.sl (bS rfl (bS rfl bZ)) (List.length_map _) (allFlat fun _ => rfl)) (VOs.cons (VO.flat rfl) (VOs.cons (VO.flat rfl) (VOs.cons (VO.flat rfl) (VOs.cons (VO.flat rfl) (VOs.cons (VO.flat rfl) (VOs.cons (VO.flat rfl) (VOs.cons (VO.sl (bS rfl bZ) (List.length_map _) (allFlat fun _ => rfl)) VOs.nil)))))))))) RL.nil) (by decide)

theorem c_spec_l1In {a1 : Int} {a2 : Int} {a3 : Int} {r : Bool} (H : m_spec_l1In a1 a2 a3 = some r) : Fn Try.prog k_spec_l1In (lent [(.int .i64 a1), (.int .i64 a2), (.int .i64 a3)]) true [(.bool r)] := by
  refine i_spec_l1In_fn (Nat.le_of_ble_eq_true rfl) ?_
  rw [init_mk]
  refine AW.weaken (wk_mk [] (SL.cons (v := (.one (.d (.int .i64 a1)))) eZ rfl VWk.rfl (SL.cons (v := (.one (.d (.int .i64 a2)))) (eS rfl eZ) rfl VWk.rfl (SL.cons (v := (.one (.d (.int .i64 a3)))) (eS rfl (eS rfl eZ)) rfl VWk.rfl SL.nil))) BL.nil BK.nil) ?_
  unfold m_spec_l1In at H
  unfold i_spec_l1In
  refine AW.seq ?_
  refine AW.regs ?_
  refine oMov eC ?_
  refine xNil ?_
  refine TQ.qn ?_
  refine AW.seq ?_
  refine AW.regs ?_
  refine oMov (eS rfl eZ) ?_
  refine oMov (eR rfl) ?_
  refine oGeq (eS rfl eZ) eZ ?_
  refine oMov eZ ?_
  rcases oite H with ⟨h4, H⟩ | ⟨h4, H⟩
  · refine gDo eZ (decide_eq_true h4) ?_
    refine oMov (eR rfl) ?_
    refine gDo (eS rfl eZ) (decide_eq_true h4) ?_
    refine oMov (eR rfl) ?_
    refine gDo (eR rfl) (decide_eq_true h4) ?_
    refine oLeq (eS rfl eZ) eZ ?_
    refine oPickT (eR rfl) (decide_eq_true h4) eZ ?_
    refine oMov eZ ?_
    refine xNil ?_
    refine TQ.qn ?_
    refine AW.ret ?_
    obtain rfl := Option.some.inj H
    exact endsR (RL.cons (RV.tmp eZ) (VO.flat rfl) RL.nil) List.nodup_nil
  · refine gSkip eZ (decide_eq_false h4) rfl ?_
    refine gSkip (eS rfl eZ) (decide_eq_false h4) rfl ?_
    refine gSkip (eR rfl) (decide_eq_false h4) rfl ?_
    refine oPickF (eR rfl) (decide_eq_false h4) eC ?_
    refine oMov eZ ?_
    refine xNil ?_
    refine TQ.qn ?_
    refine AW.ret ?_
    obtain rfl := Option.some.inj H
    exact endsR (RL.cons (RV.tmp eZ) (VO.flat rfl) RL.nil) List.nodup_nil

theorem c_spec_PartsOk {a1 : (List TPart)} {r : Bool} (H : m_spec_PartsOk a1 = some r) : Fn Try.prog k_spec_PartsOk (lent [(.sl 3 (List.map d_TPart a1))]) true [(.bool r)] := by
  refine i_spec_PartsOk_fn (Nat.le_of_ble_eq_true rfl) ?_
  rw [init_mk]
  refine AW.weaken (wk_mk [] (SL.cons (v := (.one (.d (.sl 3 (List.map d_TPart a1))))) eZ rfl VWk.rfl SL.nil) BL.nil BK.nil) ?_
  unfold m_spec_PartsOk at H
  unfold i_spec_PartsOk
  refine AW.seq ?_
  refine AW.regs ?_
  refine oMov eC ?_
  refine xNil ?_
  refine TQ.qn ?_
  refine AW.seq ?_
  refine AW.regs ?_
  refine oMov (eS rfl eZ) ?_
  refine oLenD eZ (n := a1.length) (List.length_map _) ?_
  refine oMov eZ ?_
  refine xNil ?_
  refine TQ.qn ?_
  refine AW.seq ?_
  refine AW.seqJ (fun t2 : Bool => (spec_PartsOk_j2 a1) t2 = some r) (fun t2 => mk [(0, (.one (.d (.sl 3 (List.map d_TPart a1))))), (3, (.one (.d (.int .i64 (a1.length : Int))))), (26, (.one (.d (.bool t2))))] [] noG) ?_ ?_
  · intro t2 H
    unfold spec_PartsOk_j2 at H
    rcases oite H with ⟨h4, H⟩ | ⟨h4, H⟩
    · refine AW.condT (eR rfl) h4 ?_
      refine AW.seq ?_
      refine AW.regs ?_
      refine oMov eC ?_
      refine xNil ?_
      refine TQ.qn ?_
      refine AW.ret ?_
      refine TQ.qr ?_
      obtain rfl := Option.some.inj H
      exact endsR (RL.cons (RV.tmp eZ) (VO.flat rfl) RL.nil) List.nodup_nil
    · refine AW.condF (eR rfl) (nt h4) ?_
      refine AW.skip ?_
      refine TQ.qn ?_
      refine AW.seqJ (fun t5 : Unit => spec_PartsOk_j5 t5 = some r) (fun t5 => mk [] [] noG) ?_ ?_
      · intro t5 H
        unfold spec_PartsOk_j5 at H
        refine AW.seq ?_
        refine AW.regs ?_
        refine oMov eC ?_
        refine xNil ?_
        refine TQ.qn ?_
        refine AW.ret ?_
        obtain rfl := Option.some.inj H
        exact endsR (RL.cons (RV.tmp eZ) (VO.flat rfl) RL.nil) List.nodup_nil
      · refine AW.seq ?_
        refine AW.regs ?_
        refine oMov eC ?_
        refine xNil ?_
        refine TQ.qn ?_
        refine AW.block ?_
        refine AW.iter (fun s7 : Int => mk [(0, (.one (.d (.sl 3 (List.map d_TPart a1))))), (3, (.one (.d (.int .i64 (a1.length : Int))))), (4, (.one (.d (.int .i64 s7))))] [] noG) H (wk_mk [] (SL.cons (eS rfl eZ) rfl VWk.rfl (SL.cons (eR rfl) rfl VWk.rfl (SL.cons eZ rfl VWk.rfl SL.nil))) BL.nil BK.nil) ?_
        intro kb8 s7 H
        unfold spec_PartsOk_b7 at H
        refine AW.seq ?_
        refine AW.seq ?_
        refine AW.regs ?_
        refine oMov (eR rfl) ?_
        refine oMov (eR rfl) ?_
        refine oLss (eS rfl eZ) eZ ?_
        refine xNil ?_
        refine TQ.qn ?_
        rcases oite H with ⟨h9, H⟩ | ⟨h9, H⟩
        · refine AW.condT eZ (decide_eq_true h9) ?_
          refine AW.skip ?_
          refine TQ.qn ?_
          refine AW.seq ?_
          refine AW.block ?_
          refine AW.seq ?_
          refine AW.regs ?_
          refine oMov (eR rfl) ?_
          refine oMov (eR rfl) ?_
          obtain ⟨v10, h11, H⟩ := obind H
          refine oAtD (eS rfl eZ) eZ h11 ?_
          refine oLoadBA (es := [(.d (.int .i64 v10.Lo)), (.d (.int .i64 v10.Hi)), (.d (.int .i64 v10.Owner))]) eZ rfl ?_
          refine oVar (n := 320) (m := 3) rfl rfl nZ ?_
          refine oStoreV (es := [(.d (.int .i64 v10.Lo)), (.d (.int .i64 v10.Hi)), (.d (.int .i64 v10.Owner))]) eZ (eS rfl eZ) rfl rfl bZ rfl ?_
          refine xNil ?_
          refine TQ.qn ?_
          refine AW.seqJ (fun t12 : Bool => (spec_PartsOk_j12 kb8 s7) t12 = some r) (fun t12 => mk [(0, (.one (.d (.sl 3 (List.map d_TPart a1))))), (3, (.one (.d (.int .i64 (a1.length : Int))))), (4, (.one (.d (.int .i64 s7)))), (71, (.one (.d (.bool t12))))] [] noG) ?_ ?_
          · intro t12 H
            unfold spec_PartsOk_j12 at H
            rcases oite H with ⟨h14, H⟩ | ⟨h14, H⟩
            · refine AW.condT (eR rfl) h14 ?_
              refine AW.seq ?_
              refine AW.regs ?_
              refine oMov eC ?_
              refine xNil ?_
              refine TQ.qn ?_
              refine AW.ret ?_
              refine BQ.qr ?_
              refine TQ.qr ?_
              refine TQ.qr ?_
              refine BQ.qr ?_
              refine TQ.qr ?_
              obtain rfl := Option.some.inj H
              exact endsR (RL.cons (RV.tmp eZ) (VO.flat rfl) RL.nil) List.nodup_nil
            · refine AW.condF (eR rfl) (nt h14) ?_
              refine AW.skip ?_
              refine BQ.qn ?_
              refine TQ.qn ?_
              refine AW.regs ?_
              refine oMov (eR rfl) ?_
              refine oAdd eZ eC ?_
              refine oMov eZ ?_
              refine xNil ?_
              exact TQ.qn ⟨(IntKind.wrap .i64 (s7 + 1)), H, (wk_mk [] (SL.cons (eR rfl) rfl VWk.rfl (SL.cons (eR rfl) rfl VWk.rfl (SL.cons eZ rfl VWk.rfl SL.nil))) BL.nil BK.nil)⟩
          · refine AW.regd ?_
            refine oFaddrN (m := 0) eZ rfl ?_
            refine oLoadV (q := 0) (c := (.d (.int .i64 v10.Lo))) eZ bZ rfl rfl ?_
            refine oFaddrN (m := 1) (eR rfl) rfl ?_
            refine oLoadV (q := 1) (c := (.d (.int .i64 v10.Hi))) eZ bZ rfl rfl ?_
            refine oGeq (eR rfl) eZ ?_
            refine oMov eZ ?_
            rcases oite H with ⟨h15, H⟩ | ⟨h15, H⟩
            · refine gSkip eZ (decide_eq_true h15) rfl ?_
              refine gSkip (eS rfl eZ) (decide_eq_true h15) rfl ?_
              refine gSkip (eR rfl) (decide_eq_true h15) rfl ?_
              refine oPickT (eR rfl) (decide_eq_true h15) eC ?_
              refine oMov eZ ?_
              refine gSkip eZ rfl rfl ?_
              refine gSkip (eS rfl eZ) rfl rfl ?_
              refine gSkip (eR rfl) rfl rfl ?_
              refine oPickT (eR rfl) rfl eC ?_
              refine oMov eZ ?_
              refine gSkip eZ rfl rfl ?_
              refine gSkip (eS rfl eZ) rfl rfl ?_
              refine gSkip (eR rfl) rfl rfl ?_
              refine gSkip (eR rfl) rfl rfl ?_
              refine oPickT (eR rfl) rfl eC ?_
              refine oMov eZ ?_
              refine gSkip eZ rfl rfl ?_
              refine gSkip (eS rfl eZ) rfl rfl ?_
              refine gSkip (eR rfl) rfl rfl ?_
              refine gSkipU eZ rfl ?_
              refine gSkipU (eS rfl eZ) rfl ?_
              refine gSkipU (eR rfl) rfl ?_
              refine gSkipU (eR rfl) rfl ?_
              refine gSkipU (eR rfl) rfl ?_
              refine gSkipU (eR rfl) rfl ?_
              refine gSkipU (eR rfl) rfl ?_
              refine gSkipU (eR rfl) rfl ?_
              refine gSkipU (eR rfl) rfl ?_
              refine gSkip (eR rfl) rfl rfl ?_
              refine oPickT (eR rfl) rfl eC ?_
              refine xNil ?_
              exact TQ.qn ⟨true, H, (wk_mk [320] (SL.cons (eR rfl) rfl VWk.rfl (SL.cons (eR rfl) rfl VWk.rfl (SL.cons (eR rfl) rfl VWk.rfl (SL.cons eZ rfl VWk.rfl SL.nil)))) (BL.drop rfl (BL.drop rfl BL.nil)) BK.nil)⟩
            · refine gDo eZ (decide_eq_false h15) ?_
              refine oFaddrN (m := 0) (eR rfl) rfl ?_
              refine gDo (eS rfl eZ) (decide_eq_false h15) ?_
              refine oLoadV (q := 0) (c := (.d (.int .i64 v10.Lo))) eZ bZ rfl rfl ?_
              refine gDo (eR rfl) (decide_eq_false h15) ?_
              refine oLss eZ eC ?_
              refine oPickF (eR rfl) (decide_eq_false h15) eZ ?_
              refine oMov eZ ?_
              rcases oite H with ⟨h16, H⟩ | ⟨h16, H⟩
              · refine gSkip eZ (decide_eq_true h16) rfl ?_
                refine gSkip (eS rfl eZ) (decide_eq_true h16) rfl ?_
                refine gSkip (eR rfl) (decide_eq_true h16) rfl ?_
                refine oPickT (eR rfl) (decide_eq_true h16) eC ?_
                refine oMov eZ ?_
                refine gSkip eZ rfl rfl ?_
                refine gSkip (eS rfl eZ) rfl rfl ?_
                refine gSkip (eR rfl) rfl rfl ?_
                refine gSkip (eR rfl) rfl rfl ?_
                refine oPickT (eR rfl) rfl eC ?_
                refine oMov eZ ?_
                refine gSkip eZ rfl rfl ?_
                refine gSkip (eS rfl eZ) rfl rfl ?_
                refine gSkip (eR rfl) rfl rfl ?_
                refine gSkipU eZ rfl ?_
                refine gSkipU (eS rfl eZ) rfl ?_
                refine gSkipU (eR rfl) rfl ?_
                refine gSkipU (eR rfl) rfl ?_
                refine gSkipU (eR rfl) rfl ?_
                refine gSkipU (eR rfl) rfl ?_
                refine gSkipU (eR rfl) rfl ?_
                refine gSkipU (eR rfl) rfl ?_
                refine gSkipU (eR rfl) rfl ?_
                refine gSkip (eR rfl) rfl rfl ?_
                refine oPickT (eR rfl) rfl eC ?_
                refine xNil ?_
                exact TQ.qn ⟨true, H, (wk_mk [320] (SL.cons (eR rfl) rfl VWk.rfl (SL.cons (eR rfl) rfl VWk.rfl (SL.cons (eR rfl) rfl VWk.rfl (SL.cons eZ rfl VWk.rfl SL.nil)))) (BL.drop rfl (BL.drop rfl BL.nil)) BK.nil)⟩
              · refine gDo eZ (decide_eq_false h16) ?_
                refine oFaddrN (m := 1) (eR rfl) rfl ?_
                refine gDo (eS rfl eZ) (decide_eq_false h16) ?_
                refine oLoadV (q := 1) (c := (.d (.int .i64 v10.Hi))) eZ bZ rfl rfl ?_
                refine gDo (eR rfl) (decide_eq_false h16) ?_
                refine oGtr eZ eC ?_
                refine oPickF (eR rfl) (decide_eq_false h16) eZ ?_
                refine oMov eZ ?_
                rcases oite H with ⟨h17, H⟩ | ⟨h17, H⟩
                · refine gSkip eZ (decide_eq_true h17) rfl ?_
                  refine gSkip (eS rfl eZ) (decide_eq_true h17) rfl ?_
                  refine gSkip (eR rfl) (decide_eq_true h17) rfl ?_
                  refine gSkip (eR rfl) (decide_eq_true h17) rfl ?_
                  refine oPickT (eR rfl) (decide_eq_true h17) eC ?_
                  refine oMov eZ ?_
                  refine gSkip eZ rfl rfl ?_
                  refine gSkip (eS rfl eZ) rfl rfl ?_
                  refine gSkip (eR rfl) rfl rfl ?_
                  refine gSkipU eZ rfl ?_
                  refine gSkipU (eS rfl eZ) rfl ?_
                  refine gSkipU (eR rfl) rfl ?_
                  refine gSkipU (eR rfl) rfl ?_
                  refine gSkipU (eR rfl) rfl ?_
                  refine gSkipU (eR rfl) rfl ?_
                  refine gSkipU (eR rfl) rfl ?_
                  refine gSkipU (eR rfl) rfl ?_
                  refine gSkipU (eR rfl) rfl ?_
                  refine gSkip (eR rfl) rfl rfl ?_
                  refine oPickT (eR rfl) rfl eC ?_
                  refine xNil ?_
                  exact TQ.qn ⟨true, H, (wk_mk [320] (SL.cons (eR rfl) rfl VWk.rfl (SL.cons (eR rfl) rfl VWk.rfl (SL.cons (eR rfl) rfl VWk.rfl (SL.cons eZ rfl VWk.rfl SL.nil)))) (BL.drop rfl (BL.drop rfl BL.nil)) BK.nil)⟩
                · refine gDo eZ (decide_eq_false h17) ?_
                  refine oFaddrN (m := 2) (eR rfl) rfl ?_
                  refine gDo (eS rfl eZ) (decide_eq_false h17) ?_
                  refine oLoadV (q := 2) (c := (.d (.int .i64 v10.Owner))) eZ bZ rfl rfl ?_
                  refine gDo (eR rfl) (decide_eq_false h17) ?_
                  obtain ⟨v18, h19, H⟩ := obind H
                  refine oCall (u := (.one (.d (.bool v18)))) eC Cl.fn (c_spec_l1In h19) (Evs.cons eZ (Evs.cons eC (Evs.cons eC Evs.nil))) (VDs.cons VD.plain (VDs.cons VD.plain (VDs.cons VD.plain VDs.nil))) rfl ?_
                  refine gDo (eR rfl) (decide_eq_false h17) ?_
                  refine oInv eZ ?_
                  refine oPickF (eR rfl) (decide_eq_false h17) eZ ?_
                  refine oMov eZ ?_
                  rcases oite H with ⟨h20, H⟩ | ⟨h20, H⟩
                  · refine gDo eZ (congrArg Bool.not h20) ?_
                    refine oMov (eR rfl) ?_
                    refine gDo (eS rfl eZ) (congrArg Bool.not h20) ?_
                    refine oGtr eZ eC ?_
                    refine gDo (eR rfl) (congrArg Bool.not h20) ?_
                    refine oMov eZ ?_
                    rcases oite H with ⟨h21, H⟩ | ⟨h21, H⟩
                    · refine gDo eZ (decide_eq_true h21) ?_
                      refine oMov (eR rfl) ?_
                      refine gDo (eS rfl eZ) (decide_eq_true h21) ?_
                      refine oMov (eR rfl) ?_
                      refine gDo (eR rfl) (decide_eq_true h21) ?_
                      refine oSub eZ eC ?_
                      refine gDo (eR rfl) (decide_eq_true h21) ?_
                      obtain ⟨v22, h23, H⟩ := obind H
                      refine oAtD (eR rfl) eZ h23 ?_
                      refine gDo (eR rfl) (decide_eq_true h21) ?_
                      refine oFaddrB (m := 1) eZ rfl ?_
                      refine gDo (eR rfl) (decide_eq_true h21) ?_
                      refine oLoadB (e := (.int .i64 v22.Hi)) eZ rfl ?_
                      refine gDo (eR rfl) (decide_eq_true h21) ?_
                      refine oFaddrN (m := 0) (eR rfl) rfl ?_
                      refine gDo (eR rfl) (decide_eq_true h21) ?_
                      refine oLoadV (q := 0) (c := (.d (.int .i64 v10.Lo))) eZ bZ rfl rfl ?_
                      refine gDo (eR rfl) (decide_eq_true h21) ?_
                      refine oNeq (eR rfl) eZ ?_
                      refine gDo (eR rfl) (congrArg Bool.not h20) ?_
                      refine oPickT (eR rfl) (decide_eq_true h21) eZ ?_
                      refine oPickF (eR rfl) (congrArg Bool.not h20) eZ ?_
                      refine xNil ?_
                      exact TQ.qn ⟨(decide (¬ v22.Hi = v10.Lo)), H, (wk_mk [320] (SL.cons (eR rfl) rfl VWk.rfl (SL.cons (eR rfl) rfl VWk.rfl (SL.cons (eR rfl) rfl VWk.rfl (SL.cons eZ rfl VWk.rfl SL.nil)))) (BL.drop rfl (BL.drop rfl BL.nil)) BK.nil)⟩
                    · refine gSkip eZ (decide_eq_false h21) rfl ?_
                      refine gSkip (eS rfl eZ) (decide_eq_false h21) rfl ?_
                      refine gSkip (eR rfl) (decide_eq_false h21) rfl ?_
                      refine gSkip (eR rfl) (decide_eq_false h21) rfl ?_
                      refine gSkip (eR rfl) (decide_eq_false h21) rfl ?_
                      refine gSkip (eR rfl) (decide_eq_false h21) rfl ?_
                      refine gSkip (eR rfl) (decide_eq_false h21) rfl ?_
                      refine gSkip (eR rfl) (decide_eq_false h21) rfl ?_
                      refine gSkip (eR rfl) (decide_eq_false h21) rfl ?_
                      refine gDo (eR rfl) (congrArg Bool.not h20) ?_
                      refine oPickF (eR rfl) (decide_eq_false h21) eC ?_
                      refine oPickF (eR rfl) (congrArg Bool.not h20) eZ ?_
                      refine xNil ?_
                      exact TQ.qn ⟨false, H, (wk_mk [320] (SL.cons (eR rfl) rfl VWk.rfl (SL.cons (eR rfl) rfl VWk.rfl (SL.cons (eR rfl) rfl VWk.rfl (SL.cons eZ rfl VWk.rfl SL.nil)))) (BL.drop rfl (BL.drop rfl BL.nil)) BK.nil)⟩
                  · refine gSkip eZ (congrArg Bool.not (nt h20)) rfl ?_
                    refine gSkip (eS rfl eZ) (congrArg Bool.not (nt h20)) rfl ?_
                    refine gSkip (eR rfl) (congrArg Bool.not (nt h20)) rfl ?_
                    refine gSkipU eZ rfl ?_
                    refine gSkipU (eS rfl eZ) rfl ?_
                    refine gSkipU (eR rfl) rfl ?_
                    refine gSkipU (eR rfl) rfl ?_
                    refine gSkipU (eR rfl) rfl ?_
                    refine gSkipU (eR rfl) rfl ?_
                    refine gSkipU (eR rfl) rfl ?_
                    refine gSkipU (eR rfl) rfl ?_
                    refine gSkipU (eR rfl) rfl ?_
                    refine gSkip (eR rfl) (congrArg Bool.not (nt h20)) rfl ?_
                    refine oPickT (eR rfl) (congrArg Bool.not (nt h20)) eC ?_
                    refine xNil ?_
                    exact TQ.qn ⟨true, H, (wk_mk [320] (SL.cons (eR rfl) rfl VWk.rfl (SL.cons (eR rfl) rfl VWk.rfl (SL.cons (eR rfl) rfl VWk.rfl (SL.cons eZ rfl VWk.rfl SL.nil)))) (BL.drop rfl (BL.drop rfl BL.nil)) BK.nil)⟩
        · refine AW.condF eZ (decide_eq_false h9) ?_
          refine AW.exit ?_
          refine TQ.qe ?_
          refine TQ.qe ?_
          refine BQ.qe ?_
          exact TQ.qn ⟨(), H, (wk_mk [] SL.nil BL.nil BK.nil)⟩
  · refine AW.regs ?_
    refine oMov eZ ?_
    obtain ⟨v24, h25, H⟩ := obind H
    refine oCall (u := (.one (.d (.bool v24)))) eC Cl.fn (c_spec_l1In h25) (Evs.cons eZ (Evs.cons eC (Evs.cons eC Evs.nil))) (VDs.cons VD.plain (VDs.cons VD.plain (VDs.cons VD.plain VDs.nil))) rfl ?_
    refine oInv eZ ?_
    refine oMov eZ ?_
    rcases oite H with ⟨h26, H⟩ | ⟨h26, H⟩
    · refine gDo eZ (congrArg Bool.not h26) ?_
      refine oMov (eR rfl) ?_
      refine gDo (eS rfl eZ) (congrArg Bool.not h26) ?_
      obtain ⟨v27, h28, H⟩ := obind H
      refine oAtD eZ eC h28 ?_
      refine gDo (eR rfl) (congrArg Bool.not h26) ?_
      refine oFaddrB (m := 0) eZ rfl ?_
      refine gDo (eR rfl) (congrArg Bool.not h26) ?_
      refine oLoadB (e := (.int .i64 v27.Lo)) eZ rfl ?_
      refine gDo (eR rfl) (congrArg Bool.not h26) ?_
      refine oNeq eZ eC ?_
      refine oPickF (eR rfl) (congrArg Bool.not h26) eZ ?_
      refine oMov eZ ?_
      rcases oite H with ⟨h29, H⟩ | ⟨h29, H⟩
      · refine gSkip eZ (decide_eq_true h29) rfl ?_
        refine gSkip (eS rfl eZ) (decide_eq_true h29) rfl ?_
        refine gSkip (eR rfl) (decide_eq_true h29) rfl ?_
        refine gSkip (eR rfl) (decide_eq_true h29) rfl ?_
        refine gSkip (eR rfl) (decide_eq_true h29) rfl ?_
        refine gSkip (eR rfl) (decide_eq_true h29) rfl ?_
        refine gSkip (eR rfl) (decide_eq_true h29) rfl ?_
        refine oPickT (eR rfl) (decide_eq_true h29) eC ?_
        refine xNil ?_
        exact TQ.qn ⟨true, H, (wk_mk [] (SL.cons (eR rfl) rfl VWk.rfl (SL.cons (eR rfl) rfl VWk.rfl (SL.cons eZ rfl VWk.rfl SL.nil))) BL.nil BK.nil)⟩
      · refine gDo eZ (decide_eq_false h29) ?_
        refine oMov (eR rfl) ?_
        refine gDo (eS rfl eZ) (decide_eq_false h29) ?_
        refine oMov (eR rfl) ?_
        refine gDo (eR rfl) (decide_eq_false h29) ?_
        refine oSub eZ eC ?_
        refine gDo (eR rfl) (decide_eq_false h29) ?_
        obtain ⟨v30, h31, H⟩ := obind H
        refine oAtD (eR rfl) eZ h31 ?_
        refine gDo (eR rfl) (decide_eq_false h29) ?_
        refine oFaddrB (m := 1) eZ rfl ?_
        refine gDo (eR rfl) (decide_eq_false h29) ?_
        refine oLoadB (e := (.int .i64 v30.Hi)) eZ rfl ?_
        refine gDo (eR rfl) (decide_eq_false h29) ?_
        refine oNeq eZ eC ?_
        refine oPickF (eR rfl) (decide_eq_false h29) eZ ?_
        refine xNil ?_
        exact TQ.qn ⟨(decide (¬ v30.Hi = 1000)), H, (wk_mk [] (SL.cons (eR rfl) rfl VWk.rfl (SL.cons (eR rfl) rfl VWk.rfl (SL.cons eZ rfl VWk.rfl SL.nil))) BL.nil BK.nil)⟩
    · refine gSkip eZ (congrArg Bool.not (nt h26)) rfl ?_
      refine gSkip (eS rfl eZ) (congrArg Bool.not (nt h26)) rfl ?_
      refine gSkip (eR rfl) (congrArg Bool.not (nt h26)) rfl ?_
      refine gSkip (eR rfl) (congrArg Bool.not (nt h26)) rfl ?_
      refine gSkip (eR rfl) (congrArg Bool.not (nt h26)) rfl ?_
      refine oPickT (eR rfl) (congrArg Bool.not (nt h26)) eC ?_
      refine oMov eZ ?_
      refine gSkip eZ rfl rfl ?_
      refine gSkip (eS rfl eZ) rfl rfl ?_
      refine gSkip (eR rfl) rfl rfl ?_
      refine gSkip (eR rfl) rfl rfl ?_
      refine gSkip (eR rfl) rfl rfl ?_
      refine gSkip (eR rfl) rfl rfl ?_
      refine gSkip (eR rfl) rfl rfl ?_
      refine oPickT (eR rfl) rfl eC ?_
      refine xNil ?_
      exact TQ.qn ⟨true, H, (wk_mk [] (SL.cons (eR rfl) rfl VWk.rfl (SL.cons (eR rfl) rfl VWk.rfl (SL.cons eZ rfl VWk.rfl SL.nil))) BL.nil BK.nil)⟩

theorem c_spec_l10Key {a1 : Int} {r : Bool} (H : m_spec_l10Key a1 = some r) : Fn Try.prog k_spec_l10Key (lent [(.int .i64 a1)]) true [(.bool r)] := by
  refine i_spec_l10Key_fn (Nat.le_of_ble_eq_true rfl) ?_
  rw [init_mk]
  refine AW.weaken (wk_mk [] (SL.cons (v := (.one (.d (.int .i64 a1)))) eZ rfl VWk.rfl SL.nil) BL.nil BK.nil) ?_
  unfold m_spec_l10Key at H
  unfold i_spec_l10Key
  refine AW.seq ?_
  refine AW.regs ?_
  refine oMov eC ?_
  refine xNil ?_
  refine TQ.qn ?_
  refine AW.seq ?_
  refine AW.regs ?_
  refine oMov (eS rfl eZ) ?_
  obtain ⟨v2, h3, H⟩ := obind H
  refine oCall (u := (.one (.d (.bool v2)))) eC Cl.fn (c_spec_l1In h3) (Evs.cons eZ (Evs.cons eC (Evs.cons eC Evs.nil))) (VDs.cons VD.plain (VDs.cons VD.plain (VDs.cons VD.plain VDs.nil))) rfl ?_
  refine oMov eZ ?_
  refine xNil ?_
  refine TQ.qn ?_
  refine AW.ret ?_
  obtain rfl := Option.some.inj H
  exact endsR (RL.cons (RV.tmp eZ) (VO.flat rfl) RL.nil) List.nodup_nil

theorem c_spec_l1Whole {a1 : Int} {r : Bool} (H : m_spec_l1Whole a1 = some r) : Fn Try.prog k_spec_l1Whole (lent [(.int .i64 a1)]) true [(.bool r)] := by
  refine i_spec_l1Whole_fn (Nat.le_of_ble_eq_true rfl) ?_
  rw [init_mk]
  refine AW.weaken (wk_mk [] (SL.cons (v := (.one (.d (.int .i64 a1)))) eZ rfl VWk.rfl SL.nil) BL.nil BK.nil) ?_
  unfold m_spec_l1Whole at H
  unfold i_spec_l1Whole
  refine AW.seq ?_
  refine AW.regs ?_
  refine oMov eC ?_
  refine xNil ?_
  refine TQ.qn ?_
  refine AW.seq ?_
  refine AW.regs ?_
  refine oMov (eS rfl eZ) ?_
  obtain ⟨v2, h3, H⟩ := obind H
  refine oCall (u := (.one (.d (.bool v2)))) eC Cl.fn (c_spec_l1In h3) (Evs.cons eZ (Evs.cons eC (Evs.cons eC Evs.nil))) (VDs.cons VD.plain (VDs.cons VD.plain (VDs.cons VD.plain VDs.nil))) rfl ?_
  refine oMov eZ ?_
  refine xNil ?_
  refine TQ.qn ?_
  refine AW.ret ?_
  obtain rfl := Option.some.inj H
  exact endsR (RL.cons (RV.tmp eZ) (VO.flat rfl) RL.nil) List.nodup_nil

theorem c_spec_StoreOk {a1 : (List TCell)} {r : Bool} (H : m_spec_StoreOk a1 = some r) : Fn Try.prog k_spec_StoreOk (lent [(.sl 2 (List.map d_TCell a1))]) true [(.bool r)] := by
  refine i_spec_StoreOk_fn (Nat.le_of_ble_eq_true rfl) ?_
  rw [init_mk]
  refine AW.weaken (wk_mk [] (SL.cons (v := (.one (.d (.sl 2 (List.map d_TCell a1))))) eZ rfl VWk.rfl SL.nil) BL.nil BK.nil) ?_
  unfold m_spec_StoreOk at H
  unfold i_spec_StoreOk
  refine AW.seq ?_
  refine AW.regs ?_
  refine oMov eC ?_
  refine xNil ?_
  refine TQ.qn ?_
  refine AW.seq ?_
  refine AW.seq ?_
  refine AW.regs ?_
  refine oMov (eS rfl eZ) ?_
  refine oLenD eZ (n := a1.length) (List.length_map _) ?_
  refine oGtr eZ eC ?_
  refine xNil ?_
  refine TQ.qn ?_
  rcases oite H with ⟨h2, H⟩ | ⟨h2, H⟩
  · refine AW.condT eZ (decide_eq_true h2) ?_
    refine AW.seq ?_
    refine AW.regs ?_
    refine oMov eC ?_
    refine xNil ?_
    refine TQ.qn ?_
    refine AW.ret ?_
    refine TQ.qr ?_
    obtain rfl := Option.some.inj H
    exact endsR (RL.cons (RV.tmp eZ) (VO.flat rfl) RL.nil) List.nodup_nil
  · refine AW.condF eZ (decide_eq_false h2) ?_
    refine AW.skip ?_
    refine TQ.qn ?_
    refine AW.seqJ (fun t3 : Unit => spec_StoreOk_j3 t3 = some r) (fun t3 => mk [] [] noG) ?_ ?_
    · intro t3 H
      unfold spec_StoreOk_j3 at H
      refine AW.seq ?_
      refine AW.regs ?_
      refine oMov eC ?_
      refine xNil ?_
      refine TQ.qn ?_
      refine AW.ret ?_
      obtain rfl := Option.some.inj H
      exact endsR (RL.cons (RV.tmp eZ) (VO.flat rfl) RL.nil) List.nodup_nil
    · refine AW.seq ?_
      refine AW.regs ?_
      refine oMov eC ?_
      refine xNil ?_
      refine TQ.qn ?_
      refine AW.block ?_
      refine AW.iter (fun s5 : Int => mk [(0, (.one (.d (.sl 2 (List.map d_TCell a1))))), (3, (.one (.d (.int .i64 s5))))] [] noG) H (wk_mk [] (SL.cons (eR rfl) rfl VWk.rfl (SL.cons eZ rfl VWk.rfl SL.nil)) BL.nil BK.nil) ?_
      intro kb6 s5 H
      unfold spec_StoreOk_b5 at H
      refine AW.seq ?_
      refine AW.seq ?_
      refine AW.regs ?_
      refine oMov (eS rfl eZ) ?_
      refine oMov (eS rfl eZ) ?_
      refine oLenD eZ (n := a1.length) (List.length_map _) ?_
      refine oLss (eR rfl) eZ ?_
      refine xNil ?_
      refine TQ.qn ?_
      rcases oite H with ⟨h7, H⟩ | ⟨h7, H⟩
      · refine AW.condT eZ (decide_eq_true h7) ?_
        refine AW.skip ?_
        refine TQ.qn ?_
        refine AW.seq ?_
        refine AW.block ?_
        refine AW.seqJ (fun t8 : Bool => (spec_StoreOk_j8 kb6 s5) t8 = some r) (fun t8 => mk [(0, (.one (.d (.sl 2 (List.map d_TCell a1))))), (3, (.one (.d (.int .i64 s5)))), (46, (.one (.d (.bool t8))))] [] noG) ?_ ?_
        · intro t8 H
          unfold spec_StoreOk_j8 at H
          rcases oite H with ⟨h10, H⟩ | ⟨h10, H⟩
          · refine AW.condT (eR rfl) h10 ?_
            refine AW.seq ?_
            refine AW.regs ?_
            refine oMov eC ?_
            refine xNil ?_
            refine TQ.qn ?_
            refine AW.ret ?_
            refine BQ.qr ?_
            refine TQ.qr ?_
            refine TQ.qr ?_
            refine BQ.qr ?_
            refine TQ.qr ?_
            obtain rfl := Option.some.inj H
            exact endsR (RL.cons (RV.tmp eZ) (VO.flat rfl) RL.nil) List.nodup_nil
          · refine AW.condF (eR rfl) (nt h10) ?_
            refine AW.skip ?_
            refine BQ.qn ?_
            refine TQ.qn ?_
            refine AW.regs ?_
            refine oMov (eS rfl eZ) ?_
            refine oAdd eZ eC ?_
            refine oMov eZ ?_
            refine xNil ?_
            exact TQ.qn ⟨(IntKind.wrap .i64 (s5 + 1)), H, (wk_mk [] (SL.cons (eR rfl) rfl VWk.rfl (SL.cons eZ rfl VWk.rfl SL.nil)) BL.nil BK.nil)⟩
        · refine AW.regd ?_
          refine oMov (eR rfl) ?_
          refine oMov (eR rfl) ?_
          obtain ⟨v11, h12, H⟩ := obind H
          refine oAtD (eS rfl eZ) eZ h12 ?_
          refine oFaddrB (m := 0) eZ rfl ?_
          refine oLoadB (e := (.int .i64 v11.Key)) eZ rfl ?_
          obtain ⟨v13, h14, H⟩ := obind H
          refine oCall (u := (.one (.d (.bool v13)))) eC Cl.fn (c_spec_l10Key h14) (Evs.cons eZ Evs.nil) (VDs.cons VD.plain VDs.nil) rfl ?_
          refine oInv eZ ?_
          refine oMov eZ ?_
          rcases oite H with ⟨h15, H⟩ | ⟨h15, H⟩
          · refine gDo eZ (congrArg Bool.not h15) ?_
            refine oMov (eR rfl) ?_
            refine gDo (eS rfl eZ) (congrArg Bool.not h15) ?_
            refine oMov (eR rfl) ?_
            refine gDo (eR rfl) (congrArg Bool.not h15) ?_
            obtain ⟨v16, h17, H⟩ := obind H
            refine oAtD (eS rfl eZ) eZ h17 ?_
            refine gDo (eR rfl) (congrArg Bool.not h15) ?_
            refine oFaddrB (m := 1) eZ rfl ?_
            refine gDo (eR rfl) (congrArg Bool.not h15) ?_
            refine oLoadB (e := (.int .i64 v16.Value)) eZ rfl ?_
            refine gDo (eR rfl) (congrArg Bool.not h15) ?_
            obtain ⟨v18, h19, H⟩ := obind H
            refine oCall (u := (.one (.d (.bool v18)))) eC Cl.fn (c_spec_l1Whole h19) (Evs.cons eZ Evs.nil) (VDs.cons VD.plain VDs.nil) rfl ?_
            refine gDo (eR rfl) (congrArg Bool.not h15) ?_
            refine oInv eZ ?_
            refine oPickF (eR rfl) (congrArg Bool.not h15) eZ ?_
            refine oMov eZ ?_
            rcases oite H with ⟨h20, H⟩ | ⟨h20, H⟩
            · refine gDo eZ (congrArg Bool.not h20) ?_
              refine oMov (eR rfl) ?_
              refine gDo (eS rfl eZ) (congrArg Bool.not h20) ?_
              refine oGtr eZ eC ?_
              refine gDo (eR rfl) (congrArg Bool.not h20) ?_
              refine oMov eZ ?_
              rcases oite H with ⟨h21, H⟩ | ⟨h21, H⟩
              · refine gDo eZ (decide_eq_true h21) ?_
                refine oMov (eR rfl) ?_
                refine gDo (eS rfl eZ) (decide_eq_true h21) ?_
                refine oMov (eR rfl) ?_
                refine gDo (eR rfl) (decide_eq_true h21) ?_
                refine oSub eZ eC ?_
                refine gDo (eR rfl) (decide_eq_true h21) ?_
                obtain ⟨v22, h23, H⟩ := obind H
                refine oAtD (eR rfl) eZ h23 ?_
                refine gDo (eR rfl) (decide_eq_true h21) ?_
                refine oFaddrB (m := 0) eZ rfl ?_
                refine gDo (eR rfl) (decide_eq_true h21) ?_
                refine oLoadB (e := (.int .i64 v22.Key)) eZ rfl ?_
                refine gDo (eR rfl) (decide_eq_true h21) ?_
                refine oMov (eR rfl) ?_
                refine gDo (eR rfl) (decide_eq_true h21) ?_
                refine oMov (eR rfl) ?_
                refine gDo (eR rfl) (decide_eq_true h21) ?_
                obtain ⟨v24, h25, H⟩ := obind H
                refine oAtD (eS rfl eZ) eZ h25 ?_
                refine gDo (eR rfl) (decide_eq_true h21) ?_
                refine oFaddrB (m := 0) eZ rfl ?_
                refine gDo (eR rfl) (decide_eq_true h21) ?_
                refine oLoadB (e := (.int .i64 v24.Key)) eZ rfl ?_
                refine gDo (eR rfl) (decide_eq_true h21) ?_
                refine oGeq (eR rfl) eZ ?_
                refine gDo (eR rfl) (congrArg Bool.not h20) ?_
                refine oPickT (eR rfl) (decide_eq_true h21) eZ ?_
                refine oPickF (eR rfl) (congrArg Bool.not h20) eZ ?_
                refine xNil ?_
                exact TQ.qn ⟨(decide (v24.Key ≤ v22.Key)), H, (wk_mk [] (SL.cons (eR rfl) rfl VWk.rfl (SL.cons (eR rfl) rfl VWk.rfl (SL.cons eZ rfl VWk.rfl SL.nil))) BL.nil BK.nil)⟩
              · refine gSkip eZ (decide_eq_false h21) rfl ?_
                refine gSkip (eS rfl eZ) (decide_eq_false h21) rfl ?_
                refine gSkip (eR rfl) (decide_eq_false h21) rfl ?_
                refine gSkip (eR rfl) (decide_eq_false h21) rfl ?_
                refine gSkip (eR rfl) (decide_eq_false h21) rfl ?_
                refine gSkip (eR rfl) (decide_eq_false h21) rfl ?_
                refine gSkip (eR rfl) (decide_eq_false h21) rfl ?_
                refine gSkip (eR rfl) (decide_eq_false h21) rfl ?_
                refine gSkip (eR rfl) (decide_eq_false h21) rfl ?_
                refine gSkip (eR rfl) (decide_eq_false h21) rfl ?_
                refine gSkip (eR rfl) (decide_eq_false h21) rfl ?_
                refine gSkip (eR rfl) (decide_eq_false h21) rfl ?_
                refine gDo (eR rfl) (congrArg Bool.not h20) ?_
                refine oPickF (eR rfl) (decide_eq_false h21) eC ?_
                refine oPickF (eR rfl) (congrArg Bool.not h20) eZ ?_
                refine xNil ?_
                exact TQ.qn ⟨false, H, (wk_mk [] (SL.cons (eR rfl) rfl VWk.rfl (SL.cons (eR rfl) rfl VWk.rfl (SL.cons eZ rfl VWk.rfl SL.nil))) BL.nil BK.nil)⟩
            · refine gSkip eZ (congrArg Bool.not (nt h20)) rfl ?_
              refine gSkip (eS rfl eZ) (congrArg Bool.not (nt h20)) rfl ?_
              refine gSkip (eR rfl) (congrArg Bool.not (nt h20)) rfl ?_
              refine gSkipU eZ rfl ?_
              refine gSkipU (eS rfl eZ) rfl ?_
              refine gSkipU (eR rfl) rfl ?_
              refine gSkipU (eR rfl) rfl ?_
              refine gSkipU (eR rfl) rfl ?_
              refine gSkipU (eR rfl) rfl ?_
              refine gSkipU (eR rfl) rfl ?_
              refine gSkipU (eR rfl) rfl ?_
              refine gSkipU (eR rfl) rfl ?_
              refine gSkipU (eR rfl) rfl ?_
              refine gSkipU (eR rfl) rfl ?_
              refine gSkipU (eR rfl) rfl ?_
              refine gSkip (eR rfl) (congrArg Bool.not (nt h20)) rfl ?_
              refine oPickT (eR rfl) (congrArg Bool.not (nt h20)) eC ?_
              refine xNil ?_
              exact TQ.qn ⟨true, H, (wk_mk [] (SL.cons (eR rfl) rfl VWk.rfl (SL.cons (eR rfl) rfl VWk.rfl (SL.cons eZ rfl VWk.rfl SL.nil))) BL.nil BK.nil)⟩
          · refine gSkip eZ (congrArg Bool.not (nt h15)) rfl ?_
            refine gSkip (eS rfl eZ) (congrArg Bool.not (nt h15)) rfl ?_
            refine gSkip (eR rfl) (congrArg Bool.not (nt h15)) rfl ?_
            refine gSkip (eR rfl) (congrArg Bool.not (nt h15)) rfl ?_
            refine gSkip (eR rfl) (congrArg Bool.not (nt h15)) rfl ?_
            refine gSkip (eR rfl) (congrArg Bool.not (nt h15)) rfl ?_
            refine gSkip (eR rfl) (congrArg Bool.not (nt h15)) rfl ?_
            refine oPickT (eR rfl) (congrArg Bool.not (nt h15)) eC ?_
            refine oMov eZ ?_
            refine gSkip eZ rfl rfl ?_
            refine gSkip (eS rfl eZ) rfl rfl ?_
            refine gSkip (eR rfl) rfl rfl ?_
            refine gSkipU eZ rfl ?_
            refine gSkipU (eS rfl eZ) rfl ?_
            refine gSkipU (eR rfl) rfl ?_
            refine gSkipU (eR rfl) rfl ?_
            refine gSkipU (eR rfl) rfl ?_
            refine gSkipU (eR rfl) rfl ?_
            refine gSkipU (eR rfl) rfl ?_
            refine gSkipU (eR rfl) rfl ?_
            refine gSkipU (eR rfl) rfl ?_
            refine gSkipU (eR rfl) rfl ?_
            refine gSkipU (eR rfl) rfl ?_
            refine gSkipU (eR rfl) rfl ?_
            refine gSkip (eR rfl) rfl rfl ?_
            refine oPickT (eR rfl) rfl eC ?_
            refine xNil ?_
            exact TQ.qn ⟨true, H, (wk_mk [] (SL.cons (eR rfl) rfl VWk.rfl (SL.cons (eR rfl) rfl VWk.rfl (SL.cons eZ rfl VWk.rfl SL.nil))) BL.nil BK.nil)⟩
      · refine AW.condF eZ (decide_eq_false h7) ?_
        refine AW.exit ?_
        refine TQ.qe ?_
        refine TQ.qe ?_
        refine BQ.qe ?_
        exact TQ.qn ⟨(), H, (wk_mk [] SL.nil BL.nil BK.nil)⟩

theorem c_spec_RangeOk {a1 : TRange} {r : Bool} (H : m_spec_RangeOk a1 = some r) : Fn Try.prog k_spec_RangeOk (lent [(.agg (d_TRange a1))]) true [(.bool r)] := by
  refine i_spec_RangeOk_fn (Nat.le_of_ble_eq_true rfl) ?_
  rw [init_mk]
  refine AW.weaken (wk_mk [] (SL.cons (v := (.agg [(.d (.int .i64 a1.Lo)), (.d (.int .i64 a1.Hi))])) eZ rfl VWk.rfl SL.nil) BL.nil BK.nil) ?_
  unfold m_spec_RangeOk at H
  unfold i_spec_RangeOk
  refine AW.seq ?_
  refine AW.regs ?_
  refine oBox (n := 64) (m := 2) (cs := [(.d (.int .i64 a1.Lo)), (.d (.int .i64 a1.Hi))]) rfl eZ rfl rfl nZ ?_
  refine oMov eC ?_
  refine xNil ?_
  refine TQ.qn ?_
  refine AW.seq ?_
  refine AW.regs ?_
  refine oFaddrN (m := 0) (eS rfl eZ) rfl ?_
  refine oLoadV (q := 0) (c := (.d (.int .i64 a1.Lo))) eZ bZ rfl rfl ?_
  refine oGeq eZ eC ?_
  refine oMov eZ ?_
  rcases oite H with ⟨h2, H⟩ | ⟨h2, H⟩
  · refine gDo eZ (decide_eq_true h2) ?_
    refine oFaddrN (m := 0) (eR rfl) rfl ?_
    refine gDo (eS rfl eZ) (decide_eq_true h2) ?_
    refine oLoadV (q := 0) (c := (.d (.int .i64 a1.Lo))) eZ bZ rfl rfl ?_
    refine gDo (eR rfl) (decide_eq_true h2) ?_
    refine oFaddrN (m := 1) (eR rfl) rfl ?_
    refine gDo (eR rfl) (decide_eq_true h2) ?_
    refine oLoadV (q := 1) (c := (.d (.int .i64 a1.Hi))) eZ bZ rfl rfl ?_
    refine gDo (eR rfl) (decide_eq_true h2) ?_
    refine oLss (eR rfl) eZ ?_
    refine oPickT (eR rfl) (decide_eq_true h2) eZ ?_
    refine oMov eZ ?_
    rcases oite H with ⟨h3, H⟩ | ⟨h3, H⟩
    · refine gDo eZ (decide_eq_true h3) ?_
      refine oFaddrN (m := 1) (eR rfl) rfl ?_
      refine gDo (eS rfl eZ) (decide_eq_true h3) ?_
      refine oLoadV (q := 1) (c := (.d (.int .i64 a1.Hi))) eZ bZ rfl rfl ?_
      refine gDo (eR rfl) (decide_eq_true h3) ?_
      refine oLeq eZ eC ?_
      refine oPickT (eR rfl) (decide_eq_true h3) eZ ?_
      refine oMov eZ ?_
      refine xNil ?_
      refine TQ.qn ?_
      refine AW.weaken (wk_mk [64] (SL.cons (k := 2) eZ rfl VWk.rfl SL.nil) (BL.drop rfl BL.nil) BK.nil) ?_
      refine AW.ret ?_
      obtain rfl := Option.some.inj H
      exact endsR (RL.cons (RV.tmp eZ) (VO.flat rfl) RL.nil) List.nodup_nil
    · refine gSkip eZ (decide_eq_false h3) rfl ?_
      refine gSkip (eS rfl eZ) (decide_eq_false h3) rfl ?_
      refine gSkip (eR rfl) (decide_eq_false h3) rfl ?_
      refine oPickF (eR rfl) (decide_eq_false h3) eC ?_
      refine oMov eZ ?_
      refine xNil ?_
      refine TQ.qn ?_
      refine AW.weaken (wk_mk [64] (SL.cons (k := 2) eZ rfl VWk.rfl SL.nil) (BL.drop rfl BL.nil) BK.nil) ?_
      refine AW.ret ?_
      obtain rfl := Option.some.inj H
      exact endsR (RL.cons (RV.tmp eZ) (VO.flat rfl) RL.nil) List.nodup_nil
  · refine gSkip eZ (decide_eq_false h2) rfl ?_
    refine gSkip (eS rfl eZ) (decide_eq_false h2) rfl ?_
    refine gSkip (eR rfl) (decide_eq_false h2) rfl ?_
    refine gSkip (eR rfl) (decide_eq_false h2) rfl ?_
    refine gSkip (eR rfl) (decide_eq_false h2) rfl ?_
    refine oPickF (eR rfl) (decide_eq_false h2) eC ?_
    refine oMov eZ ?_
    refine gSkip eZ rfl rfl ?_
    refine gSkip (eS rfl eZ) rfl rfl ?_
    refine gSkip (eR rfl) rfl rfl ?_
    refine oPickF (eR rfl) rfl eC ?_
    refine oMov eZ ?_
    refine xNil ?_
    refine TQ.qn ?_
    refine AW.weaken (wk_mk [64] (SL.cons (k := 2) eZ rfl VWk.rfl SL.nil) (BL.drop rfl BL.nil) BK.nil) ?_
    refine AW.ret ?_
    obtain rfl := Option.some.inj H
    exact endsR (RL.cons (RV.tmp eZ) (VO.flat rfl) RL.nil) List.nodup_nil

theorem c_spec_l15Group {a1 : Int} {r : Bool} (H : m_spec_l15Group a1 = some r) : Fn Try.prog k_spec_l15Group (lent [(.int .i64 a1)]) true [(.bool r)] := by
  refine i_spec_l15Group_fn (Nat.le_of_ble_eq_true rfl) ?_
  rw [init_mk]
  refine AW.weaken (wk_mk [] (SL.cons (v := (.one (.d (.int .i64 a1)))) eZ rfl VWk.rfl SL.nil) BL.nil BK.nil) ?_
  unfold m_spec_l15Group at H
  unfold i_spec_l15Group
  refine AW.seq ?_
  refine AW.regs ?_
  refine oMov eC ?_
  refine xNil ?_
  refine TQ.qn ?_
  refine AW.seq ?_
  refine AW.regs ?_
  refine oMov (eS rfl eZ) ?_
  obtain ⟨v2, h3, H⟩ := obind H
  refine oCall (u := (.one (.d (.bool v2)))) eC Cl.fn (c_spec_l1In h3) (Evs.cons eZ (Evs.cons eC (Evs.cons eC Evs.nil))) (VDs.cons VD.plain (VDs.cons VD.plain (VDs.cons VD.plain VDs.nil))) rfl ?_
  refine oMov eZ ?_
  refine xNil ?_
  refine TQ.qn ?_
  refine AW.ret ?_
  obtain rfl := Option.some.inj H
  exact endsR (RL.cons (RV.tmp eZ) (VO.flat rfl) RL.nil) List.nodup_nil

theorem c_spec_l15In {a1 : (List TCell)} {a2 : TMove} {r : Bool} (H : m_spec_l15In a1 a2 = some r) : Fn Try.prog k_spec_l15In (lent [(.sl 2 (List.map d_TCell a1)), (.agg (d_TMove a2))]) true [(.bool r)] := by
  refine i_spec_l15In_fn (Nat.le_of_ble_eq_true rfl) ?_
  rw [init_mk]
  refine AW.weaken (wk_mk [] (SL.cons (v := (.one (.d (.sl 2 (List.map d_TCell a1))))) eZ rfl VWk.rfl (SL.cons (v := (.agg [(.d (.int .i64 a2.No)), (.d (.int .i64 a2.Stage)), (.d (.int .i64 a2.Lo)), (.d (.int .i64 a2.Hi)), (.d (.int .i64 a2.From)), (.d (.int .i64 a2.To)), (.d (.sl 2 (List.map d_TCell a2.Cells)))])) (eS rfl eZ) rfl VWk.rfl SL.nil)) BL.nil BK.nil) ?_
  unfold m_spec_l15In at H
  unfold i_spec_l15In
  refine AW.seq ?_
  refine AW.regs ?_
  refine oBox (n := 192) (m := 7) (cs := [(.d (.int .i64 a2.No)), (.d (.int .i64 a2.Stage)), (.d (.int .i64 a2.Lo)), (.d (.int .i64 a2.Hi)), (.d (.int .i64 a2.From)), (.d (.int .i64 a2.To)), (.d (.sl 2 (List.map d_TCell a2.Cells)))]) rfl (eS rfl eZ) rfl rfl nZ ?_
  refine oMov eC ?_
  refine xNil ?_
  refine TQ.qn ?_
  refine AW.seqJ (fun t3 : Unit => spec_l15In_j3 t3 = some r) (fun t3 => mk [] [] noG) ?_ ?_
  · intro t3 H
    unfold spec_l15In_j3 at H
    refine AW.seq ?_
    refine AW.regs ?_
    refine oMov eC ?_
    refine xNil ?_
    refine TQ.qn ?_
    refine AW.ret ?_
    obtain rfl := Option.some.inj H
    exact endsR (RL.cons (RV.tmp eZ) (VO.flat rfl) RL.nil) List.nodup_nil
  · refine AW.seq ?_
    refine AW.regs ?_
    refine oMov eC ?_
    refine xNil ?_
    refine TQ.qn ?_
    refine AW.block ?_
    refine AW.iter (fun s5 : Int => mk [(0, (.one (.d (.sl 2 (List.map d_TCell a1))))), (3, (.one (.ptr (.nm 192 0 0)))), (5, (.one (.d (.int .i64 s5))))] [(192, (.vars 7 [(.d (.int .i64 a2.No)), (.d (.int .i64 a2.Stage)), (.d (.int .i64 a2.Lo)), (.d (.int .i64 a2.Hi)), (.d (.int .i64 a2.From)), (.d (.int .i64 a2.To)), (.d (.sl 2 (List.map d_TCell a2.Cells)))]))] noG) H (wk_mk [] (SL.cons (eR rfl) rfl VWk.rfl (SL.cons (eR rfl) rfl VWk.rfl (SL.cons eZ rfl VWk.rfl SL.nil))) (BL.keep rfl BL.nil) (BK.cons rfl bZ rfl rfl BK.nil)) ?_
    intro kb6 s5 H
    unfold spec_l15In_b5 at H
    refine AW.seq ?_
    refine AW.seq ?_
    refine AW.regs ?_
    refine oMov (eR rfl) ?_
    refine oMov (eS rfl eZ) ?_
    refine oLenD eZ (n := a1.length) (List.length_map _) ?_
    refine oLss (eR rfl) eZ ?_
    refine xNil ?_
    refine TQ.qn ?_
    rcases oite H with ⟨h7, H⟩ | ⟨h7, H⟩
    · refine AW.condT eZ (decide_eq_true h7) ?_
      refine AW.skip ?_
      refine TQ.qn ?_
      refine AW.seq ?_
      refine AW.block ?_
      refine AW.seq ?_
      refine AW.regd ?_
      refine oMov (eR rfl) ?_
      refine oMov (eR rfl) ?_
      obtain ⟨v8, h9, H⟩ := obind H
      refine oAtD (eS rfl eZ) eZ h9 ?_
      refine oFaddrB (m := 0) eZ rfl ?_
      refine oLoadB (e := (.int .i64 v8.Key)) eZ rfl ?_
      refine oFaddrN (m := 2) (eR rfl) rfl ?_
      refine oLoadV (q := 2) (c := (.d (.int .i64 a2.Lo))) eZ bZ rfl rfl ?_
      refine oFaddrN (m := 3) (eR rfl) rfl ?_
      refine oLoadV (q := 3) (c := (.d (.int .i64 a2.Hi))) eZ bZ rfl rfl ?_
      refine oSub eZ eC ?_
      obtain ⟨v10, h11, H⟩ := obind H
      refine oCall (u := (.one (.d (.bool v10)))) eC Cl.fn (c_spec_l1In h11) (Evs.cons (eR rfl) (Evs.cons (eR rfl) (Evs.cons eZ Evs.nil))) (VDs.cons VD.plain (VDs.cons VD.plain (VDs.cons VD.plain VDs.nil))) rfl ?_
      refine oInv eZ ?_
      refine xNil ?_
      refine TQ.qn ?_
      refine AW.weaken (wk_mk [] (SL.cons (k := 23) eZ rfl VWk.rfl (SL.cons (k := 0) (eR rfl) rfl VWk.rfl (SL.cons (k := 3) (eR rfl) rfl VWk.rfl (SL.cons (k := 5) (eR rfl) rfl VWk.rfl SL.nil)))) (BL.keep rfl BL.nil) (BK.cons (n := 192) rfl bZ rfl rfl BK.nil)) ?_
      rcases oite H with ⟨h12, H⟩ | ⟨h12, H⟩
      · refine AW.condF eZ (congrArg Bool.not h12) ?_
        refine AW.skip ?_
        refine BQ.qn ?_
        refine TQ.qn ?_
        refine AW.regs ?_
        refine oMov (eR rfl) ?_
        refine oAdd eZ eC ?_
        refine oMov eZ ?_
        refine xNil ?_
        exact TQ.qn ⟨(IntKind.wrap .i64 (s5 + 1)), H, (wk_mk [] (SL.cons (eR rfl) rfl VWk.rfl (SL.cons (eR rfl) rfl VWk.rfl (SL.cons eZ rfl VWk.rfl SL.nil))) (BL.keep rfl BL.nil) (BK.cons rfl bZ rfl rfl BK.nil))⟩
      · refine AW.condT eZ (congrArg Bool.not (nt h12)) ?_
        refine AW.seq ?_
        refine AW.regs ?_
        refine oMov eC ?_
        refine xNil ?_
        refine TQ.qn ?_
        refine AW.ret ?_
        refine BQ.qr ?_
        refine TQ.qr ?_
        refine TQ.qr ?_
        refine BQ.qr ?_
        refine TQ.qr ?_
        obtain rfl := Option.some.inj H
        exact endsR (RL.cons (RV.tmp eZ) (VO.flat rfl) RL.nil) List.nodup_nil
    · refine AW.condF eZ (decide_eq_false h7) ?_
      refine AW.exit ?_
      refine TQ.qe ?_
      refine TQ.qe ?_
      refine BQ.qe ?_
      exact TQ.qn ⟨(), H, (wk_mk [192] SL.nil (BL.drop rfl BL.nil) BK.nil)⟩

theorem c_spec_AtlasOk {a1 : TAtlas} {r : Bool} (H : m_spec_AtlasOk a1 = some r) : Fn Try.prog k_spec_AtlasOk (lent [(.agg (d_TAtlas a1))]) true [(.bool r)] := by
  refine i_spec_AtlasOk_fn (Nat.le_of_ble_eq_true rfl) ?_
  rw [init_mk]
  refine AW.weaken (wk_mk [] (SL.cons (v := (.agg [(.d (.int .i64 a1.Epoch)), (.d (.sl 3 (List.map d_TPart a1.Parts))), (.d (.int .i64 a1.Move.No)), (.d (.int .i64 a1.Move.Stage)), (.d (.int .i64 a1.Move.Lo)), (.d (.int .i64 a1.Move.Hi)), (.d (.int .i64 a1.Move.From)), (.d (.int .i64 a1.Move.To)), (.d (.sl 2 (List.map d_TCell a1.Move.Cells)))])) eZ rfl VWk.rfl SL.nil) BL.nil BK.nil) ?_
  unfold m_spec_AtlasOk at H
  unfold i_spec_AtlasOk
  refine AW.seq ?_
  refine AW.regs ?_
  refine oBox (n := 64) (m := 9) (cs := [(.d (.int .i64 a1.Epoch)), (.d (.sl 3 (List.map d_TPart a1.Parts))), (.d (.int .i64 a1.Move.No)), (.d (.int .i64 a1.Move.Stage)), (.d (.int .i64 a1.Move.Lo)), (.d (.int .i64 a1.Move.Hi)), (.d (.int .i64 a1.Move.From)), (.d (.int .i64 a1.Move.To)), (.d (.sl 2 (List.map d_TCell a1.Move.Cells)))]) rfl eZ rfl rfl nZ ?_
  refine oMov eC ?_
  refine xNil ?_
  refine TQ.qn ?_
  refine AW.seq ?_
  refine AW.regs ?_
  refine oFaddrN (m := 2) (eS rfl eZ) rfl ?_
  refine oLoadVA (es := [(.d (.int .i64 a1.Move.No)), (.d (.int .i64 a1.Move.Stage)), (.d (.int .i64 a1.Move.Lo)), (.d (.int .i64 a1.Move.Hi)), (.d (.int .i64 a1.Move.From)), (.d (.int .i64 a1.Move.To)), (.d (.sl 2 (List.map d_TCell a1.Move.Cells)))]) eZ bZ rfl ?_
  refine oVar (n := 192) (m := 7) rfl rfl (nS rfl nZ) ?_
  refine oStoreV (es := [(.d (.int .i64 a1.Move.No)), (.d (.int .i64 a1.Move.Stage)), (.d (.int .i64 a1.Move.Lo)), (.d (.int .i64 a1.Move.Hi)), (.d (.int .i64 a1.Move.From)), (.d (.int .i64 a1.Move.To)), (.d (.sl 2 (List.map d_TCell a1.Move.Cells)))]) eZ (eS rfl eZ) rfl rfl bZ rfl ?_
  refine xNil ?_
  refine TQ.qn ?_
  refine AW.seq ?_
  refine AW.seqJ (fun t2 : Bool => (spec_AtlasOk_j2 a1) t2 = some r) (fun t2 => mk [(3, (.one (.ptr (.nm 192 0 0)))), (33, (.one (.d (.bool t2))))] [(192, (.vars 7 [(.d (.int .i64 a1.Move.No)), (.d (.int .i64 a1.Move.Stage)), (.d (.int .i64 a1.Move.Lo)), (.d (.int .i64 a1.Move.Hi)), (.d (.int .i64 a1.Move.From)), (.d (.int .i64 a1.Move.To)), (.d (.sl 2 (List.map d_TCell a1.Move.Cells)))]))] noG) ?_ ?_
  · intro t2 H
    unfold spec_AtlasOk_j2 at H
    rcases oite H with ⟨h4, H⟩ | ⟨h4, H⟩
    · refine AW.condT (eS rfl eZ) h4 ?_
      refine AW.seq ?_
      refine AW.regs ?_
      refine oMov eC ?_
      refine xNil ?_
      refine TQ.qn ?_
      refine AW.ret ?_
      refine TQ.qr ?_
      obtain rfl := Option.some.inj H
      exact endsR (RL.cons (RV.tmp eZ) (VO.flat rfl) RL.nil) List.nodup_nil
    · refine AW.condF (eS rfl eZ) (nt h4) ?_
      refine AW.skip ?_
      refine TQ.qn ?_
      refine AW.seq ?_
      refine AW.seq ?_
      refine AW.regs ?_
      refine oFaddrN (m := 1) eZ rfl ?_
      refine oLoadV (q := 1) (c := (.d (.int .i64 a1.Move.Stage))) eZ bZ rfl rfl ?_
      refine oEql eZ eC ?_
      refine xNil ?_
      refine TQ.qn ?_
      rcases oite H with ⟨h5, H⟩ | ⟨h5, H⟩
      · refine AW.condT eZ (decide_eq_true h5) ?_
        refine AW.seq ?_
        refine AW.regs ?_
        refine oFaddrN (m := 2) (eR rfl) rfl ?_
        refine oLoadV (q := 2) (c := (.d (.int .i64 a1.Move.Lo))) eZ bZ rfl rfl ?_
        refine oEql eZ eC ?_
        refine oMov eZ ?_
        rcases oite H with ⟨h6, H⟩ | ⟨h6, H⟩
        · refine gDo eZ (decide_eq_true h6) ?_
          refine oFaddrN (m := 3) (eR rfl) rfl ?_
          refine gDo (eS rfl eZ) (decide_eq_true h6) ?_
          refine oLoadV (q := 3) (c := (.d (.int .i64 a1.Move.Hi))) eZ bZ rfl rfl ?_
          refine gDo (eR rfl) (decide_eq_true h6) ?_
          refine oEql eZ eC ?_
          refine oPickT (eR rfl) (decide_eq_true h6) eZ ?_
          refine oMov eZ ?_
          rcases oite H with ⟨h7, H⟩ | ⟨h7, H⟩
          · refine gDo eZ (decide_eq_true h7) ?_
            refine oFaddrN (m := 4) (eR rfl) rfl ?_
            refine gDo (eS rfl eZ) (decide_eq_true h7) ?_
            refine oLoadV (q := 4) (c := (.d (.int .i64 a1.Move.From))) eZ bZ rfl rfl ?_
            refine gDo (eR rfl) (decide_eq_true h7) ?_
            refine oEql eZ eC ?_
            refine oPickT (eR rfl) (decide_eq_true h7) eZ ?_
            refine oMov eZ ?_
            rcases oite H with ⟨h8, H⟩ | ⟨h8, H⟩
            · refine gDo eZ (decide_eq_true h8) ?_
              refine oFaddrN (m := 5) (eR rfl) rfl ?_
              refine gDo (eS rfl eZ) (decide_eq_true h8) ?_
              refine oLoadV (q := 5) (c := (.d (.int .i64 a1.Move.To))) eZ bZ rfl rfl ?_
              refine gDo (eR rfl) (decide_eq_true h8) ?_
              refine oEql eZ eC ?_
              refine oPickT (eR rfl) (decide_eq_true h8) eZ ?_
              refine oMov eZ ?_
              rcases oite H with ⟨h9, H⟩ | ⟨h9, H⟩
              · refine gDo eZ (decide_eq_true h9) ?_
                refine oFaddrN (m := 6) (eR rfl) rfl ?_
                refine gDo (eS rfl eZ) (decide_eq_true h9) ?_
                refine oLoadV (q := 6) (c := (.d (.sl 2 (List.map d_TCell a1.Move.Cells)))) eZ bZ rfl rfl ?_
                refine gDo (eR rfl) (decide_eq_true h9) ?_
                refine oLenD eZ (n := a1.Move.Cells.length) (List.length_map _) ?_
                refine gDo (eR rfl) (decide_eq_true h9) ?_
                refine oEql eZ eC ?_
                refine oPickT (eR rfl) (decide_eq_true h9) eZ ?_
                refine oMov eZ ?_
                refine xNil ?_
                refine TQ.qn ?_
                refine AW.weaken (wk_mk [192] (SL.cons (k := 2) eZ rfl VWk.rfl SL.nil) (BL.drop rfl BL.nil) BK.nil) ?_
                refine AW.ret ?_
                refine TQ.qr ?_
                obtain rfl := Option.some.inj H
                exact endsR (RL.cons (RV.tmp eZ) (VO.flat rfl) RL.nil) List.nodup_nil
              · refine gSkip eZ (decide_eq_false h9) rfl ?_
                refine gSkip (eS rfl eZ) (decide_eq_false h9) rfl ?_
                refine gSkip (eR rfl) (decide_eq_false h9) rfl ?_
                refine gSkip (eR rfl) (decide_eq_false h9) rfl ?_
                refine oPickF (eR rfl) (decide_eq_false h9) eC ?_
                refine oMov eZ ?_
                refine xNil ?_
                refine TQ.qn ?_
                refine AW.weaken (wk_mk [192] (SL.cons (k := 2) eZ rfl VWk.rfl SL.nil) (BL.drop rfl BL.nil) BK.nil) ?_
                refine AW.ret ?_
                refine TQ.qr ?_
                obtain rfl := Option.some.inj H
                exact endsR (RL.cons (RV.tmp eZ) (VO.flat rfl) RL.nil) List.nodup_nil
            · refine gSkip eZ (decide_eq_false h8) rfl ?_
              refine gSkip (eS rfl eZ) (decide_eq_false h8) rfl ?_
              refine gSkip (eR rfl) (decide_eq_false h8) rfl ?_
              refine oPickF (eR rfl) (decide_eq_false h8) eC ?_
              refine oMov eZ ?_
              refine gSkip eZ rfl rfl ?_
              refine gSkip (eS rfl eZ) rfl rfl ?_
              refine gSkip (eR rfl) rfl rfl ?_
              refine gSkip (eR rfl) rfl rfl ?_
              refine oPickF (eR rfl) rfl eC ?_
              refine oMov eZ ?_
              refine xNil ?_
              refine TQ.qn ?_
              refine AW.weaken (wk_mk [192] (SL.cons (k := 2) eZ rfl VWk.rfl SL.nil) (BL.drop rfl BL.nil) BK.nil) ?_
              refine AW.ret ?_
              refine TQ.qr ?_
              obtain rfl := Option.some.inj H
              exact endsR (RL.cons (RV.tmp eZ) (VO.flat rfl) RL.nil) List.nodup_nil
          · refine gSkip eZ (decide_eq_false h7) rfl ?_
            refine gSkip (eS rfl eZ) (decide_eq_false h7) rfl ?_
            refine gSkip (eR rfl) (decide_eq_false h7) rfl ?_
            refine oPickF (eR rfl) (decide_eq_false h7) eC ?_
            refine oMov eZ ?_
            refine gSkip eZ rfl rfl ?_
            refine gSkip (eS rfl eZ) rfl rfl ?_
            refine gSkip (eR rfl) rfl rfl ?_
            refine oPickF (eR rfl) rfl eC ?_
            refine oMov eZ ?_
            refine gSkip eZ rfl rfl ?_
            refine gSkip (eS rfl eZ) rfl rfl ?_
            refine gSkip (eR rfl) rfl rfl ?_
            refine gSkip (eR rfl) rfl rfl ?_
            refine oPickF (eR rfl) rfl eC ?_
            refine oMov eZ ?_
            refine xNil ?_
            refine TQ.qn ?_
            refine AW.weaken (wk_mk [192] (SL.cons (k := 2) eZ rfl VWk.rfl SL.nil) (BL.drop rfl BL.nil) BK.nil) ?_
            refine AW.ret ?_
            refine TQ.qr ?_
            obtain rfl := Option.some.inj H
            exact endsR (RL.cons (RV.tmp eZ) (VO.flat rfl) RL.nil) List.nodup_nil
        · refine gSkip eZ (decide_eq_false h6) rfl ?_
          refine gSkip (eS rfl eZ) (decide_eq_false h6) rfl ?_
          refine gSkip (eR rfl) (decide_eq_false h6) rfl ?_
          refine oPickF (eR rfl) (decide_eq_false h6) eC ?_
          refine oMov eZ ?_
          refine gSkip eZ rfl rfl ?_
          refine gSkip (eS rfl eZ) rfl rfl ?_
          refine gSkip (eR rfl) rfl rfl ?_
          refine oPickF (eR rfl) rfl eC ?_
          refine oMov eZ ?_
          refine gSkip eZ rfl rfl ?_
          refine gSkip (eS rfl eZ) rfl rfl ?_
          refine gSkip (eR rfl) rfl rfl ?_
          refine oPickF (eR rfl) rfl eC ?_
          refine oMov eZ ?_
          refine gSkip eZ rfl rfl ?_
          refine gSkip (eS rfl eZ) rfl rfl ?_
          refine gSkip (eR rfl) rfl rfl ?_
          refine gSkip (eR rfl) rfl rfl ?_
          refine oPickF (eR rfl) rfl eC ?_
          refine oMov eZ ?_
          refine xNil ?_
          refine TQ.qn ?_
          refine AW.weaken (wk_mk [192] (SL.cons (k := 2) eZ rfl VWk.rfl SL.nil) (BL.drop rfl BL.nil) BK.nil) ?_
          refine AW.ret ?_
          refine TQ.qr ?_
          obtain rfl := Option.some.inj H
          exact endsR (RL.cons (RV.tmp eZ) (VO.flat rfl) RL.nil) List.nodup_nil
      · refine AW.condF eZ (decide_eq_false h5) ?_
        refine AW.skip ?_
        refine TQ.qn ?_
        refine AW.seq ?_
        refine AW.seqJ (fun t10 : Bool => (spec_AtlasOk_j10 a1) t10 = some r) (fun t10 => mk [(3, (.one (.ptr (.nm 192 0 0)))), (91, (.one (.d (.bool t10))))] [(192, (.vars 7 [(.d (.int .i64 a1.Move.No)), (.d (.int .i64 a1.Move.Stage)), (.d (.int .i64 a1.Move.Lo)), (.d (.int .i64 a1.Move.Hi)), (.d (.int .i64 a1.Move.From)), (.d (.int .i64 a1.Move.To)), (.d (.sl 2 (List.map d_TCell a1.Move.Cells)))]))] noG) ?_ ?_
        · intro t10 H
          unfold spec_AtlasOk_j10 at H
          rcases oite H with ⟨h12, H⟩ | ⟨h12, H⟩
          · refine AW.condT (eS rfl eZ) h12 ?_
            refine AW.seq ?_
            refine AW.regs ?_
            refine oMov eC ?_
            refine xNil ?_
            refine TQ.qn ?_
            refine AW.ret ?_
            refine TQ.qr ?_
            obtain rfl := Option.some.inj H
            exact endsR (RL.cons (RV.tmp eZ) (VO.flat rfl) RL.nil) List.nodup_nil
          · refine AW.condF (eS rfl eZ) (nt h12) ?_
            refine AW.skip ?_
            refine TQ.qn ?_
            refine AW.seq ?_
            refine AW.regs ?_
            refine oFaddrN (m := 6) eZ rfl ?_
            refine oLoadV (q := 6) (c := (.d (.sl 2 (List.map d_TCell a1.Move.Cells)))) eZ bZ rfl rfl ?_
            refine oLoadVA (es := [(.d (.int .i64 a1.Move.No)), (.d (.int .i64 a1.Move.Stage)), (.d (.int .i64 a1.Move.Lo)), (.d (.int .i64 a1.Move.Hi)), (.d (.int .i64 a1.Move.From)), (.d (.int .i64 a1.Move.To)), (.d (.sl 2 (List.map d_TCell a1.Move.Cells)))]) (eR rfl) bZ rfl ?_
            obtain ⟨v13, h14, H⟩ := obind H
            refine oCall (u := (.one (.d (.bool v13)))) eC Cl.fn (c_spec_l15In h14) (Evs.cons (eS rfl eZ) (Evs.cons eZ Evs.nil)) (VDs.cons VD.plain (VDs.cons (VD.agg rfl) VDs.nil)) rfl ?_
            refine oMov eZ ?_
            rcases oite H with ⟨h15, H⟩ | ⟨h15, H⟩
            · refine gDo eZ h15 ?_
              refine oFaddrN (m := 1) (eR rfl) rfl ?_
              refine gDo (eS rfl eZ) h15 ?_
              refine oLoadV (q := 1) (c := (.d (.int .i64 a1.Move.Stage))) eZ bZ rfl rfl ?_
              refine gDo (eR rfl) h15 ?_
              refine oEql eZ eC ?_
              refine gDo (eR rfl) h15 ?_
              refine oMov eZ ?_
              rcases oite H with ⟨h16, H⟩ | ⟨h16, H⟩
              · refine gSkip eZ (decide_eq_true h16) rfl ?_
                refine gSkip (eS rfl eZ) (decide_eq_true h16) rfl ?_
                refine gSkip (eR rfl) (decide_eq_true h16) rfl ?_
                refine gSkip (eR rfl) (decide_eq_true h16) rfl ?_
                refine gDo (eR rfl) h15 ?_
                refine oPickT (eR rfl) (decide_eq_true h16) eC ?_
                refine oPickT (eR rfl) h15 eZ ?_
                refine oMov eZ ?_
                refine xNil ?_
                refine TQ.qn ?_
                refine AW.weaken (wk_mk [192] (SL.cons (k := 2) eZ rfl VWk.rfl SL.nil) (BL.drop rfl BL.nil) BK.nil) ?_
                refine AW.ret ?_
                obtain rfl := Option.some.inj H
                exact endsR (RL.cons (RV.tmp eZ) (VO.flat rfl) RL.nil) List.nodup_nil
              · refine gDo eZ (decide_eq_false h16) ?_
                refine oFaddrN (m := 6) (eR rfl) rfl ?_
                refine gDo (eS rfl eZ) (decide_eq_false h16) ?_
                refine oLoadV (q := 6) (c := (.d (.sl 2 (List.map d_TCell a1.Move.Cells)))) eZ bZ rfl rfl ?_
                refine gDo (eR rfl) (decide_eq_false h16) ?_
                refine oLenD eZ (n := a1.Move.Cells.length) (List.length_map _) ?_
                refine gDo (eR rfl) (decide_eq_false h16) ?_
                refine oEql eZ eC ?_
                refine gDo (eR rfl) h15 ?_
                refine oPickF (eR rfl) (decide_eq_false h16) eZ ?_
                refine oPickT (eR rfl) h15 eZ ?_
                refine oMov eZ ?_
                refine xNil ?_
                refine TQ.qn ?_
                refine AW.weaken (wk_mk [192] (SL.cons (k := 2) eZ rfl VWk.rfl SL.nil) (BL.drop rfl BL.nil) BK.nil) ?_
                refine AW.ret ?_
                obtain rfl := Option.some.inj H
                exact endsR (RL.cons (RV.tmp eZ) (VO.flat rfl) RL.nil) List.nodup_nil
            · refine gSkip eZ (nt h15) rfl ?_
              refine gSkip (eS rfl eZ) (nt h15) rfl ?_
              refine gSkip (eR rfl) (nt h15) rfl ?_
              refine gSkip (eR rfl) (nt h15) rfl ?_
              refine gSkipU eZ rfl ?_
              refine gSkipU (eS rfl eZ) rfl ?_
              refine gSkipU (eR rfl) rfl ?_
              refine gSkipU (eR rfl) rfl ?_
              refine gSkip (eR rfl) (nt h15) rfl ?_
              refine oPickF (eR rfl) (nt h15) eC ?_
              refine oMov eZ ?_
              refine xNil ?_
              refine TQ.qn ?_
              refine AW.weaken (wk_mk [192] (SL.cons (k := 2) eZ rfl VWk.rfl SL.nil) (BL.drop rfl BL.nil) BK.nil) ?_
              refine AW.ret ?_
              obtain rfl := Option.some.inj H
              exact endsR (RL.cons (RV.tmp eZ) (VO.flat rfl) RL.nil) List.nodup_nil
        · refine AW.regs ?_
          refine oFaddrN (m := 0) (eR rfl) rfl ?_
          refine oLoadV (q := 0) (c := (.d (.int .i64 a1.Move.No))) eZ bZ rfl rfl ?_
          refine oLss eZ eC ?_
          refine oMov eZ ?_
          rcases oite H with ⟨h17, H⟩ | ⟨h17, H⟩
          · refine gSkip eZ (decide_eq_true h17) rfl ?_
            refine gSkip (eS rfl eZ) (decide_eq_true h17) rfl ?_
            refine gSkip (eR rfl) (decide_eq_true h17) rfl ?_
            refine gSkip (eR rfl) (decide_eq_true h17) rfl ?_
            refine gSkip (eR rfl) (decide_eq_true h17) rfl ?_
            refine gSkip (eR rfl) (decide_eq_true h17) rfl ?_
            refine gSkip (eR rfl) (decide_eq_true h17) rfl ?_
            refine oPickT (eR rfl) (decide_eq_true h17) eC ?_
            refine oMov eZ ?_
            refine gSkip eZ rfl rfl ?_
            refine gSkip (eS rfl eZ) rfl rfl ?_
            refine gSkip (eR rfl) rfl rfl ?_
            refine gSkip (eR rfl) rfl rfl ?_
            refine oPickT (eR rfl) rfl eC ?_
            refine oMov eZ ?_
            refine gSkip eZ rfl rfl ?_
            refine gSkip (eS rfl eZ) rfl rfl ?_
            refine gSkip (eR rfl) rfl rfl ?_
            refine gSkip (eR rfl) rfl rfl ?_
            refine oPickT (eR rfl) rfl eC ?_
            refine oMov eZ ?_
            refine gSkip eZ rfl rfl ?_
            refine gSkip (eS rfl eZ) rfl rfl ?_
            refine gSkip (eR rfl) rfl rfl ?_
            refine gSkip (eR rfl) rfl rfl ?_
            refine gSkip (eR rfl) rfl rfl ?_
            refine oPickT (eR rfl) rfl eC ?_
            refine xNil ?_
            exact TQ.qn ⟨true, H, (wk_mk [] (SL.cons (eR rfl) rfl VWk.rfl (SL.cons eZ rfl VWk.rfl SL.nil)) (BL.keep rfl BL.nil) (BK.cons rfl bZ rfl rfl BK.nil))⟩
          · refine gDo eZ (decide_eq_false h17) ?_
            refine oFaddrN (m := 2) (eR rfl) rfl ?_
            refine gDo (eS rfl eZ) (decide_eq_false h17) ?_
            refine oLoadV (q := 2) (c := (.d (.int .i64 a1.Move.Lo))) eZ bZ rfl rfl ?_
            refine gDo (eR rfl) (decide_eq_false h17) ?_
            refine oFaddrN (m := 3) (eR rfl) rfl ?_
            refine gDo (eR rfl) (decide_eq_false h17) ?_
            refine oLoadV (q := 3) (c := (.d (.int .i64 a1.Move.Hi))) eZ bZ rfl rfl ?_
            refine gDo (eR rfl) (decide_eq_false h17) ?_
            refine oBuild (cs := [(.d (.int .i64 a1.Move.Lo)), (.d (.int .i64 a1.Move.Hi))]) (PsCons (eR rfl) (PsCons eZ PsNil)) rfl ?_
            refine gDo (eR rfl) (decide_eq_false h17) ?_
            obtain ⟨v18, h19, H⟩ := obind H
            refine oCall (u := (.one (.d (.bool v18)))) eC Cl.fn (c_spec_RangeOk h19) (Evs.cons eZ Evs.nil) (VDs.cons (VD.agg rfl) VDs.nil) rfl ?_
            refine gDo (eR rfl) (decide_eq_false h17) ?_
            refine oInv eZ ?_
            refine oPickF (eR rfl) (decide_eq_false h17) eZ ?_
            refine oMov eZ ?_
            rcases oite H with ⟨h20, H⟩ | ⟨h20, H⟩
            · refine gDo eZ (congrArg Bool.not h20) ?_
              refine oFaddrN (m := 4) (eR rfl) rfl ?_
              refine gDo (eS rfl eZ) (congrArg Bool.not h20) ?_
              refine oLoadV (q := 4) (c := (.d (.int .i64 a1.Move.From))) eZ bZ rfl rfl ?_
              refine gDo (eR rfl) (congrArg Bool.not h20) ?_
              obtain ⟨v21, h22, H⟩ := obind H
              refine oCall (u := (.one (.d (.bool v21)))) eC Cl.fn (c_spec_l15Group h22) (Evs.cons eZ Evs.nil) (VDs.cons VD.plain VDs.nil) rfl ?_
              refine gDo (eR rfl) (congrArg Bool.not h20) ?_
              refine oInv eZ ?_
              refine oPickF (eR rfl) (congrArg Bool.not h20) eZ ?_
              refine oMov eZ ?_
              rcases oite H with ⟨h23, H⟩ | ⟨h23, H⟩
              · refine gDo eZ (congrArg Bool.not h23) ?_
                refine oFaddrN (m := 5) (eR rfl) rfl ?_
                refine gDo (eS rfl eZ) (congrArg Bool.not h23) ?_
                refine oLoadV (q := 5) (c := (.d (.int .i64 a1.Move.To))) eZ bZ rfl rfl ?_
                refine gDo (eR rfl) (congrArg Bool.not h23) ?_
                obtain ⟨v24, h25, H⟩ := obind H
                refine oCall (u := (.one (.d (.bool v24)))) eC Cl.fn (c_spec_l15Group h25) (Evs.cons eZ Evs.nil) (VDs.cons VD.plain VDs.nil) rfl ?_
                refine gDo (eR rfl) (congrArg Bool.not h23) ?_
                refine oInv eZ ?_
                refine oPickF (eR rfl) (congrArg Bool.not h23) eZ ?_
                refine oMov eZ ?_
                rcases oite H with ⟨h26, H⟩ | ⟨h26, H⟩
                · refine gDo eZ (congrArg Bool.not h26) ?_
                  refine oFaddrN (m := 4) (eR rfl) rfl ?_
                  refine gDo (eS rfl eZ) (congrArg Bool.not h26) ?_
                  refine oLoadV (q := 4) (c := (.d (.int .i64 a1.Move.From))) eZ bZ rfl rfl ?_
                  refine gDo (eR rfl) (congrArg Bool.not h26) ?_
                  refine oFaddrN (m := 5) (eR rfl) rfl ?_
                  refine gDo (eR rfl) (congrArg Bool.not h26) ?_
                  refine oLoadV (q := 5) (c := (.d (.int .i64 a1.Move.To))) eZ bZ rfl rfl ?_
                  refine gDo (eR rfl) (congrArg Bool.not h26) ?_
                  refine oEql (eR rfl) eZ ?_
                  refine oPickF (eR rfl) (congrArg Bool.not h26) eZ ?_
                  refine xNil ?_
                  exact TQ.qn ⟨(decide (a1.Move.From = a1.Move.To)), H, (wk_mk [] (SL.cons (eR rfl) rfl VWk.rfl (SL.cons eZ rfl VWk.rfl SL.nil)) (BL.keep rfl BL.nil) (BK.cons rfl bZ rfl rfl BK.nil))⟩
                · refine gSkip eZ (congrArg Bool.not (nt h26)) rfl ?_
                  refine gSkip (eS rfl eZ) (congrArg Bool.not (nt h26)) rfl ?_
                  refine gSkip (eR rfl) (congrArg Bool.not (nt h26)) rfl ?_
                  refine gSkip (eR rfl) (congrArg Bool.not (nt h26)) rfl ?_
                  refine gSkip (eR rfl) (congrArg Bool.not (nt h26)) rfl ?_
                  refine oPickT (eR rfl) (congrArg Bool.not (nt h26)) eC ?_
                  refine xNil ?_
                  exact TQ.qn ⟨true, H, (wk_mk [] (SL.cons (eR rfl) rfl VWk.rfl (SL.cons eZ rfl VWk.rfl SL.nil)) (BL.keep rfl BL.nil) (BK.cons rfl bZ rfl rfl BK.nil))⟩
              · refine gSkip eZ (congrArg Bool.not (nt h23)) rfl ?_
                refine gSkip (eS rfl eZ) (congrArg Bool.not (nt h23)) rfl ?_
                refine gSkip (eR rfl) (congrArg Bool.not (nt h23)) rfl ?_
                refine gSkip (eR rfl) (congrArg Bool.not (nt h23)) rfl ?_
                refine oPickT (eR rfl) (congrArg Bool.not (nt h23)) eC ?_
                refine oMov eZ ?_
                refine gSkip eZ rfl rfl ?_
                refine gSkip (eS rfl eZ) rfl rfl ?_
                refine gSkip (eR rfl) rfl rfl ?_
                refine gSkip (eR rfl) rfl rfl ?_
                refine gSkip (eR rfl) rfl rfl ?_
                refine oPickT (eR rfl) rfl eC ?_
                refine xNil ?_
                exact TQ.qn ⟨true, H, (wk_mk [] (SL.cons (eR rfl) rfl VWk.rfl (SL.cons eZ rfl VWk.rfl SL.nil)) (BL.keep rfl BL.nil) (BK.cons rfl bZ rfl rfl BK.nil))⟩
            · refine gSkip eZ (congrArg Bool.not (nt h20)) rfl ?_
              refine gSkip (eS rfl eZ) (congrArg Bool.not (nt h20)) rfl ?_
              refine gSkip (eR rfl) (congrArg Bool.not (nt h20)) rfl ?_
              refine gSkip (eR rfl) (congrArg Bool.not (nt h20)) rfl ?_
              refine oPickT (eR rfl) (congrArg Bool.not (nt h20)) eC ?_
              refine oMov eZ ?_
              refine gSkip eZ rfl rfl ?_
              refine gSkip (eS rfl eZ) rfl rfl ?_
              refine gSkip (eR rfl) rfl rfl ?_
              refine gSkip (eR rfl) rfl rfl ?_
              refine oPickT (eR rfl) rfl eC ?_
              refine oMov eZ ?_
              refine gSkip eZ rfl rfl ?_
              refine gSkip (eS rfl eZ) rfl rfl ?_
              refine gSkip (eR rfl) rfl rfl ?_
              refine gSkip (eR rfl) rfl rfl ?_
              refine gSkip (eR rfl) rfl rfl ?_
              refine oPickT (eR rfl) rfl eC ?_
              refine xNil ?_
              exact TQ.qn ⟨true, H, (wk_mk [] (SL.cons (eR rfl) rfl VWk.rfl (SL.cons eZ rfl VWk.rfl SL.nil)) (BL.keep rfl BL.nil) (BK.cons rfl bZ rfl rfl BK.nil))⟩
  · refine AW.regs ?_
    refine oFaddrN (m := 0) (eR rfl) rfl ?_
    refine oLoadV (q := 0) (c := (.d (.int .i64 a1.Epoch))) eZ (bS rfl (bS rfl bZ)) rfl rfl ?_
    obtain ⟨v27, h28, H⟩ := obind H
    refine oCall (u := (.one (.d (.bool v27)))) eC Cl.fn (c_spec_l1In h28) (Evs.cons eZ (Evs.cons eC (Evs.cons eC Evs.nil))) (VDs.cons VD.plain (VDs.cons VD.plain (VDs.cons VD.plain VDs.nil))) rfl ?_
    refine oInv eZ ?_
    refine oMov eZ ?_
    rcases oite H with ⟨h29, H⟩ | ⟨h29, H⟩
    · refine gDo eZ (congrArg Bool.not h29) ?_
      refine oFaddrN (m := 1) (eR rfl) rfl ?_
      refine gDo (eS rfl eZ) (congrArg Bool.not h29) ?_
      refine oLoadV (q := 1) (c := (.d (.sl 3 (List.map d_TPart a1.Parts)))) eZ (bS rfl (bS rfl bZ)) rfl rfl ?_
      refine gDo (eR rfl) (congrArg Bool.not h29) ?_
      obtain ⟨v30, h31, H⟩ := obind H
      refine oCall (u := (.one (.d (.bool v30)))) eC Cl.fn (c_spec_PartsOk h31) (Evs.cons eZ Evs.nil) (VDs.cons VD.plain VDs.nil) rfl ?_
      refine gDo (eR rfl) (congrArg Bool.not h29) ?_
      refine oInv eZ ?_
      refine oPickF (eR rfl) (congrArg Bool.not h29) eZ ?_
      refine oMov eZ ?_
      rcases oite H with ⟨h32, H⟩ | ⟨h32, H⟩
      · refine gDo eZ (congrArg Bool.not h32) ?_
        refine oFaddrN (m := 0) (eR rfl) rfl ?_
        refine gDo (eS rfl eZ) (congrArg Bool.not h32) ?_
        refine oLoadV (q := 0) (c := (.d (.int .i64 a1.Move.No))) eZ bZ rfl rfl ?_
        refine gDo (eR rfl) (congrArg Bool.not h32) ?_
        obtain ⟨v33, h34, H⟩ := obind H
        refine oCall (u := (.one (.d (.bool v33)))) eC Cl.fn (c_spec_l1In h34) (Evs.cons eZ (Evs.cons eC (Evs.cons eC Evs.nil))) (VDs.cons VD.plain (VDs.cons VD.plain (VDs.cons VD.plain VDs.nil))) rfl ?_
        refine gDo (eR rfl) (congrArg Bool.not h32) ?_
        refine oInv eZ ?_
        refine oPickF (eR rfl) (congrArg Bool.not h32) eZ ?_
        refine oMov eZ ?_
        rcases oite H with ⟨h35, H⟩ | ⟨h35, H⟩
        · refine gDo eZ (congrArg Bool.not h35) ?_
          refine oFaddrN (m := 1) (eR rfl) rfl ?_
          refine gDo (eS rfl eZ) (congrArg Bool.not h35) ?_
          refine oLoadV (q := 1) (c := (.d (.int .i64 a1.Move.Stage))) eZ bZ rfl rfl ?_
          refine gDo (eR rfl) (congrArg Bool.not h35) ?_
          obtain ⟨v36, h37, H⟩ := obind H
          refine oCall (u := (.one (.d (.bool v36)))) eC Cl.fn (c_spec_l1In h37) (Evs.cons eZ (Evs.cons eC (Evs.cons eC Evs.nil))) (VDs.cons VD.plain (VDs.cons VD.plain (VDs.cons VD.plain VDs.nil))) rfl ?_
          refine gDo (eR rfl) (congrArg Bool.not h35) ?_
          refine oInv eZ ?_
          refine oPickF (eR rfl) (congrArg Bool.not h35) eZ ?_
          refine oMov eZ ?_
          rcases oite H with ⟨h38, H⟩ | ⟨h38, H⟩
          · refine gDo eZ (congrArg Bool.not h38) ?_
            refine oFaddrN (m := 6) (eR rfl) rfl ?_
            refine gDo (eS rfl eZ) (congrArg Bool.not h38) ?_
            refine oLoadV (q := 6) (c := (.d (.sl 2 (List.map d_TCell a1.Move.Cells)))) eZ bZ rfl rfl ?_
            refine gDo (eR rfl) (congrArg Bool.not h38) ?_
            obtain ⟨v39, h40, H⟩ := obind H
            refine oCall (u := (.one (.d (.bool v39)))) eC Cl.fn (c_spec_StoreOk h40) (Evs.cons eZ Evs.nil) (VDs.cons VD.plain VDs.nil) rfl ?_
            refine gDo (eR rfl) (congrArg Bool.not h38) ?_
            refine oInv eZ ?_
            refine oPickF (eR rfl) (congrArg Bool.not h38) eZ ?_
            refine xNil ?_
            exact TQ.qn ⟨(!v39), H, (wk_mk [64] (SL.cons (eR rfl) rfl VWk.rfl (SL.cons eZ rfl VWk.rfl SL.nil)) (BL.keep rfl (BL.keep rfl (BL.drop rfl BL.nil))) (BK.cons rfl bZ rfl rfl BK.nil))⟩
          · refine gSkip eZ (congrArg Bool.not (nt h38)) rfl ?_
            refine gSkip (eS rfl eZ) (congrArg Bool.not (nt h38)) rfl ?_
            refine gSkip (eR rfl) (congrArg Bool.not (nt h38)) rfl ?_
            refine gSkip (eR rfl) (congrArg Bool.not (nt h38)) rfl ?_
            refine oPickT (eR rfl) (congrArg Bool.not (nt h38)) eC ?_
            refine xNil ?_
            exact TQ.qn ⟨true, H, (wk_mk [64] (SL.cons (eR rfl) rfl VWk.rfl (SL.cons eZ rfl VWk.rfl SL.nil)) (BL.keep rfl (BL.keep rfl (BL.drop rfl BL.nil))) (BK.cons rfl bZ rfl rfl BK.nil))⟩
        · refine gSkip eZ (congrArg Bool.not (nt h35)) rfl ?_
          refine gSkip (eS rfl eZ) (congrArg Bool.not (nt h35)) rfl ?_
          refine gSkip (eR rfl) (congrArg Bool.not (nt h35)) rfl ?_
          refine gSkip (eR rfl) (congrArg Bool.not (nt h35)) rfl ?_
          refine oPickT (eR rfl) (congrArg Bool.not (nt h35)) eC ?_
          refine oMov eZ ?_
          refine gSkip eZ rfl rfl ?_
          refine gSkip (eS rfl eZ) rfl rfl ?_
          refine gSkip (eR rfl) rfl rfl ?_
          refine gSkip (eR rfl) rfl rfl ?_
          refine oPickT (eR rfl) rfl eC ?_
          refine xNil ?_
          exact TQ.qn ⟨true, H, (wk_mk [64] (SL.cons (eR rfl) rfl VWk.rfl (SL.cons eZ rfl VWk.rfl SL.nil)) (BL.keep rfl (BL.keep rfl (BL.drop rfl BL.nil))) (BK.cons rfl bZ rfl rfl BK.nil))⟩
      · refine gSkip eZ (congrArg Bool.not (nt h32)) rfl ?_
        refine gSkip (eS rfl eZ) (congrArg Bool.not (nt h32)) rfl ?_
        refine gSkip (eR rfl) (congrArg Bool.not (nt h32)) rfl ?_
        refine gSkip (eR rfl) (congrArg Bool.not (nt h32)) rfl ?_
        refine oPickT (eR rfl) (congrArg Bool.not (nt h32)) eC ?_
        refine oMov eZ ?_
        refine gSkip eZ rfl rfl ?_
        refine gSkip (eS rfl eZ) rfl rfl ?_
        refine gSkip (eR rfl) rfl rfl ?_
        refine gSkip (eR rfl) rfl rfl ?_
        refine oPickT (eR rfl) rfl eC ?_
        refine oMov eZ ?_
        refine gSkip eZ rfl rfl ?_
        refine gSkip (eS rfl eZ) rfl rfl ?_
        refine gSkip (eR rfl) rfl rfl ?_
        refine gSkip (eR rfl) rfl rfl ?_
        refine oPickT (eR rfl) rfl eC ?_
        refine xNil ?_
        exact TQ.qn ⟨true, H, (wk_mk [64] (SL.cons (eR rfl) rfl VWk.rfl (SL.cons eZ rfl VWk.rfl SL.nil)) (BL.keep rfl (BL.keep rfl (BL.drop rfl BL.nil))) (BK.cons rfl bZ rfl rfl BK.nil))⟩
    · refine gSkip eZ (congrArg Bool.not (nt h29)) rfl ?_
      refine gSkip (eS rfl eZ) (congrArg Bool.not (nt h29)) rfl ?_
      refine gSkip (eR rfl) (congrArg Bool.not (nt h29)) rfl ?_
      refine gSkip (eR rfl) (congrArg Bool.not (nt h29)) rfl ?_
      refine oPickT (eR rfl) (congrArg Bool.not (nt h29)) eC ?_
      refine oMov eZ ?_
      refine gSkip eZ rfl rfl ?_
      refine gSkip (eS rfl eZ) rfl rfl ?_
      refine gSkip (eR rfl) rfl rfl ?_
      refine gSkip (eR rfl) rfl rfl ?_
      refine oPickT (eR rfl) rfl eC ?_
      refine oMov eZ ?_
      refine gSkip eZ rfl rfl ?_
      refine gSkip (eS rfl eZ) rfl rfl ?_
      refine gSkip (eR rfl) rfl rfl ?_
      refine gSkip (eR rfl) rfl rfl ?_
      refine oPickT (eR rfl) rfl eC ?_
      refine oMov eZ ?_
      refine gSkip eZ rfl rfl ?_
      refine gSkip (eS rfl eZ) rfl rfl ?_
      refine gSkip (eR rfl) rfl rfl ?_
      refine gSkip (eR rfl) rfl rfl ?_
      refine oPickT (eR rfl) rfl eC ?_
      refine xNil ?_
      exact TQ.qn ⟨true, H, (wk_mk [64] (SL.cons (eR rfl) rfl VWk.rfl (SL.cons eZ rfl VWk.rfl SL.nil)) (BL.keep rfl (BL.keep rfl (BL.drop rfl BL.nil))) (BK.cons rfl bZ rfl rfl BK.nil))⟩

theorem c_spec_l15Copy {a1 : TAtlas} {r : TAtlas} (H : m_spec_l15Copy a1 = some r) : Fn Try.prog k_spec_l15Copy (lent [(.agg (d_TAtlas a1))]) true [(.agg (d_TAtlas r))] := by
  refine i_spec_l15Copy_fn (Nat.le_of_ble_eq_true rfl) ?_
  rw [init_mk]
  refine AW.weaken (wk_mk [] (SL.cons (v := (.agg [(.d (.int .i64 a1.Epoch)), (.d (.sl 3 (List.map d_TPart a1.Parts))), (.d (.int .i64 a1.Move.No)), (.d (.int .i64 a1.Move.Stage)), (.d (.int .i64 a1.Move.Lo)), (.d (.int .i64 a1.Move.Hi)), (.d (.int .i64 a1.Move.From)), (.d (.int .i64 a1.Move.To)), (.d (.sl 2 (List.map d_TCell a1.Move.Cells)))])) eZ rfl VWk.rfl SL.nil) BL.nil BK.nil) ?_
  unfold m_spec_l15Copy at H
  unfold i_spec_l15Copy
  refine AW.seq ?_
  refine AW.regs ?_
  refine oBox (n := 64) (m := 9) (cs := [(.d (.int .i64 a1.Epoch)), (.d (.sl 3 (List.map d_TPart a1.Parts))), (.d (.int .i64 a1.Move.No)), (.d (.int .i64 a1.Move.Stage)), (.d (.int .i64 a1.Move.Lo)), (.d (.int .i64 a1.Move.Hi)), (.d (.int .i64 a1.Move.From)), (.d (.int .i64 a1.Move.To)), (.d (.sl 2 (List.map d_TCell a1.Move.Cells)))]) rfl eZ rfl rfl nZ ?_
  refine oVar (n := 128) (m := 9) rfl rfl (nS rfl nZ) ?_
  refine xNil ?_
  refine TQ.qn ?_
  refine AW.seq ?_
  refine AW.regs ?_
  refine oBsliceZ (m := 192) rfl (nS rfl (nS rfl nZ)) ?_
  refine oFaddrN (m := 1) (eR rfl) rfl ?_
  refine oLoadV (q := 1) (c := (.d (.sl 3 (List.map d_TPart a1.Parts)))) eZ (bS rfl bZ) rfl rfl ?_
  obtain ⟨h2, H⟩ := oguard H
  refine oAppZ (f := d_TPart) (m := 384) (own := true) (ys := a1.Parts) (q := a1.Parts.length) rfl rfl (eR rfl) eZ (El.lent fun _ _ => rfl) rfl h2 (by decide) (nS rfl (nS rfl nZ)) ?_
  refine oFaddrN (m := 1) (eR rfl) rfl ?_
  refine oStoreV (es := [(.d (.int .i64 a1.Epoch)), (.sl 384 0 a1.Parts.length), (.d (.int .i64 a1.Move.No)), (.d (.int .i64 a1.Move.Stage)), (.d (.int .i64 a1.Move.Lo)), (.d (.int .i64 a1.Move.Hi)), (.d (.int .i64 a1.Move.From)), (.d (.int .i64 a1.Move.To)), (.d (.sl 2 (List.map d_TCell a1.Move.Cells)))]) eZ (eS rfl eZ) rfl rfl (bS rfl (bS rfl bZ)) rfl ?_
  refine xNil ?_
  refine TQ.qn ?_
  refine AW.seq ?_
  refine AW.regs ?_
  refine oBsliceZ (m := 512) rfl (nS rfl (nS rfl (nS rfl (nS rfl nZ)))) ?_
  refine oFaddrN (m := 2) (eR rfl) rfl ?_
  refine oFaddrN (m := 8) eZ rfl ?_
  refine oLoadV (q := 8) (c := (.d (.sl 2 (List.map d_TCell a1.Move.Cells)))) eZ bZ rfl rfl ?_
  obtain ⟨h3, H⟩ := oguard H
  refine oAppZ (f := d_TCell) (m := 768) (own := true) (ys := a1.Move.Cells) (q := a1.Move.Cells.length) rfl rfl (eR rfl) eZ (El.lent fun _ _ => rfl) rfl h3 (by decide) (nS rfl (nS rfl (nS rfl (nS rfl nZ)))) ?_
  refine oFaddrN (m := 2) (eR rfl) rfl ?_
  refine oFaddrN (m := 8) eZ rfl ?_
  refine oStoreV (es := [(.d (.int .i64 a1.Epoch)), (.sl 384 0 a1.Parts.length), (.d (.int .i64 a1.Move.No)), (.d (.int .i64 a1.Move.Stage)), (.d (.int .i64 a1.Move.Lo)), (.d (.int .i64 a1.Move.Hi)), (.d (.int .i64 a1.Move.From)), (.d (.int .i64 a1.Move.To)), (.sl 768 0 a1.Move.Cells.length)]) eZ (eR rfl) rfl rfl (bS rfl bZ) rfl ?_
  refine xNil ?_
  refine TQ.qn ?_
  refine AW.seq ?_
  refine AW.regs ?_
  refine oLoadVA (es := [(.d (.int .i64 a1.Epoch)), (.sl 384 0 a1.Parts.length), (.d (.int .i64 a1.Move.No)), (.d (.int .i64 a1.Move.Stage)), (.d (.int .i64 a1.Move.Lo)), (.d (.int .i64 a1.Move.Hi)), (.d (.int .i64 a1.Move.From)), (.d (.int .i64 a1.Move.To)), (.sl 768 0 a1.Move.Cells.length)]) (eR rfl) bZ rfl ?_
  refine oStoreV (es := [(.d (.int .i64 a1.Epoch)), (.sl 384 0 a1.Parts.length), (.d (.int .i64 a1.Move.No)), (.d (.int .i64 a1.Move.Stage)), (.d (.int .i64 a1.Move.Lo)), (.d (.int .i64 a1.Move.Hi)), (.d (.int .i64 a1.Move.From)), (.d (.int .i64 a1.Move.To)), (.sl 768 0 a1.Move.Cells.length)]) (eR rfl) eZ rfl rfl (bS rfl (bS rfl (bS rfl (bS rfl bZ)))) rfl ?_
  refine xNil ?_
  refine TQ.qn ?_
  refine AW.weaken (wk_mk [64] (SL.cons (k := 2) (eR rfl) rfl VWk.rfl SL.nil) (BL.keep rfl (BL.drop rfl (BL.keep rfl (BL.drop rfl (BL.keep rfl (BL.keep rfl (BL.drop rfl BL.nil))))))) (BK.cons (n := 128) rfl bZ rfl rfl (BK.cons (n := 768) rfl (bS rfl (bS rfl bZ)) rfl rfl (BK.cons (n := 384) rfl (bS rfl (bS rfl (bS rfl (bS rfl bZ)))) rfl rfl BK.nil)))) ?_
  refine AW.ret ?_
  obtain rfl := Option.some.inj H
  exact endsR (RL.cons (RV.cellA (es := [(.d (.int .i64 a1.Epoch)), (.sl 384 0 a1.Parts.length), (.d (.int .i64 a1.Move.No)), (.d (.int .i64 a1.Move.Stage)), (.d (.int .i64 a1.Move.Lo)), (.d (.int .i64 a1.Move.Hi)), (.d (.int .i64 a1.Move.From)), (.d (.int .i64 a1.Move.To)), (.sl 768 0 a1.Move.Cells.length)]) eZ bZ rfl) (VO.aggs (VOs.cons (VO.flat rfl) (VOs.cons (VO.sl (bS rfl (bS rfl bZ)) (List.length_map _) (allFlat fun _ => rfl)) (VOs.cons (VO.flat rfl) (VOs.cons (VO.flat rfl) (VOs.cons (VO.flat rfl) (VOs.cons (VO.flat rfl) (VOs.cons (VO.flat rfl) (VOs.cons (VO.flat rfl) (VOs.cons (VO.sl (bS rfl bZ) (List.length_map _) (allFlat fun _ => rfl)) VOs.nil)))))))))) RL.nil) (by decide)

theorem c_spec_PartAt {a1 : (List TPart)} {a2 : Int} {r : Int} (H : m_spec_PartAt a1 a2 = some r) : Fn Try.prog k_spec_PartAt (lent [(.sl 3 (List.map d_TPart a1)), (.int .i64 a2)]) true [(.int .i64 r)] := by
  refine i_spec_PartAt_fn (Nat.le_of_ble_eq_true rfl) ?_
  rw [init_mk]
  refine AW.weaken (wk_mk [] (SL.cons (v := (.one (.d (.sl 3 (List.map d_TPart a1))))) eZ rfl VWk.rfl (SL.cons (v := (.one (.d (.int .i64 a2)))) (eS rfl eZ) rfl VWk.rfl SL.nil)) BL.nil BK.nil) ?_
  unfold m_spec_PartAt at H
  unfold i_spec_PartAt
  refine AW.seq ?_
  refine AW.regs ?_
  refine oMov eC ?_
  refine xNil ?_
  refine TQ.qn ?_
  refine AW.seqJ (fun t3 : Unit => spec_PartAt_j3 t3 = some r) (fun t3 => mk [] [] noG) ?_ ?_
  · intro t3 H
    unfold spec_PartAt_j3 at H
    refine AW.seq ?_
    refine AW.regs ?_
    refine oMov eC ?_
    refine xNil ?_
    refine TQ.qn ?_
    refine AW.ret ?_
    obtain rfl := Option.some.inj H
    exact endsR (RL.cons (RV.tmp eZ) (VO.flat rfl) RL.nil) List.nodup_nil
  · refine AW.seq ?_
    refine AW.regs ?_
    refine oMov eC ?_
    refine xNil ?_
    refine TQ.qn ?_
    refine AW.block ?_
    refine AW.iter (fun s5 : Int => mk [(0, (.one (.d (.sl 3 (List.map d_TPart a1))))), (1, (.one (.d (.int .i64 a2)))), (5, (.one (.d (.int .i64 s5))))] [] noG) H (wk_mk [] (SL.cons (eR rfl) rfl VWk.rfl (SL.cons (eR rfl) rfl VWk.rfl (SL.cons eZ rfl VWk.rfl SL.nil))) BL.nil BK.nil) ?_
    intro kb6 s5 H
    unfold spec_PartAt_b5 at H
    refine AW.seq ?_
    refine AW.seq ?_
    refine AW.regs ?_
    refine oMov (eR rfl) ?_
    refine oMov (eS rfl eZ) ?_
    refine oLenD eZ (n := a1.length) (List.length_map _) ?_
    refine oLss (eR rfl) eZ ?_
    refine oMov eZ ?_
    rcases oite H with ⟨h7, H⟩ | ⟨h7, H⟩
    · refine gDo eZ (decide_eq_true h7) ?_
      refine oMov (eR rfl) ?_
      refine gDo (eS rfl eZ) (decide_eq_true h7) ?_
      obtain ⟨v8, h9, H⟩ := obind H
      refine oCall (u := (.one (.d (.bool v8)))) eC Cl.fn (c_spec_PartsOk h9) (Evs.cons eZ Evs.nil) (VDs.cons VD.plain VDs.nil) rfl ?_
      refine oPickT (eR rfl) (decide_eq_true h7) eZ ?_
      refine xNil ?_
      refine TQ.qn ?_
      rcases oite H with ⟨h10, H⟩ | ⟨h10, H⟩
      · refine AW.condT eZ h10 ?_
        refine AW.skip ?_
        refine TQ.qn ?_
        refine AW.seq ?_
        refine AW.block ?_
        refine AW.seqJ (fun t11 : Bool => (spec_PartAt_j11 s5 kb6) t11 = some r) (fun t11 => mk [(0, (.one (.d (.sl 3 (List.map d_TPart a1))))), (1, (.one (.d (.int .i64 a2)))), (5, (.one (.d (.int .i64 s5)))), (31, (.one (.d (.bool t11))))] [] noG) ?_ ?_
        · intro t11 H
          unfold spec_PartAt_j11 at H
          rcases oite H with ⟨h13, H⟩ | ⟨h13, H⟩
          · refine AW.condT (eR rfl) h13 ?_
            refine AW.seq ?_
            refine AW.regs ?_
            refine oMov (eR rfl) ?_
            refine oMov eZ ?_
            refine xNil ?_
            refine TQ.qn ?_
            refine AW.ret ?_
            refine BQ.qr ?_
            refine TQ.qr ?_
            refine TQ.qr ?_
            refine BQ.qr ?_
            refine TQ.qr ?_
            obtain rfl := Option.some.inj H
            exact endsR (RL.cons (RV.tmp eZ) (VO.flat rfl) RL.nil) List.nodup_nil
          · refine AW.condF (eR rfl) (nt h13) ?_
            refine AW.skip ?_
            refine BQ.qn ?_
            refine TQ.qn ?_
            refine AW.regs ?_
            refine oMov (eR rfl) ?_
            refine oAdd eZ eC ?_
            refine oMov eZ ?_
            refine xNil ?_
            exact TQ.qn ⟨(IntKind.wrap .i64 (s5 + 1)), H, (wk_mk [] (SL.cons (eR rfl) rfl VWk.rfl (SL.cons (eR rfl) rfl VWk.rfl (SL.cons eZ rfl VWk.rfl SL.nil))) BL.nil BK.nil)⟩
        · refine AW.regs ?_
          refine oMov (eR rfl) ?_
          refine oMov (eR rfl) ?_
          obtain ⟨v14, h15, H⟩ := obind H
          refine oAtD (eS rfl eZ) eZ h15 ?_
          refine oFaddrB (m := 0) eZ rfl ?_
          refine oLoadB (e := (.int .i64 v14.Lo)) eZ rfl ?_
          refine oMov (eR rfl) ?_
          refine oLeq (eS rfl eZ) eZ ?_
          refine oMov eZ ?_
          rcases oite H with ⟨h16, H⟩ | ⟨h16, H⟩
          · refine gDo eZ (decide_eq_true h16) ?_
            refine oMov (eR rfl) ?_
            refine gDo (eS rfl eZ) (decide_eq_true h16) ?_
            refine oMov (eR rfl) ?_
            refine gDo (eR rfl) (decide_eq_true h16) ?_
            refine oMov (eR rfl) ?_
            refine gDo (eR rfl) (decide_eq_true h16) ?_
            obtain ⟨v17, h18, H⟩ := obind H
            refine oAtD (eS rfl eZ) eZ h18 ?_
            refine gDo (eR rfl) (decide_eq_true h16) ?_
            refine oFaddrB (m := 1) eZ rfl ?_
            refine gDo (eR rfl) (decide_eq_true h16) ?_
            refine oLoadB (e := (.int .i64 v17.Hi)) eZ rfl ?_
            refine gDo (eR rfl) (decide_eq_true h16) ?_
            refine oLss (eR rfl) eZ ?_
            refine oPickT (eR rfl) (decide_eq_true h16) eZ ?_
            refine xNil ?_
            exact TQ.qn ⟨(decide (a2 < v17.Hi)), H, (wk_mk [] (SL.cons (eR rfl) rfl VWk.rfl (SL.cons (eR rfl) rfl VWk.rfl (SL.cons (eR rfl) rfl VWk.rfl (SL.cons eZ rfl VWk.rfl SL.nil)))) BL.nil BK.nil)⟩
          · refine gSkip eZ (decide_eq_false h16) rfl ?_
            refine gSkip (eS rfl eZ) (decide_eq_false h16) rfl ?_
            refine gSkip (eR rfl) (decide_eq_false h16) rfl ?_
            refine gSkip (eR rfl) (decide_eq_false h16) rfl ?_
            refine gSkip (eR rfl) (decide_eq_false h16) rfl ?_
            refine gSkip (eR rfl) (decide_eq_false h16) rfl ?_
            refine gSkip (eR rfl) (decide_eq_false h16) rfl ?_
            refine oPickF (eR rfl) (decide_eq_false h16) eC ?_
            refine xNil ?_
            exact TQ.qn ⟨false, H, (wk_mk [] (SL.cons (eR rfl) rfl VWk.rfl (SL.cons (eR rfl) rfl VWk.rfl (SL.cons (eR rfl) rfl VWk.rfl (SL.cons eZ rfl VWk.rfl SL.nil)))) BL.nil BK.nil)⟩
      · refine AW.condF eZ (nt h10) ?_
        refine AW.exit ?_
        refine TQ.qe ?_
        refine TQ.qe ?_
        refine BQ.qe ?_
        exact TQ.qn ⟨(), H, (wk_mk [] SL.nil BL.nil BK.nil)⟩
    · refine gSkip eZ (decide_eq_false h7) rfl ?_
      refine gSkip (eS rfl eZ) (decide_eq_false h7) rfl ?_
      refine oPickF (eR rfl) (decide_eq_false h7) eC ?_
      refine xNil ?_
      refine TQ.qn ?_
      refine AW.condF eZ rfl ?_
      refine AW.exit ?_
      refine TQ.qe ?_
      refine TQ.qe ?_
      refine BQ.qe ?_
      exact TQ.qn ⟨(), H, (wk_mk [] SL.nil BL.nil BK.nil)⟩

theorem c_spec_SplitAt {a1 : (List TPart)} {a2 : Int} {r : ((List TPart) × Bool)} (H : m_spec_SplitAt a1 a2 = some r) : Fn Try.prog k_spec_SplitAt (lent [(.sl 3 (List.map d_TPart a1)), (.int .i64 a2)]) true [(.sl 3 (List.map d_TPart r.1)), (.bool r.2)] := by
  refine i_spec_SplitAt_fn (Nat.le_of_ble_eq_true rfl) ?_
  rw [init_mk]
  refine AW.weaken (wk_mk [] (SL.cons (v := (.one (.d (.sl 3 (List.map d_TPart a1))))) eZ rfl VWk.rfl (SL.cons (v := (.one (.d (.int .i64 a2)))) (eS rfl eZ) rfl VWk.rfl SL.nil)) BL.nil BK.nil) ?_
  unfold m_spec_SplitAt at H
  unfold i_spec_SplitAt
  refine AW.seq ?_
  refine AW.regs ?_
  refine oMov eC ?_
  refine oMov eC ?_
  refine xNil ?_
  refine TQ.qn ?_
  refine AW.seq ?_
  refine AW.regs ?_
  refine oMov (eR rfl) ?_
  refine oMov (eR rfl) ?_
  obtain ⟨v3, h4, H⟩ := obind H
  refine oCall (u := (.one (.d (.int .i64 v3)))) eC Cl.fn (c_spec_PartAt h4) (Evs.cons (eS rfl eZ) (Evs.cons eZ Evs.nil)) (VDs.cons VD.plain (VDs.cons VD.plain VDs.nil)) rfl ?_
  refine oMov eZ ?_
  refine xNil ?_
  refine TQ.qn ?_
  refine AW.seq ?_
  refine AW.regs ?_
  refine oBsliceZ (m := 832) rfl nZ ?_
  refine oMov eZ ?_
  refine xNil ?_
  refine TQ.qn ?_
  refine AW.seq ?_
  refine AW.seqJ (fun t5 : Bool => (spec_SplitAt_j5 a1 v3 a2) t5 = some r) (fun t5 => mk [(0, (.one (.d (.sl 3 (List.map d_TPart a1))))), (1, (.one (.d (.int .i64 a2)))), (6, (.one (.d (.int .i64 v3)))), (7, (.one .zs)), (29, (.one (.d (.bool t5))))] [] noG) ?_ ?_
  · intro t5 H
    unfold spec_SplitAt_j5 at H
    rcases oite H with ⟨h7, H⟩ | ⟨h7, H⟩
    · refine AW.condT (eR rfl) h7 ?_
      refine AW.seq ?_
      refine AW.regs ?_
      refine oMov (eR rfl) ?_
      refine oMov eZ ?_
      refine oMov eC ?_
      refine xNil ?_
      refine TQ.qn ?_
      refine AW.ret ?_
      refine TQ.qr ?_
      obtain rfl := Option.some.inj H
      exact endsR (RL.cons (RV.tmp (eS rfl eZ)) VO.zs (RL.cons (RV.tmp eZ) (VO.flat rfl) RL.nil)) List.nodup_nil
    · refine AW.condF (eR rfl) (nt h7) ?_
      refine AW.skip ?_
      refine TQ.qn ?_
      refine AW.seqJ (fun t8 : (List TPart) => spec_SplitAt_j8 t8 = some r) (fun t8 => mk [(7, (.one (.sl 320320 0 t8.length)))] [(320320, (.data 3 (List.map d_TPart t8) true none))] noG) ?_ ?_
      · intro t8 H
        unfold spec_SplitAt_j8 at H
        refine AW.seq ?_
        refine AW.regs ?_
        refine oMov eZ ?_
        refine oMov eZ ?_
        refine oMov eC ?_
        refine xNil ?_
        refine TQ.qn ?_
        refine AW.ret ?_
        obtain rfl := Option.some.inj H
        exact endsR (RL.cons (RV.tmp (eS rfl eZ)) (VO.sl bZ (List.length_map _) (allFlat fun _ => rfl)) (RL.cons (RV.tmp eZ) (VO.flat rfl) RL.nil)) (by decide)
      · refine AW.seq ?_
        refine AW.regs ?_
        refine oMov eC ?_
        refine xNil ?_
        refine TQ.qn ?_
        refine AW.block ?_
        refine AW.iter (fun s10 : ((List TPart) × Int) => mk [(0, (.one (.d (.sl 3 (List.map d_TPart a1))))), (1, (.one (.d (.int .i64 a2)))), (6, (.one (.d (.int .i64 v3)))), (7, (.one (.sl 320448 0 s10.1.length))), (8, (.one (.d (.int .i64 s10.2))))] [(320448, (.data 3 (List.map d_TPart s10.1) true none))] noG) H ((wk_mk [] (SL.cons (eR rfl) rfl VWk.rfl (SL.cons (eR rfl) rfl VWk.rfl (SL.cons (eR rfl) rfl VWk.rfl (SL.cons eZ rfl (VWk.one (CWk.len (by first | (simp; done) | (simp; omega) | omega))) (SL.cons (eS rfl eZ) rfl VWk.rfl SL.nil))))) (BL.keep rfl BL.nil) (BK.cons rfl bZ rfl rfl BK.nil)).trans (wk_zs 320448 3 7 true (eR rfl) nZ)) ?_
        intro kb11 s10 H
        unfold spec_SplitAt_b10 at H
        refine AW.seq ?_
        refine AW.seq ?_
        refine AW.regs ?_
        refine oMov (eR rfl) ?_
        refine oMov (eS rfl eZ) ?_
        refine oLenD eZ (n := a1.length) (List.length_map _) ?_
        refine oLss (eR rfl) eZ ?_
        refine xNil ?_
        refine TQ.qn ?_
        rcases oite H with ⟨h12, H⟩ | ⟨h12, H⟩
        · refine AW.condT eZ (decide_eq_true h12) ?_
          refine AW.skip ?_
          refine TQ.qn ?_
          refine AW.seq ?_
          refine AW.block ?_
          refine AW.seq ?_
          refine AW.regs ?_
          refine oMov (eR rfl) ?_
          refine oMov (eR rfl) ?_
          obtain ⟨v13, h14, H⟩ := obind H
          refine oAtD (eS rfl eZ) eZ h14 ?_
          refine oLoadBA (es := [(.d (.int .i64 v13.Lo)), (.d (.int .i64 v13.Hi)), (.d (.int .i64 v13.Owner))]) eZ rfl ?_
          refine oVar (n := 576) (m := 3) rfl rfl (nS rfl nZ) ?_
          refine oStoreV (es := [(.d (.int .i64 v13.Lo)), (.d (.int .i64 v13.Hi)), (.d (.int .i64 v13.Owner))]) eZ (eS rfl eZ) rfl rfl bZ rfl ?_
          refine xNil ?_
          refine TQ.qn ?_
          refine AW.seqJ (fun t15 : ((List TPart) × Int) => (spec_SplitAt_j15 v13 kb11 s10) t15 = some r) (fun t15 => mk [(0, (.one (.d (.sl 3 (List.map d_TPart a1))))), (1, (.one (.d (.int .i64 a2)))), (6, (.one (.d (.int .i64 v3)))), (7, (.one (.sl 320576 0 t15.1.length))), (8, (.one (.d (.int .i64 s10.2)))), (9, (.one (.ptr (.nm 576 0 0))))] [(320576, (.data 3 (List.map d_TPart t15.1) true none)), (576, (.vars 3 [(.d (.int .i64 t15.2)), (.d (.int .i64 v13.Hi)), (.d (.int .i64 v13.Owner))]))] noG) ?_ ?_
          · intro t15 H
            unfold spec_SplitAt_j15 at H
            refine AW.regs ?_
            refine oMov (eR rfl) ?_
            refine oLoadVA (es := [(.d (.int .i64 t15.2)), (.d (.int .i64 v13.Hi)), (.d (.int .i64 v13.Owner))]) (eR rfl) (bS rfl bZ) rfl ?_
            refine oBslice (m := 3648) (q := 1) (cs := [(.d (.int .i64 t15.2)), (.d (.int .i64 v13.Hi)), (.d (.int .i64 v13.Owner))]) rfl (PsCons eZ PsNil) rfl (List.cons_ne_nil _ _) (by simp) (nS rfl (nS rfl nZ)) ?_
            obtain ⟨h17, H⟩ := oguard H
            refine oAppN (f := d_TPart) (xs := t15.1) (ys := [(TPart.mk t15.2 v13.Hi v13.Owner)]) (q := (t15.1 ++ ([(TPart.mk t15.2 v13.Hi v13.Owner)])).length) (eR rfl) eZ (bS rfl bZ) rfl (El.one (f := d_TPart) (t := (TPart.mk t15.2 v13.Hi v13.Owner)) (es := [(.int .i64 t15.2), (.int .i64 v13.Hi), (.int .i64 v13.Owner)]) bZ rfl rfl rfl) rfl h17 (by decide) (by decide) (erL.cons (v' := (.one (.sl 3648 0 1))) rfl (erL.cons (v' := (.agg [(.d (.int .i64 t15.2)), (.d (.int .i64 v13.Hi)), (.d (.int .i64 v13.Owner))])) rfl (erL.cons (v' := (.one .any)) rfl (erL.cons (v' := (.one (.d (.sl 3 (List.map d_TPart a1))))) rfl (erL.cons (v' := (.one (.d (.int .i64 a2)))) rfl (erL.cons (v' := (.one (.d (.int .i64 v3)))) rfl (erL.cons (v' := (.one .any)) rfl (erL.cons (v' := (.one (.d (.int .i64 s10.2)))) rfl (erL.cons (v' := (.one (.ptr (.nm 576 0 0)))) rfl erL.nil))))))))) (erH.cons (v' := (.vars 3 [(.d (.int .i64 t15.2)), (.d (.int .i64 v13.Hi)), (.d (.int .i64 v13.Owner))])) rfl rfl (erH.drop rfl (erH.cons (v' := (.vars 3 [(.d (.int .i64 t15.2)), (.d (.int .i64 v13.Hi)), (.d (.int .i64 v13.Owner))])) rfl rfl erH.nil))) ?_
            refine oMov eZ ?_
            refine xNil ?_
            refine BQ.qn ?_
            refine TQ.qn ?_
            refine AW.regs ?_
            refine oMov (eR rfl) ?_
            refine oAdd eZ eC ?_
            refine oMov eZ ?_
            refine xNil ?_
            exact TQ.qn ⟨((t15.1 ++ ([(TPart.mk t15.2 v13.Hi v13.Owner)])), (IntKind.wrap .i64 (s10.2 + 1))), H, ((wk_mk [3648, 576] (SL.cons (eR rfl) rfl VWk.rfl (SL.cons (eR rfl) rfl VWk.rfl (SL.cons (eR rfl) rfl VWk.rfl (SL.cons (eR rfl) rfl VWk.rfl (SL.cons eZ rfl VWk.rfl SL.nil))))) (BL.keep rfl (BL.drop rfl (BL.drop rfl BL.nil))) (BK.cons rfl bZ rfl rfl BK.nil)).trans (wk_ren 320576 320448 rfl rfl (nS rfl (nS rfl (nS rfl nZ)))))⟩
          · refine AW.seq ?_
            refine AW.regs ?_
            refine oMov (eR rfl) ?_
            refine oMov (eR rfl) ?_
            refine oEql (eS rfl eZ) eZ ?_
            refine xNil ?_
            refine TQ.qn ?_
            refine AW.weaken (wk_mk [] (SL.cons (k := 43) eZ rfl VWk.rfl (SL.cons (k := 9) (eR rfl) rfl VWk.rfl (SL.cons (k := 0) (eR rfl) rfl VWk.rfl (SL.cons (k := 1) (eR rfl) rfl VWk.rfl (SL.cons (k := 6) (eR rfl) rfl VWk.rfl (SL.cons (k := 7) (eR rfl) rfl VWk.rfl (SL.cons (k := 8) (eR rfl) rfl VWk.rfl SL.nil))))))) (BL.keep rfl (BL.keep rfl (BL.keep rfl BL.nil))) (BK.cons (n := 576) rfl bZ rfl rfl (BK.cons (n := 320448) rfl (bS rfl (bS rfl bZ)) rfl rfl BK.nil))) ?_
            rcases oite H with ⟨h18, H⟩ | ⟨h18, H⟩
            · refine AW.condT eZ (decide_eq_true h18) ?_
              refine AW.seq ?_
              refine AW.regs ?_
              refine oMov (eR rfl) ?_
              refine oFaddrN (m := 0) (eR rfl) rfl ?_
              refine oLoadV (q := 0) (c := (.d (.int .i64 v13.Lo))) eZ bZ rfl rfl ?_
              refine oMov (eR rfl) ?_
              refine oFaddrN (m := 2) (eR rfl) rfl ?_
              refine oLoadV (q := 2) (c := (.d (.int .i64 v13.Owner))) eZ bZ rfl rfl ?_
              refine oBuild (cs := [(.d (.int .i64 v13.Lo)), (.d (.int .i64 a2)), (.d (.int .i64 v13.Owner))]) (PsCons (eR rfl) (PsCons (eR rfl) (PsCons eZ PsNil))) rfl ?_
              refine oBslice (m := 3264) (q := 1) (cs := [(.d (.int .i64 v13.Lo)), (.d (.int .i64 a2)), (.d (.int .i64 v13.Owner))]) rfl (PsCons eZ PsNil) rfl (List.cons_ne_nil _ _) (by simp) (nS rfl (nS rfl nZ)) ?_
              obtain ⟨h19, H⟩ := oguard H
              refine oAppN (f := d_TPart) (xs := s10.1) (ys := [(TPart.mk v13.Lo a2 v13.Owner)]) (q := (s10.1 ++ ([(TPart.mk v13.Lo a2 v13.Owner)])).length) (eR rfl) eZ (bS rfl (bS rfl bZ)) rfl (El.one (f := d_TPart) (t := (TPart.mk v13.Lo a2 v13.Owner)) (es := [(.int .i64 v13.Lo), (.int .i64 a2), (.int .i64 v13.Owner)]) bZ rfl rfl rfl) rfl h19 (by decide) (by decide) (erL.cons (v' := (.one (.sl 3264 0 1))) rfl (erL.cons (v' := (.agg [(.d (.int .i64 v13.Lo)), (.d (.int .i64 a2)), (.d (.int .i64 v13.Owner))])) rfl (erL.cons (v' := (.one (.d (.int .i64 v13.Owner)))) rfl (erL.cons (v' := (.one (.ptr (.nm 576 0 2)))) rfl (erL.cons (v' := (.one (.d (.int .i64 a2)))) rfl (erL.cons (v' := (.one (.d (.int .i64 v13.Lo)))) rfl (erL.cons (v' := (.one (.ptr (.nm 576 0 0)))) rfl (erL.cons (v' := (.one .any)) rfl (erL.cons (v' := (.one (.d (.bool (decide (s10.2 = v3)))))) rfl (erL.cons (v' := (.one (.ptr (.nm 576 0 0)))) rfl (erL.cons (v' := (.one (.d (.sl 3 (List.map d_TPart a1))))) rfl (erL.cons (v' := (.one (.d (.int .i64 a2)))) rfl (erL.cons (v' := (.one (.d (.int .i64 v3)))) rfl (erL.cons (v' := (.one .any)) rfl (erL.cons (v' := (.one (.d (.int .i64 s10.2)))) rfl erL.nil))))))))))))))) (erH.cons (v' := (.vars 3 [(.d (.int .i64 v13.Lo)), (.d (.int .i64 a2)), (.d (.int .i64 v13.Owner))])) rfl rfl (erH.cons (v' := (.vars 3 [(.d (.int .i64 v13.Lo)), (.d (.int .i64 v13.Hi)), (.d (.int .i64 v13.Owner))])) rfl rfl (erH.drop rfl erH.nil))) ?_
              refine oMov eZ ?_
              refine xNil ?_
              refine TQ.qn ?_
              refine AW.weaken (wk_mk [3264] (SL.cons (k := 7) eZ rfl VWk.rfl (SL.cons (k := 9) (eR rfl) rfl VWk.rfl (SL.cons (k := 0) (eR rfl) rfl VWk.rfl (SL.cons (k := 1) (eR rfl) rfl VWk.rfl (SL.cons (k := 6) (eR rfl) rfl VWk.rfl (SL.cons (k := 8) (eR rfl) rfl VWk.rfl SL.nil)))))) (BL.keep rfl (BL.drop rfl (BL.keep rfl BL.nil))) (BK.cons (n := 320448) rfl bZ rfl rfl (BK.cons (n := 576) rfl (bS rfl (bS rfl bZ)) rfl rfl BK.nil))) ?_
              refine AW.regs ?_
              refine oMov (eR rfl) ?_
              refine oFaddrN (m := 0) (eR rfl) rfl ?_
              refine oStoreV (es := [(.d (.int .i64 a2)), (.d (.int .i64 v13.Hi)), (.d (.int .i64 v13.Owner))]) eZ (eS rfl eZ) rfl rfl (bS rfl bZ) rfl ?_
              refine xNil ?_
              exact TQ.qn ⟨((s10.1 ++ ([(TPart.mk v13.Lo a2 v13.Owner)])), a2), H, ((wk_mk [] (SL.cons (eR rfl) rfl VWk.rfl (SL.cons (eR rfl) rfl VWk.rfl (SL.cons (eR rfl) rfl VWk.rfl (SL.cons (eR rfl) rfl VWk.rfl (SL.cons (eR rfl) rfl VWk.rfl (SL.cons (eR rfl) rfl VWk.rfl SL.nil)))))) (BL.keep rfl (BL.keep rfl (BL.keep rfl BL.nil))) (BK.cons rfl (bS rfl bZ) rfl rfl (BK.cons rfl bZ rfl rfl BK.nil))).trans (wk_ren 320448 320576 rfl rfl (nS rfl (nS rfl (nS rfl nZ)))))⟩
            · refine AW.condF eZ (decide_eq_false h18) ?_
              refine AW.skip ?_
              exact TQ.qn ⟨(s10.1, v13.Lo), H, ((wk_mk [] (SL.cons (eR rfl) rfl VWk.rfl (SL.cons (eR rfl) rfl VWk.rfl (SL.cons (eR rfl) rfl VWk.rfl (SL.cons (eR rfl) rfl VWk.rfl (SL.cons (eR rfl) rfl VWk.rfl (SL.cons (eS rfl eZ) rfl VWk.rfl SL.nil)))))) (BL.keep rfl (BL.keep rfl BL.nil)) (BK.cons rfl (bS rfl bZ) rfl rfl (BK.cons rfl bZ rfl rfl BK.nil))).trans (wk_ren 320448 320576 rfl rfl (nS rfl (nS rfl nZ))))⟩
        · refine AW.condF eZ (decide_eq_false h12) ?_
          refine AW.exit ?_
          refine TQ.qe ?_
          refine TQ.qe ?_
          refine BQ.qe ?_
          exact TQ.qn ⟨s10.1, H, ((wk_mk [] (SL.cons (eR rfl) rfl VWk.rfl SL.nil) (BL.keep rfl BL.nil) (BK.cons rfl bZ rfl rfl BK.nil)).trans (wk_ren 320448 320320 rfl rfl (nS rfl nZ)))⟩
  · refine AW.regs ?_
    refine oMov (eR rfl) ?_
    refine oLss eZ eC ?_
    refine oMov eZ ?_
    rcases oite H with ⟨h20, H⟩ | ⟨h20, H⟩
    · refine gSkip eZ (decide_eq_true h20) rfl ?_
      refine gSkip (eS rfl eZ) (decide_eq_true h20) rfl ?_
      refine gSkip (eR rfl) (decide_eq_true h20) rfl ?_
      refine gSkip (eR rfl) (decide_eq_true h20) rfl ?_
      refine gSkip (eR rfl) (decide_eq_true h20) rfl ?_
      refine gSkip (eR rfl) (decide_eq_true h20) rfl ?_
      refine gSkip (eR rfl) (decide_eq_true h20) rfl ?_
      refine oPickT (eR rfl) (decide_eq_true h20) eC ?_
      refine oMov eZ ?_
      refine gSkip eZ rfl rfl ?_
      refine gSkip (eS rfl eZ) rfl rfl ?_
      refine gSkip (eR rfl) rfl rfl ?_
      refine oPickT (eR rfl) rfl eC ?_
      refine xNil ?_
      exact TQ.qn ⟨true, H, (wk_mk [] (SL.cons (eR rfl) rfl VWk.rfl (SL.cons (eR rfl) rfl VWk.rfl (SL.cons (eR rfl) rfl VWk.rfl (SL.cons (eR rfl) rfl VWk.rfl (SL.cons eZ rfl VWk.rfl SL.nil))))) BL.nil BK.nil)⟩
    · refine gDo eZ (decide_eq_false h20) ?_
      refine oMov (eR rfl) ?_
      refine gDo (eS rfl eZ) (decide_eq_false h20) ?_
      refine oMov (eR rfl) ?_
      refine gDo (eR rfl) (decide_eq_false h20) ?_
      obtain ⟨v21, h22, H⟩ := obind H
      refine oAtD (eS rfl eZ) eZ h22 ?_
      refine gDo (eR rfl) (decide_eq_false h20) ?_
      refine oFaddrB (m := 0) eZ rfl ?_
      refine gDo (eR rfl) (decide_eq_false h20) ?_
      refine oLoadB (e := (.int .i64 v21.Lo)) eZ rfl ?_
      refine gDo (eR rfl) (decide_eq_false h20) ?_
      refine oMov (eR rfl) ?_
      refine gDo (eR rfl) (decide_eq_false h20) ?_
      refine oEql (eS rfl eZ) eZ ?_
      refine oPickF (eR rfl) (decide_eq_false h20) eZ ?_
      refine oMov eZ ?_
      rcases oite H with ⟨h23, H⟩ | ⟨h23, H⟩
      · refine gSkip eZ (decide_eq_true h23) rfl ?_
        refine gSkip (eS rfl eZ) (decide_eq_true h23) rfl ?_
        refine gSkip (eR rfl) (decide_eq_true h23) rfl ?_
        refine oPickT (eR rfl) (decide_eq_true h23) eC ?_
        refine xNil ?_
        exact TQ.qn ⟨true, H, (wk_mk [] (SL.cons (eR rfl) rfl VWk.rfl (SL.cons (eR rfl) rfl VWk.rfl (SL.cons (eR rfl) rfl VWk.rfl (SL.cons (eR rfl) rfl VWk.rfl (SL.cons eZ rfl VWk.rfl SL.nil))))) BL.nil BK.nil)⟩
      · refine gDo eZ (decide_eq_false h23) ?_
        refine oMov (eR rfl) ?_
        refine gDo (eS rfl eZ) (decide_eq_false h23) ?_
        refine oLenD eZ (n := a1.length) (List.length_map _) ?_
        refine gDo (eR rfl) (decide_eq_false h23) ?_
        refine oEql eZ eC ?_
        refine oPickF (eR rfl) (decide_eq_false h23) eZ ?_
        refine xNil ?_
        exact TQ.qn ⟨(decide ((a1.length : Int) = 16)), H, (wk_mk [] (SL.cons (eR rfl) rfl VWk.rfl (SL.cons (eR rfl) rfl VWk.rfl (SL.cons (eR rfl) rfl VWk.rfl (SL.cons (eR rfl) rfl VWk.rfl (SL.cons eZ rfl VWk.rfl SL.nil))))) BL.nil BK.nil)⟩

theorem c_spec_AtlasSplit {a1 : TAtlas} {a2 : Int} {r : (TAtlas × Int)} (H : m_spec_AtlasSplit a1 a2 = some r) : Fn Try.prog k_spec_AtlasSplit (lent [(.agg (d_TAtlas a1)), (.int .i64 a2)]) true [(.agg (d_TAtlas r.1)), (.int .i64 r.2)] := by
  refine i_spec_AtlasSplit_fn (Nat.le_of_ble_eq_true rfl) ?_
  rw [init_mk]
  refine AW.weaken (wk_mk [] (SL.cons (v := (.agg [(.d (.int .i64 a1.Epoch)), (.d (.sl 3 (List.map d_TPart a1.Parts))), (.d (.int .i64 a1.Move.No)), (.d (.int .i64 a1.Move.Stage)), (.d (.int .i64 a1.Move.Lo)), (.d (.int .i64 a1.Move.Hi)), (.d (.int .i64 a1.Move.From)), (.d (.int .i64 a1.Move.To)), (.d (.sl 2 (List.map d_TCell a1.Move.Cells)))])) eZ rfl VWk.rfl (SL.cons (v := (.one (.d (.int .i64 a2)))) (eS rfl eZ) rfl VWk.rfl SL.nil)) BL.nil BK.nil) ?_
  unfold m_spec_AtlasSplit at H
  unfold i_spec_AtlasSplit
  refine AW.seq ?_
  refine AW.regs ?_
  refine oBox (n := 128) (m := 9) (cs := [(.d (.int .i64 a1.Epoch)), (.d (.sl 3 (List.map d_TPart a1.Parts))), (.d (.int .i64 a1.Move.No)), (.d (.int .i64 a1.Move.Stage)), (.d (.int .i64 a1.Move.Lo)), (.d (.int .i64 a1.Move.Hi)), (.d (.int .i64 a1.Move.From)), (.d (.int .i64 a1.Move.To)), (.d (.sl 2 (List.map d_TCell a1.Move.Cells)))]) rfl eZ rfl rfl nZ ?_
  refine oVar (n := 256) (m := 9) rfl rfl (nS rfl nZ) ?_
  refine oMov eC ?_
  refine xNil ?_
  refine TQ.qn ?_
  refine AW.seq ?_
  refine AW.seq ?_
  refine AW.regs ?_
  refine oLoadVA (es := [(.d (.int .i64 a1.Epoch)), (.d (.sl 3 (List.map d_TPart a1.Parts))), (.d (.int .i64 a1.Move.No)), (.d (.int .i64 a1.Move.Stage)), (.d (.int .i64 a1.Move.Lo)), (.d (.int .i64 a1.Move.Hi)), (.d (.int .i64 a1.Move.From)), (.d (.int .i64 a1.Move.To)), (.d (.sl 2 (List.map d_TCell a1.Move.Cells)))]) (eR rfl) (bS rfl bZ) rfl ?_
  obtain ⟨v3, h4, H⟩ := obind H
  refine oCall (u := (.one (.d (.bool v3)))) eC Cl.fn (c_spec_AtlasOk h4) (Evs.cons eZ Evs.nil) (VDs.cons (VD.agg rfl) VDs.nil) rfl ?_
  refine oInv eZ ?_
  refine xNil ?_
  refine TQ.qn ?_
  rcases oite H with ⟨h5, H⟩ | ⟨h5, H⟩
  · refine AW.condF eZ (congrArg Bool.not h5) ?_
    refine AW.skip ?_
    refine TQ.qn ?_
    refine AW.seq ?_
    refine AW.regs ?_
    refine oLoadVA (es := [(.d (.int .i64 a1.Epoch)), (.d (.sl 3 (List.map d_TPart a1.Parts))), (.d (.int .i64 a1.Move.No)), (.d (.int .i64 a1.Move.Stage)), (.d (.int .i64 a1.Move.Lo)), (.d (.int .i64 a1.Move.Hi)), (.d (.int .i64 a1.Move.From)), (.d (.int .i64 a1.Move.To)), (.d (.sl 2 (List.map d_TCell a1.Move.Cells)))]) (eR rfl) (bS rfl bZ) rfl ?_
    obtain ⟨v6, h7, H⟩ := obind H
    refine oCallN (u := (.agg [(.d (.int .i64 v6.Epoch)), (.sl 897 0 v6.Parts.length), (.d (.int .i64 v6.Move.No)), (.d (.int .i64 v6.Move.Stage)), (.d (.int .i64 v6.Move.Lo)), (.d (.int .i64 v6.Move.Hi)), (.d (.int .i64 v6.Move.From)), (.d (.int .i64 v6.Move.To)), (.sl 904 0 v6.Move.Cells.length)])) (bs := [(897, (.data 3 (List.map d_TPart v6.Parts) true none)), (904, (.data 2 (List.map d_TCell v6.Move.Cells) true none))]) eC Cl.fn (c_spec_l15Copy h7) (Evs.cons eZ Evs.nil) (VDs.cons (VD.agg rfl) VDs.nil) (by simp [bindR, bindV, bindVs, bindC, bindCs]) rfl (fC (nS rfl (nS rfl nZ)) rfl (fC (nS rfl (nS rfl nZ)) rfl (fC (nS rfl (nS rfl nZ)) rfl fN))) ?_
    refine oVar (n := 384) (m := 9) rfl rfl (nS rfl (nS rfl (nS rfl (nS rfl nZ)))) ?_
    refine oStoreV (es := [(.d (.int .i64 v6.Epoch)), (.sl 897 0 v6.Parts.length), (.d (.int .i64 v6.Move.No)), (.d (.int .i64 v6.Move.Stage)), (.d (.int .i64 v6.Move.Lo)), (.d (.int .i64 v6.Move.Hi)), (.d (.int .i64 v6.Move.From)), (.d (.int .i64 v6.Move.To)), (.sl 904 0 v6.Move.Cells.length)]) eZ (eS rfl eZ) rfl rfl bZ rfl ?_
    refine xNil ?_
    refine TQ.qn ?_
    refine AW.seq ?_
    refine AW.regs ?_
    refine oFaddrN (m := 1) (eR rfl) rfl ?_
    refine oLoadV (q := 1) (c := (.d (.sl 3 (List.map d_TPart a1.Parts)))) eZ (bS rfl (bS rfl (bS rfl (bS rfl (bS rfl bZ))))) rfl rfl ?_
    refine oMov (eR rfl) ?_
    obtain ⟨v8, h9, H⟩ := obind H
    refine oCallN (u := (.tup [(.one (.sl 1216 0 v8.1.length)), (.one (.d (.bool v8.2)))])) (bs := [(1216, (.data 3 (List.map d_TPart v8.1) true none))]) eC Cl.fn (c_spec_SplitAt h9) (Evs.cons (eS rfl eZ) (Evs.cons eZ Evs.nil)) (VDs.cons VD.plain (VDs.cons VD.plain VDs.nil)) (by simp [bindR, bindV, bindVs, bindC, bindCs]) rfl (fC (nS rfl (nS rfl (nS rfl (nS rfl (nS rfl (nS rfl nZ)))))) rfl (fC (nS rfl (nS rfl (nS rfl (nS rfl (nS rfl (nS rfl nZ)))))) rfl fN)) ?_
    refine oMov eZ ?_
    refine oExt (v := (.one (.sl 1216 0 v8.1.length))) eZ rfl ?_
    refine oExt (v := (.one (.d (.bool v8.2)))) (eS rfl eZ) rfl ?_
    refine oMov (eS rfl eZ) ?_
    refine oMov (eS rfl eZ) ?_
    refine xNil ?_
    refine TQ.qn ?_
    refine AW.weaken (wk_mk [] (SL.cons (k := 8) eZ rfl VWk.rfl (SL.cons (k := 7) (eS rfl eZ) rfl VWk.rfl (SL.cons (k := 6) (eR rfl) rfl VWk.rfl (SL.cons (k := 4) (eR rfl) rfl VWk.rfl (SL.cons (k := 2) (eR rfl) rfl VWk.rfl SL.nil))))) (BL.keep rfl (BL.keep rfl (BL.keep rfl (BL.keep rfl (BL.keep rfl (BL.keep rfl (BL.keep rfl BL.nil))))))) (BK.cons (n := 1216) rfl bZ rfl rfl (BK.cons (n := 384) rfl (bS rfl bZ) rfl rfl (BK.cons (n := 904) rfl (bS rfl (bS rfl (bS rfl bZ))) rfl rfl (BK.cons (n := 897) rfl (bS rfl (bS rfl (bS rfl (bS rfl bZ)))) rfl rfl (BK.cons (n := 256) rfl (bS rfl (bS rfl (bS rfl (bS rfl (bS rfl bZ))))) rfl rfl (BK.cons (n := 128) rfl (bS rfl (bS rfl (bS rfl (bS rfl (bS rfl (bS rfl bZ)))))) rfl rfl BK.nil))))))) ?_
    refine AW.seq ?_
    refine AW.seqJ (fun t10 : Bool => (spec_AtlasSplit_j10 v6 v8) t10 = some r) (fun t10 => mk [(4, (.one (.ptr (.nm 256 0 0)))), (6, (.one (.ptr (.nm 384 0 0)))), (7, (.one (.sl 1216 0 v8.1.length))), (28, (.one (.d (.bool t10))))] [(256, (.vars 9 [(.d (.int .i64 0)), .zs, (.d (.int .i64 0)), (.d (.int .i64 0)), (.d (.int .i64 0)), (.d (.int .i64 0)), (.d (.int .i64 0)), (.d (.int .i64 0)), .zs])), (384, (.vars 9 [(.d (.int .i64 v6.Epoch)), (.sl 897 0 v6.Parts.length), (.d (.int .i64 v6.Move.No)), (.d (.int .i64 v6.Move.Stage)), (.d (.int .i64 v6.Move.Lo)), (.d (.int .i64 v6.Move.Hi)), (.d (.int .i64 v6.Move.From)), (.d (.int .i64 v6.Move.To)), (.sl 904 0 v6.Move.Cells.length)])), (897, (.data 3 (List.map d_TPart v6.Parts) true none)), (904, (.data 2 (List.map d_TCell v6.Move.Cells) true none)), (1216, (.data 3 (List.map d_TPart v8.1) true none))] noG) ?_ ?_
    · intro t10 H
      unfold spec_AtlasSplit_j10 at H
      rcases oite H with ⟨h12, H⟩ | ⟨h12, H⟩
      · refine AW.condT (eR rfl) h12 ?_
        refine AW.seq ?_
        refine AW.regs ?_
        refine oLoadVA (es := [(.d (.int .i64 v6.Epoch)), (.sl 897 0 v6.Parts.length), (.d (.int .i64 v6.Move.No)), (.d (.int .i64 v6.Move.Stage)), (.d (.int .i64 v6.Move.Lo)), (.d (.int .i64 v6.Move.Hi)), (.d (.int .i64 v6.Move.From)), (.d (.int .i64 v6.Move.To)), (.sl 904 0 v6.Move.Cells.length)]) (eS rfl eZ) (bS rfl bZ) rfl ?_
        refine oStoreV (es := [(.d (.int .i64 v6.Epoch)), (.sl 897 0 v6.Parts.length), (.d (.int .i64 v6.Move.No)), (.d (.int .i64 v6.Move.Stage)), (.d (.int .i64 v6.Move.Lo)), (.d (.int .i64 v6.Move.Hi)), (.d (.int .i64 v6.Move.From)), (.d (.int .i64 v6.Move.To)), (.sl 904 0 v6.Move.Cells.length)]) (eS rfl eZ) eZ rfl rfl bZ rfl ?_
        refine oMov eC ?_
        refine xNil ?_
        refine TQ.qn ?_
        refine AW.ret ?_
        refine TQ.qr ?_
        obtain rfl := Option.some.inj H
        exact endsR (RL.cons (RV.cellA (es := [(.d (.int .i64 v6.Epoch)), (.sl 897 0 v6.Parts.length), (.d (.int .i64 v6.Move.No)), (.d (.int .i64 v6.Move.Stage)), (.d (.int .i64 v6.Move.Lo)), (.d (.int .i64 v6.Move.Hi)), (.d (.int .i64 v6.Move.From)), (.d (.int .i64 v6.Move.To)), (.sl 904 0 v6.Move.Cells.length)]) (eR rfl) bZ rfl) (VO.aggs (VOs.cons (VO.flat rfl) (VOs.cons (VO.sl (bS rfl (bS rfl (bS rfl bZ))) (List.length_map _) (allFlat fun _ => rfl)) (VOs.cons (VO.flat rfl) (VOs.cons (VO.flat rfl) (VOs.cons (VO.flat rfl) (VOs.cons (VO.flat rfl) (VOs.cons (VO.flat rfl) (VOs.cons (VO.flat rfl) (VOs.cons (VO.sl (bS rfl (bS rfl (bS rfl (bS rfl bZ)))) (List.length_map _) (allFlat fun _ => rfl)) VOs.nil)))))))))) (RL.cons (RV.tmp eZ) (VO.flat rfl) RL.nil)) (by decide)
      · refine AW.condF (eR rfl) (nt h12) ?_
        refine AW.skip ?_
        refine TQ.qn ?_
        refine AW.seq ?_
        refine AW.regs ?_
        refine oMov (eR rfl) ?_
        refine oFaddrN (m := 1) (eR rfl) rfl ?_
        refine oStoreV (es := [(.d (.int .i64 v6.Epoch)), (.sl 1216 0 v8.1.length), (.d (.int .i64 v6.Move.No)), (.d (.int .i64 v6.Move.Stage)), (.d (.int .i64 v6.Move.Lo)), (.d (.int .i64 v6.Move.Hi)), (.d (.int .i64 v6.Move.From)), (.d (.int .i64 v6.Move.To)), (.sl 904 0 v6.Move.Cells.length)]) eZ (eS rfl eZ) rfl rfl (bS rfl bZ) rfl ?_
        refine xNil ?_
        refine TQ.qn ?_
        refine AW.seq ?_
        refine AW.regs ?_
        refine oFaddrN (m := 0) (eR rfl) rfl ?_
        refine oLoadV (q := 0) (c := (.d (.int .i64 v6.Epoch))) eZ bZ rfl rfl ?_
        refine oAdd eZ eC ?_
        refine oFaddrN (m := 0) (eR rfl) rfl ?_
        refine oStoreV (es := [(.d (.int .i64 (IntKind.wrap .i64 (v6.Epoch + 1)))), (.sl 1216 0 v8.1.length), (.d (.int .i64 v6.Move.No)), (.d (.int .i64 v6.Move.Stage)), (.d (.int .i64 v6.Move.Lo)), (.d (.int .i64 v6.Move.Hi)), (.d (.int .i64 v6.Move.From)), (.d (.int .i64 v6.Move.To)), (.sl 904 0 v6.Move.Cells.length)]) eZ (eS rfl eZ) rfl rfl bZ rfl ?_
        refine xNil ?_
        refine TQ.qn ?_
        refine AW.seq ?_
        refine AW.regs ?_
        refine oLoadVA (es := [(.d (.int .i64 (IntKind.wrap .i64 (v6.Epoch + 1)))), (.sl 1216 0 v8.1.length), (.d (.int .i64 v6.Move.No)), (.d (.int .i64 v6.Move.Stage)), (.d (.int .i64 v6.Move.Lo)), (.d (.int .i64 v6.Move.Hi)), (.d (.int .i64 v6.Move.From)), (.d (.int .i64 v6.Move.To)), (.sl 904 0 v6.Move.Cells.length)]) (eR rfl) bZ rfl ?_
        refine oStoreV (es := [(.d (.int .i64 (IntKind.wrap .i64 (v6.Epoch + 1)))), (.sl 1216 0 v8.1.length), (.d (.int .i64 v6.Move.No)), (.d (.int .i64 v6.Move.Stage)), (.d (.int .i64 v6.Move.Lo)), (.d (.int .i64 v6.Move.Hi)), (.d (.int .i64 v6.Move.From)), (.d (.int .i64 v6.Move.To)), (.sl 904 0 v6.Move.Cells.length)]) (eR rfl) eZ rfl rfl (bS rfl (bS rfl bZ)) rfl ?_
        refine oMov eC ?_
        refine xNil ?_
        refine TQ.qn ?_
        refine AW.ret ?_
        obtain rfl := Option.some.inj H
        exact endsR (RL.cons (RV.cellA (es := [(.d (.int .i64 (IntKind.wrap .i64 (v6.Epoch + 1)))), (.sl 1216 0 v8.1.length), (.d (.int .i64 v6.Move.No)), (.d (.int .i64 v6.Move.Stage)), (.d (.int .i64 v6.Move.Lo)), (.d (.int .i64 v6.Move.Hi)), (.d (.int .i64 v6.Move.From)), (.d (.int .i64 v6.Move.To)), (.sl 904 0 v6.Move.Cells.length)]) (eR rfl) bZ rfl) (VO.aggs (VOs.cons (VO.flat rfl) (VOs.cons (VO.sl (bS rfl (bS rfl (bS rfl (bS rfl (bS rfl (bS rfl (bS rfl bZ))))))) (List.length_map _) (allFlat fun _ => rfl)) (VOs.cons (VO.flat rfl) (VOs.cons (VO.flat rfl) (VOs.cons (VO.flat rfl) (VOs.cons (VO.flat rfl) (VOs.cons (VO.flat rfl) (VOs.cons (VO.flat rfl) (VOs.cons (VO.sl (bS rfl (bS rfl (bS rfl (bS rfl (bS rfl (bS rfl bZ)))))) (List.length_map _) (allFlat fun _ => rfl)) VOs.nil)))))))))) (RL.cons (RV.tmp eZ) (VO.flat rfl) RL.nil)) (by decide)
    · refine AW.regs ?_
      refine oMov eZ ?_
      refine oInv eZ ?_
      refine oMov eZ ?_
      rcases oite H with ⟨h13, H⟩ | ⟨h13, H⟩
      · refine gDo eZ (congrArg Bool.not h13) ?_
        refine oFaddrN (m := 0) (eR rfl) rfl ?_
        refine gDo (eS rfl eZ) (congrArg Bool.not h13) ?_
        refine oLoadV (q := 0) (c := (.d (.int .i64 a1.Epoch))) eZ (bS rfl (bS rfl (bS rfl (bS rfl (bS rfl bZ))))) rfl rfl ?_
        refine gDo (eR rfl) (congrArg Bool.not h13) ?_
        refine oEql eZ eC ?_
        refine oPickF (eR rfl) (congrArg Bool.not h13) eZ ?_
        refine xNil ?_
        exact TQ.qn ⟨(decide (a1.Epoch = 1000000)), H, (wk_mk [128] (SL.cons (eR rfl) rfl VWk.rfl (SL.cons (eR rfl) rfl VWk.rfl (SL.cons (eR rfl) rfl VWk.rfl (SL.cons eZ rfl VWk.rfl SL.nil)))) (BL.keep rfl (BL.keep rfl (BL.keep rfl (BL.keep rfl (BL.keep rfl (BL.drop rfl BL.nil)))))) (BK.cons rfl (bS rfl (bS rfl (bS rfl (bS rfl bZ)))) rfl rfl (BK.cons rfl (bS rfl bZ) rfl (by first | rfl | simp) (BK.cons rfl (bS rfl (bS rfl (bS rfl bZ))) rfl rfl (BK.cons rfl (bS rfl (bS rfl bZ)) rfl rfl (BK.cons rfl bZ rfl rfl BK.nil))))))⟩
      · refine gSkip eZ (congrArg Bool.not (nt h13)) rfl ?_
        refine gSkip (eS rfl eZ) (congrArg Bool.not (nt h13)) rfl ?_
        refine gSkip (eR rfl) (congrArg Bool.not (nt h13)) rfl ?_
        refine oPickT (eR rfl) (congrArg Bool.not (nt h13)) eC ?_
        refine xNil ?_
        exact TQ.qn ⟨true, H, (wk_mk [128] (SL.cons (eR rfl) rfl VWk.rfl (SL.cons (eR rfl) rfl VWk.rfl (SL.cons (eR rfl) rfl VWk.rfl (SL.cons eZ rfl VWk.rfl SL.nil)))) (BL.keep rfl (BL.keep rfl (BL.keep rfl (BL.keep rfl (BL.keep rfl (BL.drop rfl BL.nil)))))) (BK.cons rfl (bS rfl (bS rfl (bS rfl (bS rfl bZ)))) rfl rfl (BK.cons rfl (bS rfl bZ) rfl (by first | rfl | simp) (BK.cons rfl (bS rfl (bS rfl (bS rfl bZ))) rfl rfl (BK.cons rfl (bS rfl (bS rfl bZ)) rfl rfl (BK.cons rfl bZ rfl rfl BK.nil))))))⟩
  · refine AW.condT eZ (congrArg Bool.not (nt h5)) ?_
    refine AW.seq ?_
    refine AW.regs ?_
    refine oBuild (cs := [(.d (.int .i64 0)), .zs, (.d (.int .i64 0)), (.d (.int .i64 0)), (.d (.int .i64 0)), (.d (.int .i64 0)), (.d (.int .i64 0)), (.d (.int .i64 0)), .zs]) PsNil rfl ?_
    refine oStoreV (es := [(.d (.int .i64 0)), .zs, (.d (.int .i64 0)), (.d (.int .i64 0)), (.d (.int .i64 0)), (.d (.int .i64 0)), (.d (.int .i64 0)), (.d (.int .i64 0)), .zs]) (eR rfl) eZ rfl rfl bZ rfl ?_
    refine oMov eC ?_
    refine xNil ?_
    refine TQ.qn ?_
    refine AW.ret ?_
    refine TQ.qr ?_
    obtain rfl := Option.some.inj H
    exact endsR (RL.cons (RV.cellA (es := [(.d (.int .i64 0)), .zs, (.d (.int .i64 0)), (.d (.int .i64 0)), (.d (.int .i64 0)), (.d (.int .i64 0)), (.d (.int .i64 0)), (.d (.int .i64 0)), .zs]) (eR rfl) bZ rfl) (VO.aggs (VOs.cons (VO.flat rfl) (VOs.cons VO.zs (VOs.cons (VO.flat rfl) (VOs.cons (VO.flat rfl) (VOs.cons (VO.flat rfl) (VOs.cons (VO.flat rfl) (VOs.cons (VO.flat rfl) (VOs.cons (VO.flat rfl) (VOs.cons VO.zs VOs.nil)))))))))) (RL.cons (RV.tmp eZ) (VO.flat rfl) RL.nil)) List.nodup_nil

theorem c_impl_from {a1 : Int} {a2 : Int} {a3 : Int} {r : Bool} (H : m_impl_from a1 a2 a3 = some r) : Fn Try.prog k_impl_from (lent [(.int .i64 a1), (.int .i64 a2), (.int .i64 a3)]) true [(.bool r)] := by
  refine i_impl_from_fn (Nat.le_of_ble_eq_true rfl) ?_
  rw [init_mk]
  refine AW.weaken (wk_mk [] (SL.cons (v := (.one (.d (.int .i64 a1)))) eZ rfl VWk.rfl (SL.cons (v := (.one (.d (.int .i64 a2)))) (eS rfl eZ) rfl VWk.rfl (SL.cons (v := (.one (.d (.int .i64 a3)))) (eS rfl (eS rfl eZ)) rfl VWk.rfl SL.nil))) BL.nil BK.nil) ?_
  unfold m_impl_from at H
  unfold i_impl_from
  refine AW.seq ?_
  refine AW.regs ?_
  refine oMov eC ?_
  refine xNil ?_
  refine TQ.qn ?_
  refine AW.seq ?_
  refine AW.regs ?_
  refine oMov (eS rfl eZ) ?_
  refine oMov (eR rfl) ?_
  refine oGeq (eS rfl eZ) eZ ?_
  refine oMov eZ ?_
  rcases oite H with ⟨h4, H⟩ | ⟨h4, H⟩
  · refine gDo eZ (decide_eq_true h4) ?_
    refine oMov (eR rfl) ?_
    refine gDo (eS rfl eZ) (decide_eq_true h4) ?_
    refine oMov (eR rfl) ?_
    refine gDo (eR rfl) (decide_eq_true h4) ?_
    refine oLeq (eS rfl eZ) eZ ?_
    refine oPickT (eR rfl) (decide_eq_true h4) eZ ?_
    refine oMov eZ ?_
    refine xNil ?_
    refine TQ.qn ?_
    refine AW.ret ?_
    obtain rfl := Option.some.inj H
    exact endsR (RL.cons (RV.tmp eZ) (VO.flat rfl) RL.nil) List.nodup_nil
  · refine gSkip eZ (decide_eq_false h4) rfl ?_
    refine gSkip (eS rfl eZ) (decide_eq_false h4) rfl ?_
    refine gSkip (eR rfl) (decide_eq_false h4) rfl ?_
    refine oPickF (eR rfl) (decide_eq_false h4) eC ?_
    refine oMov eZ ?_
    refine xNil ?_
    refine TQ.qn ?_
    refine AW.ret ?_
    obtain rfl := Option.some.inj H
    exact endsR (RL.cons (RV.tmp eZ) (VO.flat rfl) RL.nil) List.nodup_nil

theorem c_impl_isGroup {a1 : Int} {r : Bool} (H : m_impl_isGroup a1 = some r) : Fn Try.prog k_impl_isGroup (lent [(.int .i64 a1)]) true [(.bool r)] := by
  refine i_impl_isGroup_fn (Nat.le_of_ble_eq_true rfl) ?_
  rw [init_mk]
  refine AW.weaken (wk_mk [] (SL.cons (v := (.one (.d (.int .i64 a1)))) eZ rfl VWk.rfl SL.nil) BL.nil BK.nil) ?_
  unfold m_impl_isGroup at H
  unfold i_impl_isGroup
  refine AW.seq ?_
  refine AW.regs ?_
  refine oMov eC ?_
  refine xNil ?_
  refine TQ.qn ?_
  refine AW.seq ?_
  refine AW.regs ?_
  refine oMov (eS rfl eZ) ?_
  obtain ⟨v2, h3, H⟩ := obind H
  refine oCall (u := (.one (.d (.bool v2)))) eC Cl.fn (c_impl_from h3) (Evs.cons eZ (Evs.cons eC (Evs.cons eC Evs.nil))) (VDs.cons VD.plain (VDs.cons VD.plain (VDs.cons VD.plain VDs.nil))) rfl ?_
  refine oMov eZ ?_
  refine xNil ?_
  refine TQ.qn ?_
  refine AW.ret ?_
  obtain rfl := Option.some.inj H
  exact endsR (RL.cons (RV.tmp eZ) (VO.flat rfl) RL.nil) List.nodup_nil

theorem c_impl_PartsOk {a1 : (List TPart)} {r : Bool} (H : m_impl_PartsOk a1 = some r) : Fn Try.prog k_impl_PartsOk (lent [(.sl 3 (List.map d_TPart a1))]) true [(.bool r)] := by
  refine i_impl_PartsOk_fn (Nat.le_of_ble_eq_true rfl) ?_
  rw [init_mk]
  refine AW.weaken (wk_mk [] (SL.cons (v := (.one (.d (.sl 3 (List.map d_TPart a1))))) eZ rfl VWk.rfl SL.nil) BL.nil BK.nil) ?_
  unfold m_impl_PartsOk at H
  unfold i_impl_PartsOk
  refine AW.seq ?_
  refine AW.regs ?_
  refine oMov eC ?_
  refine xNil ?_
  refine TQ.qn ?_
  refine AW.seq ?_
  refine AW.regs ?_
  refine oMov eC ?_
  refine xNil ?_
  refine TQ.qn ?_
  refine AW.seqJ (fun t2 : Int => (impl_PartsOk_j2 a1) t2 = some r) (fun t2 => mk [(0, (.one (.d (.sl 3 (List.map d_TPart a1))))), (3, (.one (.d (.int .i64 t2))))] [] noG) ?_ ?_
  · intro t2 H
    unfold impl_PartsOk_j2 at H
    refine AW.seq ?_
    refine AW.regs ?_
    refine oMov eZ ?_
    refine oLenD eZ (n := a1.length) (List.length_map _) ?_
    obtain ⟨v4, h5, H⟩ := obind H
    refine oCall (u := (.one (.d (.bool v4)))) eC Cl.fn (c_impl_from h5) (Evs.cons eZ (Evs.cons eC (Evs.cons eC Evs.nil))) (VDs.cons VD.plain (VDs.cons VD.plain (VDs.cons VD.plain VDs.nil))) rfl ?_
    refine oMov eZ ?_
    rcases oite H with ⟨h6, H⟩ | ⟨h6, H⟩
    · refine gDo eZ h6 ?_
      refine oMov (eR rfl) ?_
      refine gDo (eS rfl eZ) h6 ?_
      refine oEql eZ eC ?_
      refine oPickT (eR rfl) h6 eZ ?_
      refine oMov eZ ?_
      refine xNil ?_
      refine TQ.qn ?_
      refine AW.ret ?_
      obtain rfl := Option.some.inj H
      exact endsR (RL.cons (RV.tmp eZ) (VO.flat rfl) RL.nil) List.nodup_nil
    · refine gSkip eZ (nt h6) rfl ?_
      refine gSkip (eS rfl eZ) (nt h6) rfl ?_
      refine oPickF (eR rfl) (nt h6) eC ?_
      refine oMov eZ ?_
      refine xNil ?_
      refine TQ.qn ?_
      refine AW.ret ?_
      obtain rfl := Option.some.inj H
      exact endsR (RL.cons (RV.tmp eZ) (VO.flat rfl) RL.nil) List.nodup_nil
  · refine AW.seq ?_
    refine AW.regs ?_
    refine oMov (eR rfl) ?_
    refine oLenD eZ (n := a1.length) (List.length_map _) ?_
    refine oMov eC ?_
    refine xNil ?_
    refine TQ.qn ?_
    refine AW.block ?_
    refine AW.iter (fun s7 : (Int × Int) => mk [(0, (.one (.d (.sl 3 (List.map d_TPart a1))))), (3, (.one (.d (.int .i64 s7.1)))), (6, (.one (.d (.sl 3 (List.map d_TPart a1))))), (7, (.one (.d (.int .i64 (a1.length : Int))))), (8, (.one (.d (.int .i64 s7.2))))] [] noG) H (wk_mk [] (SL.cons (eR rfl) rfl VWk.rfl (SL.cons (eR rfl) rfl VWk.rfl (SL.cons (eR rfl) rfl VWk.rfl (SL.cons (eS rfl eZ) rfl VWk.rfl (SL.cons eZ rfl VWk.rfl SL.nil))))) BL.nil BK.nil) ?_
    intro kb8 s7 H
    unfold impl_PartsOk_b7 at H
    refine AW.seq ?_
    refine AW.regs ?_
    refine oLss (eR rfl) (eR rfl) ?_
    refine xNil ?_
    refine TQ.qn ?_
    refine AW.seq ?_
    rcases oite H with ⟨h9, H⟩ | ⟨h9, H⟩
    · refine AW.condT eZ (decide_eq_true h9) ?_
      refine AW.skip ?_
      refine TQ.qn ?_
      refine AW.seq ?_
      refine AW.block ?_
      refine AW.seq ?_
      refine AW.regs ?_
      obtain ⟨v10, h11, H⟩ := obind H
      refine oAtD (eR rfl) (eR rfl) h11 ?_
      refine oLoadBA (es := [(.d (.int .i64 v10.Lo)), (.d (.int .i64 v10.Hi)), (.d (.int .i64 v10.Owner))]) eZ rfl ?_
      refine oVar (n := 320) (m := 3) rfl rfl nZ ?_
      refine oStoreV (es := [(.d (.int .i64 v10.Lo)), (.d (.int .i64 v10.Hi)), (.d (.int .i64 v10.Owner))]) eZ (eS rfl eZ) rfl rfl bZ rfl ?_
      refine xNil ?_
      refine TQ.qn ?_
      refine AW.seq ?_
      refine AW.seqJ (fun t12 : Bool => (impl_PartsOk_j12 kb8 v10 s7) t12 = some r) (fun t12 => mk [(0, (.one (.d (.sl 3 (List.map d_TPart a1))))), (5, (.one (.ptr (.nm 320 0 0)))), (6, (.one (.d (.sl 3 (List.map d_TPart a1))))), (7, (.one (.d (.int .i64 (a1.length : Int))))), (8, (.one (.d (.int .i64 s7.2)))), (28, (.one (.d (.bool t12))))] [(320, (.vars 3 [(.d (.int .i64 v10.Lo)), (.d (.int .i64 v10.Hi)), (.d (.int .i64 v10.Owner))]))] noG) ?_ ?_
      · intro t12 H
        unfold impl_PartsOk_j12 at H
        rcases oite H with ⟨h14, H⟩ | ⟨h14, H⟩
        · refine AW.condT (eR rfl) h14 ?_
          refine AW.seq ?_
          refine AW.regs ?_
          refine oMov eC ?_
          refine xNil ?_
          refine TQ.qn ?_
          refine AW.ret ?_
          refine TQ.qr ?_
          refine BQ.qr ?_
          refine TQ.qr ?_
          refine TQ.qr ?_
          refine BQ.qr ?_
          refine TQ.qr ?_
          obtain rfl := Option.some.inj H
          exact endsR (RL.cons (RV.tmp eZ) (VO.flat rfl) RL.nil) List.nodup_nil
        · refine AW.condF (eR rfl) (nt h14) ?_
          refine AW.skip ?_
          refine TQ.qn ?_
          refine AW.regs ?_
          refine oFaddrN (m := 1) (eS rfl eZ) rfl ?_
          refine oLoadV (q := 1) (c := (.d (.int .i64 v10.Hi))) eZ bZ rfl rfl ?_
          refine oMov eZ ?_
          refine xNil ?_
          refine BQ.qn ?_
          refine TQ.qn ?_
          refine AW.regs ?_
          refine oAdd (eR rfl) eC ?_
          refine oMov eZ ?_
          refine xNil ?_
          exact TQ.qn ⟨(v10.Hi, (IntKind.wrap .i64 (s7.2 + 1))), H, (wk_mk [320] (SL.cons (eR rfl) rfl VWk.rfl (SL.cons (eR rfl) rfl VWk.rfl (SL.cons (eR rfl) rfl VWk.rfl (SL.cons (eR rfl) rfl VWk.rfl (SL.cons eZ rfl VWk.rfl SL.nil))))) (BL.drop rfl BL.nil) BK.nil)⟩
      · refine AW.regs ?_
        refine oFaddrN (m := 0) eZ rfl ?_
        refine oLoadV (q := 0) (c := (.d (.int .i64 v10.Lo))) eZ bZ rfl rfl ?_
        refine oMov (eR rfl) ?_
        refine oNeq (eS rfl eZ) eZ ?_
        refine oMov eZ ?_
        rcases oite H with ⟨h15, H⟩ | ⟨h15, H⟩
        · refine gSkip eZ (decide_eq_true h15) rfl ?_
          refine gSkip (eS rfl eZ) (decide_eq_true h15) rfl ?_
          refine gSkip (eR rfl) (decide_eq_true h15) rfl ?_
          refine gSkip (eR rfl) (decide_eq_true h15) rfl ?_
          refine gSkip (eR rfl) (decide_eq_true h15) rfl ?_
          refine oPickT (eR rfl) (decide_eq_true h15) eC ?_
          refine oMov eZ ?_
          refine gSkip eZ rfl rfl ?_
          refine gSkip (eS rfl eZ) rfl rfl ?_
          refine gSkip (eR rfl) rfl rfl ?_
          refine gSkip (eR rfl) rfl rfl ?_
          refine oPickT (eR rfl) rfl eC ?_
          refine xNil ?_
          exact TQ.qn ⟨true, H, (wk_mk [] (SL.cons (eR rfl) rfl VWk.rfl (SL.cons (eR rfl) rfl VWk.rfl (SL.cons (eR rfl) rfl VWk.rfl (SL.cons (eR rfl) rfl VWk.rfl (SL.cons (eR rfl) rfl VWk.rfl (SL.cons eZ rfl VWk.rfl SL.nil)))))) (BL.keep rfl (BL.keep rfl BL.nil)) (BK.cons rfl bZ rfl rfl BK.nil))⟩
        · refine gDo eZ (decide_eq_false h15) ?_
          refine oFaddrN (m := 1) (eR rfl) rfl ?_
          refine gDo (eS rfl eZ) (decide_eq_false h15) ?_
          refine oLoadV (q := 1) (c := (.d (.int .i64 v10.Hi))) eZ bZ rfl rfl ?_
          refine gDo (eR rfl) (decide_eq_false h15) ?_
          refine oFaddrN (m := 0) (eR rfl) rfl ?_
          refine gDo (eR rfl) (decide_eq_false h15) ?_
          refine oLoadV (q := 0) (c := (.d (.int .i64 v10.Lo))) eZ bZ rfl rfl ?_
          refine gDo (eR rfl) (decide_eq_false h15) ?_
          refine oLeq (eR rfl) eZ ?_
          refine oPickF (eR rfl) (decide_eq_false h15) eZ ?_
          refine oMov eZ ?_
          rcases oite H with ⟨h16, H⟩ | ⟨h16, H⟩
          · refine gSkip eZ (decide_eq_true h16) rfl ?_
            refine gSkip (eS rfl eZ) (decide_eq_true h16) rfl ?_
            refine gSkip (eR rfl) (decide_eq_true h16) rfl ?_
            refine gSkip (eR rfl) (decide_eq_true h16) rfl ?_
            refine oPickT (eR rfl) (decide_eq_true h16) eC ?_
            refine xNil ?_
            exact TQ.qn ⟨true, H, (wk_mk [] (SL.cons (eR rfl) rfl VWk.rfl (SL.cons (eR rfl) rfl VWk.rfl (SL.cons (eR rfl) rfl VWk.rfl (SL.cons (eR rfl) rfl VWk.rfl (SL.cons (eR rfl) rfl VWk.rfl (SL.cons eZ rfl VWk.rfl SL.nil)))))) (BL.keep rfl (BL.keep rfl BL.nil)) (BK.cons rfl bZ rfl rfl BK.nil))⟩
          · refine gDo eZ (decide_eq_false h16) ?_
            refine oFaddrN (m := 2) (eR rfl) rfl ?_
            refine gDo (eS rfl eZ) (decide_eq_false h16) ?_
            refine oLoadV (q := 2) (c := (.d (.int .i64 v10.Owner))) eZ bZ rfl rfl ?_
            refine gDo (eR rfl) (decide_eq_false h16) ?_
            obtain ⟨v17, h18, H⟩ := obind H
            refine oCall (u := (.one (.d (.bool v17)))) eC Cl.fn (c_impl_isGroup h18) (Evs.cons eZ Evs.nil) (VDs.cons VD.plain VDs.nil) rfl ?_
            refine gDo (eR rfl) (decide_eq_false h16) ?_
            refine oInv eZ ?_
            refine oPickF (eR rfl) (decide_eq_false h16) eZ ?_
            refine xNil ?_
            exact TQ.qn ⟨(!v17), H, (wk_mk [] (SL.cons (eR rfl) rfl VWk.rfl (SL.cons (eR rfl) rfl VWk.rfl (SL.cons (eR rfl) rfl VWk.rfl (SL.cons (eR rfl) rfl VWk.rfl (SL.cons (eR rfl) rfl VWk.rfl (SL.cons eZ rfl VWk.rfl SL.nil)))))) (BL.keep rfl (BL.keep rfl BL.nil)) (BK.cons rfl bZ rfl rfl BK.nil))⟩
    · refine AW.condF eZ (decide_eq_false h9) ?_
      refine AW.exit ?_
      refine TQ.qe ?_
      refine TQ.qe ?_
      refine BQ.qe ?_
      exact TQ.qn ⟨s7.1, H, (wk_mk [] (SL.cons (eS rfl eZ) rfl VWk.rfl (SL.cons (eR rfl) rfl VWk.rfl SL.nil)) BL.nil BK.nil)⟩

theorem c_impl_Move_keys {a1 : TMove} {r : TRange} (H : m_impl_Move_keys a1 = some r) : Fn Try.prog k__impl_Move_keys (lent [(.agg (d_TMove a1))]) true [(.agg (d_TRange r))] := by
  refine i__impl_Move_keys_fn (Nat.le_of_ble_eq_true rfl) ?_
  rw [init_mk]
  refine AW.weaken (wk_mk [] (SL.cons (v := (.agg [(.d (.int .i64 a1.No)), (.d (.int .i64 a1.Stage)), (.d (.int .i64 a1.Lo)), (.d (.int .i64 a1.Hi)), (.d (.int .i64 a1.From)), (.d (.int .i64 a1.To)), (.d (.sl 2 (List.map d_TCell a1.Cells)))])) eZ rfl VWk.rfl SL.nil) BL.nil BK.nil) ?_
  unfold m_impl_Move_keys at H
  unfold i__impl_Move_keys
  refine AW.seq ?_
  refine AW.regs ?_
  refine oBox (n := 64) (m := 7) (cs := [(.d (.int .i64 a1.No)), (.d (.int .i64 a1.Stage)), (.d (.int .i64 a1.Lo)), (.d (.int .i64 a1.Hi)), (.d (.int .i64 a1.From)), (.d (.int .i64 a1.To)), (.d (.sl 2 (List.map d_TCell a1.Cells)))]) rfl eZ rfl rfl nZ ?_
  refine oVar (n := 128) (m := 2) rfl rfl (nS rfl nZ) ?_
  refine xNil ?_
  refine TQ.qn ?_
  refine AW.seq ?_
  refine AW.regs ?_
  refine oFaddrN (m := 2) (eS rfl eZ) rfl ?_
  refine oLoadV (q := 2) (c := (.d (.int .i64 a1.Lo))) eZ (bS rfl bZ) rfl rfl ?_
  refine oFaddrN (m := 3) (eR rfl) rfl ?_
  refine oLoadV (q := 3) (c := (.d (.int .i64 a1.Hi))) eZ (bS rfl bZ) rfl rfl ?_
  refine oBuild (cs := [(.d (.int .i64 a1.Lo)), (.d (.int .i64 a1.Hi))]) (PsCons (eR rfl) (PsCons eZ PsNil)) rfl ?_
  refine oStoreV (es := [(.d (.int .i64 a1.Lo)), (.d (.int .i64 a1.Hi))]) (eR rfl) eZ rfl rfl bZ rfl ?_
  refine xNil ?_
  refine TQ.qn ?_
  refine AW.ret ?_
  obtain rfl := Option.some.inj H
  exact endsR (RL.cons (RV.cellA (es := [(.d (.int .i64 a1.Lo)), (.d (.int .i64 a1.Hi))]) (eR rfl) bZ rfl) (VO.agg (ds := [(.int .i64 a1.Lo), (.int .i64 a1.Hi)]) rfl rfl) RL.nil) List.nodup_nil

theorem c_impl_RangeOk {a1 : TRange} {r : Bool} (H : m_impl_RangeOk a1 = some r) : Fn Try.prog k_impl_RangeOk (lent [(.agg (d_TRange a1))]) true [(.bool r)] := by
  refine i_impl_RangeOk_fn (Nat.le_of_ble_eq_true rfl) ?_
  rw [init_mk]
  refine AW.weaken (wk_mk [] (SL.cons (v := (.agg [(.d (.int .i64 a1.Lo)), (.d (.int .i64 a1.Hi))])) eZ rfl VWk.rfl SL.nil) BL.nil BK.nil) ?_
  unfold m_impl_RangeOk at H
  unfold i_impl_RangeOk
  refine AW.seq ?_
  refine AW.regs ?_
  refine oBox (n := 64) (m := 2) (cs := [(.d (.int .i64 a1.Lo)), (.d (.int .i64 a1.Hi))]) rfl eZ rfl rfl nZ ?_
  refine oMov eC ?_
  refine xNil ?_
  refine TQ.qn ?_
  refine AW.seq ?_
  refine AW.regs ?_
  refine oFaddrN (m := 0) (eS rfl eZ) rfl ?_
  refine oLoadV (q := 0) (c := (.d (.int .i64 a1.Lo))) eZ bZ rfl rfl ?_
  refine oGeq eZ eC ?_
  refine oMov eZ ?_
  rcases oite H with ⟨h2, H⟩ | ⟨h2, H⟩
  · refine gDo eZ (decide_eq_true h2) ?_
    refine oFaddrN (m := 0) (eR rfl) rfl ?_
    refine gDo (eS rfl eZ) (decide_eq_true h2) ?_
    refine oLoadV (q := 0) (c := (.d (.int .i64 a1.Lo))) eZ bZ rfl rfl ?_
    refine gDo (eR rfl) (decide_eq_true h2) ?_
    refine oFaddrN (m := 1) (eR rfl) rfl ?_
    refine gDo (eR rfl) (decide_eq_true h2) ?_
    refine oLoadV (q := 1) (c := (.d (.int .i64 a1.Hi))) eZ bZ rfl rfl ?_
    refine gDo (eR rfl) (decide_eq_true h2) ?_
    refine oLss (eR rfl) eZ ?_
    refine oPickT (eR rfl) (decide_eq_true h2) eZ ?_
    refine oMov eZ ?_
    rcases oite H with ⟨h3, H⟩ | ⟨h3, H⟩
    · refine gDo eZ (decide_eq_true h3) ?_
      refine oFaddrN (m := 1) (eR rfl) rfl ?_
      refine gDo (eS rfl eZ) (decide_eq_true h3) ?_
      refine oLoadV (q := 1) (c := (.d (.int .i64 a1.Hi))) eZ bZ rfl rfl ?_
      refine gDo (eR rfl) (decide_eq_true h3) ?_
      refine oLeq eZ eC ?_
      refine oPickT (eR rfl) (decide_eq_true h3) eZ ?_
      refine oMov eZ ?_
      refine xNil ?_
      refine TQ.qn ?_
      refine AW.weaken (wk_mk [64] (SL.cons (k := 2) eZ rfl VWk.rfl SL.nil) (BL.drop rfl BL.nil) BK.nil) ?_
      refine AW.ret ?_
      obtain rfl := Option.some.inj H
      exact endsR (RL.cons (RV.tmp eZ) (VO.flat rfl) RL.nil) List.nodup_nil
    · refine gSkip eZ (decide_eq_false h3) rfl ?_
      refine gSkip (eS rfl eZ) (decide_eq_false h3) rfl ?_
      refine gSkip (eR rfl) (decide_eq_false h3) rfl ?_
      refine oPickF (eR rfl) (decide_eq_false h3) eC ?_
      refine oMov eZ ?_
      refine xNil ?_
      refine TQ.qn ?_
      refine AW.weaken (wk_mk [64] (SL.cons (k := 2) eZ rfl VWk.rfl SL.nil) (BL.drop rfl BL.nil) BK.nil) ?_
      refine AW.ret ?_
      obtain rfl := Option.some.inj H
      exact endsR (RL.cons (RV.tmp eZ) (VO.flat rfl) RL.nil) List.nodup_nil
  · refine gSkip eZ (decide_eq_false h2) rfl ?_
    refine gSkip (eS rfl eZ) (decide_eq_false h2) rfl ?_
    refine gSkip (eR rfl) (decide_eq_false h2) rfl ?_
    refine gSkip (eR rfl) (decide_eq_false h2) rfl ?_
    refine gSkip (eR rfl) (decide_eq_false h2) rfl ?_
    refine oPickF (eR rfl) (decide_eq_false h2) eC ?_
    refine oMov eZ ?_
    refine gSkip eZ rfl rfl ?_
    refine gSkip (eS rfl eZ) rfl rfl ?_
    refine gSkip (eR rfl) rfl rfl ?_
    refine oPickF (eR rfl) rfl eC ?_
    refine oMov eZ ?_
    refine xNil ?_
    refine TQ.qn ?_
    refine AW.weaken (wk_mk [64] (SL.cons (k := 2) eZ rfl VWk.rfl SL.nil) (BL.drop rfl BL.nil) BK.nil) ?_
    refine AW.ret ?_
    obtain rfl := Option.some.inj H
    exact endsR (RL.cons (RV.tmp eZ) (VO.flat rfl) RL.nil) List.nodup_nil

theorem c_impl_isKey {a1 : Int} {r : Bool} (H : m_impl_isKey a1 = some r) : Fn Try.prog k_impl_isKey (lent [(.int .i64 a1)]) true [(.bool r)] := by
  refine i_impl_isKey_fn (Nat.le_of_ble_eq_true rfl) ?_
  rw [init_mk]
  refine AW.weaken (wk_mk [] (SL.cons (v := (.one (.d (.int .i64 a1)))) eZ rfl VWk.rfl SL.nil) BL.nil BK.nil) ?_
  unfold m_impl_isKey at H
  unfold i_impl_isKey
  refine AW.seq ?_
  refine AW.regs ?_
  refine oMov eC ?_
  refine xNil ?_
  refine TQ.qn ?_
  refine AW.seq ?_
  refine AW.regs ?_
  refine oMov (eS rfl eZ) ?_
  obtain ⟨v2, h3, H⟩ := obind H
  refine oCall (u := (.one (.d (.bool v2)))) eC Cl.fn (c_impl_from h3) (Evs.cons eZ (Evs.cons eC (Evs.cons eC Evs.nil))) (VDs.cons VD.plain (VDs.cons VD.plain (VDs.cons VD.plain VDs.nil))) rfl ?_
  refine oMov eZ ?_
  refine xNil ?_
  refine TQ.qn ?_
  refine AW.ret ?_
  obtain rfl := Option.some.inj H
  exact endsR (RL.cons (RV.tmp eZ) (VO.flat rfl) RL.nil) List.nodup_nil

theorem c_impl_isWhole {a1 : Int} {r : Bool} (H : m_impl_isWhole a1 = some r) : Fn Try.prog k_impl_isWhole (lent [(.int .i64 a1)]) true [(.bool r)] := by
  refine i_impl_isWhole_fn (Nat.le_of_ble_eq_true rfl) ?_
  rw [init_mk]
  refine AW.weaken (wk_mk [] (SL.cons (v := (.one (.d (.int .i64 a1)))) eZ rfl VWk.rfl SL.nil) BL.nil BK.nil) ?_
  unfold m_impl_isWhole at H
  unfold i_impl_isWhole
  refine AW.seq ?_
  refine AW.regs ?_
  refine oMov eC ?_
  refine xNil ?_
  refine TQ.qn ?_
  refine AW.seq ?_
  refine AW.regs ?_
  refine oMov (eS rfl eZ) ?_
  obtain ⟨v2, h3, H⟩ := obind H
  refine oCall (u := (.one (.d (.bool v2)))) eC Cl.fn (c_impl_from h3) (Evs.cons eZ (Evs.cons eC (Evs.cons eC Evs.nil))) (VDs.cons VD.plain (VDs.cons VD.plain (VDs.cons VD.plain VDs.nil))) rfl ?_
  refine oMov eZ ?_
  refine xNil ?_
  refine TQ.qn ?_
  refine AW.ret ?_
  obtain rfl := Option.some.inj H
  exact endsR (RL.cons (RV.tmp eZ) (VO.flat rfl) RL.nil) List.nodup_nil

theorem c_impl_StoreOk {a1 : (List TCell)} {r : Bool} (H : m_impl_StoreOk a1 = some r) : Fn Try.prog k_impl_StoreOk (lent [(.sl 2 (List.map d_TCell a1))]) true [(.bool r)] := by
  refine i_impl_StoreOk_fn (Nat.le_of_ble_eq_true rfl) ?_
  rw [init_mk]
  refine AW.weaken (wk_mk [] (SL.cons (v := (.one (.d (.sl 2 (List.map d_TCell a1))))) eZ rfl VWk.rfl SL.nil) BL.nil BK.nil) ?_
  unfold m_impl_StoreOk at H
  unfold i_impl_StoreOk
  refine AW.seq ?_
  refine AW.regs ?_
  refine oMov eC ?_
  refine xNil ?_
  refine TQ.qn ?_
  refine AW.seqJ (fun t2 : Unit => (impl_StoreOk_j2 a1) t2 = some r) (fun t2 => mk [(0, (.one (.d (.sl 2 (List.map d_TCell a1)))))] [] noG) ?_ ?_
  · intro t2 H
    unfold impl_StoreOk_j2 at H
    refine AW.seq ?_
    refine AW.regs ?_
    refine oMov eZ ?_
    refine oLenD eZ (n := a1.length) (List.length_map _) ?_
    refine oLeq eZ eC ?_
    refine oMov eZ ?_
    refine xNil ?_
    refine TQ.qn ?_
    refine AW.ret ?_
    obtain rfl := Option.some.inj H
    exact endsR (RL.cons (RV.tmp eZ) (VO.flat rfl) RL.nil) List.nodup_nil
  · refine AW.seq ?_
    refine AW.regs ?_
    refine oMov (eS rfl eZ) ?_
    refine oLenD eZ (n := a1.length) (List.length_map _) ?_
    refine oMov eC ?_
    refine xNil ?_
    refine TQ.qn ?_
    refine AW.block ?_
    refine AW.iter (fun s4 : Int => mk [(0, (.one (.d (.sl 2 (List.map d_TCell a1))))), (5, (.one (.d (.sl 2 (List.map d_TCell a1))))), (6, (.one (.d (.int .i64 (a1.length : Int))))), (7, (.one (.d (.int .i64 s4))))] [] noG) H (wk_mk [] (SL.cons (eR rfl) rfl VWk.rfl (SL.cons (eR rfl) rfl VWk.rfl (SL.cons (eS rfl eZ) rfl VWk.rfl (SL.cons eZ rfl VWk.rfl SL.nil)))) BL.nil BK.nil) ?_
    intro kb5 s4 H
    unfold impl_StoreOk_b4 at H
    refine AW.seq ?_
    refine AW.regs ?_
    refine oLss (eR rfl) (eR rfl) ?_
    refine xNil ?_
    refine TQ.qn ?_
    refine AW.seq ?_
    rcases oite H with ⟨h6, H⟩ | ⟨h6, H⟩
    · refine AW.condT eZ (decide_eq_true h6) ?_
      refine AW.skip ?_
      refine TQ.qn ?_
      refine AW.seq ?_
      refine AW.block ?_
      refine AW.seq ?_
      refine AW.regs ?_
      refine oMov (eR rfl) ?_
      obtain ⟨v7, h8, H⟩ := obind H
      refine oAtD (eR rfl) (eR rfl) h8 ?_
      refine oLoadBA (es := [(.d (.int .i64 v7.Key)), (.d (.int .i64 v7.Value))]) eZ rfl ?_
      refine oVar (n := 256) (m := 2) rfl rfl nZ ?_
      refine oMov (eR rfl) ?_
      refine oStoreV (es := [(.d (.int .i64 v7.Key)), (.d (.int .i64 v7.Value))]) (eS rfl eZ) (eR rfl) rfl rfl bZ rfl ?_
      refine xNil ?_
      refine TQ.qn ?_
      refine AW.seqJ (fun t9 : Bool => (impl_StoreOk_j9 kb5 s4) t9 = some r) (fun t9 => mk [(0, (.one (.d (.sl 2 (List.map d_TCell a1))))), (5, (.one (.d (.sl 2 (List.map d_TCell a1))))), (6, (.one (.d (.int .i64 (a1.length : Int))))), (7, (.one (.d (.int .i64 s4)))), (36, (.one (.d (.bool t9))))] [] noG) ?_ ?_
      · intro t9 H
        unfold impl_StoreOk_j9 at H
        rcases oite H with ⟨h11, H⟩ | ⟨h11, H⟩
        · refine AW.condT (eR rfl) h11 ?_
          refine AW.seq ?_
          refine AW.regs ?_
          refine oMov eC ?_
          refine xNil ?_
          refine TQ.qn ?_
          refine AW.ret ?_
          refine BQ.qr ?_
          refine TQ.qr ?_
          refine TQ.qr ?_
          refine BQ.qr ?_
          refine TQ.qr ?_
          obtain rfl := Option.some.inj H
          exact endsR (RL.cons (RV.tmp eZ) (VO.flat rfl) RL.nil) List.nodup_nil
        · refine AW.condF (eR rfl) (nt h11) ?_
          refine AW.skip ?_
          refine BQ.qn ?_
          refine TQ.qn ?_
          refine AW.regs ?_
          refine oAdd (eR rfl) eC ?_
          refine oMov eZ ?_
          refine xNil ?_
          exact TQ.qn ⟨(IntKind.wrap .i64 (s4 + 1)), H, (wk_mk [] (SL.cons (eR rfl) rfl VWk.rfl (SL.cons (eR rfl) rfl VWk.rfl (SL.cons (eR rfl) rfl VWk.rfl (SL.cons eZ rfl VWk.rfl SL.nil)))) BL.nil BK.nil)⟩
      · refine AW.regd ?_
        refine oFaddrN (m := 0) (eS rfl eZ) rfl ?_
        refine oLoadV (q := 0) (c := (.d (.int .i64 v7.Key))) eZ bZ rfl rfl ?_
        obtain ⟨v12, h13, H⟩ := obind H
        refine oCall (u := (.one (.d (.bool v12)))) eC Cl.fn (c_impl_isKey h13) (Evs.cons eZ Evs.nil) (VDs.cons VD.plain VDs.nil) rfl ?_
        refine oInv eZ ?_
        refine oMov eZ ?_
        rcases oite H with ⟨h14, H⟩ | ⟨h14, H⟩
        · refine gDo eZ (congrArg Bool.not h14) ?_
          refine oFaddrN (m := 1) (eR rfl) rfl ?_
          refine gDo (eS rfl eZ) (congrArg Bool.not h14) ?_
          refine oLoadV (q := 1) (c := (.d (.int .i64 v7.Value))) eZ bZ rfl rfl ?_
          refine gDo (eR rfl) (congrArg Bool.not h14) ?_
          obtain ⟨v15, h16, H⟩ := obind H
          refine oCall (u := (.one (.d (.bool v15)))) eC Cl.fn (c_impl_isWhole h16) (Evs.cons eZ Evs.nil) (VDs.cons VD.plain VDs.nil) rfl ?_
          refine gDo (eR rfl) (congrArg Bool.not h14) ?_
          refine oInv eZ ?_
          refine oPickF (eR rfl) (congrArg Bool.not h14) eZ ?_
          refine oMov eZ ?_
          rcases oite H with ⟨h17, H⟩ | ⟨h17, H⟩
          · refine gDo eZ (congrArg Bool.not h17) ?_
            refine oMov (eR rfl) ?_
            refine gDo (eS rfl eZ) (congrArg Bool.not h17) ?_
            refine oGtr eZ eC ?_
            refine gDo (eR rfl) (congrArg Bool.not h17) ?_
            refine oMov eZ ?_
            rcases oite H with ⟨h18, H⟩ | ⟨h18, H⟩
            · refine gDo eZ (decide_eq_true h18) ?_
              refine oMov (eR rfl) ?_
              refine gDo (eS rfl eZ) (decide_eq_true h18) ?_
              refine oMov (eR rfl) ?_
              refine gDo (eR rfl) (decide_eq_true h18) ?_
              refine oSub eZ eC ?_
              refine gDo (eR rfl) (decide_eq_true h18) ?_
              obtain ⟨v19, h20, H⟩ := obind H
              refine oAtD (eR rfl) eZ h20 ?_
              refine gDo (eR rfl) (decide_eq_true h18) ?_
              refine oFaddrB (m := 0) eZ rfl ?_
              refine gDo (eR rfl) (decide_eq_true h18) ?_
              refine oLoadB (e := (.int .i64 v19.Key)) eZ rfl ?_
              refine gDo (eR rfl) (decide_eq_true h18) ?_
              refine oFaddrN (m := 0) (eR rfl) rfl ?_
              refine gDo (eR rfl) (decide_eq_true h18) ?_
              refine oLoadV (q := 0) (c := (.d (.int .i64 v7.Key))) eZ bZ rfl rfl ?_
              refine gDo (eR rfl) (decide_eq_true h18) ?_
              refine oGeq (eR rfl) eZ ?_
              refine gDo (eR rfl) (congrArg Bool.not h17) ?_
              refine oPickT (eR rfl) (decide_eq_true h18) eZ ?_
              refine oPickF (eR rfl) (congrArg Bool.not h17) eZ ?_
              refine xNil ?_
              exact TQ.qn ⟨(decide (v7.Key ≤ v19.Key)), H, (wk_mk [256] (SL.cons (eR rfl) rfl VWk.rfl (SL.cons (eR rfl) rfl VWk.rfl (SL.cons (eR rfl) rfl VWk.rfl (SL.cons (eR rfl) rfl VWk.rfl (SL.cons eZ rfl VWk.rfl SL.nil))))) (BL.drop rfl (BL.drop rfl BL.nil)) BK.nil)⟩
            · refine gSkip eZ (decide_eq_false h18) rfl ?_
              refine gSkip (eS rfl eZ) (decide_eq_false h18) rfl ?_
              refine gSkip (eR rfl) (decide_eq_false h18) rfl ?_
              refine gSkip (eR rfl) (decide_eq_false h18) rfl ?_
              refine gSkip (eR rfl) (decide_eq_false h18) rfl ?_
              refine gSkip (eR rfl) (decide_eq_false h18) rfl ?_
              refine gSkip (eR rfl) (decide_eq_false h18) rfl ?_
              refine gSkip (eR rfl) (decide_eq_false h18) rfl ?_
              refine gSkip (eR rfl) (decide_eq_false h18) rfl ?_
              refine gDo (eR rfl) (congrArg Bool.not h17) ?_
              refine oPickF (eR rfl) (decide_eq_false h18) eC ?_
              refine oPickF (eR rfl) (congrArg Bool.not h17) eZ ?_
              refine xNil ?_
              exact TQ.qn ⟨false, H, (wk_mk [256] (SL.cons (eR rfl) rfl VWk.rfl (SL.cons (eR rfl) rfl VWk.rfl (SL.cons (eR rfl) rfl VWk.rfl (SL.cons (eR rfl) rfl VWk.rfl (SL.cons eZ rfl VWk.rfl SL.nil))))) (BL.drop rfl (BL.drop rfl BL.nil)) BK.nil)⟩
          · refine gSkip eZ (congrArg Bool.not (nt h17)) rfl ?_
            refine gSkip (eS rfl eZ) (congrArg Bool.not (nt h17)) rfl ?_
            refine gSkip (eR rfl) (congrArg Bool.not (nt h17)) rfl ?_
            refine gSkipU eZ rfl ?_
            refine gSkipU (eS rfl eZ) rfl ?_
            refine gSkipU (eR rfl) rfl ?_
            refine gSkipU (eR rfl) rfl ?_
            refine gSkipU (eR rfl) rfl ?_
            refine gSkipU (eR rfl) rfl ?_
            refine gSkipU (eR rfl) rfl ?_
            refine gSkipU (eR rfl) rfl ?_
            refine gSkipU (eR rfl) rfl ?_
            refine gSkip (eR rfl) (congrArg Bool.not (nt h17)) rfl ?_
            refine oPickT (eR rfl) (congrArg Bool.not (nt h17)) eC ?_
            refine xNil ?_
            exact TQ.qn ⟨true, H, (wk_mk [256] (SL.cons (eR rfl) rfl VWk.rfl (SL.cons (eR rfl) rfl VWk.rfl (SL.cons (eR rfl) rfl VWk.rfl (SL.cons (eR rfl) rfl VWk.rfl (SL.cons eZ rfl VWk.rfl SL.nil))))) (BL.drop rfl (BL.drop rfl BL.nil)) BK.nil)⟩
        · refine gSkip eZ (congrArg Bool.not (nt h14)) rfl ?_
          refine gSkip (eS rfl eZ) (congrArg Bool.not (nt h14)) rfl ?_
          refine gSkip (eR rfl) (congrArg Bool.not (nt h14)) rfl ?_
          refine gSkip (eR rfl) (congrArg Bool.not (nt h14)) rfl ?_
          refine oPickT (eR rfl) (congrArg Bool.not (nt h14)) eC ?_
          refine oMov eZ ?_
          refine gSkip eZ rfl rfl ?_
          refine gSkip (eS rfl eZ) rfl rfl ?_
          refine gSkip (eR rfl) rfl rfl ?_
          refine gSkipU eZ rfl ?_
          refine gSkipU (eS rfl eZ) rfl ?_
          refine gSkipU (eR rfl) rfl ?_
          refine gSkipU (eR rfl) rfl ?_
          refine gSkipU (eR rfl) rfl ?_
          refine gSkipU (eR rfl) rfl ?_
          refine gSkipU (eR rfl) rfl ?_
          refine gSkipU (eR rfl) rfl ?_
          refine gSkipU (eR rfl) rfl ?_
          refine gSkip (eR rfl) rfl rfl ?_
          refine oPickT (eR rfl) rfl eC ?_
          refine xNil ?_
          exact TQ.qn ⟨true, H, (wk_mk [256] (SL.cons (eR rfl) rfl VWk.rfl (SL.cons (eR rfl) rfl VWk.rfl (SL.cons (eR rfl) rfl VWk.rfl (SL.cons (eR rfl) rfl VWk.rfl (SL.cons eZ rfl VWk.rfl SL.nil))))) (BL.drop rfl (BL.drop rfl BL.nil)) BK.nil)⟩
    · refine AW.condF eZ (decide_eq_false h6) ?_
      refine AW.exit ?_
      refine TQ.qe ?_
      refine TQ.qe ?_
      refine BQ.qe ?_
      exact TQ.qn ⟨(), H, (wk_mk [] (SL.cons (eS rfl eZ) rfl VWk.rfl SL.nil) BL.nil BK.nil)⟩

theorem c_impl_Range_has {a1 : TRange} {a2 : Int} {r : Bool} (H : m_impl_Range_has a1 a2 = some r) : Fn Try.prog k__impl_Range_has (lent [(.agg (d_TRange a1)), (.int .i64 a2)]) true [(.bool r)] := by
  refine i__impl_Range_has_fn (Nat.le_of_ble_eq_true rfl) ?_
  rw [init_mk]
  refine AW.weaken (wk_mk [] (SL.cons (v := (.agg [(.d (.int .i64 a1.Lo)), (.d (.int .i64 a1.Hi))])) eZ rfl VWk.rfl (SL.cons (v := (.one (.d (.int .i64 a2)))) (eS rfl eZ) rfl VWk.rfl SL.nil)) BL.nil BK.nil) ?_
  unfold m_impl_Range_has at H
  unfold i__impl_Range_has
  refine AW.seq ?_
  refine AW.regs ?_
  refine oBox (n := 128) (m := 2) (cs := [(.d (.int .i64 a1.Lo)), (.d (.int .i64 a1.Hi))]) rfl eZ rfl rfl nZ ?_
  refine oMov eC ?_
  refine xNil ?_
  refine TQ.qn ?_
  refine AW.seq ?_
  refine AW.regs ?_
  refine oMov (eR rfl) ?_
  refine oFaddrN (m := 0) (eR rfl) rfl ?_
  refine oLoadV (q := 0) (c := (.d (.int .i64 a1.Lo))) eZ bZ rfl rfl ?_
  refine oFaddrN (m := 1) (eR rfl) rfl ?_
  refine oLoadV (q := 1) (c := (.d (.int .i64 a1.Hi))) eZ bZ rfl rfl ?_
  refine oSub eZ eC ?_
  obtain ⟨v3, h4, H⟩ := obind H
  refine oCall (u := (.one (.d (.bool v3)))) eC Cl.fn (c_impl_from h4) (Evs.cons (eR rfl) (Evs.cons (eR rfl) (Evs.cons eZ Evs.nil))) (VDs.cons VD.plain (VDs.cons VD.plain (VDs.cons VD.plain VDs.nil))) rfl ?_
  refine oMov eZ ?_
  refine xNil ?_
  refine TQ.qn ?_
  refine AW.ret ?_
  obtain rfl := Option.some.inj H
  exact endsR (RL.cons (RV.tmp eZ) (VO.flat rfl) RL.nil) List.nodup_nil

theorem c_impl_cellsIn_1 {a1 : TCell} {a2 : TRange} {r : Bool} (H : m_impl_cellsIn_1 a1 a2 = some r) : Fn Try.prog k_impl_cellsIn_1 (lent [(.agg (d_TCell a1)), (.ptr (d_TRange a2))]) true [(.bool r)] := by
  refine i_impl_cellsIn_1_fn (Nat.le_of_ble_eq_true rfl) ?_
  rw [init_mk]
  refine AW.weaken (wk_mk [] (SL.cons (v := (.agg [(.d (.int .i64 a1.Key)), (.d (.int .i64 a1.Value))])) eZ rfl VWk.rfl (SL.cons (v := (.one (.ptr (.bd (d_TRange a2) 0)))) (eS rfl eZ) rfl (VWk.one CWk.ptr) SL.nil)) BL.nil BK.nil) ?_
  unfold m_impl_cellsIn_1 at H
  unfold i_impl_cellsIn_1
  refine AW.seq ?_
  refine AW.regs ?_
  refine oBox (n := 128) (m := 2) (cs := [(.d (.int .i64 a1.Key)), (.d (.int .i64 a1.Value))]) rfl eZ rfl rfl nZ ?_
  refine oMov eC ?_
  refine xNil ?_
  refine TQ.qn ?_
  refine AW.seq ?_
  refine AW.regs ?_
  refine oLoadBA (es := [(.d (.int .i64 a2.Lo)), (.d (.int .i64 a2.Hi))]) (eR rfl) rfl ?_
  refine oFaddrN (m := 0) (eR rfl) rfl ?_
  refine oLoadV (q := 0) (c := (.d (.int .i64 a1.Key))) eZ bZ rfl rfl ?_
  obtain ⟨v3, h4, H⟩ := obind H
  refine oCall (u := (.one (.d (.bool v3)))) eC Cl.fn (c_impl_Range_has h4) (Evs.cons (eR rfl) (Evs.cons eZ Evs.nil)) (VDs.cons (VD.agg rfl) (VDs.cons VD.plain VDs.nil)) rfl ?_
  refine oInv eZ ?_
  refine oMov eZ ?_
  refine xNil ?_
  refine TQ.qn ?_
  refine AW.ret ?_
  obtain rfl := Option.some.inj H
  exact endsR (RL.cons (RV.tmp eZ) (VO.flat rfl) RL.nil) List.nodup_nil

theorem c_slices_IndexFunc_Cell__cellsIn_1 {a1 : (List TCell)} {a2 : TRange} {r : Int} (H : m_slices_IndexFunc_Cell__cellsIn_1 a1 a2 = some r) : Fn Try.prog k_slices_IndexFunc___impl_Cell_impl_Cell_ (lent [(.sl 2 (List.map d_TCell a1)), (.fn k_impl_cellsIn_1 [.ptr (d_TRange a2)])]) true [(.int .i64 r)] := by
  refine i_slices_IndexFunc___impl_Cell_impl_Cell__fn (Nat.le_of_ble_eq_true rfl) ?_
  rw [init_mk]
  refine AW.weaken (wk_mk [] (SL.cons (v := (.one (.d (.sl 2 (List.map d_TCell a1))))) eZ rfl VWk.rfl (SL.cons (v := (.one (.fn k_impl_cellsIn_1 [(.bd (d_TRange a2) 0)]))) (eS rfl eZ) rfl (VWk.one (CWk.fn (css := [d_TRange a2]))) SL.nil)) BL.nil BK.nil) ?_
  unfold m_slices_IndexFunc_Cell__cellsIn_1 at H
  unfold i_slices_IndexFunc___impl_Cell_impl_Cell_
  refine AW.seq ?_
  refine AW.regs ?_
  refine oMov eC ?_
  refine xNil ?_
  refine TQ.qn ?_
  refine AW.seqJ (fun t3 : Unit => slices_IndexFunc_Cell__cellsIn_1_j3 t3 = some r) (fun t3 => mk [] [] noG) ?_ ?_
  · intro t3 H
    unfold slices_IndexFunc_Cell__cellsIn_1_j3 at H
    refine AW.seq ?_
    refine AW.regs ?_
    refine oMov eC ?_
    refine xNil ?_
    refine TQ.qn ?_
    refine AW.ret ?_
    obtain rfl := Option.some.inj H
    exact endsR (RL.cons (RV.tmp eZ) (VO.flat rfl) RL.nil) List.nodup_nil
  · refine AW.seq ?_
    refine AW.regs ?_
    refine oMov (eS rfl eZ) ?_
    refine oLenD eZ (n := a1.length) (List.length_map _) ?_
    refine oMov eC ?_
    refine xNil ?_
    refine TQ.qn ?_
    refine AW.block ?_
    refine AW.iter (fun s5 : Int => mk [(0, (.one (.d (.sl 2 (List.map d_TCell a1))))), (1, (.one (.fn k_impl_cellsIn_1 [(.bd (d_TRange a2) 0)]))), (7, (.one (.d (.int .i64 (a1.length : Int))))), (8, (.one (.d (.int .i64 s5))))] [] noG) H (wk_mk [] (SL.cons (eR rfl) rfl VWk.rfl (SL.cons (eR rfl) rfl VWk.rfl (SL.cons (eS rfl eZ) rfl VWk.rfl (SL.cons eZ rfl VWk.rfl SL.nil)))) BL.nil BK.nil) ?_
    intro kb6 s5 H
    unfold slices_IndexFunc_Cell__cellsIn_1_b5 at H
    refine AW.seq ?_
    refine AW.regs ?_
    refine oLss (eR rfl) (eR rfl) ?_
    refine xNil ?_
    refine TQ.qn ?_
    refine AW.seq ?_
    rcases oite H with ⟨h7, H⟩ | ⟨h7, H⟩
    · refine AW.condT eZ (decide_eq_true h7) ?_
      refine AW.skip ?_
      refine TQ.qn ?_
      refine AW.seq ?_
      refine AW.block ?_
      refine AW.seq ?_
      refine AW.regs ?_
      refine oMov (eR rfl) ?_
      refine oMov eZ ?_
      refine xNil ?_
      refine TQ.qn ?_
      refine AW.seq ?_
      refine AW.regs ?_
      refine oMov (eR rfl) ?_
      refine oMov (eR rfl) ?_
      refine oMov (eR rfl) ?_
      obtain ⟨v8, h9, H⟩ := obind H
      refine oAtD (eS rfl eZ) eZ h9 ?_
      refine oLoadBA (es := [(.d (.int .i64 v8.Key)), (.d (.int .i64 v8.Value))]) eZ rfl ?_
      obtain ⟨v10, h11, H⟩ := obind H
      refine oCall (u := (.one (.d (.bool v10)))) (eR rfl) Cl.fn (c_impl_cellsIn_1 h11) (Evs.cons eZ Evs.nil) (VDs.cons (VD.agg rfl) (VDs.cons VD.ptrB VDs.nil)) rfl ?_
      refine xNil ?_
      refine TQ.qn ?_
      rcases oite H with ⟨h12, H⟩ | ⟨h12, H⟩
      · refine AW.condT eZ h12 ?_
        refine AW.seq ?_
        refine AW.regs ?_
        refine oMov (eR rfl) ?_
        refine oMov eZ ?_
        refine xNil ?_
        refine TQ.qn ?_
        refine AW.ret ?_
        refine BQ.qr ?_
        refine TQ.qr ?_
        refine TQ.qr ?_
        refine BQ.qr ?_
        refine TQ.qr ?_
        obtain rfl := Option.some.inj H
        exact endsR (RL.cons (RV.tmp eZ) (VO.flat rfl) RL.nil) List.nodup_nil
      · refine AW.condF eZ (nt h12) ?_
        refine AW.skip ?_
        refine BQ.qn ?_
        refine TQ.qn ?_
        refine AW.regs ?_
        refine oAdd (eR rfl) eC ?_
        refine oMov eZ ?_
        refine xNil ?_
        exact TQ.qn ⟨(IntKind.wrap .i64 (s5 + 1)), H, (wk_mk [] (SL.cons (eR rfl) rfl VWk.rfl (SL.cons (eR rfl) rfl VWk.rfl (SL.cons (eR rfl) rfl VWk.rfl (SL.cons eZ rfl VWk.rfl SL.nil)))) BL.nil BK.nil)⟩
    · refine AW.condF eZ (decide_eq_false h7) ?_
      refine AW.exit ?_
      refine TQ.qe ?_
      refine TQ.qe ?_
      refine BQ.qe ?_
      exact TQ.qn ⟨(), H, (wk_mk [] SL.nil BL.nil BK.nil)⟩

theorem c_slices_ContainsFunc_Cell__cellsIn_1 {a1 : (List TCell)} {a2 : TRange} {r : Bool} (H : m_slices_ContainsFunc_Cell__cellsIn_1 a1 a2 = some r) : Fn Try.prog k_slices_ContainsFunc___impl_Cell_impl_Cell_ (lent [(.sl 2 (List.map d_TCell a1)), (.fn k_impl_cellsIn_1 [.ptr (d_TRange a2)])]) true [(.bool r)] := by
  refine i_slices_ContainsFunc___impl_Cell_impl_Cell__fn (Nat.le_of_ble_eq_true rfl) ?_
  rw [init_mk]
  refine AW.weaken (wk_mk [] (SL.cons (v := (.one (.d (.sl 2 (List.map d_TCell a1))))) eZ rfl VWk.rfl (SL.cons (v := (.one (.fn k_impl_cellsIn_1 [(.bd (d_TRange a2) 0)]))) (eS rfl eZ) rfl (VWk.one (CWk.fn (css := [d_TRange a2]))) SL.nil)) BL.nil BK.nil) ?_
  unfold m_slices_ContainsFunc_Cell__cellsIn_1 at H
  unfold i_slices_ContainsFunc___impl_Cell_impl_Cell_
  refine AW.seq ?_
  refine AW.regs ?_
  refine oMov eC ?_
  refine xNil ?_
  refine TQ.qn ?_
  refine AW.seq ?_
  refine AW.regs ?_
  refine oMov (eS rfl eZ) ?_
  refine oMov (eR rfl) ?_
  obtain ⟨v3, h4, H⟩ := obind H
  refine oCall (u := (.one (.d (.int .i64 v3)))) eC Cl.fn (c_slices_IndexFunc_Cell__cellsIn_1 h4) (Evs.cons (eS rfl eZ) (Evs.cons eZ Evs.nil)) (VDs.cons VD.plain (VDs.cons (VD.fn (PDs.cons VD.ptrB PDs.nil)) VDs.nil)) rfl ?_
  refine oGeq eZ eC ?_
  refine oMov eZ ?_
  refine xNil ?_
  refine TQ.qn ?_
  refine AW.ret ?_
  obtain rfl := Option.some.inj H
  exact endsR (RL.cons (RV.tmp eZ) (VO.flat rfl) RL.nil) List.nodup_nil

theorem c_impl_cellsIn {a1 : (List TCell)} {a2 : TRange} {r : Bool} (H : m_impl_cellsIn a1 a2 = some r) : Fn Try.prog k_impl_cellsIn (lent [(.sl 2 (List.map d_TCell a1)), (.agg (d_TRange a2))]) true [(.bool r)] := by
  refine i_impl_cellsIn_fn (Nat.le_of_ble_eq_true rfl) ?_
  rw [init_mk]
  refine AW.weaken (wk_mk [] (SL.cons (v := (.one (.d (.sl 2 (List.map d_TCell a1))))) eZ rfl VWk.rfl (SL.cons (v := (.agg [(.d (.int .i64 a2.Lo)), (.d (.int .i64 a2.Hi))])) (eS rfl eZ) rfl VWk.rfl SL.nil)) BL.nil BK.nil) ?_
  unfold m_impl_cellsIn at H
  unfold i_impl_cellsIn
  refine AW.seq ?_
  refine AW.regs ?_
  refine oBox (n := 192) (m := 2) (cs := [(.d (.int .i64 a2.Lo)), (.d (.int .i64 a2.Hi))]) rfl (eS rfl eZ) rfl rfl nZ ?_
  refine oMov eC ?_
  refine xNil ?_
  refine TQ.qn ?_
  refine AW.seq ?_
  refine AW.regs ?_
  refine oMov (eR rfl) ?_
  obtain ⟨v3, h4, H⟩ := obind H
  refine oCall (u := (.one (.d (.bool v3)))) eC Cl.fn (c_impl_StoreOk h4) (Evs.cons eZ Evs.nil) (VDs.cons VD.plain VDs.nil) rfl ?_
  refine oMov eZ ?_
  rcases oite H with ⟨h5, H⟩ | ⟨h5, H⟩
  · refine gDo eZ h5 ?_
    refine oMov (eR rfl) ?_
    refine gDo (eS rfl eZ) h5 ?_
    refine oMkfn (ps := [(.nm 192 0 0)]) (Evs.cons (eR rfl) Evs.nil) ?_
    refine gDo (eR rfl) h5 ?_
    obtain ⟨v6, h7, H⟩ := obind H
    refine oCall (u := (.one (.d (.bool v6)))) eC Cl.fn (c_slices_ContainsFunc_Cell__cellsIn_1 h7) (Evs.cons (eS rfl eZ) (Evs.cons eZ Evs.nil)) (VDs.cons VD.plain (VDs.cons (VD.fn (PDs.cons (VD.ptrN bZ (CDs.plain (CDs.plain CDs.nil))) PDs.nil)) VDs.nil)) rfl ?_
    refine gDo (eR rfl) h5 ?_
    refine oInv eZ ?_
    refine oPickT (eR rfl) h5 eZ ?_
    refine oMov eZ ?_
    refine xNil ?_
    refine TQ.qn ?_
    refine AW.ret ?_
    obtain rfl := Option.some.inj H
    exact endsR (RL.cons (RV.tmp eZ) (VO.flat rfl) RL.nil) List.nodup_nil
  · refine gSkip eZ (nt h5) rfl ?_
    refine gSkip (eS rfl eZ) (nt h5) rfl ?_
    refine gSkip (eR rfl) (nt h5) rfl ?_
    refine gSkip (eR rfl) (nt h5) rfl ?_
    refine oPickF (eR rfl) (nt h5) eC ?_
    refine oMov eZ ?_
    refine xNil ?_
    refine TQ.qn ?_
    refine AW.ret ?_
    obtain rfl := Option.some.inj H
    exact endsR (RL.cons (RV.tmp eZ) (VO.flat rfl) RL.nil) List.nodup_nil

theorem c_impl_moveOk {a1 : TMove} {r : Bool} (H : m_impl_moveOk a1 = some r) : Fn Try.prog k_impl_moveOk (lent [(.agg (d_TMove a1))]) true [(.bool r)] := by
  refine i_impl_moveOk_fn (Nat.le_of_ble_eq_true rfl) ?_
  rw [init_mk]
  refine AW.weaken (wk_mk [] (SL.cons (v := (.agg [(.d (.int .i64 a1.No)), (.d (.int .i64 a1.Stage)), (.d (.int .i64 a1.Lo)), (.d (.int .i64 a1.Hi)), (.d (.int .i64 a1.From)), (.d (.int .i64 a1.To)), (.d (.sl 2 (List.map d_TCell a1.Cells)))])) eZ rfl VWk.rfl SL.nil) BL.nil BK.nil) ?_
  unfold m_impl_moveOk at H
  unfold i_impl_moveOk
  refine AW.seq ?_
  refine AW.regs ?_
  refine oBox (n := 64) (m := 7) (cs := [(.d (.int .i64 a1.No)), (.d (.int .i64 a1.Stage)), (.d (.int .i64 a1.Lo)), (.d (.int .i64 a1.Hi)), (.d (.int .i64 a1.From)), (.d (.int .i64 a1.To)), (.d (.sl 2 (List.map d_TCell a1.Cells)))]) rfl eZ rfl rfl nZ ?_
  refine oMov eC ?_
  refine xNil ?_
  refine TQ.qn ?_
  refine AW.seq ?_
  refine AW.seqJ (fun t2 : Bool => (impl_moveOk_j2 a1) t2 = some r) (fun t2 => mk [(1, (.one (.ptr (.nm 64 0 0)))), (12, (.one (.d (.bool t2))))] [(64, (.vars 7 [(.d (.int .i64 a1.No)), (.d (.int .i64 a1.Stage)), (.d (.int .i64 a1.Lo)), (.d (.int .i64 a1.Hi)), (.d (.int .i64 a1.From)), (.d (.int .i64 a1.To)), (.d (.sl 2 (List.map d_TCell a1.Cells)))]))] noG) ?_ ?_
  · intro t2 H
    unfold impl_moveOk_j2 at H
    rcases oite H with ⟨h4, H⟩ | ⟨h4, H⟩
    · refine AW.condT (eS rfl eZ) h4 ?_
      refine AW.seq ?_
      refine AW.regs ?_
      refine oMov eC ?_
      refine xNil ?_
      refine TQ.qn ?_
      refine AW.ret ?_
      refine TQ.qr ?_
      obtain rfl := Option.some.inj H
      exact endsR (RL.cons (RV.tmp eZ) (VO.flat rfl) RL.nil) List.nodup_nil
    · refine AW.condF (eS rfl eZ) (nt h4) ?_
      refine AW.skip ?_
      refine TQ.qn ?_
      refine AW.seq ?_
      refine AW.seq ?_
      refine AW.regs ?_
      refine oFaddrN (m := 1) eZ rfl ?_
      refine oLoadV (q := 1) (c := (.d (.int .i64 a1.Stage))) eZ bZ rfl rfl ?_
      refine oEql eZ eC ?_
      refine xNil ?_
      refine TQ.qn ?_
      rcases oite H with ⟨h5, H⟩ | ⟨h5, H⟩
      · refine AW.condT eZ (decide_eq_true h5) ?_
        refine AW.seq ?_
        refine AW.regs ?_
        refine oFaddrN (m := 2) (eR rfl) rfl ?_
        refine oLoadV (q := 2) (c := (.d (.int .i64 a1.Lo))) eZ bZ rfl rfl ?_
        refine oEql eZ eC ?_
        refine oMov eZ ?_
        rcases oite H with ⟨h6, H⟩ | ⟨h6, H⟩
        · refine gDo eZ (decide_eq_true h6) ?_
          refine oFaddrN (m := 3) (eR rfl) rfl ?_
          refine gDo (eS rfl eZ) (decide_eq_true h6) ?_
          refine oLoadV (q := 3) (c := (.d (.int .i64 a1.Hi))) eZ bZ rfl rfl ?_
          refine gDo (eR rfl) (decide_eq_true h6) ?_
          refine oEql eZ eC ?_
          refine oPickT (eR rfl) (decide_eq_true h6) eZ ?_
          refine oMov eZ ?_
          rcases oite H with ⟨h7, H⟩ | ⟨h7, H⟩
          · refine gDo eZ (decide_eq_true h7) ?_
            refine oFaddrN (m := 4) (eR rfl) rfl ?_
            refine gDo (eS rfl eZ) (decide_eq_true h7) ?_
            refine oLoadV (q := 4) (c := (.d (.int .i64 a1.From))) eZ bZ rfl rfl ?_
            refine gDo (eR rfl) (decide_eq_true h7) ?_
            refine oEql eZ eC ?_
            refine oPickT (eR rfl) (decide_eq_true h7) eZ ?_
            refine oMov eZ ?_
            rcases oite H with ⟨h8, H⟩ | ⟨h8, H⟩
            · refine gDo eZ (decide_eq_true h8) ?_
              refine oFaddrN (m := 5) (eR rfl) rfl ?_
              refine gDo (eS rfl eZ) (decide_eq_true h8) ?_
              refine oLoadV (q := 5) (c := (.d (.int .i64 a1.To))) eZ bZ rfl rfl ?_
              refine gDo (eR rfl) (decide_eq_true h8) ?_
              refine oEql eZ eC ?_
              refine oPickT (eR rfl) (decide_eq_true h8) eZ ?_
              refine oMov eZ ?_
              rcases oite H with ⟨h9, H⟩ | ⟨h9, H⟩
              · refine gDo eZ (decide_eq_true h9) ?_
                refine oFaddrN (m := 6) (eR rfl) rfl ?_
                refine gDo (eS rfl eZ) (decide_eq_true h9) ?_
                refine oLoadV (q := 6) (c := (.d (.sl 2 (List.map d_TCell a1.Cells)))) eZ bZ rfl rfl ?_
                refine gDo (eR rfl) (decide_eq_true h9) ?_
                refine oLenD eZ (n := a1.Cells.length) (List.length_map _) ?_
                refine gDo (eR rfl) (decide_eq_true h9) ?_
                refine oEql eZ eC ?_
                refine oPickT (eR rfl) (decide_eq_true h9) eZ ?_
                refine oMov eZ ?_
                refine xNil ?_
                refine TQ.qn ?_
                refine AW.weaken (wk_mk [64] (SL.cons (k := 2) eZ rfl VWk.rfl SL.nil) (BL.drop rfl BL.nil) BK.nil) ?_
                refine AW.ret ?_
                refine TQ.qr ?_
                obtain rfl := Option.some.inj H
                exact endsR (RL.cons (RV.tmp eZ) (VO.flat rfl) RL.nil) List.nodup_nil
              · refine gSkip eZ (decide_eq_false h9) rfl ?_
                refine gSkip (eS rfl eZ) (decide_eq_false h9) rfl ?_
                refine gSkip (eR rfl) (decide_eq_false h9) rfl ?_
                refine gSkip (eR rfl) (decide_eq_false h9) rfl ?_
                refine oPickF (eR rfl) (decide_eq_false h9) eC ?_
                refine oMov eZ ?_
                refine xNil ?_
                refine TQ.qn ?_
                refine AW.weaken (wk_mk [64] (SL.cons (k := 2) eZ rfl VWk.rfl SL.nil) (BL.drop rfl BL.nil) BK.nil) ?_
                refine AW.ret ?_
                refine TQ.qr ?_
                obtain rfl := Option.some.inj H
                exact endsR (RL.cons (RV.tmp eZ) (VO.flat rfl) RL.nil) List.nodup_nil
            · refine gSkip eZ (decide_eq_false h8) rfl ?_
              refine gSkip (eS rfl eZ) (decide_eq_false h8) rfl ?_
              refine gSkip (eR rfl) (decide_eq_false h8) rfl ?_
              refine oPickF (eR rfl) (decide_eq_false h8) eC ?_
              refine oMov eZ ?_
              refine gSkip eZ rfl rfl ?_
              refine gSkip (eS rfl eZ) rfl rfl ?_
              refine gSkip (eR rfl) rfl rfl ?_
              refine gSkip (eR rfl) rfl rfl ?_
              refine oPickF (eR rfl) rfl eC ?_
              refine oMov eZ ?_
              refine xNil ?_
              refine TQ.qn ?_
              refine AW.weaken (wk_mk [64] (SL.cons (k := 2) eZ rfl VWk.rfl SL.nil) (BL.drop rfl BL.nil) BK.nil) ?_
              refine AW.ret ?_
              refine TQ.qr ?_
              obtain rfl := Option.some.inj H
              exact endsR (RL.cons (RV.tmp eZ) (VO.flat rfl) RL.nil) List.nodup_nil
          · refine gSkip eZ (decide_eq_false h7) rfl ?_
            refine gSkip (eS rfl eZ) (decide_eq_false h7) rfl ?_
            refine gSkip (eR rfl) (decide_eq_false h7) rfl ?_
            refine oPickF (eR rfl) (decide_eq_false h7) eC ?_
            refine oMov eZ ?_
            refine gSkip eZ rfl rfl ?_
            refine gSkip (eS rfl eZ) rfl rfl ?_
            refine gSkip (eR rfl) rfl rfl ?_
            refine oPickF (eR rfl) rfl eC ?_
            refine oMov eZ ?_
            refine gSkip eZ rfl rfl ?_
            refine gSkip (eS rfl eZ) rfl rfl ?_
            refine gSkip (eR rfl) rfl rfl ?_
            refine gSkip (eR rfl) rfl rfl ?_
            refine oPickF (eR rfl) rfl eC ?_
            refine oMov eZ ?_
            refine xNil ?_
            refine TQ.qn ?_
            refine AW.weaken (wk_mk [64] (SL.cons (k := 2) eZ rfl VWk.rfl SL.nil) (BL.drop rfl BL.nil) BK.nil) ?_
            refine AW.ret ?_
            refine TQ.qr ?_
            obtain rfl := Option.some.inj H
            exact endsR (RL.cons (RV.tmp eZ) (VO.flat rfl) RL.nil) List.nodup_nil
        · refine gSkip eZ (decide_eq_false h6) rfl ?_
          refine gSkip (eS rfl eZ) (decide_eq_false h6) rfl ?_
          refine gSkip (eR rfl) (decide_eq_false h6) rfl ?_
          refine oPickF (eR rfl) (decide_eq_false h6) eC ?_
          refine oMov eZ ?_
          refine gSkip eZ rfl rfl ?_
          refine gSkip (eS rfl eZ) rfl rfl ?_
          refine gSkip (eR rfl) rfl rfl ?_
          refine oPickF (eR rfl) rfl eC ?_
          refine oMov eZ ?_
          refine gSkip eZ rfl rfl ?_
          refine gSkip (eS rfl eZ) rfl rfl ?_
          refine gSkip (eR rfl) rfl rfl ?_
          refine oPickF (eR rfl) rfl eC ?_
          refine oMov eZ ?_
          refine gSkip eZ rfl rfl ?_
          refine gSkip (eS rfl eZ) rfl rfl ?_
          refine gSkip (eR rfl) rfl rfl ?_
          refine gSkip (eR rfl) rfl rfl ?_
          refine oPickF (eR rfl) rfl eC ?_
          refine oMov eZ ?_
          refine xNil ?_
          refine TQ.qn ?_
          refine AW.weaken (wk_mk [64] (SL.cons (k := 2) eZ rfl VWk.rfl SL.nil) (BL.drop rfl BL.nil) BK.nil) ?_
          refine AW.ret ?_
          refine TQ.qr ?_
          obtain rfl := Option.some.inj H
          exact endsR (RL.cons (RV.tmp eZ) (VO.flat rfl) RL.nil) List.nodup_nil
      · refine AW.condF eZ (decide_eq_false h5) ?_
        refine AW.skip ?_
        refine TQ.qn ?_
        refine AW.seq ?_
        refine AW.regd ?_
        refine oFaddrN (m := 0) (eR rfl) rfl ?_
        refine oLoadV (q := 0) (c := (.d (.int .i64 a1.No))) eZ bZ rfl rfl ?_
        refine oGeq eZ eC ?_
        refine oMov eZ ?_
        rcases oite H with ⟨h10, H⟩ | ⟨h10, H⟩
        · refine gDo eZ (decide_eq_true h10) ?_
          refine oLoadVA (es := [(.d (.int .i64 a1.No)), (.d (.int .i64 a1.Stage)), (.d (.int .i64 a1.Lo)), (.d (.int .i64 a1.Hi)), (.d (.int .i64 a1.From)), (.d (.int .i64 a1.To)), (.d (.sl 2 (List.map d_TCell a1.Cells)))]) (eR rfl) bZ rfl ?_
          refine gDo (eS rfl eZ) (decide_eq_true h10) ?_
          obtain ⟨v11, h12, H⟩ := obind H
          refine oCall (u := (.agg [(.d (.int .i64 v11.Lo)), (.d (.int .i64 v11.Hi))])) eC Cl.fn (c_impl_Move_keys h12) (Evs.cons eZ Evs.nil) (VDs.cons (VD.agg rfl) VDs.nil) rfl ?_
          refine gDo (eR rfl) (decide_eq_true h10) ?_
          obtain ⟨v13, h14, H⟩ := obind H
          refine oCall (u := (.one (.d (.bool v13)))) eC Cl.fn (c_impl_RangeOk h14) (Evs.cons eZ Evs.nil) (VDs.cons (VD.agg rfl) VDs.nil) rfl ?_
          refine oPickT (eR rfl) (decide_eq_true h10) eZ ?_
          refine oMov eZ ?_
          rcases oite H with ⟨h15, H⟩ | ⟨h15, H⟩
          · refine gDo eZ h15 ?_
            refine oFaddrN (m := 4) (eR rfl) rfl ?_
            refine gDo (eS rfl eZ) h15 ?_
            refine oLoadV (q := 4) (c := (.d (.int .i64 a1.From))) eZ bZ rfl rfl ?_
            refine gDo (eR rfl) h15 ?_
            obtain ⟨v16, h17, H⟩ := obind H
            refine oCall (u := (.one (.d (.bool v16)))) eC Cl.fn (c_impl_isGroup h17) (Evs.cons eZ Evs.nil) (VDs.cons VD.plain VDs.nil) rfl ?_
            refine oPickT (eR rfl) h15 eZ ?_
            refine oMov eZ ?_
            rcases oite H with ⟨h18, H⟩ | ⟨h18, H⟩
            · refine gDo eZ h18 ?_
              refine oFaddrN (m := 5) (eR rfl) rfl ?_
              refine gDo (eS rfl eZ) h18 ?_
              refine oLoadV (q := 5) (c := (.d (.int .i64 a1.To))) eZ bZ rfl rfl ?_
              refine gDo (eR rfl) h18 ?_
              obtain ⟨v19, h20, H⟩ := obind H
              refine oCall (u := (.one (.d (.bool v19)))) eC Cl.fn (c_impl_isGroup h20) (Evs.cons eZ Evs.nil) (VDs.cons VD.plain VDs.nil) rfl ?_
              refine oPickT (eR rfl) h18 eZ ?_
              refine oMov eZ ?_
              rcases oite H with ⟨h21, H⟩ | ⟨h21, H⟩
              · refine gDo eZ h21 ?_
                refine oFaddrN (m := 4) (eR rfl) rfl ?_
                refine gDo (eS rfl eZ) h21 ?_
                refine oLoadV (q := 4) (c := (.d (.int .i64 a1.From))) eZ bZ rfl rfl ?_
                refine gDo (eR rfl) h21 ?_
                refine oFaddrN (m := 5) (eR rfl) rfl ?_
                refine gDo (eR rfl) h21 ?_
                refine oLoadV (q := 5) (c := (.d (.int .i64 a1.To))) eZ bZ rfl rfl ?_
                refine gDo (eR rfl) h21 ?_
                refine oNeq (eR rfl) eZ ?_
                refine oPickT (eR rfl) h21 eZ ?_
                refine oMov eZ ?_
                rcases oite H with ⟨h22, H⟩ | ⟨h22, H⟩
                · refine gDo eZ (decide_eq_true h22) ?_
                  refine oFaddrN (m := 6) (eR rfl) rfl ?_
                  refine gDo (eS rfl eZ) (decide_eq_true h22) ?_
                  refine oLoadV (q := 6) (c := (.d (.sl 2 (List.map d_TCell a1.Cells)))) eZ (hB rfl bZ) rfl rfl ?_
                  refine gDo (eR rfl) (decide_eq_true h22) ?_
                  refine oLoadVA (es := [(.d (.int .i64 a1.No)), (.d (.int .i64 a1.Stage)), (.d (.int .i64 a1.Lo)), (.d (.int .i64 a1.Hi)), (.d (.int .i64 a1.From)), (.d (.int .i64 a1.To)), (.d (.sl 2 (List.map d_TCell a1.Cells)))]) (eR rfl) bZ rfl ?_
                  refine gDo (eR rfl) (decide_eq_true h22) ?_
                  obtain ⟨v23, h24, H⟩ := obind H
                  refine oCall (u := (.agg [(.d (.int .i64 v23.Lo)), (.d (.int .i64 v23.Hi))])) eC Cl.fn (c_impl_Move_keys h24) (Evs.cons eZ Evs.nil) (VDs.cons (VD.agg rfl) VDs.nil) rfl ?_
                  refine gDo (eR rfl) (decide_eq_true h22) ?_
                  obtain ⟨v25, h26, H⟩ := obind H
                  refine oCall (u := (.one (.d (.bool v25)))) eC Cl.fn (c_impl_cellsIn h26) (Evs.cons (eR rfl) (Evs.cons eZ Evs.nil)) (VDs.cons VD.plain (VDs.cons (VD.agg rfl) VDs.nil)) rfl ?_
                  refine oPickT (eR rfl) (decide_eq_true h22) eZ ?_
                  refine oMov eZ ?_
                  rcases oite H with ⟨h27, H⟩ | ⟨h27, H⟩
                  · refine gDo eZ h27 ?_
                    refine oFaddrN (m := 1) (eR rfl) rfl ?_
                    refine gDo (eS rfl eZ) h27 ?_
                    refine oLoadV (q := 1) (c := (.d (.int .i64 a1.Stage))) eZ bZ rfl rfl ?_
                    refine gDo (eR rfl) h27 ?_
                    refine oEql eZ eC ?_
                    refine gDo (eR rfl) h27 ?_
                    refine oMov eZ ?_
                    rcases oite H with ⟨h28, H⟩ | ⟨h28, H⟩
                    · refine gSkip eZ (decide_eq_true h28) rfl ?_
                      refine gSkip (eS rfl eZ) (decide_eq_true h28) rfl ?_
                      refine gSkip (eR rfl) (decide_eq_true h28) rfl ?_
                      refine gSkip (eR rfl) (decide_eq_true h28) rfl ?_
                      refine gDo (eR rfl) h27 ?_
                      refine oPickT (eR rfl) (decide_eq_true h28) eC ?_
                      refine oPickT (eR rfl) h27 eZ ?_
                      refine oMov eZ ?_
                      refine xNil ?_
                      refine TQ.qn ?_
                      refine AW.weaken (wk_mk [64] (SL.cons (k := 2) eZ rfl VWk.rfl SL.nil) (BL.drop rfl BL.nil) BK.nil) ?_
                      refine AW.ret ?_
                      obtain rfl := Option.some.inj H
                      exact endsR (RL.cons (RV.tmp eZ) (VO.flat rfl) RL.nil) List.nodup_nil
                    · refine gDo eZ (decide_eq_false h28) ?_
                      refine oFaddrN (m := 6) (eR rfl) rfl ?_
                      refine gDo (eS rfl eZ) (decide_eq_false h28) ?_
                      refine oLoadV (q := 6) (c := (.d (.sl 2 (List.map d_TCell a1.Cells)))) eZ bZ rfl rfl ?_
                      refine gDo (eR rfl) (decide_eq_false h28) ?_
                      refine oLenD eZ (n := a1.Cells.length) (List.length_map _) ?_
                      refine gDo (eR rfl) (decide_eq_false h28) ?_
                      refine oEql eZ eC ?_
                      refine gDo (eR rfl) h27 ?_
                      refine oPickF (eR rfl) (decide_eq_false h28) eZ ?_
                      refine oPickT (eR rfl) h27 eZ ?_
                      refine oMov eZ ?_
                      refine xNil ?_
                      refine TQ.qn ?_
                      refine AW.weaken (wk_mk [64] (SL.cons (k := 2) eZ rfl VWk.rfl SL.nil) (BL.drop rfl BL.nil) BK.nil) ?_
                      refine AW.ret ?_
                      obtain rfl := Option.some.inj H
                      exact endsR (RL.cons (RV.tmp eZ) (VO.flat rfl) RL.nil) List.nodup_nil
                  · refine gSkip eZ (nt h27) rfl ?_
                    refine gSkip (eS rfl eZ) (nt h27) rfl ?_
                    refine gSkip (eR rfl) (nt h27) rfl ?_
                    refine gSkip (eR rfl) (nt h27) rfl ?_
                    refine gSkipU eZ rfl ?_
                    refine gSkipU (eS rfl eZ) rfl ?_
                    refine gSkipU (eR rfl) rfl ?_
                    refine gSkipU (eR rfl) rfl ?_
                    refine gSkip (eR rfl) (nt h27) rfl ?_
                    refine oPickF (eR rfl) (nt h27) eC ?_
                    refine oMov eZ ?_
                    refine xNil ?_
                    refine TQ.qn ?_
                    refine AW.weaken (wk_mk [64] (SL.cons (k := 2) eZ rfl VWk.rfl SL.nil) (BL.drop rfl BL.nil) BK.nil) ?_
                    refine AW.ret ?_
                    obtain rfl := Option.some.inj H
                    exact endsR (RL.cons (RV.tmp eZ) (VO.flat rfl) RL.nil) List.nodup_nil
                · refine gSkip eZ (decide_eq_false h22) rfl ?_
                  refine gSkip (eS rfl eZ) (decide_eq_false h22) rfl ?_
                  refine gSkip (eR rfl) (decide_eq_false h22) rfl ?_
                  refine gSkip (eR rfl) (decide_eq_false h22) rfl ?_
                  refine gSkip (eR rfl) (decide_eq_false h22) rfl ?_
                  refine oPickF (eR rfl) (decide_eq_false h22) eC ?_
                  refine oMov eZ ?_
                  refine gSkip eZ rfl rfl ?_
                  refine gSkip (eS rfl eZ) rfl rfl ?_
                  refine gSkip (eR rfl) rfl rfl ?_
                  refine gSkip (eR rfl) rfl rfl ?_
                  refine gSkipU eZ rfl ?_
                  refine gSkipU (eS rfl eZ) rfl ?_
                  refine gSkipU (eR rfl) rfl ?_
                  refine gSkipU (eR rfl) rfl ?_
                  refine gSkip (eR rfl) rfl rfl ?_
                  refine oPickF (eR rfl) rfl eC ?_
                  refine oMov eZ ?_
                  refine xNil ?_
                  refine TQ.qn ?_
                  refine AW.weaken (wk_mk [64] (SL.cons (k := 2) eZ rfl VWk.rfl SL.nil) (BL.drop rfl BL.nil) BK.nil) ?_
                  refine AW.ret ?_
                  obtain rfl := Option.some.inj H
                  exact endsR (RL.cons (RV.tmp eZ) (VO.flat rfl) RL.nil) List.nodup_nil
              · refine gSkip eZ (nt h21) rfl ?_
                refine gSkip (eS rfl eZ) (nt h21) rfl ?_
                refine gSkip (eR rfl) (nt h21) rfl ?_
                refine gSkip (eR rfl) (nt h21) rfl ?_
                refine gSkip (eR rfl) (nt h21) rfl ?_
                refine oPickF (eR rfl) (nt h21) eC ?_
                refine oMov eZ ?_
                refine gSkip eZ rfl rfl ?_
                refine gSkip (eS rfl eZ) rfl rfl ?_
                refine gSkip (eR rfl) rfl rfl ?_
                refine gSkip (eR rfl) rfl rfl ?_
                refine gSkip (eR rfl) rfl rfl ?_
                refine oPickF (eR rfl) rfl eC ?_
                refine oMov eZ ?_
                refine gSkip eZ rfl rfl ?_
                refine gSkip (eS rfl eZ) rfl rfl ?_
                refine gSkip (eR rfl) rfl rfl ?_
                refine gSkip (eR rfl) rfl rfl ?_
                refine gSkipU eZ rfl ?_
                refine gSkipU (eS rfl eZ) rfl ?_
                refine gSkipU (eR rfl) rfl ?_
                refine gSkipU (eR rfl) rfl ?_
                refine gSkip (eR rfl) rfl rfl ?_
                refine oPickF (eR rfl) rfl eC ?_
                refine oMov eZ ?_
                refine xNil ?_
                refine TQ.qn ?_
                refine AW.weaken (wk_mk [64] (SL.cons (k := 2) eZ rfl VWk.rfl SL.nil) (BL.drop rfl BL.nil) BK.nil) ?_
                refine AW.ret ?_
                obtain rfl := Option.some.inj H
                exact endsR (RL.cons (RV.tmp eZ) (VO.flat rfl) RL.nil) List.nodup_nil
            · refine gSkip eZ (nt h18) rfl ?_
              refine gSkip (eS rfl eZ) (nt h18) rfl ?_
              refine gSkip (eR rfl) (nt h18) rfl ?_
              refine oPickF (eR rfl) (nt h18) eC ?_
              refine oMov eZ ?_
              refine gSkip eZ rfl rfl ?_
              refine gSkip (eS rfl eZ) rfl rfl ?_
              refine gSkip (eR rfl) rfl rfl ?_
              refine gSkip (eR rfl) rfl rfl ?_
              refine gSkip (eR rfl) rfl rfl ?_
              refine oPickF (eR rfl) rfl eC ?_
              refine oMov eZ ?_
              refine gSkip eZ rfl rfl ?_
              refine gSkip (eS rfl eZ) rfl rfl ?_
              refine gSkip (eR rfl) rfl rfl ?_
              refine gSkip (eR rfl) rfl rfl ?_
              refine gSkip (eR rfl) rfl rfl ?_
              refine oPickF (eR rfl) rfl eC ?_
              refine oMov eZ ?_
              refine gSkip eZ rfl rfl ?_
              refine gSkip (eS rfl eZ) rfl rfl ?_
              refine gSkip (eR rfl) rfl rfl ?_
              refine gSkip (eR rfl) rfl rfl ?_
              refine gSkipU eZ rfl ?_
              refine gSkipU (eS rfl eZ) rfl ?_
              refine gSkipU (eR rfl) rfl ?_
              refine gSkipU (eR rfl) rfl ?_
              refine gSkip (eR rfl) rfl rfl ?_
              refine oPickF (eR rfl) rfl eC ?_
              refine oMov eZ ?_
              refine xNil ?_
              refine TQ.qn ?_
              refine AW.weaken (wk_mk [64] (SL.cons (k := 2) eZ rfl VWk.rfl SL.nil) (BL.drop rfl BL.nil) BK.nil) ?_
              refine AW.ret ?_
              obtain rfl := Option.some.inj H
              exact endsR (RL.cons (RV.tmp eZ) (VO.flat rfl) RL.nil) List.nodup_nil
          · refine gSkip eZ (nt h15) rfl ?_
            refine gSkip (eS rfl eZ) (nt h15) rfl ?_
            refine gSkip (eR rfl) (nt h15) rfl ?_
            refine oPickF (eR rfl) (nt h15) eC ?_
            refine oMov eZ ?_
            refine gSkip eZ rfl rfl ?_
            refine gSkip (eS rfl eZ) rfl rfl ?_
            refine gSkip (eR rfl) rfl rfl ?_
            refine oPickF (eR rfl) rfl eC ?_
            refine oMov eZ ?_
            refine gSkip eZ rfl rfl ?_
            refine gSkip (eS rfl eZ) rfl rfl ?_
            refine gSkip (eR rfl) rfl rfl ?_
            refine gSkip (eR rfl) rfl rfl ?_
            refine gSkip (eR rfl) rfl rfl ?_
            refine oPickF (eR rfl) rfl eC ?_
            refine oMov eZ ?_
            refine gSkip eZ rfl rfl ?_
            refine gSkip (eS rfl eZ) rfl rfl ?_
            refine gSkip (eR rfl) rfl rfl ?_
            refine gSkip (eR rfl) rfl rfl ?_
            refine gSkip (eR rfl) rfl rfl ?_
            refine oPickF (eR rfl) rfl eC ?_
            refine oMov eZ ?_
            refine gSkip eZ rfl rfl ?_
            refine gSkip (eS rfl eZ) rfl rfl ?_
            refine gSkip (eR rfl) rfl rfl ?_
            refine gSkip (eR rfl) rfl rfl ?_
            refine gSkipU eZ rfl ?_
            refine gSkipU (eS rfl eZ) rfl ?_
            refine gSkipU (eR rfl) rfl ?_
            refine gSkipU (eR rfl) rfl ?_
            refine gSkip (eR rfl) rfl rfl ?_
            refine oPickF (eR rfl) rfl eC ?_
            refine oMov eZ ?_
            refine xNil ?_
            refine TQ.qn ?_
            refine AW.weaken (wk_mk [64] (SL.cons (k := 2) eZ rfl VWk.rfl SL.nil) (BL.drop rfl BL.nil) BK.nil) ?_
            refine AW.ret ?_
            obtain rfl := Option.some.inj H
            exact endsR (RL.cons (RV.tmp eZ) (VO.flat rfl) RL.nil) List.nodup_nil
        · refine gSkip eZ (decide_eq_false h10) rfl ?_
          refine gSkip (eS rfl eZ) (decide_eq_false h10) rfl ?_
          refine gSkip (eR rfl) (decide_eq_false h10) rfl ?_
          refine oPickF (eR rfl) (decide_eq_false h10) eC ?_
          refine oMov eZ ?_
          refine gSkip eZ rfl rfl ?_
          refine gSkip (eS rfl eZ) rfl rfl ?_
          refine gSkip (eR rfl) rfl rfl ?_
          refine oPickF (eR rfl) rfl eC ?_
          refine oMov eZ ?_
          refine gSkip eZ rfl rfl ?_
          refine gSkip (eS rfl eZ) rfl rfl ?_
          refine gSkip (eR rfl) rfl rfl ?_
          refine oPickF (eR rfl) rfl eC ?_
          refine oMov eZ ?_
          refine gSkip eZ rfl rfl ?_
          refine gSkip (eS rfl eZ) rfl rfl ?_
          refine gSkip (eR rfl) rfl rfl ?_
          refine gSkip (eR rfl) rfl rfl ?_
          refine gSkip (eR rfl) rfl rfl ?_
          refine oPickF (eR rfl) rfl eC ?_
          refine oMov eZ ?_
          refine gSkip eZ rfl rfl ?_
          refine gSkip (eS rfl eZ) rfl rfl ?_
          refine gSkip (eR rfl) rfl rfl ?_
          refine gSkip (eR rfl) rfl rfl ?_
          refine gSkip (eR rfl) rfl rfl ?_
          refine oPickF (eR rfl) rfl eC ?_
          refine oMov eZ ?_
          refine gSkip eZ rfl rfl ?_
          refine gSkip (eS rfl eZ) rfl rfl ?_
          refine gSkip (eR rfl) rfl rfl ?_
          refine gSkip (eR rfl) rfl rfl ?_
          refine gSkipU eZ rfl ?_
          refine gSkipU (eS rfl eZ) rfl ?_
          refine gSkipU (eR rfl) rfl ?_
          refine gSkipU (eR rfl) rfl ?_
          refine gSkip (eR rfl) rfl rfl ?_
          refine oPickF (eR rfl) rfl eC ?_
          refine oMov eZ ?_
          refine xNil ?_
          refine TQ.qn ?_
          refine AW.weaken (wk_mk [64] (SL.cons (k := 2) eZ rfl VWk.rfl SL.nil) (BL.drop rfl BL.nil) BK.nil) ?_
          refine AW.ret ?_
          obtain rfl := Option.some.inj H
          exact endsR (RL.cons (RV.tmp eZ) (VO.flat rfl) RL.nil) List.nodup_nil
  · refine AW.regs ?_
    refine oFaddrN (m := 0) (eS rfl eZ) rfl ?_
    refine oLoadV (q := 0) (c := (.d (.int .i64 a1.No))) eZ bZ rfl rfl ?_
    obtain ⟨v29, h30, H⟩ := obind H
    refine oCall (u := (.one (.d (.bool v29)))) eC Cl.fn (c_impl_from h30) (Evs.cons eZ (Evs.cons eC (Evs.cons eC Evs.nil))) (VDs.cons VD.plain (VDs.cons VD.plain (VDs.cons VD.plain VDs.nil))) rfl ?_
    refine oInv eZ ?_
    refine oMov eZ ?_
    rcases oite H with ⟨h31, H⟩ | ⟨h31, H⟩
    · refine gDo eZ (congrArg Bool.not h31) ?_
      refine oFaddrN (m := 1) (eR rfl) rfl ?_
      refine gDo (eS rfl eZ) (congrArg Bool.not h31) ?_
      refine oLoadV (q := 1) (c := (.d (.int .i64 a1.Stage))) eZ bZ rfl rfl ?_
      refine gDo (eR rfl) (congrArg Bool.not h31) ?_
      obtain ⟨v32, h33, H⟩ := obind H
      refine oCall (u := (.one (.d (.bool v32)))) eC Cl.fn (c_impl_from h33) (Evs.cons eZ (Evs.cons eC (Evs.cons eC Evs.nil))) (VDs.cons VD.plain (VDs.cons VD.plain (VDs.cons VD.plain VDs.nil))) rfl ?_
      refine gDo (eR rfl) (congrArg Bool.not h31) ?_
      refine oInv eZ ?_
      refine oPickF (eR rfl) (congrArg Bool.not h31) eZ ?_
      refine xNil ?_
      exact TQ.qn ⟨(!v32), H, (wk_mk [] (SL.cons (eR rfl) rfl VWk.rfl (SL.cons eZ rfl VWk.rfl SL.nil)) (BL.keep rfl BL.nil) (BK.cons rfl bZ rfl rfl BK.nil))⟩
    · refine gSkip eZ (congrArg Bool.not (nt h31)) rfl ?_
      refine gSkip (eS rfl eZ) (congrArg Bool.not (nt h31)) rfl ?_
      refine gSkip (eR rfl) (congrArg Bool.not (nt h31)) rfl ?_
      refine gSkip (eR rfl) (congrArg Bool.not (nt h31)) rfl ?_
      refine oPickT (eR rfl) (congrArg Bool.not (nt h31)) eC ?_
      refine xNil ?_
      exact TQ.qn ⟨true, H, (wk_mk [] (SL.cons (eR rfl) rfl VWk.rfl (SL.cons eZ rfl VWk.rfl SL.nil)) (BL.keep rfl BL.nil) (BK.cons rfl bZ rfl rfl BK.nil))⟩

theorem c_impl_AtlasOk {a1 : TAtlas} {r : Bool} (H : m_impl_AtlasOk a1 = some r) : Fn Try.prog k_impl_AtlasOk (lent [(.agg (d_TAtlas a1))]) true [(.bool r)] := by
  refine i_impl_AtlasOk_fn (Nat.le_of_ble_eq_true rfl) ?_
  rw [init_mk]
  refine AW.weaken (wk_mk [] (SL.cons (v := (.agg [(.d (.int .i64 a1.Epoch)), (.d (.sl 3 (List.map d_TPart a1.Parts))), (.d (.int .i64 a1.Move.No)), (.d (.int .i64 a1.Move.Stage)), (.d (.int .i64 a1.Move.Lo)), (.d (.int .i64 a1.Move.Hi)), (.d (.int .i64 a1.Move.From)), (.d (.int .i64 a1.Move.To)), (.d (.sl 2 (List.map d_TCell a1.Move.Cells)))])) eZ rfl VWk.rfl SL.nil) BL.nil BK.nil) ?_
  unfold m_impl_AtlasOk at H
  unfold i_impl_AtlasOk
  refine AW.seq ?_
  refine AW.regs ?_
  refine oBox (n := 64) (m := 9) (cs := [(.d (.int .i64 a1.Epoch)), (.d (.sl 3 (List.map d_TPart a1.Parts))), (.d (.int .i64 a1.Move.No)), (.d (.int .i64 a1.Move.Stage)), (.d (.int .i64 a1.Move.Lo)), (.d (.int .i64 a1.Move.Hi)), (.d (.int .i64 a1.Move.From)), (.d (.int .i64 a1.Move.To)), (.d (.sl 2 (List.map d_TCell a1.Move.Cells)))]) rfl eZ rfl rfl nZ ?_
  refine oMov eC ?_
  refine xNil ?_
  refine TQ.qn ?_
  refine AW.seq ?_
  refine AW.regs ?_
  refine oFaddrN (m := 0) (eS rfl eZ) rfl ?_
  refine oLoadV (q := 0) (c := (.d (.int .i64 a1.Epoch))) eZ bZ rfl rfl ?_
  obtain ⟨v2, h3, H⟩ := obind H
  refine oCall (u := (.one (.d (.bool v2)))) eC Cl.fn (c_impl_from h3) (Evs.cons eZ (Evs.cons eC (Evs.cons eC Evs.nil))) (VDs.cons VD.plain (VDs.cons VD.plain (VDs.cons VD.plain VDs.nil))) rfl ?_
  refine oMov eZ ?_
  rcases oite H with ⟨h4, H⟩ | ⟨h4, H⟩
  · refine gDo eZ h4 ?_
    refine oFaddrN (m := 1) (eR rfl) rfl ?_
    refine gDo (eS rfl eZ) h4 ?_
    refine oLoadV (q := 1) (c := (.d (.sl 3 (List.map d_TPart a1.Parts)))) eZ bZ rfl rfl ?_
    refine gDo (eR rfl) h4 ?_
    obtain ⟨v5, h6, H⟩ := obind H
    refine oCall (u := (.one (.d (.bool v5)))) eC Cl.fn (c_impl_PartsOk h6) (Evs.cons eZ Evs.nil) (VDs.cons VD.plain VDs.nil) rfl ?_
    refine oPickT (eR rfl) h4 eZ ?_
    refine oMov eZ ?_
    rcases oite H with ⟨h7, H⟩ | ⟨h7, H⟩
    · refine gDo eZ h7 ?_
      refine oFaddrN (m := 2) (eR rfl) rfl ?_
      refine gDo (eS rfl eZ) h7 ?_
      refine oLoadVA (es := [(.d (.int .i64 a1.Move.No)), (.d (.int .i64 a1.Move.Stage)), (.d (.int .i64 a1.Move.Lo)), (.d (.int .i64 a1.Move.Hi)), (.d (.int .i64 a1.Move.From)), (.d (.int .i64 a1.Move.To)), (.d (.sl 2 (List.map d_TCell a1.Move.Cells)))]) eZ bZ rfl ?_
      refine gDo (eR rfl) h7 ?_
      obtain ⟨v8, h9, H⟩ := obind H
      refine oCall (u := (.one (.d (.bool v8)))) eC Cl.fn (c_impl_moveOk h9) (Evs.cons eZ Evs.nil) (VDs.cons (VD.agg rfl) VDs.nil) rfl ?_
      refine oPickT (eR rfl) h7 eZ ?_
      refine oMov eZ ?_
      refine xNil ?_
      refine TQ.qn ?_
      refine AW.weaken (wk_mk [64] (SL.cons (k := 2) eZ rfl VWk.rfl SL.nil) (BL.drop rfl BL.nil) BK.nil) ?_
      refine AW.ret ?_
      obtain rfl := Option.some.inj H
      exact endsR (RL.cons (RV.tmp eZ) (VO.flat rfl) RL.nil) List.nodup_nil
    · refine gSkip eZ (nt h7) rfl ?_
      refine gSkip (eS rfl eZ) (nt h7) rfl ?_
      refine gSkip (eR rfl) (nt h7) rfl ?_
      refine oPickF (eR rfl) (nt h7) eC ?_
      refine oMov eZ ?_
      refine xNil ?_
      refine TQ.qn ?_
      refine AW.weaken (wk_mk [64] (SL.cons (k := 2) eZ rfl VWk.rfl SL.nil) (BL.drop rfl BL.nil) BK.nil) ?_
      refine AW.ret ?_
      obtain rfl := Option.some.inj H
      exact endsR (RL.cons (RV.tmp eZ) (VO.flat rfl) RL.nil) List.nodup_nil
  · refine gSkip eZ (nt h4) rfl ?_
    refine gSkip (eS rfl eZ) (nt h4) rfl ?_
    refine gSkip (eR rfl) (nt h4) rfl ?_
    refine oPickF (eR rfl) (nt h4) eC ?_
    refine oMov eZ ?_
    refine gSkip eZ rfl rfl ?_
    refine gSkip (eS rfl eZ) rfl rfl ?_
    refine gSkip (eR rfl) rfl rfl ?_
    refine oPickF (eR rfl) rfl eC ?_
    refine oMov eZ ?_
    refine xNil ?_
    refine TQ.qn ?_
    refine AW.weaken (wk_mk [64] (SL.cons (k := 2) eZ rfl VWk.rfl SL.nil) (BL.drop rfl BL.nil) BK.nil) ?_
    refine AW.ret ?_
    obtain rfl := Option.some.inj H
    exact endsR (RL.cons (RV.tmp eZ) (VO.flat rfl) RL.nil) List.nodup_nil

theorem c_slices_Clone_Part {a1 : (List TPart)} {r : (List TPart)} (H : m_slices_Clone_Part a1 = some r) : Fn Try.prog k_slices_Clone___impl_Part_impl_Part_ (lent [(.sl 3 (List.map d_TPart a1))]) true [(.sl 3 (List.map d_TPart r))] := by
  refine i_slices_Clone___impl_Part_impl_Part__fn (Nat.le_of_ble_eq_true rfl) ?_
  rw [init_mk]
  refine AW.weaken (wk_mk [] (SL.cons (v := (.one (.d (.sl 3 (List.map d_TPart a1))))) eZ rfl VWk.rfl SL.nil) BL.nil BK.nil) ?_
  unfold m_slices_Clone_Part at H
  unfold i_slices_Clone___impl_Part_impl_Part_
  refine AW.seq ?_
  refine AW.regs ?_
  refine oMov eC ?_
  refine xNil ?_
  refine TQ.qn ?_
  refine AW.seqJ (fun t2 : Unit => (slices_Clone_Part_j2 a1) t2 = some r) (fun t2 => mk [(0, (.one (.d (.sl 3 (List.map d_TPart a1)))))] [] noG) ?_ ?_
  · intro t2 H
    unfold slices_Clone_Part_j2 at H
    refine AW.seq ?_
    refine AW.regs ?_
    refine oBsliceZ (m := 320) rfl nZ ?_
    refine oMov (eS rfl eZ) ?_
    obtain ⟨h4, H⟩ := oguard H
    refine oAppZ (f := d_TPart) (m := 448) (own := true) (ys := a1) (q := a1.length) rfl rfl (eS rfl eZ) eZ (El.lent fun _ _ => rfl) rfl h4 (by decide) nZ ?_
    refine oMov eZ ?_
    refine xNil ?_
    refine TQ.qn ?_
    refine AW.ret ?_
    obtain rfl := Option.some.inj H
    exact endsR (RL.cons (RV.tmp eZ) (VO.sl bZ (List.length_map _) (allFlat fun _ => rfl)) RL.nil) (by decide)
  · refine AW.seq ?_
    refine AW.regs ?_
    refine oMov (eS rfl eZ) ?_
    rcases oite H with ⟨h5, H⟩ | ⟨h5, H⟩
    · refine oNilD0 eZ h5 ?_
      refine xNil ?_
      refine TQ.qn ?_
      refine AW.condU eZ ?_ ?_
      · have H : (some ([] : (List TPart))) = some r := by rw [← H]; simp [List.eq_nil_of_length_eq_zero h5, slices_Clone_Part_j2]
        refine AW.seq ?_
        refine AW.regs ?_
        refine oMov eC ?_
        refine xNil ?_
        refine TQ.qn ?_
        refine AW.ret ?_
        refine TQ.qr ?_
        obtain rfl := Option.some.inj H
        exact endsR (RL.cons (RV.tmp eZ) VO.zs RL.nil) List.nodup_nil
      · refine AW.skip ?_
        exact TQ.qn ⟨(), H, (wk_mk [] (SL.cons (eR rfl) rfl VWk.rfl SL.nil) BL.nil BK.nil)⟩
    · refine oNilD eZ h5 ?_
      refine xNil ?_
      refine TQ.qn ?_
      refine AW.condF eZ rfl ?_
      refine AW.skip ?_
      exact TQ.qn ⟨(), H, (wk_mk [] (SL.cons (eR rfl) rfl VWk.rfl SL.nil) BL.nil BK.nil)⟩

theorem c_slices_Clone_Cell {a1 : (List TCell)} {r : (List TCell)} (H : m_slices_Clone_Cell a1 = some r) : Fn Try.prog k_slices_Clone___impl_Cell_impl_Cell_ (lent [(.sl 2 (List.map d_TCell a1))]) true [(.sl 2 (List.map d_TCell r))] := by
  refine i_slices_Clone___impl_Cell_impl_Cell__fn (Nat.le_of_ble_eq_true rfl) ?_
  rw [init_mk]
  refine AW.weaken (wk_mk [] (SL.cons (v := (.one (.d (.sl 2 (List.map d_TCell a1))))) eZ rfl VWk.rfl SL.nil) BL.nil BK.nil) ?_
  unfold m_slices_Clone_Cell at H
  unfold i_slices_Clone___impl_Cell_impl_Cell_
  refine AW.seq ?_
  refine AW.regs ?_
  refine oMov eC ?_
  refine xNil ?_
  refine TQ.qn ?_
  refine AW.seqJ (fun t2 : Unit => (slices_Clone_Cell_j2 a1) t2 = some r) (fun t2 => mk [(0, (.one (.d (.sl 2 (List.map d_TCell a1)))))] [] noG) ?_ ?_
  · intro t2 H
    unfold slices_Clone_Cell_j2 at H
    refine AW.seq ?_
    refine AW.regs ?_
    refine oBsliceZ (m := 320) rfl nZ ?_
    refine oMov (eS rfl eZ) ?_
    obtain ⟨h4, H⟩ := oguard H
    refine oAppZ (f := d_TCell) (m := 448) (own := true) (ys := a1) (q := a1.length) rfl rfl (eS rfl eZ) eZ (El.lent fun _ _ => rfl) rfl h4 (by decide) nZ ?_
    refine oMov eZ ?_
    refine xNil ?_
    refine TQ.qn ?_
    refine AW.ret ?_
    obtain rfl := Option.some.inj H
    exact endsR (RL.cons (RV.tmp eZ) (VO.sl bZ (List.length_map _) (allFlat fun _ => rfl)) RL.nil) (by decide)
  · refine AW.seq ?_
    refine AW.regs ?_
    refine oMov (eS rfl eZ) ?_
    rcases oite H with ⟨h5, H⟩ | ⟨h5, H⟩
    · refine oNilD0 eZ h5 ?_
      refine xNil ?_
      refine TQ.qn ?_
      refine AW.condU eZ ?_ ?_
      · have H : (some ([] : (List TCell))) = some r := by rw [← H]; simp [List.eq_nil_of_length_eq_zero h5, slices_Clone_Cell_j2]
        refine AW.seq ?_
        refine AW.regs ?_
        refine oMov eC ?_
        refine xNil ?_
        refine TQ.qn ?_
        refine AW.ret ?_
        refine TQ.qr ?_
        obtain rfl := Option.some.inj H
        exact endsR (RL.cons (RV.tmp eZ) VO.zs RL.nil) List.nodup_nil
      · refine AW.skip ?_
        exact TQ.qn ⟨(), H, (wk_mk [] (SL.cons (eR rfl) rfl VWk.rfl SL.nil) BL.nil BK.nil)⟩
    · refine oNilD eZ h5 ?_
      refine xNil ?_
      refine TQ.qn ?_
      refine AW.condF eZ rfl ?_
      refine AW.skip ?_
      exact TQ.qn ⟨(), H, (wk_mk [] (SL.cons (eR rfl) rfl VWk.rfl SL.nil) BL.nil BK.nil)⟩

theorem c_impl_copyAtlas {a1 : TAtlas} {r : TAtlas} (H : m_impl_copyAtlas a1 = some r) : Fn Try.prog k_impl_copyAtlas (lent [(.agg (d_TAtlas a1))]) true [(.agg (d_TAtlas r))] := by
  refine i_impl_copyAtlas_fn (Nat.le_of_ble_eq_true rfl) ?_
  rw [init_mk]
  refine AW.weaken (wk_mk [] (SL.cons (v := (.agg [(.d (.int .i64 a1.Epoch)), (.d (.sl 3 (List.map d_TPart a1.Parts))), (.d (.int .i64 a1.Move.No)), (.d (.int .i64 a1.Move.Stage)), (.d (.int .i64 a1.Move.Lo)), (.d (.int .i64 a1.Move.Hi)), (.d (.int .i64 a1.Move.From)), (.d (.int .i64 a1.Move.To)), (.d (.sl 2 (List.map d_TCell a1.Move.Cells)))])) eZ rfl VWk.rfl SL.nil) BL.nil BK.nil) ?_
  unfold m_impl_copyAtlas at H
  unfold i_impl_copyAtlas
  refine AW.seq ?_
  refine AW.regs ?_
  refine oBox (n := 64) (m := 9) (cs := [(.d (.int .i64 a1.Epoch)), (.d (.sl 3 (List.map d_TPart a1.Parts))), (.d (.int .i64 a1.Move.No)), (.d (.int .i64 a1.Move.Stage)), (.d (.int .i64 a1.Move.Lo)), (.d (.int .i64 a1.Move.Hi)), (.d (.int .i64 a1.Move.From)), (.d (.int .i64 a1.Move.To)), (.d (.sl 2 (List.map d_TCell a1.Move.Cells)))]) rfl eZ rfl rfl nZ ?_
  refine oVar (n := 128) (m := 9) rfl rfl (nS rfl nZ) ?_
  refine xNil ?_
  refine TQ.qn ?_
  refine AW.seq ?_
  refine AW.regs ?_
  refine oFaddrN (m := 1) (eS rfl eZ) rfl ?_
  refine oLoadV (q := 1) (c := (.d (.sl 3 (List.map d_TPart a1.Parts)))) eZ (bS rfl bZ) rfl rfl ?_
  obtain ⟨v2, h3, H⟩ := obind H
  refine oCallN (u := (.one (.sl 320 0 v2.length))) (bs := [(320, (.data 3 (List.map d_TPart v2) true none))]) eC Cl.fn (c_slices_Clone_Part h3) (Evs.cons eZ Evs.nil) (VDs.cons VD.plain VDs.nil) (by simp [bindR, bindV, bindVs, bindC, bindCs]) rfl (fC (nS rfl (nS rfl nZ)) rfl (fC (nS rfl (nS rfl nZ)) rfl fN)) ?_
  refine oFaddrN (m := 1) (eR rfl) rfl ?_
  refine oStoreV (es := [(.d (.int .i64 a1.Epoch)), (.sl 320 0 v2.length), (.d (.int .i64 a1.Move.No)), (.d (.int .i64 a1.Move.Stage)), (.d (.int .i64 a1.Move.Lo)), (.d (.int .i64 a1.Move.Hi)), (.d (.int .i64 a1.Move.From)), (.d (.int .i64 a1.Move.To)), (.d (.sl 2 (List.map d_TCell a1.Move.Cells)))]) eZ (eS rfl eZ) rfl rfl (bS rfl (bS rfl bZ)) rfl ?_
  refine xNil ?_
  refine TQ.qn ?_
  refine AW.seq ?_
  refine AW.regs ?_
  refine oFaddrN (m := 2) (eR rfl) rfl ?_
  refine oFaddrN (m := 8) eZ rfl ?_
  refine oLoadV (q := 8) (c := (.d (.sl 2 (List.map d_TCell a1.Move.Cells)))) eZ bZ rfl rfl ?_
  obtain ⟨v4, h5, H⟩ := obind H
  refine oCallN (u := (.one (.sl 640 0 v4.length))) (bs := [(640, (.data 2 (List.map d_TCell v4) true none))]) eC Cl.fn (c_slices_Clone_Cell h5) (Evs.cons eZ Evs.nil) (VDs.cons VD.plain VDs.nil) (by simp [bindR, bindV, bindVs, bindC, bindCs]) rfl (fC (nS rfl (nS rfl (nS rfl (nS rfl nZ)))) rfl (fC (nS rfl (nS rfl (nS rfl (nS rfl nZ)))) rfl fN)) ?_
  refine oFaddrN (m := 2) (eR rfl) rfl ?_
  refine oFaddrN (m := 8) eZ rfl ?_
  refine oStoreV (es := [(.d (.int .i64 a1.Epoch)), (.sl 320 0 v2.length), (.d (.int .i64 a1.Move.No)), (.d (.int .i64 a1.Move.Stage)), (.d (.int .i64 a1.Move.Lo)), (.d (.int .i64 a1.Move.Hi)), (.d (.int .i64 a1.Move.From)), (.d (.int .i64 a1.Move.To)), (.sl 640 0 v4.length)]) eZ (eR rfl) rfl rfl (bS rfl bZ) rfl ?_
  refine xNil ?_
  refine TQ.qn ?_
  refine AW.seq ?_
  refine AW.regs ?_
  refine oLoadVA (es := [(.d (.int .i64 a1.Epoch)), (.sl 320 0 v2.length), (.d (.int .i64 a1.Move.No)), (.d (.int .i64 a1.Move.Stage)), (.d (.int .i64 a1.Move.Lo)), (.d (.int .i64 a1.Move.Hi)), (.d (.int .i64 a1.Move.From)), (.d (.int .i64 a1.Move.To)), (.sl 640 0 v4.length)]) (eR rfl) bZ rfl ?_
  refine oStoreV (es := [(.d (.int .i64 a1.Epoch)), (.sl 320 0 v2.length), (.d (.int .i64 a1.Move.No)), (.d (.int .i64 a1.Move.Stage)), (.d (.int .i64 a1.Move.Lo)), (.d (.int .i64 a1.Move.Hi)), (.d (.int .i64 a1.Move.From)), (.d (.int .i64 a1.Move.To)), (.sl 640 0 v4.length)]) (eR rfl) eZ rfl rfl (bS rfl (bS rfl (bS rfl (bS rfl bZ)))) rfl ?_
  refine xNil ?_
  refine TQ.qn ?_
  refine AW.ret ?_
  obtain rfl := Option.some.inj H
  exact endsR (RL.cons (RV.cellA (es := [(.d (.int .i64 a1.Epoch)), (.sl 320 0 v2.length), (.d (.int .i64 a1.Move.No)), (.d (.int .i64 a1.Move.Stage)), (.d (.int .i64 a1.Move.Lo)), (.d (.int .i64 a1.Move.Hi)), (.d (.int .i64 a1.Move.From)), (.d (.int .i64 a1.Move.To)), (.sl 640 0 v4.length)]) (eR rfl) bZ rfl) (VO.aggs (VOs.cons (VO.flat rfl) (VOs.cons (VO.sl (bS rfl (bS rfl (bS rfl (bS rfl bZ)))) (List.length_map _) (allFlat fun _ => rfl)) (VOs.cons (VO.flat rfl) (VOs.cons (VO.flat rfl) (VOs.cons (VO.flat rfl) (VOs.cons (VO.flat rfl) (VOs.cons (VO.flat rfl) (VOs.cons (VO.flat rfl) (VOs.cons (VO.sl (bS rfl (bS rfl bZ)) (List.length_map _) (allFlat fun _ => rfl)) VOs.nil)))))))))) RL.nil) (by decide)

theorem c_impl_partAt_1 {a1 : TPart} {a2 : Int} {r : Bool} (H : m_impl_partAt_1 a1 a2 = some r) : Fn Try.prog k_impl_partAt_1 (lent [(.agg (d_TPart a1)), (.ptr (d_i64 a2))]) true [(.bool r)] := by
  refine i_impl_partAt_1_fn (Nat.le_of_ble_eq_true rfl) ?_
  rw [init_mk]
  refine AW.weaken (wk_mk [] (SL.cons (v := (.agg [(.d (.int .i64 a1.Lo)), (.d (.int .i64 a1.Hi)), (.d (.int .i64 a1.Owner))])) eZ rfl VWk.rfl (SL.cons (v := (.one (.ptr (.bd (d_i64 a2) 0)))) (eS rfl eZ) rfl (VWk.one CWk.ptr) SL.nil)) BL.nil BK.nil) ?_
  unfold m_impl_partAt_1 at H
  unfold i_impl_partAt_1
  refine AW.seq ?_
  refine AW.regs ?_
  refine oBox (n := 128) (m := 3) (cs := [(.d (.int .i64 a1.Lo)), (.d (.int .i64 a1.Hi)), (.d (.int .i64 a1.Owner))]) rfl eZ rfl rfl nZ ?_
  refine oMov eC ?_
  refine xNil ?_
  refine TQ.qn ?_
  refine AW.seq ?_
  refine AW.regs ?_
  refine oLoadB (e := (.int .i64 a2)) (eR rfl) rfl ?_
  refine oFaddrN (m := 0) (eR rfl) rfl ?_
  refine oLoadV (q := 0) (c := (.d (.int .i64 a1.Lo))) eZ bZ rfl rfl ?_
  refine oFaddrN (m := 1) (eR rfl) rfl ?_
  refine oLoadV (q := 1) (c := (.d (.int .i64 a1.Hi))) eZ bZ rfl rfl ?_
  refine oSub eZ eC ?_
  obtain ⟨v3, h4, H⟩ := obind H
  refine oCall (u := (.one (.d (.bool v3)))) eC Cl.fn (c_impl_from h4) (Evs.cons (eR rfl) (Evs.cons (eR rfl) (Evs.cons eZ Evs.nil))) (VDs.cons VD.plain (VDs.cons VD.plain (VDs.cons VD.plain VDs.nil))) rfl ?_
  refine oMov eZ ?_
  refine xNil ?_
  refine TQ.qn ?_
  refine AW.ret ?_
  obtain rfl := Option.some.inj H
  exact endsR (RL.cons (RV.tmp eZ) (VO.flat rfl) RL.nil) List.nodup_nil

theorem c_slices_IndexFunc_Part__partAt_1 {a1 : (List TPart)} {a2 : Int} {r : Int} (H : m_slices_IndexFunc_Part__partAt_1 a1 a2 = some r) : Fn Try.prog k_slices_IndexFunc___impl_Part_impl_Part_ (lent [(.sl 3 (List.map d_TPart a1)), (.fn k_impl_partAt_1 [.ptr (d_i64 a2)])]) true [(.int .i64 r)] := by
  refine i_slices_IndexFunc___impl_Part_impl_Part__fn (Nat.le_of_ble_eq_true rfl) ?_
  rw [init_mk]
  refine AW.weaken (wk_mk [] (SL.cons (v := (.one (.d (.sl 3 (List.map d_TPart a1))))) eZ rfl VWk.rfl (SL.cons (v := (.one (.fn k_impl_partAt_1 [(.bd (d_i64 a2) 0)]))) (eS rfl eZ) rfl (VWk.one (CWk.fn (css := [d_i64 a2]))) SL.nil)) BL.nil BK.nil) ?_
  unfold m_slices_IndexFunc_Part__partAt_1 at H
  unfold i_slices_IndexFunc___impl_Part_impl_Part_
  refine AW.seq ?_
  refine AW.regs ?_
  refine oMov eC ?_
  refine xNil ?_
  refine TQ.qn ?_
  refine AW.seqJ (fun t3 : Unit => slices_IndexFunc_Part__partAt_1_j3 t3 = some r) (fun t3 => mk [] [] noG) ?_ ?_
  · intro t3 H
    unfold slices_IndexFunc_Part__partAt_1_j3 at H
    refine AW.seq ?_
    refine AW.regs ?_
    refine oMov eC ?_
    refine xNil ?_
    refine TQ.qn ?_
    refine AW.ret ?_
    obtain rfl := Option.some.inj H
    exact endsR (RL.cons (RV.tmp eZ) (VO.flat rfl) RL.nil) List.nodup_nil
  · refine AW.seq ?_
    refine AW.regs ?_
    refine oMov (eS rfl eZ) ?_
    refine oLenD eZ (n := a1.length) (List.length_map _) ?_
    refine oMov eC ?_
    refine xNil ?_
    refine TQ.qn ?_
    refine AW.block ?_
    refine AW.iter (fun s5 : Int => mk [(0, (.one (.d (.sl 3 (List.map d_TPart a1))))), (1, (.one (.fn k_impl_partAt_1 [(.bd (d_i64 a2) 0)]))), (7, (.one (.d (.int .i64 (a1.length : Int))))), (8, (.one (.d (.int .i64 s5))))] [] noG) H (wk_mk [] (SL.cons (eR rfl) rfl VWk.rfl (SL.cons (eR rfl) rfl VWk.rfl (SL.cons (eS rfl eZ) rfl VWk.rfl (SL.cons eZ rfl VWk.rfl SL.nil)))) BL.nil BK.nil) ?_
    intro kb6 s5 H
    unfold slices_IndexFunc_Part__partAt_1_b5 at H
    refine AW.seq ?_
    refine AW.regs ?_
    refine oLss (eR rfl) (eR rfl) ?_
    refine xNil ?_
    refine TQ.qn ?_
    refine AW.seq ?_
    rcases oite H with ⟨h7, H⟩ | ⟨h7, H⟩
    · refine AW.condT eZ (decide_eq_true h7) ?_
      refine AW.skip ?_
      refine TQ.qn ?_
      refine AW.seq ?_
      refine AW.block ?_
      refine AW.seq ?_
      refine AW.regs ?_
      refine oMov (eR rfl) ?_
      refine oMov eZ ?_
      refine xNil ?_
      refine TQ.qn ?_
      refine AW.seq ?_
      refine AW.regs ?_
      refine oMov (eR rfl) ?_
      refine oMov (eR rfl) ?_
      refine oMov (eR rfl) ?_
      obtain ⟨v8, h9, H⟩ := obind H
      refine oAtD (eS rfl eZ) eZ h9 ?_
      refine oLoadBA (es := [(.d (.int .i64 v8.Lo)), (.d (.int .i64 v8.Hi)), (.d (.int .i64 v8.Owner))]) eZ rfl ?_
      obtain ⟨v10, h11, H⟩ := obind H
      refine oCall (u := (.one (.d (.bool v10)))) (eR rfl) Cl.fn (c_impl_partAt_1 h11) (Evs.cons eZ Evs.nil) (VDs.cons (VD.agg rfl) (VDs.cons VD.ptrB VDs.nil)) rfl ?_
      refine xNil ?_
      refine TQ.qn ?_
      rcases oite H with ⟨h12, H⟩ | ⟨h12, H⟩
      · refine AW.condT eZ h12 ?_
        refine AW.seq ?_
        refine AW.regs ?_
        refine oMov (eR rfl) ?_
        refine oMov eZ ?_
        refine xNil ?_
        refine TQ.qn ?_
        refine AW.ret ?_
        refine BQ.qr ?_
        refine TQ.qr ?_
        refine TQ.qr ?_
        refine BQ.qr ?_
        refine TQ.qr ?_
        obtain rfl := Option.some.inj H
        exact endsR (RL.cons (RV.tmp eZ) (VO.flat rfl) RL.nil) List.nodup_nil
      · refine AW.condF eZ (nt h12) ?_
        refine AW.skip ?_
        refine BQ.qn ?_
        refine TQ.qn ?_
        refine AW.regs ?_
        refine oAdd (eR rfl) eC ?_
        refine oMov eZ ?_
        refine xNil ?_
        exact TQ.qn ⟨(IntKind.wrap .i64 (s5 + 1)), H, (wk_mk [] (SL.cons (eR rfl) rfl VWk.rfl (SL.cons (eR rfl) rfl VWk.rfl (SL.cons (eR rfl) rfl VWk.rfl (SL.cons eZ rfl VWk.rfl SL.nil)))) BL.nil BK.nil)⟩
    · refine AW.condF eZ (decide_eq_false h7) ?_
      refine AW.exit ?_
      refine TQ.qe ?_
      refine TQ.qe ?_
      refine BQ.qe ?_
      exact TQ.qn ⟨(), H, (wk_mk [] SL.nil BL.nil BK.nil)⟩

theorem c_impl_partAt {a1 : (List TPart)} {a2 : Int} {r : Int} (H : m_impl_partAt a1 a2 = some r) : Fn Try.prog k_impl_partAt (lent [(.sl 3 (List.map d_TPart a1)), (.int .i64 a2)]) true [(.int .i64 r)] := by
  refine i_impl_partAt_fn (Nat.le_of_ble_eq_true rfl) ?_
  rw [init_mk]
  refine AW.weaken (wk_mk [] (SL.cons (v := (.one (.d (.sl 3 (List.map d_TPart a1))))) eZ rfl VWk.rfl (SL.cons (v := (.one (.d (.int .i64 a2)))) (eS rfl eZ) rfl VWk.rfl SL.nil)) BL.nil BK.nil) ?_
  unfold m_impl_partAt at H
  unfold i_impl_partAt
  refine AW.seq ?_
  refine AW.regs ?_
  refine oBox (n := 192) (m := 1) (cs := [(.d (.int .i64 a2))]) rfl (eS rfl eZ) rfl rfl nZ ?_
  refine oMov eC ?_
  refine xNil ?_
  refine TQ.qn ?_
  refine AW.seq ?_
  refine AW.regs ?_
  refine oMov (eR rfl) ?_
  refine oMkfn (ps := [(.nm 192 0 0)]) (Evs.cons (eR rfl) Evs.nil) ?_
  obtain ⟨v3, h4, H⟩ := obind H
  refine oCall (u := (.one (.d (.int .i64 v3)))) eC Cl.fn (c_slices_IndexFunc_Part__partAt_1 h4) (Evs.cons (eS rfl eZ) (Evs.cons eZ Evs.nil)) (VDs.cons VD.plain (VDs.cons (VD.fn (PDs.cons (VD.ptrN bZ (CDs.plain CDs.nil)) PDs.nil)) VDs.nil)) rfl ?_
  refine oMov eZ ?_
  refine xNil ?_
  refine TQ.qn ?_
  refine AW.ret ?_
  obtain rfl := Option.some.inj H
  exact endsR (RL.cons (RV.tmp eZ) (VO.flat rfl) RL.nil) List.nodup_nil

end Go.AW
