/- That functions of the program compute what the plain functions say: printed by a program of the prover's own (tool/dec.py). Conditions: each theorem's own. -/
import Derived.Test.YtpnkbfanecbmgaaMCoordState
import Derived.Test.YtpnkbfanecbmgaaGCoordState
set_option linter.unusedVariables false
set_option maxRecDepth 100000
namespace Go.AW
open Go.Proofs

theorem c_laws_szRangeS {a1 : (List TRange)} {a2 : Int} {r : Int} (H : m_laws_szRangeS a1 a2 = some r) : Fn Try.prog k_laws_szRangeS (lent [(.sl 2 (List.map d_TRange a1)), (.int .i64 a2)]) true [(.int .i64 r)] := by
  refine i_laws_szRangeS_fn (Nat.le_of_ble_eq_true rfl) ?_
  rw [init_mk]
  refine AW.weaken (wk_mk [] (SL.cons (v := (.one (.d (.sl 2 (List.map d_TRange a1))))) eZ rfl VWk.rfl (SL.cons (v := (.one (.d (.int .i64 a2)))) (eS rfl eZ) rfl VWk.rfl SL.nil)) BL.nil BK.nil) ?_
  unfold m_laws_szRangeS at H
  unfold i_laws_szRangeS
  refine AW.seq ?_
  refine AW.regs ?_
  refine oMov eC ?_
  refine xNil ?_
  refine TQ.qn ?_
  refine AW.seq ?_
  refine AW.regs ?_
  refine oMov (eS rfl (eS rfl eZ)) ?_
  refine oMov (eS rfl (eS rfl eZ)) ?_
  refine oLenD eZ (n := a1.length) (List.length_map _) ?_
  refine oSub (eS rfl (eS rfl eZ)) eZ ?_
  refine oMov eZ ?_
  refine xNil ?_
  refine TQ.qn ?_
  refine AW.seq ?_
  refine AW.seq ?_
  refine AW.regs ?_
  refine oMov eZ ?_
  refine oLss eZ eC ?_
  refine xNil ?_
  refine TQ.qn ?_
  rcases oite H with ⟨h3, H⟩ | ⟨h3, H⟩
  · refine AW.condT eZ (decide_eq_true h3) ?_
    refine AW.seq ?_
    refine AW.regs ?_
    refine oMov eC ?_
    refine xNil ?_
    refine TQ.qn ?_
    refine AW.ret ?_
    refine TQ.qr ?_
    obtain rfl := Option.some.inj H
    exact endsR (RL.cons (RV.tmp eZ) (VO.flat rfl) RL.nil) List.nodup_nil
  · refine AW.condF eZ (decide_eq_false h3) ?_
    refine AW.skip ?_
    refine TQ.qn ?_
    refine AW.seq ?_
    refine AW.regs ?_
    refine oMov (eS rfl (eS rfl eZ)) ?_
    refine oMov eZ ?_
    refine xNil ?_
    refine TQ.qn ?_
    refine AW.ret ?_
    obtain rfl := Option.some.inj H
    exact endsR (RL.cons (RV.tmp eZ) (VO.flat rfl) RL.nil) List.nodup_nil

theorem c_laws_szWriteS {a1 : (List TCell)} {a2 : Int} {r : Int} (H : m_laws_szWriteS a1 a2 = some r) : Fn Try.prog k_laws_szWriteS (lent [(.sl 2 (List.map d_TCell a1)), (.int .i64 a2)]) true [(.int .i64 r)] := by
  refine i_laws_szWriteS_fn (Nat.le_of_ble_eq_true rfl) ?_
  rw [init_mk]
  refine AW.weaken (wk_mk [] (SL.cons (v := (.one (.d (.sl 2 (List.map d_TCell a1))))) eZ rfl VWk.rfl (SL.cons (v := (.one (.d (.int .i64 a2)))) (eS rfl eZ) rfl VWk.rfl SL.nil)) BL.nil BK.nil) ?_
  unfold m_laws_szWriteS at H
  unfold i_laws_szWriteS
  refine AW.seq ?_
  refine AW.regs ?_
  refine oMov eC ?_
  refine xNil ?_
  refine TQ.qn ?_
  refine AW.seq ?_
  refine AW.regs ?_
  refine oMov (eS rfl (eS rfl eZ)) ?_
  refine oMov (eS rfl (eS rfl eZ)) ?_
  refine oLenD eZ (n := a1.length) (List.length_map _) ?_
  refine oSub (eS rfl (eS rfl eZ)) eZ ?_
  refine oMov eZ ?_
  refine xNil ?_
  refine TQ.qn ?_
  refine AW.seq ?_
  refine AW.seq ?_
  refine AW.regs ?_
  refine oMov eZ ?_
  refine oLss eZ eC ?_
  refine xNil ?_
  refine TQ.qn ?_
  rcases oite H with ⟨h3, H⟩ | ⟨h3, H⟩
  · refine AW.condT eZ (decide_eq_true h3) ?_
    refine AW.seq ?_
    refine AW.regs ?_
    refine oMov eC ?_
    refine xNil ?_
    refine TQ.qn ?_
    refine AW.ret ?_
    refine TQ.qr ?_
    obtain rfl := Option.some.inj H
    exact endsR (RL.cons (RV.tmp eZ) (VO.flat rfl) RL.nil) List.nodup_nil
  · refine AW.condF eZ (decide_eq_false h3) ?_
    refine AW.skip ?_
    refine TQ.qn ?_
    refine AW.seq ?_
    refine AW.regs ?_
    refine oMov (eS rfl (eS rfl eZ)) ?_
    refine oMov eZ ?_
    refine xNil ?_
    refine TQ.qn ?_
    refine AW.ret ?_
    obtain rfl := Option.some.inj H
    exact endsR (RL.cons (RV.tmp eZ) (VO.flat rfl) RL.nil) List.nodup_nil

theorem c_laws_szShare {a1 : TShare} {a2 : Int} {r : Int} (H : m_laws_szShare a1 a2 = some r) : Fn Try.prog k_laws_szShare (lent [(.agg (d_TShare a1)), (.int .i64 a2)]) true [(.int .i64 r)] := by
  refine i_laws_szShare_fn (Nat.le_of_ble_eq_true rfl) ?_
  rw [init_mk]
  refine AW.weaken (wk_mk [] (SL.cons (v := (.agg [(.d (.int .i64 a1.Group)), (.d (.sl 2 (List.map d_TRange a1.Reads))), (.d (.sl 2 (List.map d_TCell a1.Writes))), (.d (.int .i64 a1.Vote))])) eZ rfl VWk.rfl (SL.cons (v := (.one (.d (.int .i64 a2)))) (eS rfl eZ) rfl VWk.rfl SL.nil)) BL.nil BK.nil) ?_
  unfold m_laws_szShare at H
  unfold i_laws_szShare
  refine AW.seq ?_
  refine AW.regs ?_
  refine oBox (n := 128) (m := 4) (cs := [(.d (.int .i64 a1.Group)), (.d (.sl 2 (List.map d_TRange a1.Reads))), (.d (.sl 2 (List.map d_TCell a1.Writes))), (.d (.int .i64 a1.Vote))]) rfl eZ rfl rfl nZ ?_
  refine oMov eC ?_
  refine xNil ?_
  refine TQ.qn ?_
  refine AW.seq ?_
  refine AW.regs ?_
  refine oFaddrN (m := 1) (eS rfl eZ) rfl ?_
  refine oLoadV (q := 1) (c := (.d (.sl 2 (List.map d_TRange a1.Reads)))) eZ bZ rfl rfl ?_
  refine oMov (eS rfl (eS rfl (eS rfl (eS rfl (eS rfl eZ))))) ?_
  obtain ⟨v3, h4, H⟩ := obind H
  refine oCall (u := (.one (.d (.int .i64 v3)))) eC Cl.fn (c_laws_szRangeS h4) (Evs.cons (eS rfl eZ) (Evs.cons eZ Evs.nil)) (VDs.cons VD.plain (VDs.cons VD.plain VDs.nil)) rfl ?_
  refine oMov eZ ?_
  refine xNil ?_
  refine TQ.qn ?_
  refine AW.seq ?_
  refine AW.seq ?_
  refine AW.regs ?_
  refine oMov eZ ?_
  refine oLss eZ eC ?_
  refine xNil ?_
  refine TQ.qn ?_
  rcases oite H with ⟨h5, H⟩ | ⟨h5, H⟩
  · refine AW.condT eZ (decide_eq_true h5) ?_
    refine AW.seq ?_
    refine AW.regs ?_
    refine oMov eC ?_
    refine xNil ?_
    refine TQ.qn ?_
    refine AW.ret ?_
    refine TQ.qr ?_
    obtain rfl := Option.some.inj H
    exact endsR (RL.cons (RV.tmp eZ) (VO.flat rfl) RL.nil) List.nodup_nil
  · refine AW.condF eZ (decide_eq_false h5) ?_
    refine AW.skip ?_
    refine TQ.qn ?_
    refine AW.seq ?_
    refine AW.regs ?_
    refine oFaddrN (m := 2) (eS rfl (eS rfl (eS rfl (eS rfl (eS rfl (eS rfl (eS rfl (eS rfl eZ)))))))) rfl ?_
    refine oLoadV (q := 2) (c := (.d (.sl 2 (List.map d_TCell a1.Writes)))) eZ bZ rfl rfl ?_
    refine oMov (eS rfl (eS rfl (eS rfl (eS rfl eZ)))) ?_
    obtain ⟨v6, h7, H⟩ := obind H
    refine oCall (u := (.one (.d (.int .i64 v6)))) eC Cl.fn (c_laws_szWriteS h7) (Evs.cons (eS rfl eZ) (Evs.cons eZ Evs.nil)) (VDs.cons VD.plain (VDs.cons VD.plain VDs.nil)) rfl ?_
    refine oMov eZ ?_
    refine xNil ?_
    refine TQ.qn ?_
    refine AW.weaken (wk_mk [128] (SL.cons (k := 1) eZ rfl VWk.rfl SL.nil) (BL.drop rfl BL.nil) BK.nil) ?_
    refine AW.seq ?_
    refine AW.seq ?_
    refine AW.regs ?_
    refine oMov eZ ?_
    refine oLss eZ eC ?_
    refine xNil ?_
    refine TQ.qn ?_
    rcases oite H with ⟨h8, H⟩ | ⟨h8, H⟩
    · refine AW.condT eZ (decide_eq_true h8) ?_
      refine AW.seq ?_
      refine AW.regs ?_
      refine oMov eC ?_
      refine xNil ?_
      refine TQ.qn ?_
      refine AW.ret ?_
      refine TQ.qr ?_
      obtain rfl := Option.some.inj H
      exact endsR (RL.cons (RV.tmp eZ) (VO.flat rfl) RL.nil) List.nodup_nil
    · refine AW.condF eZ (decide_eq_false h8) ?_
      refine AW.skip ?_
      refine TQ.qn ?_
      refine AW.seq ?_
      refine AW.regs ?_
      refine oMov (eS rfl (eS rfl eZ)) ?_
      refine oMov eZ ?_
      refine xNil ?_
      refine TQ.qn ?_
      refine AW.ret ?_
      obtain rfl := Option.some.inj H
      exact endsR (RL.cons (RV.tmp eZ) (VO.flat rfl) RL.nil) List.nodup_nil

theorem c_laws_szShareS {a1 : (List TShare)} {a2 : Int} {r : Int} (H : m_laws_szShareS a1 a2 = some r) : Fn Try.prog k_laws_szShareS (lent [(.sl 4 (List.map d_TShare a1)), (.int .i64 a2)]) true [(.int .i64 r)] := by
  refine i_laws_szShareS_fn (Nat.le_of_ble_eq_true rfl) ?_
  rw [init_mk]
  refine AW.weaken (wk_mk [] (SL.cons (v := (.one (.d (.sl 4 (List.map d_TShare a1))))) eZ rfl VWk.rfl (SL.cons (v := (.one (.d (.int .i64 a2)))) (eS rfl eZ) rfl VWk.rfl SL.nil)) BL.nil BK.nil) ?_
  unfold m_laws_szShareS at H
  unfold i_laws_szShareS
  refine AW.seq ?_
  refine AW.regs ?_
  refine oMov eC ?_
  refine xNil ?_
  refine TQ.qn ?_
  refine AW.seq ?_
  refine AW.regs ?_
  refine oMov (eS rfl (eS rfl eZ)) ?_
  refine oMov (eS rfl (eS rfl eZ)) ?_
  refine oLenD eZ (n := a1.length) (List.length_map _) ?_
  refine oSub (eS rfl (eS rfl eZ)) eZ ?_
  refine oMov eZ ?_
  refine xNil ?_
  refine TQ.qn ?_
  refine AW.seq ?_
  refine AW.seq ?_
  refine AW.regs ?_
  refine oMov eZ ?_
  refine oLss eZ eC ?_
  refine xNil ?_
  refine TQ.qn ?_
  rcases oite H with ⟨h3, H⟩ | ⟨h3, H⟩
  · refine AW.condT eZ (decide_eq_true h3) ?_
    refine AW.seq ?_
    refine AW.regs ?_
    refine oMov eC ?_
    refine xNil ?_
    refine TQ.qn ?_
    refine AW.ret ?_
    refine TQ.qr ?_
    obtain rfl := Option.some.inj H
    exact endsR (RL.cons (RV.tmp eZ) (VO.flat rfl) RL.nil) List.nodup_nil
  · refine AW.condF eZ (decide_eq_false h3) ?_
    refine AW.skip ?_
    refine TQ.qn ?_
    refine AW.seqJ (fun t4 : Int => laws_szShareS_j4 t4 = some r) (fun t4 => mk [(1, (.one (.d (.int .i64 t4))))] [] noG) ?_ ?_
    · intro t4 H
      unfold laws_szShareS_j4 at H
      refine AW.seq ?_
      refine AW.regs ?_
      refine oMov eZ ?_
      refine oMov eZ ?_
      refine xNil ?_
      refine TQ.qn ?_
      refine AW.ret ?_
      obtain rfl := Option.some.inj H
      exact endsR (RL.cons (RV.tmp eZ) (VO.flat rfl) RL.nil) List.nodup_nil
    · refine AW.seq ?_
      refine AW.regs ?_
      refine oMov eC ?_
      refine xNil ?_
      refine TQ.qn ?_
      refine AW.block ?_
      refine AW.iter (fun s6 : (Int × Int) => mk [(0, (.one (.d (.sl 4 (List.map d_TShare a1))))), (1, (.one (.d (.int .i64 s6.1)))), (5, (.one (.d (.int .i64 s6.2))))] [] noG) H (wk_mk [] (SL.cons (eS rfl (eS rfl (eS rfl (eS rfl (eS rfl (eS rfl (eS rfl (eS rfl (eS rfl eZ))))))))) rfl VWk.rfl (SL.cons (eS rfl (eS rfl (eS rfl eZ))) rfl VWk.rfl (SL.cons eZ rfl VWk.rfl SL.nil))) BL.nil BK.nil) ?_
      intro kb7 s6 H
      unfold laws_szShareS_b6 at H
      refine AW.seq ?_
      refine AW.seq ?_
      refine AW.regs ?_
      refine oMov (eS rfl (eS rfl eZ)) ?_
      refine oMov (eS rfl eZ) ?_
      refine oLenD eZ (n := a1.length) (List.length_map _) ?_
      refine oLss (eS rfl (eS rfl eZ)) eZ ?_
      refine xNil ?_
      refine TQ.qn ?_
      rcases oite H with ⟨h8, H⟩ | ⟨h8, H⟩
      · refine AW.condT eZ (decide_eq_true h8) ?_
        refine AW.skip ?_
        refine TQ.qn ?_
        refine AW.seq ?_
        refine AW.block ?_
        refine AW.seq ?_
        refine AW.regs ?_
        refine oMov (eS rfl (eS rfl (eS rfl (eS rfl eZ)))) ?_
        refine oMov (eS rfl (eS rfl (eS rfl (eS rfl (eS rfl (eS rfl (eS rfl eZ))))))) ?_
        obtain ⟨v9, h10, H⟩ := obind H
        refine oAtD (eS rfl eZ) eZ h10 ?_
        refine oLoadBA (es := [(.d (.int .i64 v9.Group)), (.d (.sl 2 (List.map d_TRange v9.Reads))), (.d (.sl 2 (List.map d_TCell v9.Writes))), (.d (.int .i64 v9.Vote))]) eZ rfl ?_
        refine oMov (eS rfl (eS rfl (eS rfl (eS rfl (eS rfl (eS rfl (eS rfl (eS rfl (eS rfl eZ))))))))) ?_
        obtain ⟨v11, h12, H⟩ := obind H
        refine oCall (u := (.one (.d (.int .i64 v11)))) eC Cl.fn (c_laws_szShare h12) (Evs.cons (eS rfl eZ) (Evs.cons eZ Evs.nil)) (VDs.cons (VD.agg rfl) (VDs.cons VD.plain VDs.nil)) rfl ?_
        refine oMov eZ ?_
        refine xNil ?_
        refine TQ.qn ?_
        refine AW.seq ?_
        refine AW.regs ?_
        refine oMov eZ ?_
        refine oLss eZ eC ?_
        refine xNil ?_
        refine TQ.qn ?_
        refine AW.weaken (wk_mk [] (SL.cons (k := 25) eZ rfl VWk.rfl (SL.cons (k := 1) (eS rfl (eS rfl eZ)) rfl VWk.rfl (SL.cons (k := 0) (eS rfl (eS rfl (eS rfl (eS rfl (eS rfl (eS rfl (eS rfl (eS rfl (eS rfl (eS rfl (eS rfl (eS rfl (eS rfl eZ))))))))))))) rfl VWk.rfl (SL.cons (k := 5) (eS rfl (eS rfl (eS rfl (eS rfl (eS rfl (eS rfl (eS rfl (eS rfl (eS rfl (eS rfl (eS rfl (eS rfl (eS rfl (eS rfl (eS rfl eZ))))))))))))))) rfl VWk.rfl SL.nil)))) BL.nil BK.nil) ?_
        rcases oite H with ⟨h13, H⟩ | ⟨h13, H⟩
        · refine AW.condT eZ (decide_eq_true h13) ?_
          refine AW.seq ?_
          refine AW.regs ?_
          refine oMov eC ?_
          refine xNil ?_
          refine TQ.qn ?_
          refine AW.ret ?_
          refine BQ.qr ?_
          refine TQ.qr ?_
          refine TQ.qr ?_
          refine BQ.qr ?_
          refine TQ.qr ?_
          obtain rfl := Option.some.inj H
          exact endsR (RL.cons (RV.tmp eZ) (VO.flat rfl) RL.nil) List.nodup_nil
        · refine AW.condF eZ (decide_eq_false h13) ?_
          refine AW.skip ?_
          refine BQ.qn ?_
          refine TQ.qn ?_
          refine AW.regs ?_
          refine oMov (eS rfl (eS rfl (eS rfl eZ))) ?_
          refine oAdd eZ eC ?_
          refine oMov eZ ?_
          refine xNil ?_
          exact TQ.qn ⟨(v11, (IntKind.wrap .i64 (s6.2 + 1))), H, (wk_mk [] (SL.cons (eS rfl (eS rfl (eS rfl (eS rfl (eS rfl eZ))))) rfl VWk.rfl (SL.cons (eS rfl (eS rfl (eS rfl (eS rfl eZ)))) rfl VWk.rfl (SL.cons eZ rfl VWk.rfl SL.nil))) BL.nil BK.nil)⟩
      · refine AW.condF eZ (decide_eq_false h8) ?_
        refine AW.exit ?_
        refine TQ.qe ?_
        refine TQ.qe ?_
        refine BQ.qe ?_
        exact TQ.qn ⟨s6.1, H, (wk_mk [] (SL.cons (eS rfl (eS rfl (eS rfl (eS rfl (eS rfl eZ))))) rfl VWk.rfl SL.nil) BL.nil BK.nil)⟩

theorem c_laws_szRec {a1 : TRec} {a2 : Int} {r : Int} (H : m_laws_szRec a1 a2 = some r) : Fn Try.prog k_laws_szRec (lent [(.agg (d_TRec a1)), (.int .i64 a2)]) true [(.int .i64 r)] := by
  refine i_laws_szRec_fn (Nat.le_of_ble_eq_true rfl) ?_
  rw [init_mk]
  refine AW.weaken (wk_mk [] (SL.cons (v := (.agg [(.d (.int .i64 a1.Tx)), (.d (.int .i64 a1.Client)), (.d (.int .i64 a1.Req)), (.d (.int .i64 a1.State)), (.d (.sl 4 (List.map d_TShare a1.Shares)))])) eZ rfl VWk.rfl (SL.cons (v := (.one (.d (.int .i64 a2)))) (eS rfl eZ) rfl VWk.rfl SL.nil)) BL.nil BK.nil) ?_
  unfold m_laws_szRec at H
  unfold i_laws_szRec
  refine AW.seq ?_
  refine AW.regs ?_
  refine oBox (n := 128) (m := 5) (cs := [(.d (.int .i64 a1.Tx)), (.d (.int .i64 a1.Client)), (.d (.int .i64 a1.Req)), (.d (.int .i64 a1.State)), (.d (.sl 4 (List.map d_TShare a1.Shares)))]) rfl eZ rfl rfl nZ ?_
  refine oMov eC ?_
  refine xNil ?_
  refine TQ.qn ?_
  refine AW.seq ?_
  refine AW.regs ?_
  refine oFaddrN (m := 4) (eS rfl eZ) rfl ?_
  refine oLoadV (q := 4) (c := (.d (.sl 4 (List.map d_TShare a1.Shares)))) eZ bZ rfl rfl ?_
  refine oMov (eS rfl (eS rfl (eS rfl (eS rfl (eS rfl eZ))))) ?_
  obtain ⟨v3, h4, H⟩ := obind H
  refine oCall (u := (.one (.d (.int .i64 v3)))) eC Cl.fn (c_laws_szShareS h4) (Evs.cons (eS rfl eZ) (Evs.cons eZ Evs.nil)) (VDs.cons VD.plain (VDs.cons VD.plain VDs.nil)) rfl ?_
  refine oMov eZ ?_
  refine xNil ?_
  refine TQ.qn ?_
  refine AW.seq ?_
  refine AW.seq ?_
  refine AW.regs ?_
  refine oMov eZ ?_
  refine oLss eZ eC ?_
  refine xNil ?_
  refine TQ.qn ?_
  rcases oite H with ⟨h5, H⟩ | ⟨h5, H⟩
  · refine AW.condT eZ (decide_eq_true h5) ?_
    refine AW.seq ?_
    refine AW.regs ?_
    refine oMov eC ?_
    refine xNil ?_
    refine TQ.qn ?_
    refine AW.ret ?_
    refine TQ.qr ?_
    obtain rfl := Option.some.inj H
    exact endsR (RL.cons (RV.tmp eZ) (VO.flat rfl) RL.nil) List.nodup_nil
  · refine AW.condF eZ (decide_eq_false h5) ?_
    refine AW.skip ?_
    refine TQ.qn ?_
    refine AW.seq ?_
    refine AW.regs ?_
    refine oMov (eS rfl (eS rfl eZ)) ?_
    refine oMov eZ ?_
    refine xNil ?_
    refine TQ.qn ?_
    refine AW.ret ?_
    obtain rfl := Option.some.inj H
    exact endsR (RL.cons (RV.tmp eZ) (VO.flat rfl) RL.nil) List.nodup_nil

theorem c_laws_szRecS {a1 : (List TRec)} {a2 : Int} {r : Int} (H : m_laws_szRecS a1 a2 = some r) : Fn Try.prog k_laws_szRecS (lent [(.sl 5 (List.map d_TRec a1)), (.int .i64 a2)]) true [(.int .i64 r)] := by
  refine i_laws_szRecS_fn (Nat.le_of_ble_eq_true rfl) ?_
  rw [init_mk]
  refine AW.weaken (wk_mk [] (SL.cons (v := (.one (.d (.sl 5 (List.map d_TRec a1))))) eZ rfl VWk.rfl (SL.cons (v := (.one (.d (.int .i64 a2)))) (eS rfl eZ) rfl VWk.rfl SL.nil)) BL.nil BK.nil) ?_
  unfold m_laws_szRecS at H
  unfold i_laws_szRecS
  refine AW.seq ?_
  refine AW.regs ?_
  refine oMov eC ?_
  refine xNil ?_
  refine TQ.qn ?_
  refine AW.seq ?_
  refine AW.regs ?_
  refine oMov (eS rfl (eS rfl eZ)) ?_
  refine oMov (eS rfl (eS rfl eZ)) ?_
  refine oLenD eZ (n := a1.length) (List.length_map _) ?_
  refine oSub (eS rfl (eS rfl eZ)) eZ ?_
  refine oMov eZ ?_
  refine xNil ?_
  refine TQ.qn ?_
  refine AW.seq ?_
  refine AW.seq ?_
  refine AW.regs ?_
  refine oMov eZ ?_
  refine oLss eZ eC ?_
  refine xNil ?_
  refine TQ.qn ?_
  rcases oite H with ⟨h3, H⟩ | ⟨h3, H⟩
  · refine AW.condT eZ (decide_eq_true h3) ?_
    refine AW.seq ?_
    refine AW.regs ?_
    refine oMov eC ?_
    refine xNil ?_
    refine TQ.qn ?_
    refine AW.ret ?_
    refine TQ.qr ?_
    obtain rfl := Option.some.inj H
    exact endsR (RL.cons (RV.tmp eZ) (VO.flat rfl) RL.nil) List.nodup_nil
  · refine AW.condF eZ (decide_eq_false h3) ?_
    refine AW.skip ?_
    refine TQ.qn ?_
    refine AW.seqJ (fun t4 : Int => laws_szRecS_j4 t4 = some r) (fun t4 => mk [(1, (.one (.d (.int .i64 t4))))] [] noG) ?_ ?_
    · intro t4 H
      unfold laws_szRecS_j4 at H
      refine AW.seq ?_
      refine AW.regs ?_
      refine oMov eZ ?_
      refine oMov eZ ?_
      refine xNil ?_
      refine TQ.qn ?_
      refine AW.ret ?_
      obtain rfl := Option.some.inj H
      exact endsR (RL.cons (RV.tmp eZ) (VO.flat rfl) RL.nil) List.nodup_nil
    · refine AW.seq ?_
      refine AW.regs ?_
      refine oMov eC ?_
      refine xNil ?_
      refine TQ.qn ?_
      refine AW.block ?_
      refine AW.iter (fun s6 : (Int × Int) => mk [(0, (.one (.d (.sl 5 (List.map d_TRec a1))))), (1, (.one (.d (.int .i64 s6.1)))), (5, (.one (.d (.int .i64 s6.2))))] [] noG) H (wk_mk [] (SL.cons (eS rfl (eS rfl (eS rfl (eS rfl (eS rfl (eS rfl (eS rfl (eS rfl (eS rfl eZ))))))))) rfl VWk.rfl (SL.cons (eS rfl (eS rfl (eS rfl eZ))) rfl VWk.rfl (SL.cons eZ rfl VWk.rfl SL.nil))) BL.nil BK.nil) ?_
      intro kb7 s6 H
      unfold laws_szRecS_b6 at H
      refine AW.seq ?_
      refine AW.seq ?_
      refine AW.regs ?_
      refine oMov (eS rfl (eS rfl eZ)) ?_
      refine oMov (eS rfl eZ) ?_
      refine oLenD eZ (n := a1.length) (List.length_map _) ?_
      refine oLss (eS rfl (eS rfl eZ)) eZ ?_
      refine xNil ?_
      refine TQ.qn ?_
      rcases oite H with ⟨h8, H⟩ | ⟨h8, H⟩
      · refine AW.condT eZ (decide_eq_true h8) ?_
        refine AW.skip ?_
        refine TQ.qn ?_
        refine AW.seq ?_
        refine AW.block ?_
        refine AW.seq ?_
        refine AW.regs ?_
        refine oMov (eS rfl (eS rfl (eS rfl (eS rfl eZ)))) ?_
        refine oMov (eS rfl (eS rfl (eS rfl (eS rfl (eS rfl (eS rfl (eS rfl eZ))))))) ?_
        obtain ⟨v9, h10, H⟩ := obind H
        refine oAtD (eS rfl eZ) eZ h10 ?_
        refine oLoadBA (es := [(.d (.int .i64 v9.Tx)), (.d (.int .i64 v9.Client)), (.d (.int .i64 v9.Req)), (.d (.int .i64 v9.State)), (.d (.sl 4 (List.map d_TShare v9.Shares)))]) eZ rfl ?_
        refine oMov (eS rfl (eS rfl (eS rfl (eS rfl (eS rfl (eS rfl (eS rfl (eS rfl (eS rfl eZ))))))))) ?_
        obtain ⟨v11, h12, H⟩ := obind H
        refine oCall (u := (.one (.d (.int .i64 v11)))) eC Cl.fn (c_laws_szRec h12) (Evs.cons (eS rfl eZ) (Evs.cons eZ Evs.nil)) (VDs.cons (VD.agg rfl) (VDs.cons VD.plain VDs.nil)) rfl ?_
        refine oMov eZ ?_
        refine xNil ?_
        refine TQ.qn ?_
        refine AW.seq ?_
        refine AW.regs ?_
        refine oMov eZ ?_
        refine oLss eZ eC ?_
        refine xNil ?_
        refine TQ.qn ?_
        refine AW.weaken (wk_mk [] (SL.cons (k := 25) eZ rfl VWk.rfl (SL.cons (k := 1) (eS rfl (eS rfl eZ)) rfl VWk.rfl (SL.cons (k := 0) (eS rfl (eS rfl (eS rfl (eS rfl (eS rfl (eS rfl (eS rfl (eS rfl (eS rfl (eS rfl (eS rfl (eS rfl (eS rfl eZ))))))))))))) rfl VWk.rfl (SL.cons (k := 5) (eS rfl (eS rfl (eS rfl (eS rfl (eS rfl (eS rfl (eS rfl (eS rfl (eS rfl (eS rfl (eS rfl (eS rfl (eS rfl (eS rfl (eS rfl eZ))))))))))))))) rfl VWk.rfl SL.nil)))) BL.nil BK.nil) ?_
        rcases oite H with ⟨h13, H⟩ | ⟨h13, H⟩
        · refine AW.condT eZ (decide_eq_true h13) ?_
          refine AW.seq ?_
          refine AW.regs ?_
          refine oMov eC ?_
          refine xNil ?_
          refine TQ.qn ?_
          refine AW.ret ?_
          refine BQ.qr ?_
          refine TQ.qr ?_
          refine TQ.qr ?_
          refine BQ.qr ?_
          refine TQ.qr ?_
          obtain rfl := Option.some.inj H
          exact endsR (RL.cons (RV.tmp eZ) (VO.flat rfl) RL.nil) List.nodup_nil
        · refine AW.condF eZ (decide_eq_false h13) ?_
          refine AW.skip ?_
          refine BQ.qn ?_
          refine TQ.qn ?_
          refine AW.regs ?_
          refine oMov (eS rfl (eS rfl (eS rfl eZ))) ?_
          refine oAdd eZ eC ?_
          refine oMov eZ ?_
          refine xNil ?_
          exact TQ.qn ⟨(v11, (IntKind.wrap .i64 (s6.2 + 1))), H, (wk_mk [] (SL.cons (eS rfl (eS rfl (eS rfl (eS rfl (eS rfl eZ))))) rfl VWk.rfl (SL.cons (eS rfl (eS rfl (eS rfl (eS rfl eZ)))) rfl VWk.rfl (SL.cons eZ rfl VWk.rfl SL.nil))) BL.nil BK.nil)⟩
      · refine AW.condF eZ (decide_eq_false h8) ?_
        refine AW.exit ?_
        refine TQ.qe ?_
        refine TQ.qe ?_
        refine BQ.qe ?_
        exact TQ.qn ⟨s6.1, H, (wk_mk [] (SL.cons (eS rfl (eS rfl (eS rfl (eS rfl (eS rfl eZ))))) rfl VWk.rfl SL.nil) BL.nil BK.nil)⟩

theorem c_laws_szIntS {a1 : (List Int)} {a2 : Int} {r : Int} (H : m_laws_szIntS a1 a2 = some r) : Fn Try.prog k_laws_szIntS (lent [(.sl 1 (List.map d_i64 a1)), (.int .i64 a2)]) true [(.int .i64 r)] := by
  refine i_laws_szIntS_fn (Nat.le_of_ble_eq_true rfl) ?_
  rw [init_mk]
  refine AW.weaken (wk_mk [] (SL.cons (v := (.one (.d (.sl 1 (List.map d_i64 a1))))) eZ rfl VWk.rfl (SL.cons (v := (.one (.d (.int .i64 a2)))) (eS rfl eZ) rfl VWk.rfl SL.nil)) BL.nil BK.nil) ?_
  unfold m_laws_szIntS at H
  unfold i_laws_szIntS
  refine AW.seq ?_
  refine AW.regs ?_
  refine oMov eC ?_
  refine xNil ?_
  refine TQ.qn ?_
  refine AW.seq ?_
  refine AW.regs ?_
  refine oMov (eS rfl (eS rfl eZ)) ?_
  refine oMov (eS rfl (eS rfl eZ)) ?_
  refine oLenD eZ (n := a1.length) (List.length_map _) ?_
  refine oSub (eS rfl (eS rfl eZ)) eZ ?_
  refine oMov eZ ?_
  refine xNil ?_
  refine TQ.qn ?_
  refine AW.seq ?_
  refine AW.seq ?_
  refine AW.regs ?_
  refine oMov eZ ?_
  refine oLss eZ eC ?_
  refine xNil ?_
  refine TQ.qn ?_
  rcases oite H with ⟨h3, H⟩ | ⟨h3, H⟩
  · refine AW.condT eZ (decide_eq_true h3) ?_
    refine AW.seq ?_
    refine AW.regs ?_
    refine oMov eC ?_
    refine xNil ?_
    refine TQ.qn ?_
    refine AW.ret ?_
    refine TQ.qr ?_
    obtain rfl := Option.some.inj H
    exact endsR (RL.cons (RV.tmp eZ) (VO.flat rfl) RL.nil) List.nodup_nil
  · refine AW.condF eZ (decide_eq_false h3) ?_
    refine AW.skip ?_
    refine TQ.qn ?_
    refine AW.seq ?_
    refine AW.regs ?_
    refine oMov (eS rfl (eS rfl eZ)) ?_
    refine oMov eZ ?_
    refine xNil ?_
    refine TQ.qn ?_
    refine AW.ret ?_
    obtain rfl := Option.some.inj H
    exact endsR (RL.cons (RV.tmp eZ) (VO.flat rfl) RL.nil) List.nodup_nil

theorem c_laws_szCoord {a1 : TCoord} {a2 : Int} {r : Int} (H : m_laws_szCoord a1 a2 = some r) : Fn Try.prog k_laws_szCoord (lent [(.agg (d_TCoord a1)), (.int .i64 a2)]) true [(.int .i64 r)] := by
  refine i_laws_szCoord_fn (Nat.le_of_ble_eq_true rfl) ?_
  rw [init_mk]
  refine AW.weaken (wk_mk [] (SL.cons (v := (.agg [(.d (.sl 5 (List.map d_TRec a1.Recs))), (.d (.sl 1 (List.map d_i64 a1.Order)))])) eZ rfl VWk.rfl (SL.cons (v := (.one (.d (.int .i64 a2)))) (eS rfl eZ) rfl VWk.rfl SL.nil)) BL.nil BK.nil) ?_
  unfold m_laws_szCoord at H
  unfold i_laws_szCoord
  refine AW.seq ?_
  refine AW.regs ?_
  refine oBox (n := 128) (m := 2) (cs := [(.d (.sl 5 (List.map d_TRec a1.Recs))), (.d (.sl 1 (List.map d_i64 a1.Order)))]) rfl eZ rfl rfl nZ ?_
  refine oMov eC ?_
  refine xNil ?_
  refine TQ.qn ?_
  refine AW.seq ?_
  refine AW.regs ?_
  refine oFaddrN (m := 0) (eS rfl eZ) rfl ?_
  refine oLoadV (q := 0) (c := (.d (.sl 5 (List.map d_TRec a1.Recs)))) eZ bZ rfl rfl ?_
  refine oMov (eS rfl (eS rfl (eS rfl (eS rfl (eS rfl eZ))))) ?_
  obtain ⟨v3, h4, H⟩ := obind H
  refine oCall (u := (.one (.d (.int .i64 v3)))) eC Cl.fn (c_laws_szRecS h4) (Evs.cons (eS rfl eZ) (Evs.cons eZ Evs.nil)) (VDs.cons VD.plain (VDs.cons VD.plain VDs.nil)) rfl ?_
  refine oMov eZ ?_
  refine xNil ?_
  refine TQ.qn ?_
  refine AW.seq ?_
  refine AW.seq ?_
  refine AW.regs ?_
  refine oMov eZ ?_
  refine oLss eZ eC ?_
  refine xNil ?_
  refine TQ.qn ?_
  rcases oite H with ⟨h5, H⟩ | ⟨h5, H⟩
  · refine AW.condT eZ (decide_eq_true h5) ?_
    refine AW.seq ?_
    refine AW.regs ?_
    refine oMov eC ?_
    refine xNil ?_
    refine TQ.qn ?_
    refine AW.ret ?_
    refine TQ.qr ?_
    obtain rfl := Option.some.inj H
    exact endsR (RL.cons (RV.tmp eZ) (VO.flat rfl) RL.nil) List.nodup_nil
  · refine AW.condF eZ (decide_eq_false h5) ?_
    refine AW.skip ?_
    refine TQ.qn ?_
    refine AW.seq ?_
    refine AW.regs ?_
    refine oFaddrN (m := 1) (eS rfl (eS rfl (eS rfl (eS rfl (eS rfl (eS rfl (eS rfl (eS rfl eZ)))))))) rfl ?_
    refine oLoadV (q := 1) (c := (.d (.sl 1 (List.map d_i64 a1.Order)))) eZ bZ rfl rfl ?_
    refine oMov (eS rfl (eS rfl (eS rfl (eS rfl eZ)))) ?_
    obtain ⟨v6, h7, H⟩ := obind H
    refine oCall (u := (.one (.d (.int .i64 v6)))) eC Cl.fn (c_laws_szIntS h7) (Evs.cons (eS rfl eZ) (Evs.cons eZ Evs.nil)) (VDs.cons VD.plain (VDs.cons VD.plain VDs.nil)) rfl ?_
    refine oMov eZ ?_
    refine xNil ?_
    refine TQ.qn ?_
    refine AW.weaken (wk_mk [128] (SL.cons (k := 1) eZ rfl VWk.rfl SL.nil) (BL.drop rfl BL.nil) BK.nil) ?_
    refine AW.seq ?_
    refine AW.seq ?_
    refine AW.regs ?_
    refine oMov eZ ?_
    refine oLss eZ eC ?_
    refine xNil ?_
    refine TQ.qn ?_
    rcases oite H with ⟨h8, H⟩ | ⟨h8, H⟩
    · refine AW.condT eZ (decide_eq_true h8) ?_
      refine AW.seq ?_
      refine AW.regs ?_
      refine oMov eC ?_
      refine xNil ?_
      refine TQ.qn ?_
      refine AW.ret ?_
      refine TQ.qr ?_
      obtain rfl := Option.some.inj H
      exact endsR (RL.cons (RV.tmp eZ) (VO.flat rfl) RL.nil) List.nodup_nil
    · refine AW.condF eZ (decide_eq_false h8) ?_
      refine AW.skip ?_
      refine TQ.qn ?_
      refine AW.seq ?_
      refine AW.regs ?_
      refine oMov (eS rfl (eS rfl eZ)) ?_
      refine oMov eZ ?_
      refine xNil ?_
      refine TQ.qn ?_
      refine AW.ret ?_
      obtain rfl := Option.some.inj H
      exact endsR (RL.cons (RV.tmp eZ) (VO.flat rfl) RL.nil) List.nodup_nil

theorem c_laws_toRange {a1 : TRange} {r : TRange} (H : m_laws_toRange a1 = some r) : Fn Try.prog k_laws_toRange (lent [(.agg (d_TRange a1))]) true [(.agg (d_TRange r))] := by
  refine i_laws_toRange_fn (Nat.le_of_ble_eq_true rfl) ?_
  rw [init_mk]
  refine AW.weaken (wk_mk [] (SL.cons (v := (.agg [(.d (.int .i64 a1.Lo)), (.d (.int .i64 a1.Hi))])) eZ rfl VWk.rfl SL.nil) BL.nil BK.nil) ?_
  unfold m_laws_toRange at H
  unfold i_laws_toRange
  refine AW.seq ?_
  refine AW.regs ?_
  refine oBox (n := 64) (m := 2) (cs := [(.d (.int .i64 a1.Lo)), (.d (.int .i64 a1.Hi))]) rfl eZ rfl rfl nZ ?_
  refine oVar (n := 128) (m := 2) rfl rfl (nS rfl nZ) ?_
  refine xNil ?_
  refine TQ.qn ?_
  refine AW.seq ?_
  refine AW.regs ?_
  refine oVar (n := 192) (m := 2) rfl rfl (nS rfl (nS rfl nZ)) ?_
  refine xNil ?_
  refine TQ.qn ?_
  refine AW.seq ?_
  refine AW.regs ?_
  refine oFaddrN (m := 0) (eS rfl (eS rfl eZ)) rfl ?_
  refine oLoadV (q := 0) (c := (.d (.int .i64 a1.Lo))) eZ (bS rfl (bS rfl bZ)) rfl rfl ?_
  refine oFaddrN (m := 0) (eS rfl (eS rfl eZ)) rfl ?_
  refine oStoreV (es := [(.d (.int .i64 a1.Lo)), (.d (.int .i64 0))]) eZ (eS rfl eZ) rfl rfl bZ rfl ?_
  refine xNil ?_
  refine TQ.qn ?_
  refine AW.seq ?_
  refine AW.regs ?_
  refine oFaddrN (m := 1) (eS rfl (eS rfl (eS rfl (eS rfl (eS rfl eZ))))) rfl ?_
  refine oLoadV (q := 1) (c := (.d (.int .i64 a1.Hi))) eZ (bS rfl (bS rfl (bS rfl bZ))) rfl rfl ?_
  refine oFaddrN (m := 1) (eS rfl (eS rfl (eS rfl (eS rfl (eS rfl eZ))))) rfl ?_
  refine oStoreV (es := [(.d (.int .i64 a1.Lo)), (.d (.int .i64 a1.Hi))]) eZ (eS rfl eZ) rfl rfl bZ rfl ?_
  refine xNil ?_
  refine TQ.qn ?_
  refine AW.seq ?_
  refine AW.regs ?_
  refine oLoadVA (es := [(.d (.int .i64 a1.Lo)), (.d (.int .i64 a1.Hi))]) (eS rfl (eS rfl (eS rfl (eS rfl (eS rfl (eS rfl eZ)))))) bZ rfl ?_
  refine oStoreV (es := [(.d (.int .i64 a1.Lo)), (.d (.int .i64 a1.Hi))]) (eS rfl (eS rfl (eS rfl (eS rfl (eS rfl (eS rfl (eS rfl (eS rfl eZ)))))))) eZ rfl rfl (bS rfl (bS rfl (bS rfl bZ))) rfl ?_
  refine xNil ?_
  refine TQ.qn ?_
  refine AW.ret ?_
  obtain rfl := Option.some.inj H
  exact endsR (RL.cons (RV.cellA (es := [(.d (.int .i64 a1.Lo)), (.d (.int .i64 a1.Hi))]) (eS rfl (eS rfl (eS rfl (eS rfl (eS rfl (eS rfl (eS rfl (eS rfl eZ)))))))) bZ rfl) (VO.agg (ds := [(.int .i64 a1.Lo), (.int .i64 a1.Hi)]) rfl rfl) RL.nil) List.nodup_nil

theorem c_laws_toRangeS {a1 : (List TRange)} {r : (List TRange)} (H : m_laws_toRangeS a1 = some r) : Fn Try.prog k_laws_toRangeS (lent [(.sl 2 (List.map d_TRange a1))]) true [(.sl 2 (List.map d_TRange r))] := by
  refine i_laws_toRangeS_fn (Nat.le_of_ble_eq_true rfl) ?_
  rw [init_mk]
  refine AW.weaken (wk_mk [] (SL.cons (v := (.one (.d (.sl 2 (List.map d_TRange a1))))) eZ rfl VWk.rfl SL.nil) BL.nil BK.nil) ?_
  unfold m_laws_toRangeS at H
  unfold i_laws_toRangeS
  refine AW.seq ?_
  refine AW.regs ?_
  refine oMov eC ?_
  refine xNil ?_
  refine TQ.qn ?_
  refine AW.seq ?_
  refine AW.regs ?_
  refine oMov (eS rfl eZ) ?_
  refine oLenD eZ (n := a1.length) (List.length_map _) ?_
  obtain ⟨h2, H⟩ := oguard H
  refine oMksl (f := d_TRange) (zv := (TRange.mk 0 0)) (own := true) (m := 448) (q := (Int.toNat (a1.length : Int))) rfl rfl eZ eZ h2.1 h2.2 rfl (by decide) rfl nZ ?_
  refine oMov eZ ?_
  refine xNil ?_
  refine TQ.qn ?_
  refine AW.seqJ (fun t3 : (List TRange) => laws_toRangeS_j3 t3 = some r) (fun t3 => mk [(3, (.one (.sl 320128 0 t3.length)))] [(320128, (.data 2 (List.map d_TRange t3) true none))] noG) ?_ ?_
  · intro t3 H
    unfold laws_toRangeS_j3 at H
    refine AW.seq ?_
    refine AW.regs ?_
    refine oMov eZ ?_
    refine oMov eZ ?_
    refine xNil ?_
    refine TQ.qn ?_
    refine AW.ret ?_
    obtain rfl := Option.some.inj H
    exact endsR (RL.cons (RV.tmp eZ) (VO.sl bZ (List.length_map _) (allFlat fun _ => rfl)) RL.nil) (by decide)
  · refine AW.seq ?_
    refine AW.regs ?_
    refine oMov eC ?_
    refine xNil ?_
    refine TQ.qn ?_
    refine AW.block ?_
    refine AW.iter (fun s5 : ((List TRange) × Int) => mk [(0, (.one (.d (.sl 2 (List.map d_TRange a1))))), (3, (.one (.sl 320192 0 s5.1.length))), (4, (.one (.d (.int .i64 s5.2))))] [(320192, (.data 2 (List.map d_TRange s5.1) true none))] noG) H ((wk_mk [] (SL.cons (eS rfl (eS rfl (eS rfl (eS rfl (eS rfl (eS rfl eZ)))))) rfl VWk.rfl (SL.cons (eS rfl eZ) rfl (VWk.one (CWk.len (by simp))) (SL.cons eZ rfl VWk.rfl SL.nil))) (BL.keep rfl BL.nil) (BK.cons rfl bZ rfl rfl BK.nil)).trans (wk_ren 448 320192 rfl rfl (nS rfl nZ))) ?_
    intro kb6 s5 H
    unfold laws_toRangeS_b5 at H
    refine AW.seq ?_
    refine AW.seq ?_
    refine AW.regs ?_
    refine oMov (eS rfl (eS rfl eZ)) ?_
    refine oMov (eS rfl eZ) ?_
    refine oLenD eZ (n := a1.length) (List.length_map _) ?_
    refine oLss (eS rfl (eS rfl eZ)) eZ ?_
    refine xNil ?_
    refine TQ.qn ?_
    rcases oite H with ⟨h7, H⟩ | ⟨h7, H⟩
    · refine AW.condT eZ (decide_eq_true h7) ?_
      refine AW.skip ?_
      refine TQ.qn ?_
      refine AW.seq ?_
      refine AW.block ?_
      refine AW.regs ?_
      refine oMov (eS rfl (eS rfl (eS rfl (eS rfl (eS rfl eZ))))) ?_
      refine oMov (eS rfl (eS rfl (eS rfl (eS rfl (eS rfl (eS rfl (eS rfl eZ))))))) ?_
      refine oMov (eS rfl (eS rfl (eS rfl (eS rfl (eS rfl (eS rfl eZ)))))) ?_
      refine oMov (eS rfl (eS rfl (eS rfl (eS rfl (eS rfl (eS rfl (eS rfl (eS rfl (eS rfl eZ))))))))) ?_
      obtain ⟨v8, h9, H⟩ := obind H
      refine oAtD (eS rfl eZ) eZ h9 ?_
      refine oLoadBA (es := [(.d (.int .i64 v8.Lo)), (.d (.int .i64 v8.Hi))]) eZ rfl ?_
      obtain ⟨v10, h11, H⟩ := obind H
      refine oCall (u := (.agg [(.d (.int .i64 v10.Lo)), (.d (.int .i64 v10.Hi))])) eC Cl.fn (c_laws_toRange h11) (Evs.cons eZ Evs.nil) (VDs.cons (VD.agg rfl) VDs.nil) rfl ?_
      obtain ⟨v12, h13, H⟩ := obind H
      refine oAtN (eS rfl (eS rfl (eS rfl (eS rfl (eS rfl (eS rfl eZ)))))) (eS rfl (eS rfl (eS rfl (eS rfl (eS rfl eZ))))) bZ rfl h13 ?_
      refine oStoreD (t := v12) (t' := v10) (es := [(.int .i64 v10.Lo), (.int .i64 v10.Hi)]) eZ (eS rfl eZ) rfl rfl bZ (idx_at h13) rfl rfl ?_
      refine xNil ?_
      refine BQ.qn ?_
      refine TQ.qn ?_
      refine AW.regs ?_
      refine oMov (eS rfl (eS rfl (eS rfl (eS rfl (eS rfl (eS rfl (eS rfl (eS rfl (eS rfl (eS rfl (eS rfl (eS rfl (eS rfl (eS rfl eZ)))))))))))))) ?_
      refine oAdd eZ eC ?_
      refine oMov eZ ?_
      refine xNil ?_
      exact TQ.qn ⟨(s5.1.set (Int.toNat s5.2) v10, (IntKind.wrap .i64 (s5.2 + 1))), H, (wk_mk [] (SL.cons (eS rfl (eS rfl (eS rfl (eS rfl (eS rfl (eS rfl (eS rfl (eS rfl (eS rfl (eS rfl (eS rfl (eS rfl (eS rfl (eS rfl (eS rfl eZ))))))))))))))) rfl VWk.rfl (SL.cons (eS rfl (eS rfl (eS rfl (eS rfl (eS rfl (eS rfl (eS rfl (eS rfl (eS rfl (eS rfl (eS rfl (eS rfl (eS rfl (eS rfl (eS rfl (eS rfl eZ)))))))))))))))) rfl (VWk.one (CWk.len (by simp))) (SL.cons eZ rfl VWk.rfl SL.nil))) (BL.keep rfl (BL.keep rfl BL.nil)) (BK.cons rfl bZ rfl rfl BK.nil))⟩
    · refine AW.condF eZ (decide_eq_false h7) ?_
      refine AW.exit ?_
      refine TQ.qe ?_
      refine TQ.qe ?_
      refine BQ.qe ?_
      exact TQ.qn ⟨s5.1, H, ((wk_mk [] (SL.cons (eS rfl (eS rfl (eS rfl (eS rfl (eS rfl eZ))))) rfl VWk.rfl SL.nil) (BL.keep rfl BL.nil) (BK.cons rfl bZ rfl rfl BK.nil)).trans (wk_ren 320192 320128 rfl rfl (nS rfl nZ)))⟩

theorem c_laws_toWrite {a1 : TCell} {r : TCell} (H : m_laws_toWrite a1 = some r) : Fn Try.prog k_laws_toWrite (lent [(.agg (d_TCell a1))]) true [(.agg (d_TCell r))] := by
  refine i_laws_toWrite_fn (Nat.le_of_ble_eq_true rfl) ?_
  rw [init_mk]
  refine AW.weaken (wk_mk [] (SL.cons (v := (.agg [(.d (.int .i64 a1.Key)), (.d (.int .i64 a1.Value))])) eZ rfl VWk.rfl SL.nil) BL.nil BK.nil) ?_
  unfold m_laws_toWrite at H
  unfold i_laws_toWrite
  refine AW.seq ?_
  refine AW.regs ?_
  refine oBox (n := 64) (m := 2) (cs := [(.d (.int .i64 a1.Key)), (.d (.int .i64 a1.Value))]) rfl eZ rfl rfl nZ ?_
  refine oVar (n := 128) (m := 2) rfl rfl (nS rfl nZ) ?_
  refine xNil ?_
  refine TQ.qn ?_
  refine AW.seq ?_
  refine AW.regs ?_
  refine oVar (n := 192) (m := 2) rfl rfl (nS rfl (nS rfl nZ)) ?_
  refine xNil ?_
  refine TQ.qn ?_
  refine AW.seq ?_
  refine AW.regs ?_
  refine oFaddrN (m := 0) (eS rfl (eS rfl eZ)) rfl ?_
  refine oLoadV (q := 0) (c := (.d (.int .i64 a1.Key))) eZ (bS rfl (bS rfl bZ)) rfl rfl ?_
  refine oFaddrN (m := 0) (eS rfl (eS rfl eZ)) rfl ?_
  refine oStoreV (es := [(.d (.int .i64 a1.Key)), (.d (.int .i64 0))]) eZ (eS rfl eZ) rfl rfl bZ rfl ?_
  refine xNil ?_
  refine TQ.qn ?_
  refine AW.seq ?_
  refine AW.regs ?_
  refine oFaddrN (m := 1) (eS rfl (eS rfl (eS rfl (eS rfl (eS rfl eZ))))) rfl ?_
  refine oLoadV (q := 1) (c := (.d (.int .i64 a1.Value))) eZ (bS rfl (bS rfl (bS rfl bZ))) rfl rfl ?_
  refine oFaddrN (m := 1) (eS rfl (eS rfl (eS rfl (eS rfl (eS rfl eZ))))) rfl ?_
  refine oStoreV (es := [(.d (.int .i64 a1.Key)), (.d (.int .i64 a1.Value))]) eZ (eS rfl eZ) rfl rfl bZ rfl ?_
  refine xNil ?_
  refine TQ.qn ?_
  refine AW.seq ?_
  refine AW.regs ?_
  refine oLoadVA (es := [(.d (.int .i64 a1.Key)), (.d (.int .i64 a1.Value))]) (eS rfl (eS rfl (eS rfl (eS rfl (eS rfl (eS rfl eZ)))))) bZ rfl ?_
  refine oStoreV (es := [(.d (.int .i64 a1.Key)), (.d (.int .i64 a1.Value))]) (eS rfl (eS rfl (eS rfl (eS rfl (eS rfl (eS rfl (eS rfl (eS rfl eZ)))))))) eZ rfl rfl (bS rfl (bS rfl (bS rfl bZ))) rfl ?_
  refine xNil ?_
  refine TQ.qn ?_
  refine AW.ret ?_
  obtain rfl := Option.some.inj H
  exact endsR (RL.cons (RV.cellA (es := [(.d (.int .i64 a1.Key)), (.d (.int .i64 a1.Value))]) (eS rfl (eS rfl (eS rfl (eS rfl (eS rfl (eS rfl (eS rfl (eS rfl eZ)))))))) bZ rfl) (VO.agg (ds := [(.int .i64 a1.Key), (.int .i64 a1.Value)]) rfl rfl) RL.nil) List.nodup_nil

theorem c_laws_toWriteS {a1 : (List TCell)} {r : (List TCell)} (H : m_laws_toWriteS a1 = some r) : Fn Try.prog k_laws_toWriteS (lent [(.sl 2 (List.map d_TCell a1))]) true [(.sl 2 (List.map d_TCell r))] := by
  refine i_laws_toWriteS_fn (Nat.le_of_ble_eq_true rfl) ?_
  rw [init_mk]
  refine AW.weaken (wk_mk [] (SL.cons (v := (.one (.d (.sl 2 (List.map d_TCell a1))))) eZ rfl VWk.rfl SL.nil) BL.nil BK.nil) ?_
  unfold m_laws_toWriteS at H
  unfold i_laws_toWriteS
  refine AW.seq ?_
  refine AW.regs ?_
  refine oMov eC ?_
  refine xNil ?_
  refine TQ.qn ?_
  refine AW.seq ?_
  refine AW.regs ?_
  refine oMov (eS rfl eZ) ?_
  refine oLenD eZ (n := a1.length) (List.length_map _) ?_
  obtain ⟨h2, H⟩ := oguard H
  refine oMksl (f := d_TCell) (zv := (TCell.mk 0 0)) (own := true) (m := 448) (q := (Int.toNat (a1.length : Int))) rfl rfl eZ eZ h2.1 h2.2 rfl (by decide) rfl nZ ?_
  refine oMov eZ ?_
  refine xNil ?_
  refine TQ.qn ?_
  refine AW.seqJ (fun t3 : (List TCell) => laws_toWriteS_j3 t3 = some r) (fun t3 => mk [(3, (.one (.sl 320128 0 t3.length)))] [(320128, (.data 2 (List.map d_TCell t3) true none))] noG) ?_ ?_
  · intro t3 H
    unfold laws_toWriteS_j3 at H
    refine AW.seq ?_
    refine AW.regs ?_
    refine oMov eZ ?_
    refine oMov eZ ?_
    refine xNil ?_
    refine TQ.qn ?_
    refine AW.ret ?_
    obtain rfl := Option.some.inj H
    exact endsR (RL.cons (RV.tmp eZ) (VO.sl bZ (List.length_map _) (allFlat fun _ => rfl)) RL.nil) (by decide)
  · refine AW.seq ?_
    refine AW.regs ?_
    refine oMov eC ?_
    refine xNil ?_
    refine TQ.qn ?_
    refine AW.block ?_
    refine AW.iter (fun s5 : ((List TCell) × Int) => mk [(0, (.one (.d (.sl 2 (List.map d_TCell a1))))), (3, (.one (.sl 320192 0 s5.1.length))), (4, (.one (.d (.int .i64 s5.2))))] [(320192, (.data 2 (List.map d_TCell s5.1) true none))] noG) H ((wk_mk [] (SL.cons (eS rfl (eS rfl (eS rfl (eS rfl (eS rfl (eS rfl eZ)))))) rfl VWk.rfl (SL.cons (eS rfl eZ) rfl (VWk.one (CWk.len (by simp))) (SL.cons eZ rfl VWk.rfl SL.nil))) (BL.keep rfl BL.nil) (BK.cons rfl bZ rfl rfl BK.nil)).trans (wk_ren 448 320192 rfl rfl (nS rfl nZ))) ?_
    intro kb6 s5 H
    unfold laws_toWriteS_b5 at H
    refine AW.seq ?_
    refine AW.seq ?_
    refine AW.regs ?_
    refine oMov (eS rfl (eS rfl eZ)) ?_
    refine oMov (eS rfl eZ) ?_
    refine oLenD eZ (n := a1.length) (List.length_map _) ?_
    refine oLss (eS rfl (eS rfl eZ)) eZ ?_
    refine xNil ?_
    refine TQ.qn ?_
    rcases oite H with ⟨h7, H⟩ | ⟨h7, H⟩
    · refine AW.condT eZ (decide_eq_true h7) ?_
      refine AW.skip ?_
      refine TQ.qn ?_
      refine AW.seq ?_
      refine AW.block ?_
      refine AW.regs ?_
      refine oMov (eS rfl (eS rfl (eS rfl (eS rfl (eS rfl eZ))))) ?_
      refine oMov (eS rfl (eS rfl (eS rfl (eS rfl (eS rfl (eS rfl (eS rfl eZ))))))) ?_
      refine oMov (eS rfl (eS rfl (eS rfl (eS rfl (eS rfl (eS rfl eZ)))))) ?_
      refine oMov (eS rfl (eS rfl (eS rfl (eS rfl (eS rfl (eS rfl (eS rfl (eS rfl (eS rfl eZ))))))))) ?_
      obtain ⟨v8, h9, H⟩ := obind H
      refine oAtD (eS rfl eZ) eZ h9 ?_
      refine oLoadBA (es := [(.d (.int .i64 v8.Key)), (.d (.int .i64 v8.Value))]) eZ rfl ?_
      obtain ⟨v10, h11, H⟩ := obind H
      refine oCall (u := (.agg [(.d (.int .i64 v10.Key)), (.d (.int .i64 v10.Value))])) eC Cl.fn (c_laws_toWrite h11) (Evs.cons eZ Evs.nil) (VDs.cons (VD.agg rfl) VDs.nil) rfl ?_
      obtain ⟨v12, h13, H⟩ := obind H
      refine oAtN (eS rfl (eS rfl (eS rfl (eS rfl (eS rfl (eS rfl eZ)))))) (eS rfl (eS rfl (eS rfl (eS rfl (eS rfl eZ))))) bZ rfl h13 ?_
      refine oStoreD (t := v12) (t' := v10) (es := [(.int .i64 v10.Key), (.int .i64 v10.Value)]) eZ (eS rfl eZ) rfl rfl bZ (idx_at h13) rfl rfl ?_
      refine xNil ?_
      refine BQ.qn ?_
      refine TQ.qn ?_
      refine AW.regs ?_
      refine oMov (eS rfl (eS rfl (eS rfl (eS rfl (eS rfl (eS rfl (eS rfl (eS rfl (eS rfl (eS rfl (eS rfl (eS rfl (eS rfl (eS rfl eZ)))))))))))))) ?_
      refine oAdd eZ eC ?_
      refine oMov eZ ?_
      refine xNil ?_
      exact TQ.qn ⟨(s5.1.set (Int.toNat s5.2) v10, (IntKind.wrap .i64 (s5.2 + 1))), H, (wk_mk [] (SL.cons (eS rfl (eS rfl (eS rfl (eS rfl (eS rfl (eS rfl (eS rfl (eS rfl (eS rfl (eS rfl (eS rfl (eS rfl (eS rfl (eS rfl (eS rfl eZ))))))))))))))) rfl VWk.rfl (SL.cons (eS rfl (eS rfl (eS rfl (eS rfl (eS rfl (eS rfl (eS rfl (eS rfl (eS rfl (eS rfl (eS rfl (eS rfl (eS rfl (eS rfl (eS rfl (eS rfl eZ)))))))))))))))) rfl (VWk.one (CWk.len (by simp))) (SL.cons eZ rfl VWk.rfl SL.nil))) (BL.keep rfl (BL.keep rfl BL.nil)) (BK.cons rfl bZ rfl rfl BK.nil))⟩
    · refine AW.condF eZ (decide_eq_false h7) ?_
      refine AW.exit ?_
      refine TQ.qe ?_
      refine TQ.qe ?_
      refine BQ.qe ?_
      exact TQ.qn ⟨s5.1, H, ((wk_mk [] (SL.cons (eS rfl (eS rfl (eS rfl (eS rfl (eS rfl eZ))))) rfl VWk.rfl SL.nil) (BL.keep rfl BL.nil) (BK.cons rfl bZ rfl rfl BK.nil)).trans (wk_ren 320192 320128 rfl rfl (nS rfl nZ)))⟩

theorem c_laws_toShare {a1 : TShare} {r : TShare} (H : m_laws_toShare a1 = some r) : Fn Try.prog k_laws_toShare (lent [(.agg (d_TShare a1))]) true [(.agg (d_TShare r))] := by
  refine i_laws_toShare_fn (Nat.le_of_ble_eq_true rfl) ?_
  rw [init_mk]
  refine AW.weaken (wk_mk [] (SL.cons (v := (.agg [(.d (.int .i64 a1.Group)), (.d (.sl 2 (List.map d_TRange a1.Reads))), (.d (.sl 2 (List.map d_TCell a1.Writes))), (.d (.int .i64 a1.Vote))])) eZ rfl VWk.rfl SL.nil) BL.nil BK.nil) ?_
  unfold m_laws_toShare at H
  unfold i_laws_toShare
  refine AW.seq ?_
  refine AW.regs ?_
  refine oBox (n := 64) (m := 4) (cs := [(.d (.int .i64 a1.Group)), (.d (.sl 2 (List.map d_TRange a1.Reads))), (.d (.sl 2 (List.map d_TCell a1.Writes))), (.d (.int .i64 a1.Vote))]) rfl eZ rfl rfl nZ ?_
  refine oVar (n := 128) (m := 4) rfl rfl (nS rfl nZ) ?_
  refine xNil ?_
  refine TQ.qn ?_
  refine AW.seq ?_
  refine AW.regs ?_
  refine oVar (n := 192) (m := 4) rfl rfl (nS rfl (nS rfl nZ)) ?_
  refine xNil ?_
  refine TQ.qn ?_
  refine AW.seq ?_
  refine AW.regs ?_
  refine oFaddrN (m := 0) (eS rfl (eS rfl eZ)) rfl ?_
  refine oLoadV (q := 0) (c := (.d (.int .i64 a1.Group))) eZ (bS rfl (bS rfl bZ)) rfl rfl ?_
  refine oFaddrN (m := 0) (eS rfl (eS rfl eZ)) rfl ?_
  refine oStoreV (es := [(.d (.int .i64 a1.Group)), .zs, .zs, (.d (.int .i64 0))]) eZ (eS rfl eZ) rfl rfl bZ rfl ?_
  refine xNil ?_
  refine TQ.qn ?_
  refine AW.seq ?_
  refine AW.regs ?_
  refine oFaddrN (m := 1) (eS rfl (eS rfl (eS rfl (eS rfl (eS rfl eZ))))) rfl ?_
  refine oLoadV (q := 1) (c := (.d (.sl 2 (List.map d_TRange a1.Reads)))) eZ (bS rfl (bS rfl (bS rfl bZ))) rfl rfl ?_
  obtain ⟨v2, h3, H⟩ := obind H
  refine oCallN (u := (.one (.sl 576 0 ((List.map d_TRange v2).length)))) (bs := [(576, (.data 2 (List.map d_TRange v2) true none))]) eC Cl.fn (c_laws_toRangeS h3) (Evs.cons eZ Evs.nil) (VDs.cons VD.plain VDs.nil) rfl rfl (fC (nS rfl (nS rfl (nS rfl (nS rfl nZ)))) rfl (fC (nS rfl (nS rfl (nS rfl (nS rfl nZ)))) rfl fN)) ?_
  refine oFaddrN (m := 1) (eS rfl (eS rfl (eS rfl (eS rfl (eS rfl (eS rfl eZ)))))) rfl ?_
  refine oStoreV (es := [(.d (.int .i64 a1.Group)), (.sl 576 0 ((List.map d_TRange v2).length)), .zs, (.d (.int .i64 0))]) eZ (eS rfl eZ) rfl rfl (bS rfl bZ) rfl ?_
  refine xNil ?_
  refine TQ.qn ?_
  refine AW.seq ?_
  refine AW.regs ?_
  refine oFaddrN (m := 2) (eS rfl (eS rfl (eS rfl (eS rfl (eS rfl (eS rfl (eS rfl (eS rfl (eS rfl eZ))))))))) rfl ?_
  refine oLoadV (q := 2) (c := (.d (.sl 2 (List.map d_TCell a1.Writes)))) eZ (bS rfl (bS rfl (bS rfl (bS rfl (bS rfl bZ))))) rfl rfl ?_
  obtain ⟨v4, h5, H⟩ := obind H
  refine oCallN (u := (.one (.sl 832 0 ((List.map d_TCell v4).length)))) (bs := [(832, (.data 2 (List.map d_TCell v4) true none))]) eC Cl.fn (c_laws_toWriteS h5) (Evs.cons eZ Evs.nil) (VDs.cons VD.plain VDs.nil) rfl rfl (fC (nS rfl (nS rfl (nS rfl (nS rfl (nS rfl (nS rfl nZ)))))) rfl (fC (nS rfl (nS rfl (nS rfl (nS rfl (nS rfl (nS rfl nZ)))))) rfl fN)) ?_
  refine oFaddrN (m := 2) (eS rfl (eS rfl (eS rfl (eS rfl (eS rfl (eS rfl (eS rfl (eS rfl (eS rfl (eS rfl eZ)))))))))) rfl ?_
  refine oStoreV (es := [(.d (.int .i64 a1.Group)), (.sl 576 0 ((List.map d_TRange v2).length)), (.sl 832 0 ((List.map d_TCell v4).length)), (.d (.int .i64 0))]) eZ (eS rfl eZ) rfl rfl (bS rfl bZ) rfl ?_
  refine xNil ?_
  refine TQ.qn ?_
  refine AW.seq ?_
  refine AW.regs ?_
  refine oFaddrN (m := 3) (eS rfl (eS rfl (eS rfl (eS rfl (eS rfl (eS rfl (eS rfl (eS rfl (eS rfl (eS rfl (eS rfl (eS rfl (eS rfl eZ))))))))))))) rfl ?_
  refine oLoadV (q := 3) (c := (.d (.int .i64 a1.Vote))) eZ (bS rfl (bS rfl (bS rfl (bS rfl (bS rfl (bS rfl (bS rfl bZ))))))) rfl rfl ?_
  refine oFaddrN (m := 3) (eS rfl (eS rfl (eS rfl (eS rfl (eS rfl (eS rfl (eS rfl (eS rfl (eS rfl (eS rfl (eS rfl (eS rfl (eS rfl eZ))))))))))))) rfl ?_
  refine oStoreV (es := [(.d (.int .i64 a1.Group)), (.sl 576 0 ((List.map d_TRange v2).length)), (.sl 832 0 ((List.map d_TCell v4).length)), (.d (.int .i64 a1.Vote))]) eZ (eS rfl eZ) rfl rfl bZ rfl ?_
  refine xNil ?_
  refine TQ.qn ?_
  refine AW.weaken (wk_mk [64] (SL.cons (k := 3) (eS rfl (eS rfl (eS rfl (eS rfl (eS rfl (eS rfl (eS rfl (eS rfl (eS rfl (eS rfl (eS rfl (eS rfl (eS rfl (eS rfl eZ)))))))))))))) rfl VWk.rfl (SL.cons (k := 2) (eS rfl (eS rfl (eS rfl (eS rfl (eS rfl (eS rfl (eS rfl (eS rfl (eS rfl (eS rfl (eS rfl (eS rfl (eS rfl (eS rfl (eS rfl eZ))))))))))))))) rfl VWk.rfl SL.nil)) (BL.keep rfl (BL.keep rfl (BL.keep rfl (BL.keep rfl (BL.keep rfl (BL.keep rfl (BL.keep rfl (BL.keep rfl (BL.drop rfl BL.nil))))))))) (BK.cons (n := 192) rfl bZ rfl rfl (BK.cons (n := 832) rfl (bS rfl (bS rfl bZ)) rfl rfl (BK.cons (n := 576) rfl (bS rfl (bS rfl (bS rfl (bS rfl bZ)))) rfl rfl (BK.cons (n := 128) rfl (bS rfl (bS rfl (bS rfl (bS rfl (bS rfl (bS rfl (bS rfl bZ))))))) rfl rfl BK.nil))))) ?_
  refine AW.seq ?_
  refine AW.regs ?_
  refine oLoadVA (es := [(.d (.int .i64 a1.Group)), (.sl 576 0 ((List.map d_TRange v2).length)), (.sl 832 0 ((List.map d_TCell v4).length)), (.d (.int .i64 a1.Vote))]) eZ bZ rfl ?_
  refine oStoreV (es := [(.d (.int .i64 a1.Group)), (.sl 576 0 ((List.map d_TRange v2).length)), (.sl 832 0 ((List.map d_TCell v4).length)), (.d (.int .i64 a1.Vote))]) (eS rfl (eS rfl eZ)) eZ rfl rfl (bS rfl (bS rfl (bS rfl bZ))) rfl ?_
  refine xNil ?_
  refine TQ.qn ?_
  refine AW.ret ?_
  obtain rfl := Option.some.inj H
  exact endsR (RL.cons (RV.cellA (es := [(.d (.int .i64 a1.Group)), (.sl 576 0 ((List.map d_TRange v2).length)), (.sl 832 0 ((List.map d_TCell v4).length)), (.d (.int .i64 a1.Vote))]) (eS rfl (eS rfl eZ)) bZ rfl) (VO.aggs (VOs.cons (VO.flat rfl) (VOs.cons (VO.sl (bS rfl (bS rfl (bS rfl bZ))) (by simp) (allFlat fun _ => rfl)) (VOs.cons (VO.sl (bS rfl (bS rfl bZ)) (by simp) (allFlat fun _ => rfl)) (VOs.cons (VO.flat rfl) VOs.nil))))) RL.nil) (by decide)

theorem c_laws_toShareS {a1 : (List TShare)} {r : (List TShare)} (H : m_laws_toShareS a1 = some r) : Fn Try.prog k_laws_toShareS (lent [(.sl 4 (List.map d_TShare a1))]) false [(.sl 4 (List.map d_TShare r))] := by
  refine i_laws_toShareS_fnB (Nat.le_of_ble_eq_true rfl) ?_
  rw [init_mk]
  refine AW.weaken (wk_mk [] (SL.cons (v := (.one (.d (.sl 4 (List.map d_TShare a1))))) eZ rfl VWk.rfl SL.nil) BL.nil BK.nil) ?_
  unfold m_laws_toShareS at H
  unfold i_laws_toShareS
  refine AW.seq ?_
  refine AW.regs ?_
  refine oMov eC ?_
  refine xNil ?_
  refine TQ.qn ?_
  refine AW.seq ?_
  refine AW.regs ?_
  refine oMov (eS rfl eZ) ?_
  refine oLenD eZ (n := a1.length) (List.length_map _) ?_
  obtain ⟨h2, H⟩ := oguard H
  refine oMksl (f := d_TShare) (zv := (TShare.mk 0 ([] : (List TRange)) ([] : (List TCell)) 0)) (own := false) (m := 448) (q := (Int.toNat (a1.length : Int))) rfl rfl eZ eZ h2.1 h2.2 rfl (by decide) rfl nZ ?_
  refine oMov eZ ?_
  refine xNil ?_
  refine TQ.qn ?_
  refine AW.seqJ (fun t3 : (List TShare) => laws_toShareS_j3 t3 = some r) (fun t3 => mk [(3, (.one (.sl 320128 0 t3.length)))] [(320128, (.data 4 (List.map d_TShare t3) false none))] noG) ?_ ?_
  · intro t3 H
    unfold laws_toShareS_j3 at H
    refine AW.seq ?_
    refine AW.regs ?_
    refine oMov eZ ?_
    refine oMov eZ ?_
    refine xNil ?_
    refine TQ.qn ?_
    refine AW.ret ?_
    obtain rfl := Option.some.inj H
    exact endsRB (RB.cons (RV.tmp eZ) (VD.sl bZ (List.length_map _)) RdI.rfl rfl RB.nil)
  · refine AW.seq ?_
    refine AW.regs ?_
    refine oMov eC ?_
    refine xNil ?_
    refine TQ.qn ?_
    refine AW.block ?_
    refine AW.iter (fun s5 : ((List TShare) × Int) => mk [(0, (.one (.d (.sl 4 (List.map d_TShare a1))))), (3, (.one (.sl 320192 0 s5.1.length))), (4, (.one (.d (.int .i64 s5.2))))] [(320192, (.data 4 (List.map d_TShare s5.1) false none))] noG) H ((wk_mk [] (SL.cons (eS rfl (eS rfl (eS rfl (eS rfl (eS rfl (eS rfl eZ)))))) rfl VWk.rfl (SL.cons (eS rfl eZ) rfl (VWk.one (CWk.len (by simp))) (SL.cons eZ rfl VWk.rfl SL.nil))) (BL.keep rfl BL.nil) (BK.cons rfl bZ rfl rfl BK.nil)).trans (wk_ren 448 320192 rfl rfl (nS rfl nZ))) ?_
    intro kb6 s5 H
    unfold laws_toShareS_b5 at H
    refine AW.seq ?_
    refine AW.seq ?_
    refine AW.regs ?_
    refine oMov (eS rfl (eS rfl eZ)) ?_
    refine oMov (eS rfl eZ) ?_
    refine oLenD eZ (n := a1.length) (List.length_map _) ?_
    refine oLss (eS rfl (eS rfl eZ)) eZ ?_
    refine xNil ?_
    refine TQ.qn ?_
    rcases oite H with ⟨h7, H⟩ | ⟨h7, H⟩
    · refine AW.condT eZ (decide_eq_true h7) ?_
      refine AW.skip ?_
      refine TQ.qn ?_
      refine AW.seq ?_
      refine AW.block ?_
      refine AW.regs ?_
      refine oMov (eS rfl (eS rfl (eS rfl (eS rfl (eS rfl eZ))))) ?_
      refine oMov (eS rfl (eS rfl (eS rfl (eS rfl (eS rfl (eS rfl (eS rfl eZ))))))) ?_
      refine oMov (eS rfl (eS rfl (eS rfl (eS rfl (eS rfl (eS rfl eZ)))))) ?_
      refine oMov (eS rfl (eS rfl (eS rfl (eS rfl (eS rfl (eS rfl (eS rfl (eS rfl (eS rfl eZ))))))))) ?_
      obtain ⟨v8, h9, H⟩ := obind H
      refine oAtD (eS rfl eZ) eZ h9 ?_
      refine oLoadBA (es := [(.d (.int .i64 v8.Group)), (.d (.sl 2 (List.map d_TRange v8.Reads))), (.d (.sl 2 (List.map d_TCell v8.Writes))), (.d (.int .i64 v8.Vote))]) eZ rfl ?_
      obtain ⟨v10, h11, H⟩ := obind H
      refine oCall (u := (.agg [(.d (.int .i64 v10.Group)), (.d (.sl 2 (List.map d_TRange v10.Reads))), (.d (.sl 2 (List.map d_TCell v10.Writes))), (.d (.int .i64 v10.Vote))])) eC Cl.fn (c_laws_toShare h11) (Evs.cons eZ Evs.nil) (VDs.cons (VD.agg rfl) VDs.nil) rfl ?_
      obtain ⟨v12, h13, H⟩ := obind H
      refine oAtN (eS rfl (eS rfl (eS rfl (eS rfl (eS rfl (eS rfl eZ)))))) (eS rfl (eS rfl (eS rfl (eS rfl (eS rfl eZ))))) bZ rfl h13 ?_
      refine oStoreD (t := v12) (t' := v10) (es := [(.int .i64 v10.Group), (.sl 2 (List.map d_TRange v10.Reads)), (.sl 2 (List.map d_TCell v10.Writes)), (.int .i64 v10.Vote)]) eZ (eS rfl eZ) rfl rfl bZ (idx_at h13) rfl rfl ?_
      refine xNil ?_
      refine BQ.qn ?_
      refine TQ.qn ?_
      refine AW.regs ?_
      refine oMov (eS rfl (eS rfl (eS rfl (eS rfl (eS rfl (eS rfl (eS rfl (eS rfl (eS rfl (eS rfl (eS rfl (eS rfl (eS rfl (eS rfl eZ)))))))))))))) ?_
      refine oAdd eZ eC ?_
      refine oMov eZ ?_
      refine xNil ?_
      exact TQ.qn ⟨(s5.1.set (Int.toNat s5.2) v10, (IntKind.wrap .i64 (s5.2 + 1))), H, (wk_mk [] (SL.cons (eS rfl (eS rfl (eS rfl (eS rfl (eS rfl (eS rfl (eS rfl (eS rfl (eS rfl (eS rfl (eS rfl (eS rfl (eS rfl (eS rfl (eS rfl eZ))))))))))))))) rfl VWk.rfl (SL.cons (eS rfl (eS rfl (eS rfl (eS rfl (eS rfl (eS rfl (eS rfl (eS rfl (eS rfl (eS rfl (eS rfl (eS rfl (eS rfl (eS rfl (eS rfl (eS rfl eZ)))))))))))))))) rfl (VWk.one (CWk.len (by simp))) (SL.cons eZ rfl VWk.rfl SL.nil))) (BL.keep rfl (BL.keep rfl BL.nil)) (BK.cons rfl bZ rfl rfl BK.nil))⟩
    · refine AW.condF eZ (decide_eq_false h7) ?_
      refine AW.exit ?_
      refine TQ.qe ?_
      refine TQ.qe ?_
      refine BQ.qe ?_
      exact TQ.qn ⟨s5.1, H, ((wk_mk [] (SL.cons (eS rfl (eS rfl (eS rfl (eS rfl (eS rfl eZ))))) rfl VWk.rfl SL.nil) (BL.keep rfl BL.nil) (BK.cons rfl bZ rfl rfl BK.nil)).trans (wk_ren 320192 320128 rfl rfl (nS rfl nZ)))⟩

theorem c_laws_toRec {a1 : TRec} {r : TRec} (H : m_laws_toRec a1 = some r) : Fn Try.prog k_laws_toRec (lent [(.agg (d_TRec a1))]) false [(.agg (d_TRec r))] := by
  refine i_laws_toRec_fnB (Nat.le_of_ble_eq_true rfl) ?_
  rw [init_mk]
  refine AW.weaken (wk_mk [] (SL.cons (v := (.agg [(.d (.int .i64 a1.Tx)), (.d (.int .i64 a1.Client)), (.d (.int .i64 a1.Req)), (.d (.int .i64 a1.State)), (.d (.sl 4 (List.map d_TShare a1.Shares)))])) eZ rfl VWk.rfl SL.nil) BL.nil BK.nil) ?_
  unfold m_laws_toRec at H
  unfold i_laws_toRec
  refine AW.seq ?_
  refine AW.regs ?_
  refine oBox (n := 64) (m := 5) (cs := [(.d (.int .i64 a1.Tx)), (.d (.int .i64 a1.Client)), (.d (.int .i64 a1.Req)), (.d (.int .i64 a1.State)), (.d (.sl 4 (List.map d_TShare a1.Shares)))]) rfl eZ rfl rfl nZ ?_
  refine oVar (n := 128) (m := 5) rfl rfl (nS rfl nZ) ?_
  refine xNil ?_
  refine TQ.qn ?_
  refine AW.seq ?_
  refine AW.regs ?_
  refine oVar (n := 192) (m := 5) rfl rfl (nS rfl (nS rfl nZ)) ?_
  refine xNil ?_
  refine TQ.qn ?_
  refine AW.seq ?_
  refine AW.regs ?_
  refine oFaddrN (m := 0) (eS rfl (eS rfl eZ)) rfl ?_
  refine oLoadV (q := 0) (c := (.d (.int .i64 a1.Tx))) eZ (bS rfl (bS rfl bZ)) rfl rfl ?_
  refine oFaddrN (m := 0) (eS rfl (eS rfl eZ)) rfl ?_
  refine oStoreV (es := [(.d (.int .i64 a1.Tx)), (.d (.int .i64 0)), (.d (.int .i64 0)), (.d (.int .i64 0)), .zs]) eZ (eS rfl eZ) rfl rfl bZ rfl ?_
  refine xNil ?_
  refine TQ.qn ?_
  refine AW.seq ?_
  refine AW.regs ?_
  refine oFaddrN (m := 1) (eS rfl (eS rfl (eS rfl (eS rfl (eS rfl eZ))))) rfl ?_
  refine oLoadV (q := 1) (c := (.d (.int .i64 a1.Client))) eZ (bS rfl (bS rfl (bS rfl bZ))) rfl rfl ?_
  refine oFaddrN (m := 1) (eS rfl (eS rfl (eS rfl (eS rfl (eS rfl eZ))))) rfl ?_
  refine oStoreV (es := [(.d (.int .i64 a1.Tx)), (.d (.int .i64 a1.Client)), (.d (.int .i64 0)), (.d (.int .i64 0)), .zs]) eZ (eS rfl eZ) rfl rfl bZ rfl ?_
  refine xNil ?_
  refine TQ.qn ?_
  refine AW.seq ?_
  refine AW.regs ?_
  refine oFaddrN (m := 2) (eS rfl (eS rfl (eS rfl (eS rfl (eS rfl (eS rfl (eS rfl (eS rfl eZ)))))))) rfl ?_
  refine oLoadV (q := 2) (c := (.d (.int .i64 a1.Req))) eZ (bS rfl (bS rfl (bS rfl (bS rfl bZ)))) rfl rfl ?_
  refine oFaddrN (m := 2) (eS rfl (eS rfl (eS rfl (eS rfl (eS rfl (eS rfl (eS rfl (eS rfl eZ)))))))) rfl ?_
  refine oStoreV (es := [(.d (.int .i64 a1.Tx)), (.d (.int .i64 a1.Client)), (.d (.int .i64 a1.Req)), (.d (.int .i64 0)), .zs]) eZ (eS rfl eZ) rfl rfl bZ rfl ?_
  refine xNil ?_
  refine TQ.qn ?_
  refine AW.seq ?_
  refine AW.regs ?_
  refine oFaddrN (m := 3) (eS rfl (eS rfl (eS rfl (eS rfl (eS rfl (eS rfl (eS rfl (eS rfl (eS rfl (eS rfl (eS rfl eZ))))))))))) rfl ?_
  refine oLoadV (q := 3) (c := (.d (.int .i64 a1.State))) eZ (bS rfl (bS rfl (bS rfl (bS rfl (bS rfl bZ))))) rfl rfl ?_
  refine oFaddrN (m := 3) (eS rfl (eS rfl (eS rfl (eS rfl (eS rfl (eS rfl (eS rfl (eS rfl (eS rfl (eS rfl (eS rfl eZ))))))))))) rfl ?_
  refine oStoreV (es := [(.d (.int .i64 a1.Tx)), (.d (.int .i64 a1.Client)), (.d (.int .i64 a1.Req)), (.d (.int .i64 a1.State)), .zs]) eZ (eS rfl eZ) rfl rfl bZ rfl ?_
  refine xNil ?_
  refine TQ.qn ?_
  refine AW.weaken (wk_mk [] (SL.cons (k := 3) (eS rfl (eS rfl (eS rfl (eS rfl (eS rfl (eS rfl (eS rfl (eS rfl (eS rfl (eS rfl (eS rfl (eS rfl eZ)))))))))))) rfl VWk.rfl (SL.cons (k := 2) (eS rfl (eS rfl (eS rfl (eS rfl (eS rfl (eS rfl (eS rfl (eS rfl (eS rfl (eS rfl (eS rfl (eS rfl (eS rfl eZ))))))))))))) rfl VWk.rfl (SL.cons (k := 1) (eS rfl (eS rfl (eS rfl (eS rfl (eS rfl (eS rfl (eS rfl (eS rfl (eS rfl (eS rfl (eS rfl (eS rfl (eS rfl (eS rfl eZ)))))))))))))) rfl VWk.rfl SL.nil))) (BL.keep rfl (BL.keep rfl (BL.keep rfl (BL.keep rfl (BL.keep rfl (BL.keep rfl (BL.keep rfl BL.nil))))))) (BK.cons (n := 192) rfl bZ rfl rfl (BK.cons (n := 128) rfl (bS rfl (bS rfl (bS rfl (bS rfl (bS rfl bZ))))) rfl rfl (BK.cons (n := 64) rfl (bS rfl (bS rfl (bS rfl (bS rfl (bS rfl (bS rfl bZ)))))) rfl rfl BK.nil)))) ?_
  refine AW.seq ?_
  refine AW.regs ?_
  refine oFaddrN (m := 4) (eS rfl (eS rfl eZ)) rfl ?_
  refine oLoadV (q := 4) (c := (.d (.sl 4 (List.map d_TShare a1.Shares)))) eZ (bS rfl (bS rfl bZ)) rfl rfl ?_
  obtain ⟨v2, h3, H⟩ := obind H
  refine oCallB (u := (.one (.d (.sl 4 (List.map d_TShare v2))))) eC Cl.fn (c_laws_toShareS h3) (Evs.cons eZ Evs.nil) (VDs.cons VD.plain VDs.nil) rfl rfl ?_
  refine oFaddrN (m := 4) (eS rfl (eS rfl (eS rfl eZ))) rfl ?_
  refine oStoreV (es := [(.d (.int .i64 a1.Tx)), (.d (.int .i64 a1.Client)), (.d (.int .i64 a1.Req)), (.d (.int .i64 a1.State)), (.d (.sl 4 (List.map d_TShare v2)))]) eZ (eS rfl eZ) rfl rfl bZ rfl ?_
  refine xNil ?_
  refine TQ.qn ?_
  refine AW.seq ?_
  refine AW.regs ?_
  refine oLoadVA (es := [(.d (.int .i64 a1.Tx)), (.d (.int .i64 a1.Client)), (.d (.int .i64 a1.Req)), (.d (.int .i64 a1.State)), (.d (.sl 4 (List.map d_TShare v2)))]) (eS rfl (eS rfl (eS rfl (eS rfl eZ)))) bZ rfl ?_
  refine oStoreV (es := [(.d (.int .i64 a1.Tx)), (.d (.int .i64 a1.Client)), (.d (.int .i64 a1.Req)), (.d (.int .i64 a1.State)), (.d (.sl 4 (List.map d_TShare v2)))]) (eS rfl (eS rfl (eS rfl (eS rfl (eS rfl (eS rfl eZ)))))) eZ rfl rfl (bS rfl (bS rfl bZ)) rfl ?_
  refine xNil ?_
  refine TQ.qn ?_
  refine AW.ret ?_
  obtain rfl := Option.some.inj H
  exact endsRB (RB.cons (RV.cellA (es := [(.d (.int .i64 a1.Tx)), (.d (.int .i64 a1.Client)), (.d (.int .i64 a1.Req)), (.d (.int .i64 a1.State)), (.d (.sl 4 (List.map d_TShare v2)))]) (eS rfl (eS rfl (eS rfl (eS rfl (eS rfl (eS rfl eZ)))))) bZ rfl) (VD.agg rfl) RdI.rfl rfl RB.nil)

theorem c_laws_toRecS {a1 : (List TRec)} {r : (List TRec)} (H : m_laws_toRecS a1 = some r) : Fn Try.prog k_laws_toRecS (lent [(.sl 5 (List.map d_TRec a1))]) false [(.sl 5 (List.map d_TRec r))] := by
  refine i_laws_toRecS_fnB (Nat.le_of_ble_eq_true rfl) ?_
  rw [init_mk]
  refine AW.weaken (wk_mk [] (SL.cons (v := (.one (.d (.sl 5 (List.map d_TRec a1))))) eZ rfl VWk.rfl SL.nil) BL.nil BK.nil) ?_
  unfold m_laws_toRecS at H
  unfold i_laws_toRecS
  refine AW.seq ?_
  refine AW.regs ?_
  refine oMov eC ?_
  refine xNil ?_
  refine TQ.qn ?_
  refine AW.seq ?_
  refine AW.regs ?_
  refine oMov (eS rfl eZ) ?_
  refine oLenD eZ (n := a1.length) (List.length_map _) ?_
  obtain ⟨h2, H⟩ := oguard H
  refine oMksl (f := d_TRec) (zv := (TRec.mk 0 0 0 0 ([] : (List TShare)))) (own := false) (m := 448) (q := (Int.toNat (a1.length : Int))) rfl rfl eZ eZ h2.1 h2.2 rfl (by decide) rfl nZ ?_
  refine oMov eZ ?_
  refine xNil ?_
  refine TQ.qn ?_
  refine AW.seqJ (fun t3 : (List TRec) => laws_toRecS_j3 t3 = some r) (fun t3 => mk [(3, (.one (.sl 320128 0 t3.length)))] [(320128, (.data 5 (List.map d_TRec t3) false none))] noG) ?_ ?_
  · intro t3 H
    unfold laws_toRecS_j3 at H
    refine AW.seq ?_
    refine AW.regs ?_
    refine oMov eZ ?_
    refine oMov eZ ?_
    refine xNil ?_
    refine TQ.qn ?_
    refine AW.ret ?_
    obtain rfl := Option.some.inj H
    exact endsRB (RB.cons (RV.tmp eZ) (VD.sl bZ (List.length_map _)) RdI.rfl rfl RB.nil)
  · refine AW.seq ?_
    refine AW.regs ?_
    refine oMov eC ?_
    refine xNil ?_
    refine TQ.qn ?_
    refine AW.block ?_
    refine AW.iter (fun s5 : ((List TRec) × Int) => mk [(0, (.one (.d (.sl 5 (List.map d_TRec a1))))), (3, (.one (.sl 320192 0 s5.1.length))), (4, (.one (.d (.int .i64 s5.2))))] [(320192, (.data 5 (List.map d_TRec s5.1) false none))] noG) H ((wk_mk [] (SL.cons (eS rfl (eS rfl (eS rfl (eS rfl (eS rfl (eS rfl eZ)))))) rfl VWk.rfl (SL.cons (eS rfl eZ) rfl (VWk.one (CWk.len (by simp))) (SL.cons eZ rfl VWk.rfl SL.nil))) (BL.keep rfl BL.nil) (BK.cons rfl bZ rfl rfl BK.nil)).trans (wk_ren 448 320192 rfl rfl (nS rfl nZ))) ?_
    intro kb6 s5 H
    unfold laws_toRecS_b5 at H
    refine AW.seq ?_
    refine AW.seq ?_
    refine AW.regs ?_
    refine oMov (eS rfl (eS rfl eZ)) ?_
    refine oMov (eS rfl eZ) ?_
    refine oLenD eZ (n := a1.length) (List.length_map _) ?_
    refine oLss (eS rfl (eS rfl eZ)) eZ ?_
    refine xNil ?_
    refine TQ.qn ?_
    rcases oite H with ⟨h7, H⟩ | ⟨h7, H⟩
    · refine AW.condT eZ (decide_eq_true h7) ?_
      refine AW.skip ?_
      refine TQ.qn ?_
      refine AW.seq ?_
      refine AW.block ?_
      refine AW.regs ?_
      refine oMov (eS rfl (eS rfl (eS rfl (eS rfl (eS rfl eZ))))) ?_
      refine oMov (eS rfl (eS rfl (eS rfl (eS rfl (eS rfl (eS rfl (eS rfl eZ))))))) ?_
      refine oMov (eS rfl (eS rfl (eS rfl (eS rfl (eS rfl (eS rfl eZ)))))) ?_
      refine oMov (eS rfl (eS rfl (eS rfl (eS rfl (eS rfl (eS rfl (eS rfl (eS rfl (eS rfl eZ))))))))) ?_
      obtain ⟨v8, h9, H⟩ := obind H
      refine oAtD (eS rfl eZ) eZ h9 ?_
      refine oLoadBA (es := [(.d (.int .i64 v8.Tx)), (.d (.int .i64 v8.Client)), (.d (.int .i64 v8.Req)), (.d (.int .i64 v8.State)), (.d (.sl 4 (List.map d_TShare v8.Shares)))]) eZ rfl ?_
      obtain ⟨v10, h11, H⟩ := obind H
      refine oCallB (u := (.agg [(.d (.int .i64 v10.Tx)), (.d (.int .i64 v10.Client)), (.d (.int .i64 v10.Req)), (.d (.int .i64 v10.State)), (.d (.sl 4 (List.map d_TShare v10.Shares)))])) eC Cl.fn (c_laws_toRec h11) (Evs.cons eZ Evs.nil) (VDs.cons (VD.agg rfl) VDs.nil) rfl rfl ?_
      obtain ⟨v12, h13, H⟩ := obind H
      refine oAtN (eS rfl (eS rfl (eS rfl (eS rfl (eS rfl (eS rfl eZ)))))) (eS rfl (eS rfl (eS rfl (eS rfl (eS rfl eZ))))) bZ rfl h13 ?_
      refine oStoreD (t := v12) (t' := v10) (es := [(.int .i64 v10.Tx), (.int .i64 v10.Client), (.int .i64 v10.Req), (.int .i64 v10.State), (.sl 4 (List.map d_TShare v10.Shares))]) eZ (eS rfl eZ) rfl rfl bZ (idx_at h13) rfl rfl ?_
      refine xNil ?_
      refine BQ.qn ?_
      refine TQ.qn ?_
      refine AW.regs ?_
      refine oMov (eS rfl (eS rfl (eS rfl (eS rfl (eS rfl (eS rfl (eS rfl (eS rfl (eS rfl (eS rfl (eS rfl (eS rfl (eS rfl (eS rfl eZ)))))))))))))) ?_
      refine oAdd eZ eC ?_
      refine oMov eZ ?_
      refine xNil ?_
      exact TQ.qn ⟨(s5.1.set (Int.toNat s5.2) v10, (IntKind.wrap .i64 (s5.2 + 1))), H, (wk_mk [] (SL.cons (eS rfl (eS rfl (eS rfl (eS rfl (eS rfl (eS rfl (eS rfl (eS rfl (eS rfl (eS rfl (eS rfl (eS rfl (eS rfl (eS rfl (eS rfl eZ))))))))))))))) rfl VWk.rfl (SL.cons (eS rfl (eS rfl (eS rfl (eS rfl (eS rfl (eS rfl (eS rfl (eS rfl (eS rfl (eS rfl (eS rfl (eS rfl (eS rfl (eS rfl (eS rfl (eS rfl eZ)))))))))))))))) rfl (VWk.one (CWk.len (by simp))) (SL.cons eZ rfl VWk.rfl SL.nil))) (BL.keep rfl (BL.keep rfl BL.nil)) (BK.cons rfl bZ rfl rfl BK.nil))⟩
    · refine AW.condF eZ (decide_eq_false h7) ?_
      refine AW.exit ?_
      refine TQ.qe ?_
      refine TQ.qe ?_
      refine BQ.qe ?_
      exact TQ.qn ⟨s5.1, H, ((wk_mk [] (SL.cons (eS rfl (eS rfl (eS rfl (eS rfl (eS rfl eZ))))) rfl VWk.rfl SL.nil) (BL.keep rfl BL.nil) (BK.cons rfl bZ rfl rfl BK.nil)).trans (wk_ren 320192 320128 rfl rfl (nS rfl nZ)))⟩

theorem c_laws_toIntS {a1 : (List Int)} {r : (List Int)} (H : m_laws_toIntS a1 = some r) : Fn Try.prog k_laws_toIntS (lent [(.sl 1 (List.map d_i64 a1))]) true [(.sl 1 (List.map d_i64 r))] := by
  refine i_laws_toIntS_fn (Nat.le_of_ble_eq_true rfl) ?_
  rw [init_mk]
  refine AW.weaken (wk_mk [] (SL.cons (v := (.one (.d (.sl 1 (List.map d_i64 a1))))) eZ rfl VWk.rfl SL.nil) BL.nil BK.nil) ?_
  unfold m_laws_toIntS at H
  unfold i_laws_toIntS
  refine AW.seq ?_
  refine AW.regs ?_
  refine oMov eC ?_
  refine xNil ?_
  refine TQ.qn ?_
  refine AW.seq ?_
  refine AW.regs ?_
  refine oMov (eS rfl eZ) ?_
  refine oLenD eZ (n := a1.length) (List.length_map _) ?_
  obtain ⟨h2, H⟩ := oguard H
  refine oMksl (f := d_i64) (zv := 0) (own := true) (m := 448) (q := (Int.toNat (a1.length : Int))) rfl rfl eZ eZ h2.1 h2.2 rfl (by decide) rfl nZ ?_
  refine oMov eZ ?_
  refine xNil ?_
  refine TQ.qn ?_
  refine AW.seqJ (fun t3 : (List Int) => laws_toIntS_j3 t3 = some r) (fun t3 => mk [(3, (.one (.sl 320128 0 t3.length)))] [(320128, (.data 1 (List.map d_i64 t3) true none))] noG) ?_ ?_
  · intro t3 H
    unfold laws_toIntS_j3 at H
    refine AW.seq ?_
    refine AW.regs ?_
    refine oMov eZ ?_
    refine oMov eZ ?_
    refine xNil ?_
    refine TQ.qn ?_
    refine AW.ret ?_
    obtain rfl := Option.some.inj H
    exact endsR (RL.cons (RV.tmp eZ) (VO.sl bZ (List.length_map _) (allFlat fun _ => rfl)) RL.nil) (by decide)
  · refine AW.seq ?_
    refine AW.regs ?_
    refine oMov eC ?_
    refine xNil ?_
    refine TQ.qn ?_
    refine AW.block ?_
    refine AW.iter (fun s5 : ((List Int) × Int) => mk [(0, (.one (.d (.sl 1 (List.map d_i64 a1))))), (3, (.one (.sl 320192 0 s5.1.length))), (4, (.one (.d (.int .i64 s5.2))))] [(320192, (.data 1 (List.map d_i64 s5.1) true none))] noG) H ((wk_mk [] (SL.cons (eS rfl (eS rfl (eS rfl (eS rfl (eS rfl (eS rfl eZ)))))) rfl VWk.rfl (SL.cons (eS rfl eZ) rfl (VWk.one (CWk.len (by simp))) (SL.cons eZ rfl VWk.rfl SL.nil))) (BL.keep rfl BL.nil) (BK.cons rfl bZ rfl rfl BK.nil)).trans (wk_ren 448 320192 rfl rfl (nS rfl nZ))) ?_
    intro kb6 s5 H
    unfold laws_toIntS_b5 at H
    refine AW.seq ?_
    refine AW.seq ?_
    refine AW.regs ?_
    refine oMov (eS rfl (eS rfl eZ)) ?_
    refine oMov (eS rfl eZ) ?_
    refine oLenD eZ (n := a1.length) (List.length_map _) ?_
    refine oLss (eS rfl (eS rfl eZ)) eZ ?_
    refine xNil ?_
    refine TQ.qn ?_
    rcases oite H with ⟨h7, H⟩ | ⟨h7, H⟩
    · refine AW.condT eZ (decide_eq_true h7) ?_
      refine AW.skip ?_
      refine TQ.qn ?_
      refine AW.seq ?_
      refine AW.block ?_
      refine AW.regs ?_
      refine oMov (eS rfl (eS rfl (eS rfl (eS rfl (eS rfl eZ))))) ?_
      refine oMov (eS rfl (eS rfl (eS rfl (eS rfl (eS rfl (eS rfl (eS rfl eZ))))))) ?_
      refine oMov (eS rfl (eS rfl (eS rfl (eS rfl (eS rfl (eS rfl eZ)))))) ?_
      refine oMov (eS rfl (eS rfl (eS rfl (eS rfl (eS rfl (eS rfl (eS rfl (eS rfl (eS rfl eZ))))))))) ?_
      obtain ⟨v8, h9, H⟩ := obind H
      refine oAtD (eS rfl eZ) eZ h9 ?_
      refine oLoadB (e := (.int .i64 v8)) eZ rfl ?_
      obtain ⟨v10, h11, H⟩ := obind H
      refine oAtN (eS rfl (eS rfl (eS rfl (eS rfl (eS rfl eZ))))) (eS rfl (eS rfl (eS rfl (eS rfl eZ)))) bZ rfl h11 ?_
      refine oStoreD (t := v10) (t' := v8) (es := [(.int .i64 v8)]) eZ (eS rfl eZ) rfl rfl bZ (idx_at h11) rfl rfl ?_
      refine xNil ?_
      refine BQ.qn ?_
      refine TQ.qn ?_
      refine AW.regs ?_
      refine oMov (eS rfl (eS rfl (eS rfl (eS rfl (eS rfl (eS rfl (eS rfl (eS rfl (eS rfl (eS rfl (eS rfl (eS rfl (eS rfl eZ))))))))))))) ?_
      refine oAdd eZ eC ?_
      refine oMov eZ ?_
      refine xNil ?_
      exact TQ.qn ⟨(s5.1.set (Int.toNat s5.2) v8, (IntKind.wrap .i64 (s5.2 + 1))), H, (wk_mk [] (SL.cons (eS rfl (eS rfl (eS rfl (eS rfl (eS rfl (eS rfl (eS rfl (eS rfl (eS rfl (eS rfl (eS rfl (eS rfl (eS rfl (eS rfl eZ)))))))))))))) rfl VWk.rfl (SL.cons (eS rfl (eS rfl (eS rfl (eS rfl (eS rfl (eS rfl (eS rfl (eS rfl (eS rfl (eS rfl (eS rfl (eS rfl (eS rfl (eS rfl (eS rfl eZ))))))))))))))) rfl (VWk.one (CWk.len (by simp))) (SL.cons eZ rfl VWk.rfl SL.nil))) (BL.keep rfl (BL.keep rfl BL.nil)) (BK.cons rfl bZ rfl rfl BK.nil))⟩
    · refine AW.condF eZ (decide_eq_false h7) ?_
      refine AW.exit ?_
      refine TQ.qe ?_
      refine TQ.qe ?_
      refine BQ.qe ?_
      exact TQ.qn ⟨s5.1, H, ((wk_mk [] (SL.cons (eS rfl (eS rfl (eS rfl (eS rfl (eS rfl eZ))))) rfl VWk.rfl SL.nil) (BL.keep rfl BL.nil) (BK.cons rfl bZ rfl rfl BK.nil)).trans (wk_ren 320192 320128 rfl rfl (nS rfl nZ)))⟩

theorem c_laws_toCoord {a1 : TCoord} {r : TCoord} (H : m_laws_toCoord a1 = some r) : Fn Try.prog k_laws_toCoord (lent [(.agg (d_TCoord a1))]) false [(.agg (d_TCoord r))] := by
  refine i_laws_toCoord_fnB (Nat.le_of_ble_eq_true rfl) ?_
  rw [init_mk]
  refine AW.weaken (wk_mk [] (SL.cons (v := (.agg [(.d (.sl 5 (List.map d_TRec a1.Recs))), (.d (.sl 1 (List.map d_i64 a1.Order)))])) eZ rfl VWk.rfl SL.nil) BL.nil BK.nil) ?_
  unfold m_laws_toCoord at H
  unfold i_laws_toCoord
  refine AW.seq ?_
  refine AW.regs ?_
  refine oBox (n := 64) (m := 2) (cs := [(.d (.sl 5 (List.map d_TRec a1.Recs))), (.d (.sl 1 (List.map d_i64 a1.Order)))]) rfl eZ rfl rfl nZ ?_
  refine oVar (n := 128) (m := 2) rfl rfl (nS rfl nZ) ?_
  refine xNil ?_
  refine TQ.qn ?_
  refine AW.seq ?_
  refine AW.regs ?_
  refine oVar (n := 192) (m := 2) rfl rfl (nS rfl (nS rfl nZ)) ?_
  refine xNil ?_
  refine TQ.qn ?_
  refine AW.seq ?_
  refine AW.regs ?_
  refine oFaddrN (m := 0) (eS rfl (eS rfl eZ)) rfl ?_
  refine oLoadV (q := 0) (c := (.d (.sl 5 (List.map d_TRec a1.Recs)))) eZ (bS rfl (bS rfl bZ)) rfl rfl ?_
  obtain ⟨v2, h3, H⟩ := obind H
  refine oCallB (u := (.one (.d (.sl 5 (List.map d_TRec v2))))) eC Cl.fn (c_laws_toRecS h3) (Evs.cons eZ Evs.nil) (VDs.cons VD.plain VDs.nil) rfl rfl ?_
  refine oFaddrN (m := 0) (eS rfl (eS rfl (eS rfl eZ))) rfl ?_
  refine oStoreV (es := [(.d (.sl 5 (List.map d_TRec v2))), .zs]) eZ (eS rfl eZ) rfl rfl bZ rfl ?_
  refine xNil ?_
  refine TQ.qn ?_
  refine AW.seq ?_
  refine AW.regs ?_
  refine oFaddrN (m := 1) (eS rfl (eS rfl (eS rfl (eS rfl (eS rfl (eS rfl eZ)))))) rfl ?_
  refine oLoadV (q := 1) (c := (.d (.sl 1 (List.map d_i64 a1.Order)))) eZ (bS rfl (bS rfl (bS rfl bZ))) rfl rfl ?_
  obtain ⟨v4, h5, H⟩ := obind H
  refine oCall (u := (.one (.d (.sl 1 (List.map d_i64 v4))))) eC Cl.fn (c_laws_toIntS h5) (Evs.cons eZ Evs.nil) (VDs.cons VD.plain VDs.nil) rfl ?_
  refine oFaddrN (m := 1) (eS rfl (eS rfl (eS rfl (eS rfl (eS rfl (eS rfl (eS rfl eZ))))))) rfl ?_
  refine oStoreV (es := [(.d (.sl 5 (List.map d_TRec v2))), (.d (.sl 1 (List.map d_i64 v4)))]) eZ (eS rfl eZ) rfl rfl bZ rfl ?_
  refine xNil ?_
  refine TQ.qn ?_
  refine AW.seq ?_
  refine AW.regs ?_
  refine oLoadVA (es := [(.d (.sl 5 (List.map d_TRec v2))), (.d (.sl 1 (List.map d_i64 v4)))]) (eS rfl (eS rfl (eS rfl (eS rfl (eS rfl (eS rfl (eS rfl (eS rfl eZ)))))))) bZ rfl ?_
  refine oStoreV (es := [(.d (.sl 5 (List.map d_TRec v2))), (.d (.sl 1 (List.map d_i64 v4)))]) (eS rfl (eS rfl (eS rfl (eS rfl (eS rfl (eS rfl (eS rfl (eS rfl (eS rfl (eS rfl eZ)))))))))) eZ rfl rfl (bS rfl (bS rfl (bS rfl bZ))) rfl ?_
  refine xNil ?_
  refine TQ.qn ?_
  refine AW.ret ?_
  obtain rfl := Option.some.inj H
  exact endsRB (RB.cons (RV.cellA (es := [(.d (.sl 5 (List.map d_TRec v2))), (.d (.sl 1 (List.map d_i64 v4)))]) (eS rfl (eS rfl (eS rfl (eS rfl (eS rfl (eS rfl (eS rfl (eS rfl (eS rfl (eS rfl eZ)))))))))) bZ rfl) (VD.agg rfl) RdI.rfl rfl RB.nil)

theorem c_spec_l1In {a1 : Int} {a2 : Int} {a3 : Int} {r : Bool} (H : m_spec_l1In a1 a2 a3 = some r) : Fn Try.prog k_spec_l1In (lent [(.int .i64 a1), (.int .i64 a2), (.int .i64 a3)]) true [(.bool r)] := by
  refine i_spec_l1In_fn (Nat.le_of_ble_eq_true rfl) ?_
  rw [init_mk]
  refine AW.weaken (wk_mk [] (SL.cons (v := (.one (.d (.int .i64 a1)))) eZ rfl VWk.rfl (SL.cons (v := (.one (.d (.int .i64 a2)))) (eS rfl eZ) rfl VWk.rfl (SL.cons (v := (.one (.d (.int .i64 a3)))) (eS rfl (eS rfl eZ)) rfl VWk.rfl SL.nil))) BL.nil BK.nil) ?_
  unfold m_spec_l1In at H
  unfold i_spec_l1In
  refine AW.seq ?_
  refine AW.regs ?_
  refine oMov eC ?_
  refine xNil ?_
  refine TQ.qn ?_
  refine AW.seq ?_
  refine AW.regs ?_
  refine oMov (eS rfl eZ) ?_
  refine oMov (eS rfl (eS rfl (eS rfl eZ))) ?_
  refine oGeq (eS rfl eZ) eZ ?_
  refine oMov eZ ?_
  rcases oite H with ⟨h4, H⟩ | ⟨h4, H⟩
  · refine gDo eZ (decide_eq_true h4) ?_
    refine oMov (eS rfl (eS rfl (eS rfl (eS rfl (eS rfl eZ))))) ?_
    refine gDo (eS rfl eZ) (decide_eq_true h4) ?_
    refine oMov (eS rfl (eS rfl (eS rfl (eS rfl (eS rfl (eS rfl (eS rfl (eS rfl eZ)))))))) ?_
    refine gDo (eS rfl (eS rfl eZ)) (decide_eq_true h4) ?_
    refine oLeq (eS rfl eZ) eZ ?_
    refine oPickT (eS rfl (eS rfl (eS rfl eZ))) (decide_eq_true h4) eZ ?_
    refine oMov eZ ?_
    refine xNil ?_
    refine TQ.qn ?_
    refine AW.ret ?_
    obtain rfl := Option.some.inj H
    exact endsR (RL.cons (RV.tmp eZ) (VO.flat rfl) RL.nil) List.nodup_nil
  · refine gSkip eZ (decide_eq_false h4) rfl ?_
    refine gSkip (eS rfl eZ) (decide_eq_false h4) rfl ?_
    refine gSkip (eS rfl (eS rfl eZ)) (decide_eq_false h4) rfl ?_
    refine oPickF (eS rfl (eS rfl (eS rfl eZ))) (decide_eq_false h4) eC ?_
    refine oMov eZ ?_
    refine xNil ?_
    refine TQ.qn ?_
    refine AW.ret ?_
    obtain rfl := Option.some.inj H
    exact endsR (RL.cons (RV.tmp eZ) (VO.flat rfl) RL.nil) List.nodup_nil

theorem c_spec_l1Whole {a1 : Int} {r : Bool} (H : m_spec_l1Whole a1 = some r) : Fn Try.prog k_spec_l1Whole (lent [(.int .i64 a1)]) true [(.bool r)] := by
  refine i_spec_l1Whole_fn (Nat.le_of_ble_eq_true rfl) ?_
  rw [init_mk]
  refine AW.weaken (wk_mk [] (SL.cons (v := (.one (.d (.int .i64 a1)))) eZ rfl VWk.rfl SL.nil) BL.nil BK.nil) ?_
  unfold m_spec_l1Whole at H
  unfold i_spec_l1Whole
  refine AW.seq ?_
  refine AW.regs ?_
  refine oMov eC ?_
  refine xNil ?_
  refine TQ.qn ?_
  refine AW.seq ?_
  refine AW.regs ?_
  refine oMov (eS rfl eZ) ?_
  obtain ⟨v2, h3, H⟩ := obind H
  refine oCall (u := (.one (.d (.bool v2)))) eC Cl.fn (c_spec_l1In h3) (Evs.cons eZ (Evs.cons eC (Evs.cons eC Evs.nil))) (VDs.cons VD.plain (VDs.cons VD.plain (VDs.cons VD.plain VDs.nil))) rfl ?_
  refine oMov eZ ?_
  refine xNil ?_
  refine TQ.qn ?_
  refine AW.ret ?_
  obtain rfl := Option.some.inj H
  exact endsR (RL.cons (RV.tmp eZ) (VO.flat rfl) RL.nil) List.nodup_nil

theorem c_spec_l10Key {a1 : Int} {r : Bool} (H : m_spec_l10Key a1 = some r) : Fn Try.prog k_spec_l10Key (lent [(.int .i64 a1)]) true [(.bool r)] := by
  refine i_spec_l10Key_fn (Nat.le_of_ble_eq_true rfl) ?_
  rw [init_mk]
  refine AW.weaken (wk_mk [] (SL.cons (v := (.one (.d (.int .i64 a1)))) eZ rfl VWk.rfl SL.nil) BL.nil BK.nil) ?_
  unfold m_spec_l10Key at H
  unfold i_spec_l10Key
  refine AW.seq ?_
  refine AW.regs ?_
  refine oMov eC ?_
  refine xNil ?_
  refine TQ.qn ?_
  refine AW.seq ?_
  refine AW.regs ?_
  refine oMov (eS rfl eZ) ?_
  obtain ⟨v2, h3, H⟩ := obind H
  refine oCall (u := (.one (.d (.bool v2)))) eC Cl.fn (c_spec_l1In h3) (Evs.cons eZ (Evs.cons eC (Evs.cons eC Evs.nil))) (VDs.cons VD.plain (VDs.cons VD.plain (VDs.cons VD.plain VDs.nil))) rfl ?_
  refine oMov eZ ?_
  refine xNil ?_
  refine TQ.qn ?_
  refine AW.ret ?_
  obtain rfl := Option.some.inj H
  exact endsR (RL.cons (RV.tmp eZ) (VO.flat rfl) RL.nil) List.nodup_nil

theorem c_spec_WritesOk {a1 : (List TCell)} {r : Bool} (H : m_spec_WritesOk a1 = some r) : Fn Try.prog k_spec_WritesOk (lent [(.sl 2 (List.map d_TCell a1))]) true [(.bool r)] := by
  refine i_spec_WritesOk_fn (Nat.le_of_ble_eq_true rfl) ?_
  rw [init_mk]
  refine AW.weaken (wk_mk [] (SL.cons (v := (.one (.d (.sl 2 (List.map d_TCell a1))))) eZ rfl VWk.rfl SL.nil) BL.nil BK.nil) ?_
  unfold m_spec_WritesOk at H
  unfold i_spec_WritesOk
  refine AW.seq ?_
  refine AW.regs ?_
  refine oMov eC ?_
  refine xNil ?_
  refine TQ.qn ?_
  refine AW.seq ?_
  refine AW.seq ?_
  refine AW.regs ?_
  refine oMov (eS rfl eZ) ?_
  refine oLenD eZ (n := a1.length) (List.length_map _) ?_
  refine oGtr eZ eC ?_
  refine xNil ?_
  refine TQ.qn ?_
  rcases oite H with ⟨h2, H⟩ | ⟨h2, H⟩
  · refine AW.condT eZ (decide_eq_true h2) ?_
    refine AW.seq ?_
    refine AW.regs ?_
    refine oMov eC ?_
    refine xNil ?_
    refine TQ.qn ?_
    refine AW.ret ?_
    refine TQ.qr ?_
    obtain rfl := Option.some.inj H
    exact endsR (RL.cons (RV.tmp eZ) (VO.flat rfl) RL.nil) List.nodup_nil
  · refine AW.condF eZ (decide_eq_false h2) ?_
    refine AW.skip ?_
    refine TQ.qn ?_
    refine AW.seqJ (fun t3 : Unit => spec_WritesOk_j3 t3 = some r) (fun t3 => mk [] [] noG) ?_ ?_
    · intro t3 H
      unfold spec_WritesOk_j3 at H
      refine AW.seq ?_
      refine AW.regs ?_
      refine oMov eC ?_
      refine xNil ?_
      refine TQ.qn ?_
      refine AW.ret ?_
      obtain rfl := Option.some.inj H
      exact endsR (RL.cons (RV.tmp eZ) (VO.flat rfl) RL.nil) List.nodup_nil
    · refine AW.seq ?_
      refine AW.regs ?_
      refine oMov eC ?_
      refine xNil ?_
      refine TQ.qn ?_
      refine AW.block ?_
      refine AW.iter (fun s5 : Int => mk [(0, (.one (.d (.sl 2 (List.map d_TCell a1))))), (3, (.one (.d (.int .i64 s5))))] [] noG) H (wk_mk [] (SL.cons (eS rfl (eS rfl (eS rfl (eS rfl (eS rfl eZ))))) rfl VWk.rfl (SL.cons eZ rfl VWk.rfl SL.nil)) BL.nil BK.nil) ?_
      intro kb6 s5 H
      unfold spec_WritesOk_b5 at H
      refine AW.seq ?_
      refine AW.seq ?_
      refine AW.regs ?_
      refine oMov (eS rfl eZ) ?_
      refine oMov (eS rfl eZ) ?_
      refine oLenD eZ (n := a1.length) (List.length_map _) ?_
      refine oLss (eS rfl (eS rfl eZ)) eZ ?_
      refine xNil ?_
      refine TQ.qn ?_
      rcases oite H with ⟨h7, H⟩ | ⟨h7, H⟩
      · refine AW.condT eZ (decide_eq_true h7) ?_
        refine AW.skip ?_
        refine TQ.qn ?_
        refine AW.seq ?_
        refine AW.block ?_
        refine AW.seqJ (fun t8 : Bool => (spec_WritesOk_j8 kb6 s5) t8 = some r) (fun t8 => mk [(0, (.one (.d (.sl 2 (List.map d_TCell a1))))), (3, (.one (.d (.int .i64 s5)))), (46, (.one (.d (.bool t8))))] [] noG) ?_ ?_
        · intro t8 H
          unfold spec_WritesOk_j8 at H
          rcases oite H with ⟨h10, H⟩ | ⟨h10, H⟩
          · refine AW.condT (eS rfl (eS rfl eZ)) h10 ?_
            refine AW.seq ?_
            refine AW.regs ?_
            refine oMov eC ?_
            refine xNil ?_
            refine TQ.qn ?_
            refine AW.ret ?_
            refine BQ.qr ?_
            refine TQ.qr ?_
            refine TQ.qr ?_
            refine BQ.qr ?_
            refine TQ.qr ?_
            obtain rfl := Option.some.inj H
            exact endsR (RL.cons (RV.tmp eZ) (VO.flat rfl) RL.nil) List.nodup_nil
          · refine AW.condF (eS rfl (eS rfl eZ)) (nt h10) ?_
            refine AW.skip ?_
            refine BQ.qn ?_
            refine TQ.qn ?_
            refine AW.regs ?_
            refine oMov (eS rfl eZ) ?_
            refine oAdd eZ eC ?_
            refine oMov eZ ?_
            refine xNil ?_
            exact TQ.qn ⟨(IntKind.wrap .i64 (s5 + 1)), H, (wk_mk [] (SL.cons (eS rfl (eS rfl (eS rfl eZ))) rfl VWk.rfl (SL.cons eZ rfl VWk.rfl SL.nil)) BL.nil BK.nil)⟩
        · refine AW.regd ?_
          refine oMov (eS rfl (eS rfl (eS rfl (eS rfl eZ)))) ?_
          refine oMov (eS rfl (eS rfl (eS rfl (eS rfl (eS rfl (eS rfl eZ)))))) ?_
          obtain ⟨v11, h12, H⟩ := obind H
          refine oAtD (eS rfl eZ) eZ h12 ?_
          refine oFaddrB (m := 0) eZ rfl ?_
          refine oLoadB (e := (.int .i64 v11.Key)) eZ rfl ?_
          obtain ⟨v13, h14, H⟩ := obind H
          refine oCall (u := (.one (.d (.bool v13)))) eC Cl.fn (c_spec_l10Key h14) (Evs.cons eZ Evs.nil) (VDs.cons VD.plain VDs.nil) rfl ?_
          refine oInv eZ ?_
          refine oMov eZ ?_
          rcases oite H with ⟨h15, H⟩ | ⟨h15, H⟩
          · refine gDo eZ (congrArg Bool.not h15) ?_
            refine oMov (eS rfl (eS rfl (eS rfl (eS rfl (eS rfl (eS rfl (eS rfl (eS rfl (eS rfl (eS rfl (eS rfl (eS rfl eZ)))))))))))) ?_
            refine gDo (eS rfl eZ) (congrArg Bool.not h15) ?_
            refine oMov (eS rfl (eS rfl (eS rfl (eS rfl (eS rfl (eS rfl (eS rfl (eS rfl (eS rfl (eS rfl (eS rfl (eS rfl (eS rfl (eS rfl eZ)))))))))))))) ?_
            refine gDo (eS rfl (eS rfl eZ)) (congrArg Bool.not h15) ?_
            obtain ⟨v16, h17, H⟩ := obind H
            refine oAtD (eS rfl eZ) eZ h17 ?_
            refine gDo (eS rfl (eS rfl (eS rfl eZ))) (congrArg Bool.not h15) ?_
            refine oFaddrB (m := 1) eZ rfl ?_
            refine gDo (eS rfl (eS rfl (eS rfl (eS rfl eZ)))) (congrArg Bool.not h15) ?_
            refine oLoadB (e := (.int .i64 v16.Value)) eZ rfl ?_
            refine gDo (eS rfl (eS rfl (eS rfl (eS rfl (eS rfl eZ))))) (congrArg Bool.not h15) ?_
            obtain ⟨v18, h19, H⟩ := obind H
            refine oCall (u := (.one (.d (.bool v18)))) eC Cl.fn (c_spec_l1In h19) (Evs.cons eZ (Evs.cons eC (Evs.cons eC Evs.nil))) (VDs.cons VD.plain (VDs.cons VD.plain (VDs.cons VD.plain VDs.nil))) rfl ?_
            refine gDo (eS rfl (eS rfl (eS rfl (eS rfl (eS rfl (eS rfl eZ)))))) (congrArg Bool.not h15) ?_
            refine oInv eZ ?_
            refine oPickF (eS rfl (eS rfl (eS rfl (eS rfl (eS rfl (eS rfl (eS rfl eZ))))))) (congrArg Bool.not h15) eZ ?_
            refine oMov eZ ?_
            rcases oite H with ⟨h20, H⟩ | ⟨h20, H⟩
            · refine gDo eZ (congrArg Bool.not h20) ?_
              refine oMov (eS rfl (eS rfl (eS rfl (eS rfl (eS rfl (eS rfl (eS rfl (eS rfl (eS rfl (eS rfl (eS rfl (eS rfl (eS rfl (eS rfl (eS rfl (eS rfl (eS rfl (eS rfl (eS rfl (eS rfl (eS rfl (eS rfl eZ)))))))))))))))))))))) ?_
              refine gDo (eS rfl eZ) (congrArg Bool.not h20) ?_
              refine oGtr eZ eC ?_
              refine gDo (eS rfl (eS rfl eZ)) (congrArg Bool.not h20) ?_
              refine oMov eZ ?_
              rcases oite H with ⟨h21, H⟩ | ⟨h21, H⟩
              · refine gDo eZ (decide_eq_true h21) ?_
                refine oMov (eS rfl (eS rfl (eS rfl (eS rfl (eS rfl (eS rfl (eS rfl (eS rfl (eS rfl (eS rfl (eS rfl (eS rfl (eS rfl (eS rfl (eS rfl (eS rfl (eS rfl (eS rfl (eS rfl (eS rfl (eS rfl (eS rfl (eS rfl (eS rfl eZ)))))))))))))))))))))))) ?_
                refine gDo (eS rfl eZ) (decide_eq_true h21) ?_
                refine oMov (eS rfl (eS rfl (eS rfl (eS rfl (eS rfl (eS rfl (eS rfl (eS rfl (eS rfl (eS rfl (eS rfl (eS rfl (eS rfl (eS rfl (eS rfl (eS rfl (eS rfl (eS rfl (eS rfl (eS rfl (eS rfl (eS rfl (eS rfl (eS rfl (eS rfl (eS rfl eZ)))))))))))))))))))))))))) ?_
                refine gDo (eS rfl (eS rfl eZ)) (decide_eq_true h21) ?_
                refine oSub eZ eC ?_
                refine gDo (eS rfl (eS rfl (eS rfl eZ))) (decide_eq_true h21) ?_
                obtain ⟨v22, h23, H⟩ := obind H
                refine oAtD (eS rfl (eS rfl eZ)) eZ h23 ?_
                refine gDo (eS rfl (eS rfl (eS rfl (eS rfl eZ)))) (decide_eq_true h21) ?_
                refine oFaddrB (m := 0) eZ rfl ?_
                refine gDo (eS rfl (eS rfl (eS rfl (eS rfl (eS rfl eZ))))) (decide_eq_true h21) ?_
                refine oLoadB (e := (.int .i64 v22.Key)) eZ rfl ?_
                refine gDo (eS rfl (eS rfl (eS rfl (eS rfl (eS rfl (eS rfl eZ)))))) (decide_eq_true h21) ?_
                refine oMov (eS rfl (eS rfl (eS rfl (eS rfl (eS rfl (eS rfl (eS rfl (eS rfl (eS rfl (eS rfl (eS rfl (eS rfl (eS rfl (eS rfl (eS rfl (eS rfl (eS rfl (eS rfl (eS rfl (eS rfl (eS rfl (eS rfl (eS rfl (eS rfl (eS rfl (eS rfl (eS rfl (eS rfl (eS rfl (eS rfl eZ)))))))))))))))))))))))))))))) ?_
                refine gDo (eS rfl (eS rfl (eS rfl (eS rfl (eS rfl (eS rfl (eS rfl eZ))))))) (decide_eq_true h21) ?_
                refine oMov (eS rfl (eS rfl (eS rfl (eS rfl (eS rfl (eS rfl (eS rfl (eS rfl (eS rfl (eS rfl (eS rfl (eS rfl (eS rfl (eS rfl (eS rfl (eS rfl (eS rfl (eS rfl (eS rfl (eS rfl (eS rfl (eS rfl (eS rfl (eS rfl (eS rfl (eS rfl (eS rfl (eS rfl (eS rfl (eS rfl (eS rfl (eS rfl eZ)))))))))))))))))))))))))))))))) ?_
                refine gDo (eS rfl (eS rfl (eS rfl (eS rfl (eS rfl (eS rfl (eS rfl (eS rfl eZ)))))))) (decide_eq_true h21) ?_
                obtain ⟨v24, h25, H⟩ := obind H
                refine oAtD (eS rfl eZ) eZ h25 ?_
                refine gDo (eS rfl (eS rfl (eS rfl (eS rfl (eS rfl (eS rfl (eS rfl (eS rfl (eS rfl eZ))))))))) (decide_eq_true h21) ?_
                refine oFaddrB (m := 0) eZ rfl ?_
                refine gDo (eS rfl (eS rfl (eS rfl (eS rfl (eS rfl (eS rfl (eS rfl (eS rfl (eS rfl (eS rfl eZ)))))))))) (decide_eq_true h21) ?_
                refine oLoadB (e := (.int .i64 v24.Key)) eZ rfl ?_
                refine gDo (eS rfl (eS rfl (eS rfl (eS rfl (eS rfl (eS rfl (eS rfl (eS rfl (eS rfl (eS rfl (eS rfl eZ))))))))))) (decide_eq_true h21) ?_
                refine oGeq (eS rfl (eS rfl (eS rfl (eS rfl (eS rfl eZ))))) eZ ?_
                refine gDo (eS rfl (eS rfl (eS rfl (eS rfl (eS rfl (eS rfl (eS rfl (eS rfl (eS rfl (eS rfl (eS rfl (eS rfl (eS rfl (eS rfl (eS rfl eZ))))))))))))))) (congrArg Bool.not h20) ?_
                refine oPickT (eS rfl (eS rfl (eS rfl (eS rfl (eS rfl (eS rfl (eS rfl (eS rfl (eS rfl (eS rfl (eS rfl (eS rfl eZ)))))))))))) (decide_eq_true h21) eZ ?_
                refine oPickF (eS rfl (eS rfl (eS rfl (eS rfl (eS rfl (eS rfl (eS rfl (eS rfl (eS rfl (eS rfl (eS rfl (eS rfl (eS rfl (eS rfl (eS rfl (eS rfl eZ)))))))))))))))) (congrArg Bool.not h20) eZ ?_
                refine xNil ?_
                exact TQ.qn ⟨(decide (v24.Key ≤ v22.Key)), H, (wk_mk [] (SL.cons (eS rfl (eS rfl (eS rfl (eS rfl (eS rfl (eS rfl (eS rfl (eS rfl (eS rfl (eS rfl (eS rfl (eS rfl (eS rfl (eS rfl (eS rfl (eS rfl (eS rfl (eS rfl (eS rfl (eS rfl (eS rfl (eS rfl (eS rfl (eS rfl (eS rfl (eS rfl (eS rfl (eS rfl (eS rfl (eS rfl (eS rfl (eS rfl (eS rfl (eS rfl (eS rfl (eS rfl (eS rfl (eS rfl eZ)))))))))))))))))))))))))))))))))))))) rfl VWk.rfl (SL.cons (eS rfl (eS rfl (eS rfl (eS rfl (eS rfl (eS rfl (eS rfl (eS rfl (eS rfl (eS rfl (eS rfl (eS rfl (eS rfl (eS rfl (eS rfl (eS rfl (eS rfl (eS rfl (eS rfl (eS rfl (eS rfl (eS rfl (eS rfl (eS rfl (eS rfl (eS rfl (eS rfl (eS rfl (eS rfl (eS rfl (eS rfl (eS rfl (eS rfl (eS rfl (eS rfl (eS rfl (eS rfl (eS rfl (eS rfl eZ))))))))))))))))))))))))))))))))))))))) rfl VWk.rfl (SL.cons eZ rfl VWk.rfl SL.nil))) BL.nil BK.nil)⟩
              · refine gSkip eZ (decide_eq_false h21) rfl ?_
                refine gSkip (eS rfl eZ) (decide_eq_false h21) rfl ?_
                refine gSkip (eS rfl (eS rfl eZ)) (decide_eq_false h21) rfl ?_
                refine gSkip (eS rfl (eS rfl (eS rfl eZ))) (decide_eq_false h21) rfl ?_
                refine gSkip (eS rfl (eS rfl (eS rfl (eS rfl eZ)))) (decide_eq_false h21) rfl ?_
                refine gSkip (eS rfl (eS rfl (eS rfl (eS rfl (eS rfl eZ))))) (decide_eq_false h21) rfl ?_
                refine gSkip (eS rfl (eS rfl (eS rfl (eS rfl (eS rfl (eS rfl eZ)))))) (decide_eq_false h21) rfl ?_
                refine gSkip (eS rfl (eS rfl (eS rfl (eS rfl (eS rfl (eS rfl (eS rfl eZ))))))) (decide_eq_false h21) rfl ?_
                refine gSkip (eS rfl (eS rfl (eS rfl (eS rfl (eS rfl (eS rfl (eS rfl (eS rfl eZ)))))))) (decide_eq_false h21) rfl ?_
                refine gSkip (eS rfl (eS rfl (eS rfl (eS rfl (eS rfl (eS rfl (eS rfl (eS rfl (eS rfl eZ))))))))) (decide_eq_false h21) rfl ?_
                refine gSkip (eS rfl (eS rfl (eS rfl (eS rfl (eS rfl (eS rfl (eS rfl (eS rfl (eS rfl (eS rfl eZ)))))))))) (decide_eq_false h21) rfl ?_
                refine gSkip (eS rfl (eS rfl (eS rfl (eS rfl (eS rfl (eS rfl (eS rfl (eS rfl (eS rfl (eS rfl (eS rfl eZ))))))))))) (decide_eq_false h21) rfl ?_
                refine gDo (eS rfl (eS rfl (eS rfl (eS rfl (eS rfl (eS rfl (eS rfl (eS rfl (eS rfl (eS rfl (eS rfl (eS rfl (eS rfl (eS rfl (eS rfl eZ))))))))))))))) (congrArg Bool.not h20) ?_
                refine oPickF (eS rfl (eS rfl (eS rfl (eS rfl (eS rfl (eS rfl (eS rfl (eS rfl (eS rfl (eS rfl (eS rfl (eS rfl eZ)))))))))))) (decide_eq_false h21) eC ?_
                refine oPickF (eS rfl (eS rfl (eS rfl (eS rfl (eS rfl (eS rfl (eS rfl (eS rfl (eS rfl (eS rfl (eS rfl (eS rfl (eS rfl (eS rfl (eS rfl (eS rfl eZ)))))))))))))))) (congrArg Bool.not h20) eZ ?_
                refine xNil ?_
                exact TQ.qn ⟨false, H, (wk_mk [] (SL.cons (eS rfl (eS rfl (eS rfl (eS rfl (eS rfl (eS rfl (eS rfl (eS rfl (eS rfl (eS rfl (eS rfl (eS rfl (eS rfl (eS rfl (eS rfl (eS rfl (eS rfl (eS rfl (eS rfl (eS rfl (eS rfl (eS rfl (eS rfl (eS rfl (eS rfl (eS rfl (eS rfl (eS rfl (eS rfl (eS rfl (eS rfl (eS rfl (eS rfl (eS rfl (eS rfl (eS rfl (eS rfl (eS rfl eZ)))))))))))))))))))))))))))))))))))))) rfl VWk.rfl (SL.cons (eS rfl (eS rfl (eS rfl (eS rfl (eS rfl (eS rfl (eS rfl (eS rfl (eS rfl (eS rfl (eS rfl (eS rfl (eS rfl (eS rfl (eS rfl (eS rfl (eS rfl (eS rfl (eS rfl (eS rfl (eS rfl (eS rfl (eS rfl (eS rfl (eS rfl (eS rfl (eS rfl (eS rfl (eS rfl (eS rfl (eS rfl (eS rfl (eS rfl (eS rfl (eS rfl (eS rfl (eS rfl (eS rfl (eS rfl eZ))))))))))))))))))))))))))))))))))))))) rfl VWk.rfl (SL.cons eZ rfl VWk.rfl SL.nil))) BL.nil BK.nil)⟩
            · refine gSkip eZ (congrArg Bool.not (nt h20)) rfl ?_
              refine gSkip (eS rfl eZ) (congrArg Bool.not (nt h20)) rfl ?_
              refine gSkip (eS rfl (eS rfl eZ)) (congrArg Bool.not (nt h20)) rfl ?_
              refine gSkipU eZ rfl ?_
              refine gSkipU (eS rfl eZ) rfl ?_
              refine gSkipU (eS rfl (eS rfl eZ)) rfl ?_
              refine gSkipU (eS rfl (eS rfl (eS rfl eZ))) rfl ?_
              refine gSkipU (eS rfl (eS rfl (eS rfl (eS rfl eZ)))) rfl ?_
              refine gSkipU (eS rfl (eS rfl (eS rfl (eS rfl (eS rfl eZ))))) rfl ?_
              refine gSkipU (eS rfl (eS rfl (eS rfl (eS rfl (eS rfl (eS rfl eZ)))))) rfl ?_
              refine gSkipU (eS rfl (eS rfl (eS rfl (eS rfl (eS rfl (eS rfl (eS rfl eZ))))))) rfl ?_
              refine gSkipU (eS rfl (eS rfl (eS rfl (eS rfl (eS rfl (eS rfl (eS rfl (eS rfl eZ)))))))) rfl ?_
              refine gSkipU (eS rfl (eS rfl (eS rfl (eS rfl (eS rfl (eS rfl (eS rfl (eS rfl (eS rfl eZ))))))))) rfl ?_
              refine gSkipU (eS rfl (eS rfl (eS rfl (eS rfl (eS rfl (eS rfl (eS rfl (eS rfl (eS rfl (eS rfl eZ)))))))))) rfl ?_
              refine gSkipU (eS rfl (eS rfl (eS rfl (eS rfl (eS rfl (eS rfl (eS rfl (eS rfl (eS rfl (eS rfl (eS rfl eZ))))))))))) rfl ?_
              refine gSkip (eS rfl (eS rfl (eS rfl (eS rfl (eS rfl (eS rfl (eS rfl (eS rfl (eS rfl (eS rfl (eS rfl (eS rfl (eS rfl (eS rfl (eS rfl eZ))))))))))))))) (congrArg Bool.not (nt h20)) rfl ?_
              refine oPickT (eS rfl (eS rfl (eS rfl (eS rfl (eS rfl (eS rfl (eS rfl (eS rfl (eS rfl (eS rfl (eS rfl (eS rfl (eS rfl (eS rfl (eS rfl (eS rfl eZ)))))))))))))))) (congrArg Bool.not (nt h20)) eC ?_
              refine xNil ?_
              exact TQ.qn ⟨true, H, (wk_mk [] (SL.cons (eS rfl (eS rfl (eS rfl (eS rfl (eS rfl (eS rfl (eS rfl (eS rfl (eS rfl (eS rfl (eS rfl (eS rfl (eS rfl (eS rfl (eS rfl (eS rfl (eS rfl (eS rfl (eS rfl (eS rfl (eS rfl (eS rfl (eS rfl (eS rfl (eS rfl (eS rfl (eS rfl (eS rfl (eS rfl (eS rfl (eS rfl (eS rfl (eS rfl (eS rfl (eS rfl (eS rfl (eS rfl (eS rfl eZ)))))))))))))))))))))))))))))))))))))) rfl VWk.rfl (SL.cons (eS rfl (eS rfl (eS rfl (eS rfl (eS rfl (eS rfl (eS rfl (eS rfl (eS rfl (eS rfl (eS rfl (eS rfl (eS rfl (eS rfl (eS rfl (eS rfl (eS rfl (eS rfl (eS rfl (eS rfl (eS rfl (eS rfl (eS rfl (eS rfl (eS rfl (eS rfl (eS rfl (eS rfl (eS rfl (eS rfl (eS rfl (eS rfl (eS rfl (eS rfl (eS rfl (eS rfl (eS rfl (eS rfl (eS rfl eZ))))))))))))))))))))))))))))))))))))))) rfl VWk.rfl (SL.cons eZ rfl VWk.rfl SL.nil))) BL.nil BK.nil)⟩
          · refine gSkip eZ (congrArg Bool.not (nt h15)) rfl ?_
            refine gSkip (eS rfl eZ) (congrArg Bool.not (nt h15)) rfl ?_
            refine gSkip (eS rfl (eS rfl eZ)) (congrArg Bool.not (nt h15)) rfl ?_
            refine gSkip (eS rfl (eS rfl (eS rfl eZ))) (congrArg Bool.not (nt h15)) rfl ?_
            refine gSkip (eS rfl (eS rfl (eS rfl (eS rfl eZ)))) (congrArg Bool.not (nt h15)) rfl ?_
            refine gSkip (eS rfl (eS rfl (eS rfl (eS rfl (eS rfl eZ))))) (congrArg Bool.not (nt h15)) rfl ?_
            refine gSkip (eS rfl (eS rfl (eS rfl (eS rfl (eS rfl (eS rfl eZ)))))) (congrArg Bool.not (nt h15)) rfl ?_
            refine oPickT (eS rfl (eS rfl (eS rfl (eS rfl (eS rfl (eS rfl (eS rfl eZ))))))) (congrArg Bool.not (nt h15)) eC ?_
            refine oMov eZ ?_
            refine gSkip eZ rfl rfl ?_
            refine gSkip (eS rfl eZ) rfl rfl ?_
            refine gSkip (eS rfl (eS rfl eZ)) rfl rfl ?_
            refine gSkipU eZ rfl ?_
            refine gSkipU (eS rfl eZ) rfl ?_
            refine gSkipU (eS rfl (eS rfl eZ)) rfl ?_
            refine gSkipU (eS rfl (eS rfl (eS rfl eZ))) rfl ?_
            refine gSkipU (eS rfl (eS rfl (eS rfl (eS rfl eZ)))) rfl ?_
            refine gSkipU (eS rfl (eS rfl (eS rfl (eS rfl (eS rfl eZ))))) rfl ?_
            refine gSkipU (eS rfl (eS rfl (eS rfl (eS rfl (eS rfl (eS rfl eZ)))))) rfl ?_
            refine gSkipU (eS rfl (eS rfl (eS rfl (eS rfl (eS rfl (eS rfl (eS rfl eZ))))))) rfl ?_
            refine gSkipU (eS rfl (eS rfl (eS rfl (eS rfl (eS rfl (eS rfl (eS rfl (eS rfl eZ)))))))) rfl ?_
            refine gSkipU (eS rfl (eS rfl (eS rfl (eS rfl (eS rfl (eS rfl (eS rfl (eS rfl (eS rfl eZ))))))))) rfl ?_
            refine gSkipU (eS rfl (eS rfl (eS rfl (eS rfl (eS rfl (eS rfl (eS rfl (eS rfl (eS rfl (eS rfl eZ)))))))))) rfl ?_
            refine gSkipU (eS rfl (eS rfl (eS rfl (eS rfl (eS rfl (eS rfl (eS rfl (eS rfl (eS rfl (eS rfl (eS rfl eZ))))))))))) rfl ?_
            refine gSkip (eS rfl (eS rfl (eS rfl (eS rfl (eS rfl (eS rfl (eS rfl (eS rfl (eS rfl (eS rfl (eS rfl (eS rfl (eS rfl (eS rfl (eS rfl eZ))))))))))))))) rfl rfl ?_
            refine oPickT (eS rfl (eS rfl (eS rfl (eS rfl (eS rfl (eS rfl (eS rfl (eS rfl (eS rfl (eS rfl (eS rfl (eS rfl (eS rfl (eS rfl (eS rfl (eS rfl eZ)))))))))))))))) rfl eC ?_
            refine xNil ?_
            exact TQ.qn ⟨true, H, (wk_mk [] (SL.cons (eS rfl (eS rfl (eS rfl (eS rfl (eS rfl (eS rfl (eS rfl (eS rfl (eS rfl (eS rfl (eS rfl (eS rfl (eS rfl (eS rfl (eS rfl (eS rfl (eS rfl (eS rfl (eS rfl (eS rfl (eS rfl (eS rfl (eS rfl (eS rfl (eS rfl (eS rfl (eS rfl (eS rfl (eS rfl (eS rfl (eS rfl (eS rfl (eS rfl (eS rfl (eS rfl (eS rfl (eS rfl (eS rfl eZ)))))))))))))))))))))))))))))))))))))) rfl VWk.rfl (SL.cons (eS rfl (eS rfl (eS rfl (eS rfl (eS rfl (eS rfl (eS rfl (eS rfl (eS rfl (eS rfl (eS rfl (eS rfl (eS rfl (eS rfl (eS rfl (eS rfl (eS rfl (eS rfl (eS rfl (eS rfl (eS rfl (eS rfl (eS rfl (eS rfl (eS rfl (eS rfl (eS rfl (eS rfl (eS rfl (eS rfl (eS rfl (eS rfl (eS rfl (eS rfl (eS rfl (eS rfl (eS rfl (eS rfl (eS rfl eZ))))))))))))))))))))))))))))))))))))))) rfl VWk.rfl (SL.cons eZ rfl VWk.rfl SL.nil))) BL.nil BK.nil)⟩
      · refine AW.condF eZ (decide_eq_false h7) ?_
        refine AW.exit ?_
        refine TQ.qe ?_
        refine TQ.qe ?_
        refine BQ.qe ?_
        exact TQ.qn ⟨(), H, (wk_mk [] SL.nil BL.nil BK.nil)⟩

theorem c_spec_RangeOk {a1 : TRange} {r : Bool} (H : m_spec_RangeOk a1 = some r) : Fn Try.prog k_spec_RangeOk (lent [(.agg (d_TRange a1))]) true [(.bool r)] := by
  refine i_spec_RangeOk_fn (Nat.le_of_ble_eq_true rfl) ?_
  rw [init_mk]
  refine AW.weaken (wk_mk [] (SL.cons (v := (.agg [(.d (.int .i64 a1.Lo)), (.d (.int .i64 a1.Hi))])) eZ rfl VWk.rfl SL.nil) BL.nil BK.nil) ?_
  unfold m_spec_RangeOk at H
  unfold i_spec_RangeOk
  refine AW.seq ?_
  refine AW.regs ?_
  refine oBox (n := 64) (m := 2) (cs := [(.d (.int .i64 a1.Lo)), (.d (.int .i64 a1.Hi))]) rfl eZ rfl rfl nZ ?_
  refine oMov eC ?_
  refine xNil ?_
  refine TQ.qn ?_
  refine AW.seq ?_
  refine AW.regs ?_
  refine oFaddrN (m := 0) (eS rfl eZ) rfl ?_
  refine oLoadV (q := 0) (c := (.d (.int .i64 a1.Lo))) eZ bZ rfl rfl ?_
  refine oGeq eZ eC ?_
  refine oMov eZ ?_
  rcases oite H with ⟨h2, H⟩ | ⟨h2, H⟩
  · refine gDo eZ (decide_eq_true h2) ?_
    refine oFaddrN (m := 0) (eS rfl (eS rfl (eS rfl (eS rfl (eS rfl eZ))))) rfl ?_
    refine gDo (eS rfl eZ) (decide_eq_true h2) ?_
    refine oLoadV (q := 0) (c := (.d (.int .i64 a1.Lo))) eZ bZ rfl rfl ?_
    refine gDo (eS rfl (eS rfl eZ)) (decide_eq_true h2) ?_
    refine oFaddrN (m := 1) (eS rfl (eS rfl (eS rfl (eS rfl (eS rfl (eS rfl (eS rfl eZ))))))) rfl ?_
    refine gDo (eS rfl (eS rfl (eS rfl eZ))) (decide_eq_true h2) ?_
    refine oLoadV (q := 1) (c := (.d (.int .i64 a1.Hi))) eZ bZ rfl rfl ?_
    refine gDo (eS rfl (eS rfl (eS rfl (eS rfl eZ)))) (decide_eq_true h2) ?_
    refine oLss (eS rfl (eS rfl eZ)) eZ ?_
    refine oPickT (eS rfl (eS rfl (eS rfl (eS rfl (eS rfl eZ))))) (decide_eq_true h2) eZ ?_
    refine oMov eZ ?_
    rcases oite H with ⟨h3, H⟩ | ⟨h3, H⟩
    · refine gDo eZ (decide_eq_true h3) ?_
      refine oFaddrN (m := 1) (eS rfl (eS rfl (eS rfl (eS rfl (eS rfl (eS rfl (eS rfl (eS rfl (eS rfl (eS rfl (eS rfl (eS rfl eZ)))))))))))) rfl ?_
      refine gDo (eS rfl eZ) (decide_eq_true h3) ?_
      refine oLoadV (q := 1) (c := (.d (.int .i64 a1.Hi))) eZ bZ rfl rfl ?_
      refine gDo (eS rfl (eS rfl eZ)) (decide_eq_true h3) ?_
      refine oLeq eZ eC ?_
      refine oPickT (eS rfl (eS rfl (eS rfl eZ))) (decide_eq_true h3) eZ ?_
      refine oMov eZ ?_
      refine xNil ?_
      refine TQ.qn ?_
      refine AW.weaken (wk_mk [64] (SL.cons (k := 2) eZ rfl VWk.rfl SL.nil) (BL.drop rfl BL.nil) BK.nil) ?_
      refine AW.ret ?_
      obtain rfl := Option.some.inj H
      exact endsR (RL.cons (RV.tmp eZ) (VO.flat rfl) RL.nil) List.nodup_nil
    · refine gSkip eZ (decide_eq_false h3) rfl ?_
      refine gSkip (eS rfl eZ) (decide_eq_false h3) rfl ?_
      refine gSkip (eS rfl (eS rfl eZ)) (decide_eq_false h3) rfl ?_
      refine oPickF (eS rfl (eS rfl (eS rfl eZ))) (decide_eq_false h3) eC ?_
      refine oMov eZ ?_
      refine xNil ?_
      refine TQ.qn ?_
      refine AW.weaken (wk_mk [64] (SL.cons (k := 2) eZ rfl VWk.rfl SL.nil) (BL.drop rfl BL.nil) BK.nil) ?_
      refine AW.ret ?_
      obtain rfl := Option.some.inj H
      exact endsR (RL.cons (RV.tmp eZ) (VO.flat rfl) RL.nil) List.nodup_nil
  · refine gSkip eZ (decide_eq_false h2) rfl ?_
    refine gSkip (eS rfl eZ) (decide_eq_false h2) rfl ?_
    refine gSkip (eS rfl (eS rfl eZ)) (decide_eq_false h2) rfl ?_
    refine gSkip (eS rfl (eS rfl (eS rfl eZ))) (decide_eq_false h2) rfl ?_
    refine gSkip (eS rfl (eS rfl (eS rfl (eS rfl eZ)))) (decide_eq_false h2) rfl ?_
    refine oPickF (eS rfl (eS rfl (eS rfl (eS rfl (eS rfl eZ))))) (decide_eq_false h2) eC ?_
    refine oMov eZ ?_
    refine gSkip eZ rfl rfl ?_
    refine gSkip (eS rfl eZ) rfl rfl ?_
    refine gSkip (eS rfl (eS rfl eZ)) rfl rfl ?_
    refine oPickF (eS rfl (eS rfl (eS rfl eZ))) rfl eC ?_
    refine oMov eZ ?_
    refine xNil ?_
    refine TQ.qn ?_
    refine AW.weaken (wk_mk [64] (SL.cons (k := 2) eZ rfl VWk.rfl SL.nil) (BL.drop rfl BL.nil) BK.nil) ?_
    refine AW.ret ?_
    obtain rfl := Option.some.inj H
    exact endsR (RL.cons (RV.tmp eZ) (VO.flat rfl) RL.nil) List.nodup_nil

theorem c_spec_SharesOk {a1 : (List TShare)} {r : Bool} (H : m_spec_SharesOk a1 = some r) : Fn Try.prog k_spec_SharesOk (lent [(.sl 4 (List.map d_TShare a1))]) true [(.bool r)] := by
  refine i_spec_SharesOk_fn (Nat.le_of_ble_eq_true rfl) ?_
  rw [init_mk]
  refine AW.weaken (wk_mk [] (SL.cons (v := (.one (.d (.sl 4 (List.map d_TShare a1))))) eZ rfl VWk.rfl SL.nil) BL.nil BK.nil) ?_
  unfold m_spec_SharesOk at H
  unfold i_spec_SharesOk
  refine AW.seq ?_
  refine AW.regs ?_
  refine oMov eC ?_
  refine xNil ?_
  refine TQ.qn ?_
  refine AW.seq ?_
  refine AW.seq ?_
  refine AW.regs ?_
  refine oMov (eS rfl eZ) ?_
  refine oLenD eZ (n := a1.length) (List.length_map _) ?_
  refine oGtr eZ eC ?_
  refine xNil ?_
  refine TQ.qn ?_
  rcases oite H with ⟨h2, H⟩ | ⟨h2, H⟩
  · refine AW.condT eZ (decide_eq_true h2) ?_
    refine AW.seq ?_
    refine AW.regs ?_
    refine oMov eC ?_
    refine xNil ?_
    refine TQ.qn ?_
    refine AW.ret ?_
    refine TQ.qr ?_
    obtain rfl := Option.some.inj H
    exact endsR (RL.cons (RV.tmp eZ) (VO.flat rfl) RL.nil) List.nodup_nil
  · refine AW.condF eZ (decide_eq_false h2) ?_
    refine AW.skip ?_
    refine TQ.qn ?_
    refine AW.seqJ (fun t3 : Unit => spec_SharesOk_j3 t3 = some r) (fun t3 => mk [] [] noG) ?_ ?_
    · intro t3 H
      unfold spec_SharesOk_j3 at H
      refine AW.seq ?_
      refine AW.regs ?_
      refine oMov eC ?_
      refine xNil ?_
      refine TQ.qn ?_
      refine AW.ret ?_
      obtain rfl := Option.some.inj H
      exact endsR (RL.cons (RV.tmp eZ) (VO.flat rfl) RL.nil) List.nodup_nil
    · refine AW.seq ?_
      refine AW.regs ?_
      refine oMov eC ?_
      refine xNil ?_
      refine TQ.qn ?_
      refine AW.block ?_
      refine AW.iter (fun s5 : Int => mk [(0, (.one (.d (.sl 4 (List.map d_TShare a1))))), (3, (.one (.d (.int .i64 s5))))] [] noG) H (wk_mk [] (SL.cons (eS rfl (eS rfl (eS rfl (eS rfl (eS rfl eZ))))) rfl VWk.rfl (SL.cons eZ rfl VWk.rfl SL.nil)) BL.nil BK.nil) ?_
      intro kb6 s5 H
      unfold spec_SharesOk_b5 at H
      refine AW.seq ?_
      refine AW.seq ?_
      refine AW.regs ?_
      refine oMov (eS rfl eZ) ?_
      refine oMov (eS rfl eZ) ?_
      refine oLenD eZ (n := a1.length) (List.length_map _) ?_
      refine oLss (eS rfl (eS rfl eZ)) eZ ?_
      refine xNil ?_
      refine TQ.qn ?_
      rcases oite H with ⟨h7, H⟩ | ⟨h7, H⟩
      · refine AW.condT eZ (decide_eq_true h7) ?_
        refine AW.skip ?_
        refine TQ.qn ?_
        refine AW.seqJ (fun t8 : Unit => (spec_SharesOk_j8 kb6 s5) t8 = some r) (fun t8 => mk [(0, (.one (.d (.sl 4 (List.map d_TShare a1))))), (3, (.one (.d (.int .i64 s5))))] [] noG) ?_ ?_
        · intro t8 H
          unfold spec_SharesOk_j8 at H
          refine AW.regs ?_
          refine oMov (eS rfl eZ) ?_
          refine oAdd eZ eC ?_
          refine oMov eZ ?_
          refine xNil ?_
          exact TQ.qn ⟨(IntKind.wrap .i64 (s5 + 1)), H, (wk_mk [] (SL.cons (eS rfl (eS rfl (eS rfl eZ))) rfl VWk.rfl (SL.cons eZ rfl VWk.rfl SL.nil)) BL.nil BK.nil)⟩
        · refine AW.block ?_
          refine AW.seq ?_
          refine AW.regs ?_
          refine oMov (eS rfl (eS rfl (eS rfl (eS rfl eZ)))) ?_
          refine oMov (eS rfl (eS rfl (eS rfl (eS rfl (eS rfl (eS rfl eZ)))))) ?_
          obtain ⟨v10, h11, H⟩ := obind H
          refine oAtD (eS rfl eZ) eZ h11 ?_
          refine oLoadBA (es := [(.d (.int .i64 v10.Group)), (.d (.sl 2 (List.map d_TRange v10.Reads))), (.d (.sl 2 (List.map d_TCell v10.Writes))), (.d (.int .i64 v10.Vote))]) eZ rfl ?_
          refine oVar (n := 256) (m := 4) rfl rfl nZ ?_
          refine oStoreV (es := [(.d (.int .i64 v10.Group)), (.d (.sl 2 (List.map d_TRange v10.Reads))), (.d (.sl 2 (List.map d_TCell v10.Writes))), (.d (.int .i64 v10.Vote))]) eZ (eS rfl eZ) rfl rfl bZ rfl ?_
          refine xNil ?_
          refine TQ.qn ?_
          refine AW.seq ?_
          refine AW.seqJ (fun t12 : Bool => (spec_SharesOk_j12 v10 (spec_SharesOk_j8 kb6 s5)) t12 = some r) (fun t12 => mk [(0, (.one (.d (.sl 4 (List.map d_TShare a1))))), (3, (.one (.d (.int .i64 s5)))), (4, (.one (.ptr (.nm 256 0 0)))), (55, (.one (.d (.bool t12))))] [(256, (.vars 4 [(.d (.int .i64 v10.Group)), (.d (.sl 2 (List.map d_TRange v10.Reads))), (.d (.sl 2 (List.map d_TCell v10.Writes))), (.d (.int .i64 v10.Vote))]))] noG) ?_ ?_
          · intro t12 H
            unfold spec_SharesOk_j12 at H
            rcases oite H with ⟨h14, H⟩ | ⟨h14, H⟩
            · refine AW.condT (eS rfl (eS rfl (eS rfl eZ))) h14 ?_
              refine AW.seq ?_
              refine AW.regs ?_
              refine oMov eC ?_
              refine xNil ?_
              refine TQ.qn ?_
              refine AW.ret ?_
              refine TQ.qr ?_
              refine BQ.qr ?_
              refine TQ.qr ?_
              refine TQ.qr ?_
              refine BQ.qr ?_
              refine TQ.qr ?_
              obtain rfl := Option.some.inj H
              exact endsR (RL.cons (RV.tmp eZ) (VO.flat rfl) RL.nil) List.nodup_nil
            · refine AW.condF (eS rfl (eS rfl (eS rfl eZ))) (nt h14) ?_
              refine AW.skip ?_
              refine TQ.qn ?_
              refine AW.seq ?_
              refine AW.regs ?_
              refine oMov eC ?_
              refine xNil ?_
              refine TQ.qn ?_
              refine AW.block ?_
              refine AW.iter (fun s15 : Int => mk [(0, (.one (.d (.sl 4 (List.map d_TShare a1))))), (3, (.one (.d (.int .i64 s5)))), (4, (.one (.ptr (.nm 256 0 0)))), (5, (.one (.d (.int .i64 s15))))] [(256, (.vars 4 [(.d (.int .i64 v10.Group)), (.d (.sl 2 (List.map d_TRange v10.Reads))), (.d (.sl 2 (List.map d_TCell v10.Writes))), (.d (.int .i64 v10.Vote))]))] noG) H (wk_mk [] (SL.cons (eS rfl eZ) rfl VWk.rfl (SL.cons (eS rfl (eS rfl eZ)) rfl VWk.rfl (SL.cons (eS rfl (eS rfl (eS rfl eZ))) rfl VWk.rfl (SL.cons eZ rfl VWk.rfl SL.nil)))) (BL.keep rfl BL.nil) (BK.cons rfl bZ rfl rfl BK.nil)) ?_
              intro kb16 s15 H
              unfold spec_SharesOk_b15 at H
              refine AW.seq ?_
              refine AW.seq ?_
              refine AW.regs ?_
              refine oMov (eS rfl (eS rfl (eS rfl eZ))) ?_
              refine oFaddrN (m := 1) (eS rfl (eS rfl (eS rfl eZ))) rfl ?_
              refine oLoadV (q := 1) (c := (.d (.sl 2 (List.map d_TRange v10.Reads)))) eZ bZ rfl rfl ?_
              refine oLenD eZ (n := v10.Reads.length) (List.length_map _) ?_
              refine oLss (eS rfl (eS rfl (eS rfl eZ))) eZ ?_
              refine xNil ?_
              refine TQ.qn ?_
              rcases oite H with ⟨h17, H⟩ | ⟨h17, H⟩
              · refine AW.condT eZ (decide_eq_true h17) ?_
                refine AW.skip ?_
                refine TQ.qn ?_
                refine AW.seq ?_
                refine AW.block ?_
                refine AW.seq ?_
                refine AW.regs ?_
                refine oFaddrN (m := 1) (eS rfl (eS rfl (eS rfl (eS rfl (eS rfl (eS rfl (eS rfl eZ))))))) rfl ?_
                refine oLoadV (q := 1) (c := (.d (.sl 2 (List.map d_TRange v10.Reads)))) eZ bZ rfl rfl ?_
                refine oMov (eS rfl (eS rfl (eS rfl (eS rfl (eS rfl (eS rfl (eS rfl (eS rfl (eS rfl (eS rfl eZ)))))))))) ?_
                obtain ⟨v18, h19, H⟩ := obind H
                refine oAtD (eS rfl eZ) eZ h19 ?_
                refine oLoadBA (es := [(.d (.int .i64 v18.Lo)), (.d (.int .i64 v18.Hi))]) eZ rfl ?_
                obtain ⟨v20, h21, H⟩ := obind H
                refine oCall (u := (.one (.d (.bool v20)))) eC Cl.fn (c_spec_RangeOk h21) (Evs.cons eZ Evs.nil) (VDs.cons (VD.agg rfl) VDs.nil) rfl ?_
                refine oInv eZ ?_
                refine xNil ?_
                refine TQ.qn ?_
                refine AW.weaken (wk_mk [] (SL.cons (k := 69) eZ rfl VWk.rfl (SL.cons (k := 0) (eS rfl (eS rfl (eS rfl (eS rfl (eS rfl (eS rfl (eS rfl (eS rfl (eS rfl (eS rfl (eS rfl (eS rfl eZ)))))))))))) rfl VWk.rfl (SL.cons (k := 3) (eS rfl (eS rfl (eS rfl (eS rfl (eS rfl (eS rfl (eS rfl (eS rfl (eS rfl (eS rfl (eS rfl (eS rfl (eS rfl eZ))))))))))))) rfl VWk.rfl (SL.cons (k := 4) (eS rfl (eS rfl (eS rfl (eS rfl (eS rfl (eS rfl (eS rfl (eS rfl (eS rfl (eS rfl (eS rfl (eS rfl (eS rfl (eS rfl eZ)))))))))))))) rfl VWk.rfl (SL.cons (k := 5) (eS rfl (eS rfl (eS rfl (eS rfl (eS rfl (eS rfl (eS rfl (eS rfl (eS rfl (eS rfl (eS rfl (eS rfl (eS rfl (eS rfl (eS rfl eZ))))))))))))))) rfl VWk.rfl SL.nil))))) (BL.keep rfl BL.nil) (BK.cons (n := 256) rfl bZ rfl rfl BK.nil)) ?_
                rcases oite H with ⟨h22, H⟩ | ⟨h22, H⟩
                · refine AW.condF eZ (congrArg Bool.not h22) ?_
                  refine AW.skip ?_
                  refine BQ.qn ?_
                  refine TQ.qn ?_
                  refine AW.regs ?_
                  refine oMov (eS rfl (eS rfl (eS rfl (eS rfl eZ)))) ?_
                  refine oAdd eZ eC ?_
                  refine oMov eZ ?_
                  refine xNil ?_
                  exact TQ.qn ⟨(IntKind.wrap .i64 (s15 + 1)), H, (wk_mk [] (SL.cons (eS rfl (eS rfl (eS rfl (eS rfl eZ)))) rfl VWk.rfl (SL.cons (eS rfl (eS rfl (eS rfl (eS rfl (eS rfl eZ))))) rfl VWk.rfl (SL.cons (eS rfl (eS rfl (eS rfl (eS rfl (eS rfl (eS rfl eZ)))))) rfl VWk.rfl (SL.cons eZ rfl VWk.rfl SL.nil)))) (BL.keep rfl BL.nil) (BK.cons rfl bZ rfl rfl BK.nil))⟩
                · refine AW.condT eZ (congrArg Bool.not (nt h22)) ?_
                  refine AW.seq ?_
                  refine AW.regs ?_
                  refine oMov eC ?_
                  refine xNil ?_
                  refine TQ.qn ?_
                  refine AW.ret ?_
                  refine BQ.qr ?_
                  refine TQ.qr ?_
                  refine TQ.qr ?_
                  refine BQ.qr ?_
                  refine BQ.qr ?_
                  refine TQ.qr ?_
                  refine TQ.qr ?_
                  refine BQ.qr ?_
                  refine TQ.qr ?_
                  obtain rfl := Option.some.inj H
                  exact endsR (RL.cons (RV.tmp eZ) (VO.flat rfl) RL.nil) List.nodup_nil
              · refine AW.condF eZ (decide_eq_false h17) ?_
                refine AW.exit ?_
                refine TQ.qe ?_
                refine TQ.qe ?_
                refine BQ.qe ?_
                refine BQ.qn ?_
                exact TQ.qn ⟨(), H, (wk_mk [256] (SL.cons (eS rfl (eS rfl (eS rfl (eS rfl (eS rfl eZ))))) rfl VWk.rfl (SL.cons (eS rfl (eS rfl (eS rfl (eS rfl (eS rfl (eS rfl eZ)))))) rfl VWk.rfl SL.nil)) (BL.drop rfl BL.nil) BK.nil)⟩
          · refine AW.regd ?_
            refine oFaddrN (m := 0) eZ rfl ?_
            refine oLoadV (q := 0) (c := (.d (.int .i64 v10.Group))) eZ bZ rfl rfl ?_
            obtain ⟨v23, h24, H⟩ := obind H
            refine oCall (u := (.one (.d (.bool v23)))) eC Cl.fn (c_spec_l1In h24) (Evs.cons eZ (Evs.cons eC (Evs.cons eC Evs.nil))) (VDs.cons VD.plain (VDs.cons VD.plain (VDs.cons VD.plain VDs.nil))) rfl ?_
            refine oInv eZ ?_
            refine oMov eZ ?_
            rcases oite H with ⟨h25, H⟩ | ⟨h25, H⟩
            · refine gDo eZ (congrArg Bool.not h25) ?_
              refine oMov (eS rfl (eS rfl (eS rfl (eS rfl (eS rfl (eS rfl (eS rfl (eS rfl (eS rfl (eS rfl (eS rfl (eS rfl (eS rfl (eS rfl (eS rfl eZ))))))))))))))) ?_
              refine gDo (eS rfl eZ) (congrArg Bool.not h25) ?_
              refine oGtr eZ eC ?_
              refine gDo (eS rfl (eS rfl eZ)) (congrArg Bool.not h25) ?_
              refine oMov eZ ?_
              rcases oite H with ⟨h26, H⟩ | ⟨h26, H⟩
              · refine gDo eZ (decide_eq_true h26) ?_
                refine oMov (eS rfl (eS rfl (eS rfl (eS rfl (eS rfl (eS rfl (eS rfl (eS rfl (eS rfl (eS rfl (eS rfl (eS rfl (eS rfl (eS rfl (eS rfl (eS rfl (eS rfl eZ))))))))))))))))) ?_
                refine gDo (eS rfl eZ) (decide_eq_true h26) ?_
                refine oMov (eS rfl (eS rfl (eS rfl (eS rfl (eS rfl (eS rfl (eS rfl (eS rfl (eS rfl (eS rfl (eS rfl (eS rfl (eS rfl (eS rfl (eS rfl (eS rfl (eS rfl (eS rfl (eS rfl eZ))))))))))))))))))) ?_
                refine gDo (eS rfl (eS rfl eZ)) (decide_eq_true h26) ?_
                refine oSub eZ eC ?_
                refine gDo (eS rfl (eS rfl (eS rfl eZ))) (decide_eq_true h26) ?_
                obtain ⟨v27, h28, H⟩ := obind H
                refine oAtD (eS rfl (eS rfl eZ)) eZ h28 ?_
                refine gDo (eS rfl (eS rfl (eS rfl (eS rfl eZ)))) (decide_eq_true h26) ?_
                refine oFaddrB (m := 0) eZ rfl ?_
                refine gDo (eS rfl (eS rfl (eS rfl (eS rfl (eS rfl eZ))))) (decide_eq_true h26) ?_
                refine oLoadB (e := (.int .i64 v27.Group)) eZ rfl ?_
                refine gDo (eS rfl (eS rfl (eS rfl (eS rfl (eS rfl (eS rfl eZ)))))) (decide_eq_true h26) ?_
                refine oFaddrN (m := 0) (eS rfl (eS rfl (eS rfl (eS rfl (eS rfl (eS rfl (eS rfl (eS rfl (eS rfl (eS rfl (eS rfl (eS rfl (eS rfl (eS rfl eZ)))))))))))))) rfl ?_
                refine gDo (eS rfl (eS rfl (eS rfl (eS rfl (eS rfl (eS rfl (eS rfl eZ))))))) (decide_eq_true h26) ?_
                refine oLoadV (q := 0) (c := (.d (.int .i64 v10.Group))) eZ bZ rfl rfl ?_
                refine gDo (eS rfl (eS rfl (eS rfl (eS rfl (eS rfl (eS rfl (eS rfl (eS rfl eZ)))))))) (decide_eq_true h26) ?_
                refine oGeq (eS rfl (eS rfl eZ)) eZ ?_
                refine gDo (eS rfl (eS rfl (eS rfl (eS rfl (eS rfl (eS rfl (eS rfl (eS rfl (eS rfl (eS rfl (eS rfl (eS rfl eZ)))))))))))) (congrArg Bool.not h25) ?_
                refine oPickT (eS rfl (eS rfl (eS rfl (eS rfl (eS rfl (eS rfl (eS rfl (eS rfl (eS rfl eZ))))))))) (decide_eq_true h26) eZ ?_
                refine oPickF (eS rfl (eS rfl (eS rfl (eS rfl (eS rfl (eS rfl (eS rfl (eS rfl (eS rfl (eS rfl (eS rfl (eS rfl (eS rfl eZ))))))))))))) (congrArg Bool.not h25) eZ ?_
                refine oMov eZ ?_
                rcases oite H with ⟨h29, H⟩ | ⟨h29, H⟩
                · refine gSkip eZ (decide_eq_true h29) rfl ?_
                  refine gSkip (eS rfl eZ) (decide_eq_true h29) rfl ?_
                  refine gSkip (eS rfl (eS rfl eZ)) (decide_eq_true h29) rfl ?_
                  refine gSkip (eS rfl (eS rfl (eS rfl eZ))) (decide_eq_true h29) rfl ?_
                  refine oPickT (eS rfl (eS rfl (eS rfl (eS rfl eZ)))) (decide_eq_true h29) eC ?_
                  refine oMov eZ ?_
                  refine gSkip eZ rfl rfl ?_
                  refine gSkip (eS rfl eZ) rfl rfl ?_
                  refine gSkip (eS rfl (eS rfl eZ)) rfl rfl ?_
                  refine gSkip (eS rfl (eS rfl (eS rfl eZ))) rfl rfl ?_
                  refine oPickT (eS rfl (eS rfl (eS rfl (eS rfl eZ)))) rfl eC ?_
                  refine oMov eZ ?_
                  refine gSkip eZ rfl rfl ?_
                  refine gSkip (eS rfl eZ) rfl rfl ?_
                  refine gSkip (eS rfl (eS rfl eZ)) rfl rfl ?_
                  refine gSkip (eS rfl (eS rfl (eS rfl eZ))) rfl rfl ?_
                  refine oPickT (eS rfl (eS rfl (eS rfl (eS rfl eZ)))) rfl eC ?_
                  refine xNil ?_
                  exact TQ.qn ⟨true, H, (wk_mk [] (SL.cons (eS rfl (eS rfl (eS rfl (eS rfl (eS rfl (eS rfl (eS rfl (eS rfl (eS rfl (eS rfl (eS rfl (eS rfl (eS rfl (eS rfl (eS rfl (eS rfl (eS rfl (eS rfl (eS rfl (eS rfl (eS rfl (eS rfl (eS rfl (eS rfl (eS rfl (eS rfl (eS rfl (eS rfl (eS rfl (eS rfl (eS rfl (eS rfl (eS rfl (eS rfl (eS rfl (eS rfl (eS rfl (eS rfl (eS rfl (eS rfl (eS rfl (eS rfl (eS rfl (eS rfl (eS rfl (eS rfl eZ)))))))))))))))))))))))))))))))))))))))))))))) rfl VWk.rfl (SL.cons (eS rfl (eS rfl (eS rfl (eS rfl (eS rfl (eS rfl (eS rfl (eS rfl (eS rfl (eS rfl (eS rfl (eS rfl (eS rfl (eS rfl (eS rfl (eS rfl (eS rfl (eS rfl (eS rfl (eS rfl (eS rfl (eS rfl (eS rfl (eS rfl (eS rfl (eS rfl (eS rfl (eS rfl (eS rfl (eS rfl (eS rfl (eS rfl (eS rfl (eS rfl (eS rfl (eS rfl (eS rfl (eS rfl (eS rfl (eS rfl (eS rfl (eS rfl (eS rfl (eS rfl (eS rfl (eS rfl (eS rfl eZ))))))))))))))))))))))))))))))))))))))))))))))) rfl VWk.rfl (SL.cons (eS rfl (eS rfl (eS rfl (eS rfl (eS rfl (eS rfl (eS rfl (eS rfl (eS rfl (eS rfl (eS rfl (eS rfl (eS rfl (eS rfl (eS rfl (eS rfl (eS rfl (eS rfl (eS rfl (eS rfl (eS rfl (eS rfl (eS rfl (eS rfl (eS rfl (eS rfl (eS rfl (eS rfl (eS rfl (eS rfl (eS rfl (eS rfl (eS rfl (eS rfl (eS rfl (eS rfl (eS rfl eZ))))))))))))))))))))))))))))))))))))) rfl VWk.rfl (SL.cons eZ rfl VWk.rfl SL.nil)))) (BL.keep rfl (BL.keep rfl BL.nil)) (BK.cons rfl bZ rfl rfl BK.nil))⟩
                · refine gDo eZ (decide_eq_false h29) ?_
                  refine oFaddrN (m := 1) (eS rfl (eS rfl (eS rfl (eS rfl (eS rfl (eS rfl (eS rfl (eS rfl (eS rfl (eS rfl (eS rfl (eS rfl (eS rfl (eS rfl (eS rfl (eS rfl (eS rfl (eS rfl (eS rfl (eS rfl eZ)))))))))))))))))))) rfl ?_
                  refine gDo (eS rfl eZ) (decide_eq_false h29) ?_
                  refine oLoadV (q := 1) (c := (.d (.sl 2 (List.map d_TRange v10.Reads)))) eZ bZ rfl rfl ?_
                  refine gDo (eS rfl (eS rfl eZ)) (decide_eq_false h29) ?_
                  refine oLenD eZ (n := v10.Reads.length) (List.length_map _) ?_
                  refine gDo (eS rfl (eS rfl (eS rfl eZ))) (decide_eq_false h29) ?_
                  refine oGtr eZ eC ?_
                  refine oPickF (eS rfl (eS rfl (eS rfl (eS rfl eZ)))) (decide_eq_false h29) eZ ?_
                  refine oMov eZ ?_
                  rcases oite H with ⟨h30, H⟩ | ⟨h30, H⟩
                  · refine gSkip eZ (decide_eq_true h30) rfl ?_
                    refine gSkip (eS rfl eZ) (decide_eq_true h30) rfl ?_
                    refine gSkip (eS rfl (eS rfl eZ)) (decide_eq_true h30) rfl ?_
                    refine gSkip (eS rfl (eS rfl (eS rfl eZ))) (decide_eq_true h30) rfl ?_
                    refine oPickT (eS rfl (eS rfl (eS rfl (eS rfl eZ)))) (decide_eq_true h30) eC ?_
                    refine oMov eZ ?_
                    refine gSkip eZ rfl rfl ?_
                    refine gSkip (eS rfl eZ) rfl rfl ?_
                    refine gSkip (eS rfl (eS rfl eZ)) rfl rfl ?_
                    refine gSkip (eS rfl (eS rfl (eS rfl eZ))) rfl rfl ?_
                    refine oPickT (eS rfl (eS rfl (eS rfl (eS rfl eZ)))) rfl eC ?_
                    refine xNil ?_
                    exact TQ.qn ⟨true, H, (wk_mk [] (SL.cons (eS rfl (eS rfl (eS rfl (eS rfl (eS rfl (eS rfl (eS rfl (eS rfl (eS rfl (eS rfl (eS rfl (eS rfl (eS rfl (eS rfl (eS rfl (eS rfl (eS rfl (eS rfl (eS rfl (eS rfl (eS rfl (eS rfl (eS rfl (eS rfl (eS rfl (eS rfl (eS rfl (eS rfl (eS rfl (eS rfl (eS rfl (eS rfl (eS rfl (eS rfl (eS rfl (eS rfl (eS rfl (eS rfl (eS rfl (eS rfl (eS rfl (eS rfl (eS rfl (eS rfl (eS rfl (eS rfl eZ)))))))))))))))))))))))))))))))))))))))))))))) rfl VWk.rfl (SL.cons (eS rfl (eS rfl (eS rfl (eS rfl (eS rfl (eS rfl (eS rfl (eS rfl (eS rfl (eS rfl (eS rfl (eS rfl (eS rfl (eS rfl (eS rfl (eS rfl (eS rfl (eS rfl (eS rfl (eS rfl (eS rfl (eS rfl (eS rfl (eS rfl (eS rfl (eS rfl (eS rfl (eS rfl (eS rfl (eS rfl (eS rfl (eS rfl (eS rfl (eS rfl (eS rfl (eS rfl (eS rfl (eS rfl (eS rfl (eS rfl (eS rfl (eS rfl (eS rfl (eS rfl (eS rfl (eS rfl (eS rfl eZ))))))))))))))))))))))))))))))))))))))))))))))) rfl VWk.rfl (SL.cons (eS rfl (eS rfl (eS rfl (eS rfl (eS rfl (eS rfl (eS rfl (eS rfl (eS rfl (eS rfl (eS rfl (eS rfl (eS rfl (eS rfl (eS rfl (eS rfl (eS rfl (eS rfl (eS rfl (eS rfl (eS rfl (eS rfl (eS rfl (eS rfl (eS rfl (eS rfl (eS rfl (eS rfl (eS rfl (eS rfl (eS rfl (eS rfl (eS rfl (eS rfl (eS rfl (eS rfl (eS rfl eZ))))))))))))))))))))))))))))))))))))) rfl VWk.rfl (SL.cons eZ rfl VWk.rfl SL.nil)))) (BL.keep rfl (BL.keep rfl BL.nil)) (BK.cons rfl bZ rfl rfl BK.nil))⟩
                  · refine gDo eZ (decide_eq_false h30) ?_
                    refine oFaddrN (m := 2) (eS rfl (eS rfl (eS rfl (eS rfl (eS rfl (eS rfl (eS rfl (eS rfl (eS rfl (eS rfl (eS rfl (eS rfl (eS rfl (eS rfl (eS rfl (eS rfl (eS rfl (eS rfl (eS rfl (eS rfl (eS rfl (eS rfl (eS rfl (eS rfl (eS rfl (eS rfl eZ)))))))))))))))))))))))))) rfl ?_
                    refine gDo (eS rfl eZ) (decide_eq_false h30) ?_
                    refine oLoadV (q := 2) (c := (.d (.sl 2 (List.map d_TCell v10.Writes)))) eZ bZ rfl rfl ?_
                    refine gDo (eS rfl (eS rfl eZ)) (decide_eq_false h30) ?_
                    obtain ⟨v31, h32, H⟩ := obind H
                    refine oCall (u := (.one (.d (.bool v31)))) eC Cl.fn (c_spec_WritesOk h32) (Evs.cons eZ Evs.nil) (VDs.cons VD.plain VDs.nil) rfl ?_
                    refine gDo (eS rfl (eS rfl (eS rfl eZ))) (decide_eq_false h30) ?_
                    refine oInv eZ ?_
                    refine oPickF (eS rfl (eS rfl (eS rfl (eS rfl eZ)))) (decide_eq_false h30) eZ ?_
                    refine oMov eZ ?_
                    rcases oite H with ⟨h33, H⟩ | ⟨h33, H⟩
                    · refine gDo eZ (congrArg Bool.not h33) ?_
                      refine oFaddrN (m := 3) (eS rfl (eS rfl (eS rfl (eS rfl (eS rfl (eS rfl (eS rfl (eS rfl (eS rfl (eS rfl (eS rfl (eS rfl (eS rfl (eS rfl (eS rfl (eS rfl (eS rfl (eS rfl (eS rfl (eS rfl (eS rfl (eS rfl (eS rfl (eS rfl (eS rfl (eS rfl (eS rfl (eS rfl (eS rfl (eS rfl (eS rfl (eS rfl eZ)))))))))))))))))))))))))))))))) rfl ?_
                      refine gDo (eS rfl eZ) (congrArg Bool.not h33) ?_
                      refine oLoadV (q := 3) (c := (.d (.int .i64 v10.Vote))) eZ bZ rfl rfl ?_
                      refine gDo (eS rfl (eS rfl eZ)) (congrArg Bool.not h33) ?_
                      obtain ⟨v34, h35, H⟩ := obind H
                      refine oCall (u := (.one (.d (.bool v34)))) eC Cl.fn (c_spec_l1In h35) (Evs.cons eZ (Evs.cons eC (Evs.cons eC Evs.nil))) (VDs.cons VD.plain (VDs.cons VD.plain (VDs.cons VD.plain VDs.nil))) rfl ?_
                      refine gDo (eS rfl (eS rfl (eS rfl eZ))) (congrArg Bool.not h33) ?_
                      refine oInv eZ ?_
                      refine oPickF (eS rfl (eS rfl (eS rfl (eS rfl eZ)))) (congrArg Bool.not h33) eZ ?_
                      refine xNil ?_
                      exact TQ.qn ⟨(!v34), H, (wk_mk [] (SL.cons (eS rfl (eS rfl (eS rfl (eS rfl (eS rfl (eS rfl (eS rfl (eS rfl (eS rfl (eS rfl (eS rfl (eS rfl (eS rfl (eS rfl (eS rfl (eS rfl (eS rfl (eS rfl (eS rfl (eS rfl (eS rfl (eS rfl (eS rfl (eS rfl (eS rfl (eS rfl (eS rfl (eS rfl (eS rfl (eS rfl (eS rfl (eS rfl (eS rfl (eS rfl (eS rfl (eS rfl (eS rfl (eS rfl (eS rfl (eS rfl (eS rfl (eS rfl (eS rfl (eS rfl (eS rfl (eS rfl eZ)))))))))))))))))))))))))))))))))))))))))))))) rfl VWk.rfl (SL.cons (eS rfl (eS rfl (eS rfl (eS rfl (eS rfl (eS rfl (eS rfl (eS rfl (eS rfl (eS rfl (eS rfl (eS rfl (eS rfl (eS rfl (eS rfl (eS rfl (eS rfl (eS rfl (eS rfl (eS rfl (eS rfl (eS rfl (eS rfl (eS rfl (eS rfl (eS rfl (eS rfl (eS rfl (eS rfl (eS rfl (eS rfl (eS rfl (eS rfl (eS rfl (eS rfl (eS rfl (eS rfl (eS rfl (eS rfl (eS rfl (eS rfl (eS rfl (eS rfl (eS rfl (eS rfl (eS rfl (eS rfl eZ))))))))))))))))))))))))))))))))))))))))))))))) rfl VWk.rfl (SL.cons (eS rfl (eS rfl (eS rfl (eS rfl (eS rfl (eS rfl (eS rfl (eS rfl (eS rfl (eS rfl (eS rfl (eS rfl (eS rfl (eS rfl (eS rfl (eS rfl (eS rfl (eS rfl (eS rfl (eS rfl (eS rfl (eS rfl (eS rfl (eS rfl (eS rfl (eS rfl (eS rfl (eS rfl (eS rfl (eS rfl (eS rfl (eS rfl (eS rfl (eS rfl (eS rfl (eS rfl (eS rfl eZ))))))))))))))))))))))))))))))))))))) rfl VWk.rfl (SL.cons eZ rfl VWk.rfl SL.nil)))) (BL.keep rfl (BL.keep rfl BL.nil)) (BK.cons rfl bZ rfl rfl BK.nil))⟩
                    · refine gSkip eZ (congrArg Bool.not (nt h33)) rfl ?_
                      refine gSkip (eS rfl eZ) (congrArg Bool.not (nt h33)) rfl ?_
                      refine gSkip (eS rfl (eS rfl eZ)) (congrArg Bool.not (nt h33)) rfl ?_
                      refine gSkip (eS rfl (eS rfl (eS rfl eZ))) (congrArg Bool.not (nt h33)) rfl ?_
                      refine oPickT (eS rfl (eS rfl (eS rfl (eS rfl eZ)))) (congrArg Bool.not (nt h33)) eC ?_
                      refine xNil ?_
                      exact TQ.qn ⟨true, H, (wk_mk [] (SL.cons (eS rfl (eS rfl (eS rfl (eS rfl (eS rfl (eS rfl (eS rfl (eS rfl (eS rfl (eS rfl (eS rfl (eS rfl (eS rfl (eS rfl (eS rfl (eS rfl (eS rfl (eS rfl (eS rfl (eS rfl (eS rfl (eS rfl (eS rfl (eS rfl (eS rfl (eS rfl (eS rfl (eS rfl (eS rfl (eS rfl (eS rfl (eS rfl (eS rfl (eS rfl (eS rfl (eS rfl (eS rfl (eS rfl (eS rfl (eS rfl (eS rfl (eS rfl (eS rfl (eS rfl (eS rfl (eS rfl eZ)))))))))))))))))))))))))))))))))))))))))))))) rfl VWk.rfl (SL.cons (eS rfl (eS rfl (eS rfl (eS rfl (eS rfl (eS rfl (eS rfl (eS rfl (eS rfl (eS rfl (eS rfl (eS rfl (eS rfl (eS rfl (eS rfl (eS rfl (eS rfl (eS rfl (eS rfl (eS rfl (eS rfl (eS rfl (eS rfl (eS rfl (eS rfl (eS rfl (eS rfl (eS rfl (eS rfl (eS rfl (eS rfl (eS rfl (eS rfl (eS rfl (eS rfl (eS rfl (eS rfl (eS rfl (eS rfl (eS rfl (eS rfl (eS rfl (eS rfl (eS rfl (eS rfl (eS rfl (eS rfl eZ))))))))))))))))))))))))))))))))))))))))))))))) rfl VWk.rfl (SL.cons (eS rfl (eS rfl (eS rfl (eS rfl (eS rfl (eS rfl (eS rfl (eS rfl (eS rfl (eS rfl (eS rfl (eS rfl (eS rfl (eS rfl (eS rfl (eS rfl (eS rfl (eS rfl (eS rfl (eS rfl (eS rfl (eS rfl (eS rfl (eS rfl (eS rfl (eS rfl (eS rfl (eS rfl (eS rfl (eS rfl (eS rfl (eS rfl (eS rfl (eS rfl (eS rfl (eS rfl (eS rfl eZ))))))))))))))))))))))))))))))))))))) rfl VWk.rfl (SL.cons eZ rfl VWk.rfl SL.nil)))) (BL.keep rfl (BL.keep rfl BL.nil)) (BK.cons rfl bZ rfl rfl BK.nil))⟩
              · refine gSkip eZ (decide_eq_false h26) rfl ?_
                refine gSkip (eS rfl eZ) (decide_eq_false h26) rfl ?_
                refine gSkip (eS rfl (eS rfl eZ)) (decide_eq_false h26) rfl ?_
                refine gSkip (eS rfl (eS rfl (eS rfl eZ))) (decide_eq_false h26) rfl ?_
                refine gSkip (eS rfl (eS rfl (eS rfl (eS rfl eZ)))) (decide_eq_false h26) rfl ?_
                refine gSkip (eS rfl (eS rfl (eS rfl (eS rfl (eS rfl eZ))))) (decide_eq_false h26) rfl ?_
                refine gSkip (eS rfl (eS rfl (eS rfl (eS rfl (eS rfl (eS rfl eZ)))))) (decide_eq_false h26) rfl ?_
                refine gSkip (eS rfl (eS rfl (eS rfl (eS rfl (eS rfl (eS rfl (eS rfl eZ))))))) (decide_eq_false h26) rfl ?_
                refine gSkip (eS rfl (eS rfl (eS rfl (eS rfl (eS rfl (eS rfl (eS rfl (eS rfl eZ)))))))) (decide_eq_false h26) rfl ?_
                refine gDo (eS rfl (eS rfl (eS rfl (eS rfl (eS rfl (eS rfl (eS rfl (eS rfl (eS rfl (eS rfl (eS rfl (eS rfl eZ)))))))))))) (congrArg Bool.not h25) ?_
                refine oPickF (eS rfl (eS rfl (eS rfl (eS rfl (eS rfl (eS rfl (eS rfl (eS rfl (eS rfl eZ))))))))) (decide_eq_false h26) eC ?_
                refine oPickF (eS rfl (eS rfl (eS rfl (eS rfl (eS rfl (eS rfl (eS rfl (eS rfl (eS rfl (eS rfl (eS rfl (eS rfl (eS rfl eZ))))))))))))) (congrArg Bool.not h25) eZ ?_
                refine oMov eZ ?_
                refine gDo eZ rfl ?_
                refine oFaddrN (m := 1) (eS rfl (eS rfl (eS rfl (eS rfl (eS rfl (eS rfl (eS rfl (eS rfl (eS rfl (eS rfl (eS rfl (eS rfl (eS rfl (eS rfl (eS rfl (eS rfl (eS rfl (eS rfl (eS rfl (eS rfl eZ)))))))))))))))))))) rfl ?_
                refine gDo (eS rfl eZ) rfl ?_
                refine oLoadV (q := 1) (c := (.d (.sl 2 (List.map d_TRange v10.Reads)))) eZ bZ rfl rfl ?_
                refine gDo (eS rfl (eS rfl eZ)) rfl ?_
                refine oLenD eZ (n := v10.Reads.length) (List.length_map _) ?_
                refine gDo (eS rfl (eS rfl (eS rfl eZ))) rfl ?_
                refine oGtr eZ eC ?_
                refine oPickF (eS rfl (eS rfl (eS rfl (eS rfl eZ)))) rfl eZ ?_
                refine oMov eZ ?_
                rcases oite H with ⟨h36, H⟩ | ⟨h36, H⟩
                · refine gSkip eZ (decide_eq_true h36) rfl ?_
                  refine gSkip (eS rfl eZ) (decide_eq_true h36) rfl ?_
                  refine gSkip (eS rfl (eS rfl eZ)) (decide_eq_true h36) rfl ?_
                  refine gSkip (eS rfl (eS rfl (eS rfl eZ))) (decide_eq_true h36) rfl ?_
                  refine oPickT (eS rfl (eS rfl (eS rfl (eS rfl eZ)))) (decide_eq_true h36) eC ?_
                  refine oMov eZ ?_
                  refine gSkip eZ rfl rfl ?_
                  refine gSkip (eS rfl eZ) rfl rfl ?_
                  refine gSkip (eS rfl (eS rfl eZ)) rfl rfl ?_
                  refine gSkip (eS rfl (eS rfl (eS rfl eZ))) rfl rfl ?_
                  refine oPickT (eS rfl (eS rfl (eS rfl (eS rfl eZ)))) rfl eC ?_
                  refine xNil ?_
                  exact TQ.qn ⟨true, H, (wk_mk [] (SL.cons (eS rfl (eS rfl (eS rfl (eS rfl (eS rfl (eS rfl (eS rfl (eS rfl (eS rfl (eS rfl (eS rfl (eS rfl (eS rfl (eS rfl (eS rfl (eS rfl (eS rfl (eS rfl (eS rfl (eS rfl (eS rfl (eS rfl (eS rfl (eS rfl (eS rfl (eS rfl (eS rfl (eS rfl (eS rfl (eS rfl (eS rfl (eS rfl (eS rfl (eS rfl (eS rfl (eS rfl (eS rfl (eS rfl (eS rfl (eS rfl (eS rfl (eS rfl (eS rfl (eS rfl (eS rfl (eS rfl eZ)))))))))))))))))))))))))))))))))))))))))))))) rfl VWk.rfl (SL.cons (eS rfl (eS rfl (eS rfl (eS rfl (eS rfl (eS rfl (eS rfl (eS rfl (eS rfl (eS rfl (eS rfl (eS rfl (eS rfl (eS rfl (eS rfl (eS rfl (eS rfl (eS rfl (eS rfl (eS rfl (eS rfl (eS rfl (eS rfl (eS rfl (eS rfl (eS rfl (eS rfl (eS rfl (eS rfl (eS rfl (eS rfl (eS rfl (eS rfl (eS rfl (eS rfl (eS rfl (eS rfl (eS rfl (eS rfl (eS rfl (eS rfl (eS rfl (eS rfl (eS rfl (eS rfl (eS rfl (eS rfl eZ))))))))))))))))))))))))))))))))))))))))))))))) rfl VWk.rfl (SL.cons (eS rfl (eS rfl (eS rfl (eS rfl (eS rfl (eS rfl (eS rfl (eS rfl (eS rfl (eS rfl (eS rfl (eS rfl (eS rfl (eS rfl (eS rfl (eS rfl (eS rfl (eS rfl (eS rfl (eS rfl (eS rfl (eS rfl (eS rfl (eS rfl (eS rfl (eS rfl (eS rfl (eS rfl (eS rfl (eS rfl (eS rfl (eS rfl (eS rfl (eS rfl (eS rfl (eS rfl (eS rfl eZ))))))))))))))))))))))))))))))))))))) rfl VWk.rfl (SL.cons eZ rfl VWk.rfl SL.nil)))) (BL.keep rfl (BL.keep rfl BL.nil)) (BK.cons rfl bZ rfl rfl BK.nil))⟩
                · refine gDo eZ (decide_eq_false h36) ?_
                  refine oFaddrN (m := 2) (eS rfl (eS rfl (eS rfl (eS rfl (eS rfl (eS rfl (eS rfl (eS rfl (eS rfl (eS rfl (eS rfl (eS rfl (eS rfl (eS rfl (eS rfl (eS rfl (eS rfl (eS rfl (eS rfl (eS rfl (eS rfl (eS rfl (eS rfl (eS rfl (eS rfl (eS rfl eZ)))))))))))))))))))))))))) rfl ?_
                  refine gDo (eS rfl eZ) (decide_eq_false h36) ?_
                  refine oLoadV (q := 2) (c := (.d (.sl 2 (List.map d_TCell v10.Writes)))) eZ bZ rfl rfl ?_
                  refine gDo (eS rfl (eS rfl eZ)) (decide_eq_false h36) ?_
                  obtain ⟨v37, h38, H⟩ := obind H
                  refine oCall (u := (.one (.d (.bool v37)))) eC Cl.fn (c_spec_WritesOk h38) (Evs.cons eZ Evs.nil) (VDs.cons VD.plain VDs.nil) rfl ?_
                  refine gDo (eS rfl (eS rfl (eS rfl eZ))) (decide_eq_false h36) ?_
                  refine oInv eZ ?_
                  refine oPickF (eS rfl (eS rfl (eS rfl (eS rfl eZ)))) (decide_eq_false h36) eZ ?_
                  refine oMov eZ ?_
                  rcases oite H with ⟨h39, H⟩ | ⟨h39, H⟩
                  · refine gDo eZ (congrArg Bool.not h39) ?_
                    refine oFaddrN (m := 3) (eS rfl (eS rfl (eS rfl (eS rfl (eS rfl (eS rfl (eS rfl (eS rfl (eS rfl (eS rfl (eS rfl (eS rfl (eS rfl (eS rfl (eS rfl (eS rfl (eS rfl (eS rfl (eS rfl (eS rfl (eS rfl (eS rfl (eS rfl (eS rfl (eS rfl (eS rfl (eS rfl (eS rfl (eS rfl (eS rfl (eS rfl (eS rfl eZ)))))))))))))))))))))))))))))))) rfl ?_
                    refine gDo (eS rfl eZ) (congrArg Bool.not h39) ?_
                    refine oLoadV (q := 3) (c := (.d (.int .i64 v10.Vote))) eZ bZ rfl rfl ?_
                    refine gDo (eS rfl (eS rfl eZ)) (congrArg Bool.not h39) ?_
                    obtain ⟨v40, h41, H⟩ := obind H
                    refine oCall (u := (.one (.d (.bool v40)))) eC Cl.fn (c_spec_l1In h41) (Evs.cons eZ (Evs.cons eC (Evs.cons eC Evs.nil))) (VDs.cons VD.plain (VDs.cons VD.plain (VDs.cons VD.plain VDs.nil))) rfl ?_
                    refine gDo (eS rfl (eS rfl (eS rfl eZ))) (congrArg Bool.not h39) ?_
                    refine oInv eZ ?_
                    refine oPickF (eS rfl (eS rfl (eS rfl (eS rfl eZ)))) (congrArg Bool.not h39) eZ ?_
                    refine xNil ?_
                    exact TQ.qn ⟨(!v40), H, (wk_mk [] (SL.cons (eS rfl (eS rfl (eS rfl (eS rfl (eS rfl (eS rfl (eS rfl (eS rfl (eS rfl (eS rfl (eS rfl (eS rfl (eS rfl (eS rfl (eS rfl (eS rfl (eS rfl (eS rfl (eS rfl (eS rfl (eS rfl (eS rfl (eS rfl (eS rfl (eS rfl (eS rfl (eS rfl (eS rfl (eS rfl (eS rfl (eS rfl (eS rfl (eS rfl (eS rfl (eS rfl (eS rfl (eS rfl (eS rfl (eS rfl (eS rfl (eS rfl (eS rfl (eS rfl (eS rfl (eS rfl (eS rfl eZ)))))))))))))))))))))))))))))))))))))))))))))) rfl VWk.rfl (SL.cons (eS rfl (eS rfl (eS rfl (eS rfl (eS rfl (eS rfl (eS rfl (eS rfl (eS rfl (eS rfl (eS rfl (eS rfl (eS rfl (eS rfl (eS rfl (eS rfl (eS rfl (eS rfl (eS rfl (eS rfl (eS rfl (eS rfl (eS rfl (eS rfl (eS rfl (eS rfl (eS rfl (eS rfl (eS rfl (eS rfl (eS rfl (eS rfl (eS rfl (eS rfl (eS rfl (eS rfl (eS rfl (eS rfl (eS rfl (eS rfl (eS rfl (eS rfl (eS rfl (eS rfl (eS rfl (eS rfl (eS rfl eZ))))))))))))))))))))))))))))))))))))))))))))))) rfl VWk.rfl (SL.cons (eS rfl (eS rfl (eS rfl (eS rfl (eS rfl (eS rfl (eS rfl (eS rfl (eS rfl (eS rfl (eS rfl (eS rfl (eS rfl (eS rfl (eS rfl (eS rfl (eS rfl (eS rfl (eS rfl (eS rfl (eS rfl (eS rfl (eS rfl (eS rfl (eS rfl (eS rfl (eS rfl (eS rfl (eS rfl (eS rfl (eS rfl (eS rfl (eS rfl (eS rfl (eS rfl (eS rfl (eS rfl eZ))))))))))))))))))))))))))))))))))))) rfl VWk.rfl (SL.cons eZ rfl VWk.rfl SL.nil)))) (BL.keep rfl (BL.keep rfl BL.nil)) (BK.cons rfl bZ rfl rfl BK.nil))⟩
                  · refine gSkip eZ (congrArg Bool.not (nt h39)) rfl ?_
                    refine gSkip (eS rfl eZ) (congrArg Bool.not (nt h39)) rfl ?_
                    refine gSkip (eS rfl (eS rfl eZ)) (congrArg Bool.not (nt h39)) rfl ?_
                    refine gSkip (eS rfl (eS rfl (eS rfl eZ))) (congrArg Bool.not (nt h39)) rfl ?_
                    refine oPickT (eS rfl (eS rfl (eS rfl (eS rfl eZ)))) (congrArg Bool.not (nt h39)) eC ?_
                    refine xNil ?_
                    exact TQ.qn ⟨true, H, (wk_mk [] (SL.cons (eS rfl (eS rfl (eS rfl (eS rfl (eS rfl (eS rfl (eS rfl (eS rfl (eS rfl (eS rfl (eS rfl (eS rfl (eS rfl (eS rfl (eS rfl (eS rfl (eS rfl (eS rfl (eS rfl (eS rfl (eS rfl (eS rfl (eS rfl (eS rfl (eS rfl (eS rfl (eS rfl (eS rfl (eS rfl (eS rfl (eS rfl (eS rfl (eS rfl (eS rfl (eS rfl (eS rfl (eS rfl (eS rfl (eS rfl (eS rfl (eS rfl (eS rfl (eS rfl (eS rfl (eS rfl (eS rfl eZ)))))))))))))))))))))))))))))))))))))))))))))) rfl VWk.rfl (SL.cons (eS rfl (eS rfl (eS rfl (eS rfl (eS rfl (eS rfl (eS rfl (eS rfl (eS rfl (eS rfl (eS rfl (eS rfl (eS rfl (eS rfl (eS rfl (eS rfl (eS rfl (eS rfl (eS rfl (eS rfl (eS rfl (eS rfl (eS rfl (eS rfl (eS rfl (eS rfl (eS rfl (eS rfl (eS rfl (eS rfl (eS rfl (eS rfl (eS rfl (eS rfl (eS rfl (eS rfl (eS rfl (eS rfl (eS rfl (eS rfl (eS rfl (eS rfl (eS rfl (eS rfl (eS rfl (eS rfl (eS rfl eZ))))))))))))))))))))))))))))))))))))))))))))))) rfl VWk.rfl (SL.cons (eS rfl (eS rfl (eS rfl (eS rfl (eS rfl (eS rfl (eS rfl (eS rfl (eS rfl (eS rfl (eS rfl (eS rfl (eS rfl (eS rfl (eS rfl (eS rfl (eS rfl (eS rfl (eS rfl (eS rfl (eS rfl (eS rfl (eS rfl (eS rfl (eS rfl (eS rfl (eS rfl (eS rfl (eS rfl (eS rfl (eS rfl (eS rfl (eS rfl (eS rfl (eS rfl (eS rfl (eS rfl eZ))))))))))))))))))))))))))))))))))))) rfl VWk.rfl (SL.cons eZ rfl VWk.rfl SL.nil)))) (BL.keep rfl (BL.keep rfl BL.nil)) (BK.cons rfl bZ rfl rfl BK.nil))⟩
            · refine gSkip eZ (congrArg Bool.not (nt h25)) rfl ?_
              refine gSkip (eS rfl eZ) (congrArg Bool.not (nt h25)) rfl ?_
              refine gSkip (eS rfl (eS rfl eZ)) (congrArg Bool.not (nt h25)) rfl ?_
              refine gSkipU eZ rfl ?_
              refine gSkipU (eS rfl eZ) rfl ?_
              refine gSkipU (eS rfl (eS rfl eZ)) rfl ?_
              refine gSkipU (eS rfl (eS rfl (eS rfl eZ))) rfl ?_
              refine gSkipU (eS rfl (eS rfl (eS rfl (eS rfl eZ)))) rfl ?_
              refine gSkipU (eS rfl (eS rfl (eS rfl (eS rfl (eS rfl eZ))))) rfl ?_
              refine gSkipU (eS rfl (eS rfl (eS rfl (eS rfl (eS rfl (eS rfl eZ)))))) rfl ?_
              refine gSkipU (eS rfl (eS rfl (eS rfl (eS rfl (eS rfl (eS rfl (eS rfl eZ))))))) rfl ?_
              refine gSkipU (eS rfl (eS rfl (eS rfl (eS rfl (eS rfl (eS rfl (eS rfl (eS rfl eZ)))))))) rfl ?_
              refine gSkip (eS rfl (eS rfl (eS rfl (eS rfl (eS rfl (eS rfl (eS rfl (eS rfl (eS rfl (eS rfl (eS rfl (eS rfl eZ)))))))))))) (congrArg Bool.not (nt h25)) rfl ?_
              refine oPickT (eS rfl (eS rfl (eS rfl (eS rfl (eS rfl (eS rfl (eS rfl (eS rfl (eS rfl (eS rfl (eS rfl (eS rfl (eS rfl eZ))))))))))))) (congrArg Bool.not (nt h25)) eC ?_
              refine oMov eZ ?_
              refine gSkip eZ rfl rfl ?_
              refine gSkip (eS rfl eZ) rfl rfl ?_
              refine gSkip (eS rfl (eS rfl eZ)) rfl rfl ?_
              refine gSkip (eS rfl (eS rfl (eS rfl eZ))) rfl rfl ?_
              refine oPickT (eS rfl (eS rfl (eS rfl (eS rfl eZ)))) rfl eC ?_
              refine oMov eZ ?_
              refine gSkip eZ rfl rfl ?_
              refine gSkip (eS rfl eZ) rfl rfl ?_
              refine gSkip (eS rfl (eS rfl eZ)) rfl rfl ?_
              refine gSkip (eS rfl (eS rfl (eS rfl eZ))) rfl rfl ?_
              refine oPickT (eS rfl (eS rfl (eS rfl (eS rfl eZ)))) rfl eC ?_
              refine oMov eZ ?_
              refine gSkip eZ rfl rfl ?_
              refine gSkip (eS rfl eZ) rfl rfl ?_
              refine gSkip (eS rfl (eS rfl eZ)) rfl rfl ?_
              refine gSkip (eS rfl (eS rfl (eS rfl eZ))) rfl rfl ?_
              refine oPickT (eS rfl (eS rfl (eS rfl (eS rfl eZ)))) rfl eC ?_
              refine xNil ?_
              exact TQ.qn ⟨true, H, (wk_mk [] (SL.cons (eS rfl (eS rfl (eS rfl (eS rfl (eS rfl (eS rfl (eS rfl (eS rfl (eS rfl (eS rfl (eS rfl (eS rfl (eS rfl (eS rfl (eS rfl (eS rfl (eS rfl (eS rfl (eS rfl (eS rfl (eS rfl (eS rfl (eS rfl (eS rfl (eS rfl (eS rfl (eS rfl (eS rfl (eS rfl (eS rfl (eS rfl (eS rfl (eS rfl (eS rfl (eS rfl (eS rfl (eS rfl (eS rfl (eS rfl (eS rfl (eS rfl (eS rfl (eS rfl (eS rfl (eS rfl (eS rfl eZ)))))))))))))))))))))))))))))))))))))))))))))) rfl VWk.rfl (SL.cons (eS rfl (eS rfl (eS rfl (eS rfl (eS rfl (eS rfl (eS rfl (eS rfl (eS rfl (eS rfl (eS rfl (eS rfl (eS rfl (eS rfl (eS rfl (eS rfl (eS rfl (eS rfl (eS rfl (eS rfl (eS rfl (eS rfl (eS rfl (eS rfl (eS rfl (eS rfl (eS rfl (eS rfl (eS rfl (eS rfl (eS rfl (eS rfl (eS rfl (eS rfl (eS rfl (eS rfl (eS rfl (eS rfl (eS rfl (eS rfl (eS rfl (eS rfl (eS rfl (eS rfl (eS rfl (eS rfl (eS rfl eZ))))))))))))))))))))))))))))))))))))))))))))))) rfl VWk.rfl (SL.cons (eS rfl (eS rfl (eS rfl (eS rfl (eS rfl (eS rfl (eS rfl (eS rfl (eS rfl (eS rfl (eS rfl (eS rfl (eS rfl (eS rfl (eS rfl (eS rfl (eS rfl (eS rfl (eS rfl (eS rfl (eS rfl (eS rfl (eS rfl (eS rfl (eS rfl (eS rfl (eS rfl (eS rfl (eS rfl (eS rfl (eS rfl (eS rfl (eS rfl (eS rfl (eS rfl (eS rfl (eS rfl eZ))))))))))))))))))))))))))))))))))))) rfl VWk.rfl (SL.cons eZ rfl VWk.rfl SL.nil)))) (BL.keep rfl (BL.keep rfl BL.nil)) (BK.cons rfl bZ rfl rfl BK.nil))⟩
      · refine AW.condF eZ (decide_eq_false h7) ?_
        refine AW.exit ?_
        refine TQ.qe ?_
        refine TQ.qe ?_
        refine BQ.qe ?_
        exact TQ.qn ⟨(), H, (wk_mk [] SL.nil BL.nil BK.nil)⟩

theorem c_spec_l14Votes {a1 : (List TShare)} {a2 : Int} {r : Int} (H : m_spec_l14Votes a1 a2 = some r) : Fn Try.prog k_spec_l14Votes (lent [(.sl 4 (List.map d_TShare a1)), (.int .i64 a2)]) true [(.int .i64 r)] := by
  refine i_spec_l14Votes_fn (Nat.le_of_ble_eq_true rfl) ?_
  rw [init_mk]
  refine AW.weaken (wk_mk [] (SL.cons (v := (.one (.d (.sl 4 (List.map d_TShare a1))))) eZ rfl VWk.rfl (SL.cons (v := (.one (.d (.int .i64 a2)))) (eS rfl eZ) rfl VWk.rfl SL.nil)) BL.nil BK.nil) ?_
  unfold m_spec_l14Votes at H
  unfold i_spec_l14Votes
  refine AW.seq ?_
  refine AW.regs ?_
  refine oMov eC ?_
  refine xNil ?_
  refine TQ.qn ?_
  refine AW.seq ?_
  refine AW.regs ?_
  refine oMov eC ?_
  refine xNil ?_
  refine TQ.qn ?_
  refine AW.seqJ (fun t3 : Int => spec_l14Votes_j3 t3 = some r) (fun t3 => mk [(5, (.one (.d (.int .i64 t3))))] [] noG) ?_ ?_
  · intro t3 H
    unfold spec_l14Votes_j3 at H
    refine AW.seq ?_
    refine AW.regs ?_
    refine oMov eZ ?_
    refine oMov eZ ?_
    refine xNil ?_
    refine TQ.qn ?_
    refine AW.ret ?_
    obtain rfl := Option.some.inj H
    exact endsR (RL.cons (RV.tmp eZ) (VO.flat rfl) RL.nil) List.nodup_nil
  · refine AW.seq ?_
    refine AW.regs ?_
    refine oMov eC ?_
    refine xNil ?_
    refine TQ.qn ?_
    refine AW.block ?_
    refine AW.iter (fun s5 : (Int × Int) => mk [(0, (.one (.d (.sl 4 (List.map d_TShare a1))))), (1, (.one (.d (.int .i64 a2)))), (5, (.one (.d (.int .i64 s5.1)))), (6, (.one (.d (.int .i64 s5.2))))] [] noG) H (wk_mk [] (SL.cons (eS rfl (eS rfl (eS rfl eZ))) rfl VWk.rfl (SL.cons (eS rfl (eS rfl (eS rfl (eS rfl eZ)))) rfl VWk.rfl (SL.cons (eS rfl eZ) rfl VWk.rfl (SL.cons eZ rfl VWk.rfl SL.nil)))) BL.nil BK.nil) ?_
    intro kb6 s5 H
    unfold spec_l14Votes_b5 at H
    refine AW.seq ?_
    refine AW.seq ?_
    refine AW.regs ?_
    refine oMov (eS rfl (eS rfl (eS rfl eZ))) ?_
    refine oMov (eS rfl eZ) ?_
    refine oLenD eZ (n := a1.length) (List.length_map _) ?_
    refine oLss (eS rfl (eS rfl eZ)) eZ ?_
    refine xNil ?_
    refine TQ.qn ?_
    rcases oite H with ⟨h7, H⟩ | ⟨h7, H⟩
    · refine AW.condT eZ (decide_eq_true h7) ?_
      refine AW.skip ?_
      refine TQ.qn ?_
      refine AW.seq ?_
      refine AW.block ?_
      refine AW.seq ?_
      refine AW.regs ?_
      refine oMov (eS rfl (eS rfl (eS rfl (eS rfl eZ)))) ?_
      refine oMov (eS rfl (eS rfl (eS rfl (eS rfl (eS rfl (eS rfl (eS rfl (eS rfl eZ)))))))) ?_
      obtain ⟨v8, h9, H⟩ := obind H
      refine oAtD (eS rfl eZ) eZ h9 ?_
      refine oFaddrB (m := 3) eZ rfl ?_
      refine oLoadB (e := (.int .i64 v8.Vote)) eZ rfl ?_
      refine oMov (eS rfl (eS rfl (eS rfl (eS rfl (eS rfl (eS rfl (eS rfl (eS rfl (eS rfl (eS rfl eZ)))))))))) ?_
      refine oEql (eS rfl eZ) eZ ?_
      refine xNil ?_
      refine TQ.qn ?_
      rcases oite H with ⟨h10, H⟩ | ⟨h10, H⟩
      · refine AW.condT eZ (decide_eq_true h10) ?_
        refine AW.regs ?_
        refine oMov (eS rfl (eS rfl (eS rfl (eS rfl (eS rfl (eS rfl (eS rfl (eS rfl (eS rfl (eS rfl (eS rfl (eS rfl (eS rfl eZ))))))))))))) ?_
        refine oAdd eZ eC ?_
        refine oMov eZ ?_
        refine xNil ?_
        refine BQ.qn ?_
        refine TQ.qn ?_
        refine AW.weaken (wk_mk [] (SL.cons (k := 5) eZ rfl VWk.rfl (SL.cons (k := 0) (eS rfl (eS rfl (eS rfl (eS rfl (eS rfl (eS rfl (eS rfl (eS rfl (eS rfl (eS rfl (eS rfl (eS rfl (eS rfl (eS rfl eZ)))))))))))))) rfl VWk.rfl (SL.cons (k := 1) (eS rfl (eS rfl (eS rfl (eS rfl (eS rfl (eS rfl (eS rfl (eS rfl (eS rfl (eS rfl (eS rfl (eS rfl (eS rfl (eS rfl (eS rfl eZ))))))))))))))) rfl VWk.rfl (SL.cons (k := 6) (eS rfl (eS rfl (eS rfl (eS rfl (eS rfl (eS rfl (eS rfl (eS rfl (eS rfl (eS rfl (eS rfl (eS rfl (eS rfl (eS rfl (eS rfl (eS rfl (eS rfl eZ))))))))))))))))) rfl VWk.rfl SL.nil)))) BL.nil BK.nil) ?_
        refine AW.regs ?_
        refine oMov (eS rfl (eS rfl (eS rfl eZ))) ?_
        refine oAdd eZ eC ?_
        refine oMov eZ ?_
        refine xNil ?_
        exact TQ.qn ⟨((IntKind.wrap .i64 (s5.1 + 1)), (IntKind.wrap .i64 (s5.2 + 1))), H, (wk_mk [] (SL.cons (eS rfl (eS rfl (eS rfl (eS rfl eZ)))) rfl VWk.rfl (SL.cons (eS rfl (eS rfl (eS rfl (eS rfl (eS rfl eZ))))) rfl VWk.rfl (SL.cons (eS rfl (eS rfl (eS rfl eZ))) rfl VWk.rfl (SL.cons eZ rfl VWk.rfl SL.nil)))) BL.nil BK.nil)⟩
      · refine AW.condF eZ (decide_eq_false h10) ?_
        refine AW.skip ?_
        refine BQ.qn ?_
        refine TQ.qn ?_
        refine AW.regs ?_
        refine oMov (eS rfl (eS rfl (eS rfl (eS rfl (eS rfl (eS rfl (eS rfl (eS rfl (eS rfl (eS rfl (eS rfl (eS rfl (eS rfl (eS rfl eZ)))))))))))))) ?_
        refine oAdd eZ eC ?_
        refine oMov eZ ?_
        refine xNil ?_
        exact TQ.qn ⟨(s5.1, (IntKind.wrap .i64 (s5.2 + 1))), H, (wk_mk [] (SL.cons (eS rfl (eS rfl (eS rfl (eS rfl (eS rfl (eS rfl (eS rfl (eS rfl (eS rfl (eS rfl (eS rfl (eS rfl (eS rfl (eS rfl eZ)))))))))))))) rfl VWk.rfl (SL.cons (eS rfl (eS rfl (eS rfl (eS rfl (eS rfl (eS rfl (eS rfl (eS rfl (eS rfl (eS rfl (eS rfl (eS rfl (eS rfl (eS rfl (eS rfl eZ))))))))))))))) rfl VWk.rfl (SL.cons (eS rfl (eS rfl (eS rfl (eS rfl (eS rfl (eS rfl (eS rfl (eS rfl (eS rfl (eS rfl (eS rfl (eS rfl (eS rfl (eS rfl (eS rfl (eS rfl eZ)))))))))))))))) rfl VWk.rfl (SL.cons eZ rfl VWk.rfl SL.nil)))) BL.nil BK.nil)⟩
    · refine AW.condF eZ (decide_eq_false h7) ?_
      refine AW.exit ?_
      refine TQ.qe ?_
      refine TQ.qe ?_
      refine BQ.qe ?_
      exact TQ.qn ⟨s5.1, H, (wk_mk [] (SL.cons (eS rfl (eS rfl (eS rfl (eS rfl (eS rfl (eS rfl eZ)))))) rfl VWk.rfl SL.nil) BL.nil BK.nil)⟩

theorem c_spec_l14RecOk {a1 : TRec} {r : Bool} (H : m_spec_l14RecOk a1 = some r) : Fn Try.prog k_spec_l14RecOk (lent [(.agg (d_TRec a1))]) true [(.bool r)] := by
  refine i_spec_l14RecOk_fn (Nat.le_of_ble_eq_true rfl) ?_
  rw [init_mk]
  refine AW.weaken (wk_mk [] (SL.cons (v := (.agg [(.d (.int .i64 a1.Tx)), (.d (.int .i64 a1.Client)), (.d (.int .i64 a1.Req)), (.d (.int .i64 a1.State)), (.d (.sl 4 (List.map d_TShare a1.Shares)))])) eZ rfl VWk.rfl SL.nil) BL.nil BK.nil) ?_
  unfold m_spec_l14RecOk at H
  unfold i_spec_l14RecOk
  refine AW.seq ?_
  refine AW.regs ?_
  refine oBox (n := 64) (m := 5) (cs := [(.d (.int .i64 a1.Tx)), (.d (.int .i64 a1.Client)), (.d (.int .i64 a1.Req)), (.d (.int .i64 a1.State)), (.d (.sl 4 (List.map d_TShare a1.Shares)))]) rfl eZ rfl rfl nZ ?_
  refine oMov eC ?_
  refine xNil ?_
  refine TQ.qn ?_
  refine AW.seq ?_
  refine AW.seqJ (fun t2 : Bool => (spec_l14RecOk_j2 a1) t2 = some r) (fun t2 => mk [(1, (.one (.ptr (.nm 64 0 0)))), (18, (.one (.d (.bool t2))))] [(64, (.vars 5 [(.d (.int .i64 a1.Tx)), (.d (.int .i64 a1.Client)), (.d (.int .i64 a1.Req)), (.d (.int .i64 a1.State)), (.d (.sl 4 (List.map d_TShare a1.Shares)))]))] noG) ?_ ?_
  · intro t2 H
    unfold spec_l14RecOk_j2 at H
    rcases oite H with ⟨h4, H⟩ | ⟨h4, H⟩
    · refine AW.condT (eS rfl eZ) h4 ?_
      refine AW.seq ?_
      refine AW.regs ?_
      refine oMov eC ?_
      refine xNil ?_
      refine TQ.qn ?_
      refine AW.ret ?_
      refine TQ.qr ?_
      obtain rfl := Option.some.inj H
      exact endsR (RL.cons (RV.tmp eZ) (VO.flat rfl) RL.nil) List.nodup_nil
    · refine AW.condF (eS rfl eZ) (nt h4) ?_
      refine AW.skip ?_
      refine TQ.qn ?_
      refine AW.seq ?_
      refine AW.seq ?_
      refine AW.regs ?_
      refine oFaddrN (m := 3) eZ rfl ?_
      refine oLoadV (q := 3) (c := (.d (.int .i64 a1.State))) eZ bZ rfl rfl ?_
      refine xNil ?_
      refine TQ.qn ?_
      refine AW.block ?_
      refine AW.seq ?_
      refine AW.regs ?_
      refine oEql eZ eC ?_
      refine oMov eZ ?_
      refine xNil ?_
      refine TQ.qn ?_
      rcases oite H with ⟨h5, H⟩ | ⟨h5, H⟩
      · refine AW.condT eZ (decide_eq_true h5) ?_
        refine AW.seq ?_
        refine AW.regs ?_
        refine oFaddrN (m := 4) (eS rfl (eS rfl (eS rfl (eS rfl eZ)))) rfl ?_
        refine oLoadV (q := 4) (c := (.d (.sl 4 (List.map d_TShare a1.Shares)))) eZ bZ rfl rfl ?_
        refine oLenD eZ (n := a1.Shares.length) (List.length_map _) ?_
        refine oEql eZ eC ?_
        refine oMov eZ ?_
        refine xNil ?_
        refine TQ.qn ?_
        refine AW.ret ?_
        refine BQ.qr ?_
        refine TQ.qr ?_
        obtain rfl := Option.some.inj H
        exact endsR (RL.cons (RV.tmp eZ) (VO.flat rfl) RL.nil) List.nodup_nil
      · refine AW.condF eZ (decide_eq_false h5) ?_
        refine AW.seq ?_
        refine AW.regs ?_
        refine oEql (eS rfl (eS rfl eZ)) eC ?_
        refine oMov eZ ?_
        refine xNil ?_
        refine TQ.qn ?_
        rcases oite H with ⟨h6, H⟩ | ⟨h6, H⟩
        · refine AW.condT eZ (decide_eq_true h6) ?_
          refine AW.seq ?_
          refine AW.regs ?_
          refine oFaddrN (m := 4) (eS rfl (eS rfl (eS rfl (eS rfl (eS rfl (eS rfl eZ)))))) rfl ?_
          refine oLoadV (q := 4) (c := (.d (.sl 4 (List.map d_TShare a1.Shares)))) eZ bZ rfl rfl ?_
          obtain ⟨v7, h8, H⟩ := obind H
          refine oCall (u := (.one (.d (.int .i64 v7)))) eC Cl.fn (c_spec_l14Votes h8) (Evs.cons eZ (Evs.cons eC Evs.nil)) (VDs.cons VD.plain (VDs.cons VD.plain VDs.nil)) rfl ?_
          refine oGtr eZ eC ?_
          refine oMov eZ ?_
          rcases oite H with ⟨h9, H⟩ | ⟨h9, H⟩
          · refine gDo eZ (decide_eq_true h9) ?_
            refine oFaddrN (m := 4) (eS rfl (eS rfl (eS rfl (eS rfl (eS rfl (eS rfl (eS rfl (eS rfl (eS rfl (eS rfl (eS rfl eZ))))))))))) rfl ?_
            refine gDo (eS rfl eZ) (decide_eq_true h9) ?_
            refine oLoadV (q := 4) (c := (.d (.sl 4 (List.map d_TShare a1.Shares)))) eZ bZ rfl rfl ?_
            refine gDo (eS rfl (eS rfl eZ)) (decide_eq_true h9) ?_
            obtain ⟨v10, h11, H⟩ := obind H
            refine oCall (u := (.one (.d (.int .i64 v10)))) eC Cl.fn (c_spec_l14Votes h11) (Evs.cons eZ (Evs.cons eC Evs.nil)) (VDs.cons VD.plain (VDs.cons VD.plain VDs.nil)) rfl ?_
            refine gDo (eS rfl (eS rfl (eS rfl eZ))) (decide_eq_true h9) ?_
            refine oEql eZ eC ?_
            refine oPickT (eS rfl (eS rfl (eS rfl (eS rfl eZ)))) (decide_eq_true h9) eZ ?_
            refine oMov eZ ?_
            refine xNil ?_
            refine TQ.qn ?_
            refine AW.weaken (wk_mk [64] (SL.cons (k := 2) eZ rfl VWk.rfl SL.nil) (BL.drop rfl BL.nil) BK.nil) ?_
            refine AW.ret ?_
            refine BQ.qr ?_
            refine TQ.qr ?_
            obtain rfl := Option.some.inj H
            exact endsR (RL.cons (RV.tmp eZ) (VO.flat rfl) RL.nil) List.nodup_nil
          · refine gSkip eZ (decide_eq_false h9) rfl ?_
            refine gSkip (eS rfl eZ) (decide_eq_false h9) rfl ?_
            refine gSkip (eS rfl (eS rfl eZ)) (decide_eq_false h9) rfl ?_
            refine gSkip (eS rfl (eS rfl (eS rfl eZ))) (decide_eq_false h9) rfl ?_
            refine oPickF (eS rfl (eS rfl (eS rfl (eS rfl eZ)))) (decide_eq_false h9) eC ?_
            refine oMov eZ ?_
            refine xNil ?_
            refine TQ.qn ?_
            refine AW.weaken (wk_mk [64] (SL.cons (k := 2) eZ rfl VWk.rfl SL.nil) (BL.drop rfl BL.nil) BK.nil) ?_
            refine AW.ret ?_
            refine BQ.qr ?_
            refine TQ.qr ?_
            obtain rfl := Option.some.inj H
            exact endsR (RL.cons (RV.tmp eZ) (VO.flat rfl) RL.nil) List.nodup_nil
        · refine AW.condF eZ (decide_eq_false h6) ?_
          refine AW.seq ?_
          refine AW.regs ?_
          refine oEql (eS rfl (eS rfl (eS rfl (eS rfl eZ)))) eC ?_
          refine oMov eZ ?_
          refine xNil ?_
          refine TQ.qn ?_
          rcases oite H with ⟨h12, H⟩ | ⟨h12, H⟩
          · refine AW.condT eZ (decide_eq_true h12) ?_
            refine AW.seq ?_
            refine AW.regd ?_
            refine oFaddrN (m := 4) (eS rfl (eS rfl (eS rfl (eS rfl (eS rfl (eS rfl (eS rfl (eS rfl eZ)))))))) rfl ?_
            refine oLoadV (q := 4) (c := (.d (.sl 4 (List.map d_TShare a1.Shares)))) eZ bZ rfl rfl ?_
            obtain ⟨v13, h14, H⟩ := obind H
            refine oCall (u := (.one (.d (.int .i64 v13)))) eC Cl.fn (c_spec_l14Votes h14) (Evs.cons eZ (Evs.cons eC Evs.nil)) (VDs.cons VD.plain (VDs.cons VD.plain VDs.nil)) rfl ?_
            refine oFaddrN (m := 4) (eS rfl (eS rfl (eS rfl (eS rfl (eS rfl (eS rfl (eS rfl (eS rfl (eS rfl (eS rfl (eS rfl eZ))))))))))) rfl ?_
            refine oLoadV (q := 4) (c := (.d (.sl 4 (List.map d_TShare a1.Shares)))) eZ (hB rfl bZ) rfl rfl ?_
            refine oLenD eZ (n := a1.Shares.length) (List.length_map _) ?_
            refine oEql (eS rfl (eS rfl (eS rfl eZ))) eZ ?_
            refine oMov eZ ?_
            refine xNil ?_
            refine TQ.qn ?_
            refine AW.weaken (wk_mk [64] (SL.cons (k := 2) eZ rfl VWk.rfl SL.nil) (BL.drop rfl BL.nil) BK.nil) ?_
            refine AW.ret ?_
            refine BQ.qr ?_
            refine TQ.qr ?_
            obtain rfl := Option.some.inj H
            exact endsR (RL.cons (RV.tmp eZ) (VO.flat rfl) RL.nil) List.nodup_nil
          · refine AW.condF eZ (decide_eq_false h12) ?_
            refine AW.skip ?_
            refine BQ.qn ?_
            refine TQ.qn ?_
            refine AW.seq ?_
            refine AW.regs ?_
            refine oFaddrN (m := 3) (eS rfl (eS rfl (eS rfl (eS rfl (eS rfl (eS rfl (eS rfl (eS rfl eZ)))))))) rfl ?_
            refine oLoadV (q := 3) (c := (.d (.int .i64 a1.State))) eZ bZ rfl rfl ?_
            refine oEql eZ eC ?_
            refine oMov eZ ?_
            refine xNil ?_
            refine TQ.qn ?_
            refine AW.ret ?_
            obtain rfl := Option.some.inj H
            exact endsR (RL.cons (RV.tmp eZ) (VO.flat rfl) RL.nil) List.nodup_nil
  · refine AW.regs ?_
    refine oFaddrN (m := 1) (eS rfl eZ) rfl ?_
    refine oLoadV (q := 1) (c := (.d (.int .i64 a1.Client))) eZ bZ rfl rfl ?_
    obtain ⟨v15, h16, H⟩ := obind H
    refine oCall (u := (.one (.d (.bool v15)))) eC Cl.fn (c_spec_l1Whole h16) (Evs.cons eZ Evs.nil) (VDs.cons VD.plain VDs.nil) rfl ?_
    refine oInv eZ ?_
    refine oMov eZ ?_
    rcases oite H with ⟨h17, H⟩ | ⟨h17, H⟩
    · refine gDo eZ (congrArg Bool.not h17) ?_
      refine oFaddrN (m := 2) (eS rfl (eS rfl (eS rfl (eS rfl (eS rfl (eS rfl eZ)))))) rfl ?_
      refine gDo (eS rfl eZ) (congrArg Bool.not h17) ?_
      refine oLoadV (q := 2) (c := (.d (.int .i64 a1.Req))) eZ bZ rfl rfl ?_
      refine gDo (eS rfl (eS rfl eZ)) (congrArg Bool.not h17) ?_
      obtain ⟨v18, h19, H⟩ := obind H
      refine oCall (u := (.one (.d (.bool v18)))) eC Cl.fn (c_spec_l1In h19) (Evs.cons eZ (Evs.cons eC (Evs.cons eC Evs.nil))) (VDs.cons VD.plain (VDs.cons VD.plain (VDs.cons VD.plain VDs.nil))) rfl ?_
      refine gDo (eS rfl (eS rfl (eS rfl eZ))) (congrArg Bool.not h17) ?_
      refine oInv eZ ?_
      refine oPickF (eS rfl (eS rfl (eS rfl (eS rfl eZ)))) (congrArg Bool.not h17) eZ ?_
      refine oMov eZ ?_
      rcases oite H with ⟨h20, H⟩ | ⟨h20, H⟩
      · refine gDo eZ (congrArg Bool.not h20) ?_
        refine oFaddrN (m := 4) (eS rfl (eS rfl (eS rfl (eS rfl (eS rfl (eS rfl (eS rfl (eS rfl (eS rfl (eS rfl (eS rfl (eS rfl eZ)))))))))))) rfl ?_
        refine gDo (eS rfl eZ) (congrArg Bool.not h20) ?_
        refine oLoadV (q := 4) (c := (.d (.sl 4 (List.map d_TShare a1.Shares)))) eZ bZ rfl rfl ?_
        refine gDo (eS rfl (eS rfl eZ)) (congrArg Bool.not h20) ?_
        obtain ⟨v21, h22, H⟩ := obind H
        refine oCall (u := (.one (.d (.bool v21)))) eC Cl.fn (c_spec_SharesOk h22) (Evs.cons eZ Evs.nil) (VDs.cons VD.plain VDs.nil) rfl ?_
        refine gDo (eS rfl (eS rfl (eS rfl eZ))) (congrArg Bool.not h20) ?_
        refine oInv eZ ?_
        refine oPickF (eS rfl (eS rfl (eS rfl (eS rfl eZ)))) (congrArg Bool.not h20) eZ ?_
        refine xNil ?_
        exact TQ.qn ⟨(!v21), H, (wk_mk [] (SL.cons (eS rfl (eS rfl (eS rfl (eS rfl (eS rfl (eS rfl (eS rfl (eS rfl (eS rfl (eS rfl (eS rfl (eS rfl (eS rfl (eS rfl (eS rfl (eS rfl (eS rfl eZ))))))))))))))))) rfl VWk.rfl (SL.cons eZ rfl VWk.rfl SL.nil)) (BL.keep rfl BL.nil) (BK.cons rfl bZ rfl rfl BK.nil))⟩
      · refine gSkip eZ (congrArg Bool.not (nt h20)) rfl ?_
        refine gSkip (eS rfl eZ) (congrArg Bool.not (nt h20)) rfl ?_
        refine gSkip (eS rfl (eS rfl eZ)) (congrArg Bool.not (nt h20)) rfl ?_
        refine gSkip (eS rfl (eS rfl (eS rfl eZ))) (congrArg Bool.not (nt h20)) rfl ?_
        refine oPickT (eS rfl (eS rfl (eS rfl (eS rfl eZ)))) (congrArg Bool.not (nt h20)) eC ?_
        refine xNil ?_
        exact TQ.qn ⟨true, H, (wk_mk [] (SL.cons (eS rfl (eS rfl (eS rfl (eS rfl (eS rfl (eS rfl (eS rfl (eS rfl (eS rfl (eS rfl (eS rfl (eS rfl (eS rfl (eS rfl (eS rfl (eS rfl (eS rfl eZ))))))))))))))))) rfl VWk.rfl (SL.cons eZ rfl VWk.rfl SL.nil)) (BL.keep rfl BL.nil) (BK.cons rfl bZ rfl rfl BK.nil))⟩
    · refine gSkip eZ (congrArg Bool.not (nt h17)) rfl ?_
      refine gSkip (eS rfl eZ) (congrArg Bool.not (nt h17)) rfl ?_
      refine gSkip (eS rfl (eS rfl eZ)) (congrArg Bool.not (nt h17)) rfl ?_
      refine gSkip (eS rfl (eS rfl (eS rfl eZ))) (congrArg Bool.not (nt h17)) rfl ?_
      refine oPickT (eS rfl (eS rfl (eS rfl (eS rfl eZ)))) (congrArg Bool.not (nt h17)) eC ?_
      refine oMov eZ ?_
      refine gSkip eZ rfl rfl ?_
      refine gSkip (eS rfl eZ) rfl rfl ?_
      refine gSkip (eS rfl (eS rfl eZ)) rfl rfl ?_
      refine gSkip (eS rfl (eS rfl (eS rfl eZ))) rfl rfl ?_
      refine oPickT (eS rfl (eS rfl (eS rfl (eS rfl eZ)))) rfl eC ?_
      refine xNil ?_
      exact TQ.qn ⟨true, H, (wk_mk [] (SL.cons (eS rfl (eS rfl (eS rfl (eS rfl (eS rfl (eS rfl (eS rfl (eS rfl (eS rfl (eS rfl (eS rfl (eS rfl (eS rfl (eS rfl (eS rfl (eS rfl (eS rfl eZ))))))))))))))))) rfl VWk.rfl (SL.cons eZ rfl VWk.rfl SL.nil)) (BL.keep rfl BL.nil) (BK.cons rfl bZ rfl rfl BK.nil))⟩

theorem c_spec_l12Has {a1 : (List Int)} {a2 : Int} {r : Bool} (H : m_spec_l12Has a1 a2 = some r) : Fn Try.prog k_spec_l12Has (lent [(.sl 1 (List.map d_i64 a1)), (.int .i64 a2)]) true [(.bool r)] := by
  refine i_spec_l12Has_fn (Nat.le_of_ble_eq_true rfl) ?_
  rw [init_mk]
  refine AW.weaken (wk_mk [] (SL.cons (v := (.one (.d (.sl 1 (List.map d_i64 a1))))) eZ rfl VWk.rfl (SL.cons (v := (.one (.d (.int .i64 a2)))) (eS rfl eZ) rfl VWk.rfl SL.nil)) BL.nil BK.nil) ?_
  unfold m_spec_l12Has at H
  unfold i_spec_l12Has
  refine AW.seq ?_
  refine AW.regs ?_
  refine oMov eC ?_
  refine xNil ?_
  refine TQ.qn ?_
  refine AW.seqJ (fun t3 : Unit => spec_l12Has_j3 t3 = some r) (fun t3 => mk [] [] noG) ?_ ?_
  · intro t3 H
    unfold spec_l12Has_j3 at H
    refine AW.seq ?_
    refine AW.regs ?_
    refine oMov eC ?_
    refine xNil ?_
    refine TQ.qn ?_
    refine AW.ret ?_
    obtain rfl := Option.some.inj H
    exact endsR (RL.cons (RV.tmp eZ) (VO.flat rfl) RL.nil) List.nodup_nil
  · refine AW.seq ?_
    refine AW.regs ?_
    refine oMov eC ?_
    refine xNil ?_
    refine TQ.qn ?_
    refine AW.block ?_
    refine AW.iter (fun s5 : Int => mk [(0, (.one (.d (.sl 1 (List.map d_i64 a1))))), (1, (.one (.d (.int .i64 a2)))), (5, (.one (.d (.int .i64 s5))))] [] noG) H (wk_mk [] (SL.cons (eS rfl (eS rfl eZ)) rfl VWk.rfl (SL.cons (eS rfl (eS rfl (eS rfl eZ))) rfl VWk.rfl (SL.cons eZ rfl VWk.rfl SL.nil))) BL.nil BK.nil) ?_
    intro kb6 s5 H
    unfold spec_l12Has_b5 at H
    refine AW.seq ?_
    refine AW.seq ?_
    refine AW.regs ?_
    refine oMov (eS rfl (eS rfl eZ)) ?_
    refine oMov (eS rfl eZ) ?_
    refine oLenD eZ (n := a1.length) (List.length_map _) ?_
    refine oLss (eS rfl (eS rfl eZ)) eZ ?_
    refine xNil ?_
    refine TQ.qn ?_
    rcases oite H with ⟨h7, H⟩ | ⟨h7, H⟩
    · refine AW.condT eZ (decide_eq_true h7) ?_
      refine AW.skip ?_
      refine TQ.qn ?_
      refine AW.seq ?_
      refine AW.block ?_
      refine AW.seq ?_
      refine AW.regs ?_
      refine oMov (eS rfl (eS rfl (eS rfl (eS rfl eZ)))) ?_
      refine oMov (eS rfl (eS rfl (eS rfl (eS rfl (eS rfl (eS rfl (eS rfl eZ))))))) ?_
      obtain ⟨v8, h9, H⟩ := obind H
      refine oAtD (eS rfl eZ) eZ h9 ?_
      refine oLoadB (e := (.int .i64 v8)) eZ rfl ?_
      refine oMov (eS rfl (eS rfl (eS rfl (eS rfl (eS rfl (eS rfl (eS rfl (eS rfl (eS rfl eZ))))))))) ?_
      refine oEql (eS rfl eZ) eZ ?_
      refine xNil ?_
      refine TQ.qn ?_
      rcases oite H with ⟨h10, H⟩ | ⟨h10, H⟩
      · refine AW.condT eZ (decide_eq_true h10) ?_
        refine AW.seq ?_
        refine AW.regs ?_
        refine oMov eC ?_
        refine xNil ?_
        refine TQ.qn ?_
        refine AW.ret ?_
        refine BQ.qr ?_
        refine TQ.qr ?_
        refine TQ.qr ?_
        refine BQ.qr ?_
        refine TQ.qr ?_
        obtain rfl := Option.some.inj H
        exact endsR (RL.cons (RV.tmp eZ) (VO.flat rfl) RL.nil) List.nodup_nil
      · refine AW.condF eZ (decide_eq_false h10) ?_
        refine AW.skip ?_
        refine BQ.qn ?_
        refine TQ.qn ?_
        refine AW.regs ?_
        refine oMov (eS rfl (eS rfl (eS rfl (eS rfl (eS rfl (eS rfl (eS rfl (eS rfl (eS rfl (eS rfl (eS rfl (eS rfl eZ)))))))))))) ?_
        refine oAdd eZ eC ?_
        refine oMov eZ ?_
        refine xNil ?_
        exact TQ.qn ⟨(IntKind.wrap .i64 (s5 + 1)), H, (wk_mk [] (SL.cons (eS rfl (eS rfl (eS rfl (eS rfl (eS rfl (eS rfl (eS rfl (eS rfl (eS rfl (eS rfl (eS rfl (eS rfl (eS rfl eZ))))))))))))) rfl VWk.rfl (SL.cons (eS rfl (eS rfl (eS rfl (eS rfl (eS rfl (eS rfl (eS rfl (eS rfl (eS rfl (eS rfl (eS rfl (eS rfl (eS rfl (eS rfl eZ)))))))))))))) rfl VWk.rfl (SL.cons eZ rfl VWk.rfl SL.nil))) BL.nil BK.nil)⟩
    · refine AW.condF eZ (decide_eq_false h7) ?_
      refine AW.exit ?_
      refine TQ.qe ?_
      refine TQ.qe ?_
      refine BQ.qe ?_
      exact TQ.qn ⟨(), H, (wk_mk [] SL.nil BL.nil BK.nil)⟩

theorem c_spec_CoordOk {a1 : TCoord} {r : Bool} (H : m_spec_CoordOk a1 = some r) : Fn Try.prog k_spec_CoordOk (lent [(.agg (d_TCoord a1))]) true [(.bool r)] := by
  refine i_spec_CoordOk_fn (Nat.le_of_ble_eq_true rfl) ?_
  rw [init_mk]
  refine AW.weaken (wk_mk [] (SL.cons (v := (.agg [(.d (.sl 5 (List.map d_TRec a1.Recs))), (.d (.sl 1 (List.map d_i64 a1.Order)))])) eZ rfl VWk.rfl SL.nil) BL.nil BK.nil) ?_
  unfold m_spec_CoordOk at H
  unfold i_spec_CoordOk
  refine AW.seq ?_
  refine AW.regs ?_
  refine oBox (n := 64) (m := 2) (cs := [(.d (.sl 5 (List.map d_TRec a1.Recs))), (.d (.sl 1 (List.map d_i64 a1.Order)))]) rfl eZ rfl rfl nZ ?_
  refine oMov eC ?_
  refine xNil ?_
  refine TQ.qn ?_
  refine AW.seq ?_
  refine AW.seqJ (fun t2 : Bool => (spec_CoordOk_j2 a1) t2 = some r) (fun t2 => mk [(1, (.one (.ptr (.nm 64 0 0)))), (18, (.one (.d (.bool t2))))] [(64, (.vars 2 [(.d (.sl 5 (List.map d_TRec a1.Recs))), (.d (.sl 1 (List.map d_i64 a1.Order)))]))] noG) ?_ ?_
  · intro t2 H
    unfold spec_CoordOk_j2 at H
    rcases oite H with ⟨h4, H⟩ | ⟨h4, H⟩
    · refine AW.condT (eS rfl eZ) h4 ?_
      refine AW.seq ?_
      refine AW.regs ?_
      refine oMov eC ?_
      refine xNil ?_
      refine TQ.qn ?_
      refine AW.ret ?_
      refine TQ.qr ?_
      obtain rfl := Option.some.inj H
      exact endsR (RL.cons (RV.tmp eZ) (VO.flat rfl) RL.nil) List.nodup_nil
    · refine AW.condF (eS rfl eZ) (nt h4) ?_
      refine AW.skip ?_
      refine TQ.qn ?_
      refine AW.seq ?_
      refine AW.regs ?_
      refine oMov eC ?_
      refine xNil ?_
      refine TQ.qn ?_
      refine AW.seqJ (fun t5 : Int => (spec_CoordOk_j5 a1) t5 = some r) (fun t5 => mk [(1, (.one (.ptr (.nm 64 0 0)))), (3, (.one (.d (.int .i64 t5))))] [(64, (.vars 2 [(.d (.sl 5 (List.map d_TRec a1.Recs))), (.d (.sl 1 (List.map d_i64 a1.Order)))]))] noG) ?_ ?_
      · intro t5 H
        unfold spec_CoordOk_j5 at H
        refine AW.seqJ (fun t7 : Unit => (spec_CoordOk_j7 t5 a1) t7 = some r) (fun t7 => mk [(1, (.one (.ptr (.nm 64 0 0)))), (3, (.one (.d (.int .i64 t5))))] [(64, (.vars 2 [(.d (.sl 5 (List.map d_TRec a1.Recs))), (.d (.sl 1 (List.map d_i64 a1.Order)))]))] noG) ?_ ?_
        · intro t7 H
          unfold spec_CoordOk_j7 at H
          refine AW.seq ?_
          refine AW.regs ?_
          refine oMov (eS rfl eZ) ?_
          refine oFaddrN (m := 1) (eS rfl eZ) rfl ?_
          refine oLoadV (q := 1) (c := (.d (.sl 1 (List.map d_i64 a1.Order)))) eZ bZ rfl rfl ?_
          refine oLenD eZ (n := a1.Order.length) (List.length_map _) ?_
          refine oEql (eS rfl (eS rfl (eS rfl eZ))) eZ ?_
          refine oMov eZ ?_
          refine xNil ?_
          refine TQ.qn ?_
          refine AW.ret ?_
          obtain rfl := Option.some.inj H
          exact endsR (RL.cons (RV.tmp eZ) (VO.flat rfl) RL.nil) List.nodup_nil
        · refine AW.seq ?_
          refine AW.regs ?_
          refine oMov eC ?_
          refine xNil ?_
          refine TQ.qn ?_
          refine AW.block ?_
          refine AW.iter (fun s9 : Int => mk [(1, (.one (.ptr (.nm 64 0 0)))), (3, (.one (.d (.int .i64 t5)))), (7, (.one (.d (.int .i64 s9))))] [(64, (.vars 2 [(.d (.sl 5 (List.map d_TRec a1.Recs))), (.d (.sl 1 (List.map d_i64 a1.Order)))]))] noG) H (wk_mk [] (SL.cons (eS rfl eZ) rfl VWk.rfl (SL.cons (eS rfl (eS rfl eZ)) rfl VWk.rfl (SL.cons eZ rfl VWk.rfl SL.nil))) (BL.keep rfl BL.nil) (BK.cons rfl bZ rfl rfl BK.nil)) ?_
          intro kb10 s9 H
          unfold spec_CoordOk_b9 at H
          refine AW.seq ?_
          refine AW.seq ?_
          refine AW.regs ?_
          refine oMov (eS rfl (eS rfl eZ)) ?_
          refine oFaddrN (m := 1) (eS rfl eZ) rfl ?_
          refine oLoadV (q := 1) (c := (.d (.sl 1 (List.map d_i64 a1.Order)))) eZ bZ rfl rfl ?_
          refine oLenD eZ (n := a1.Order.length) (List.length_map _) ?_
          refine oLss (eS rfl (eS rfl (eS rfl eZ))) eZ ?_
          refine xNil ?_
          refine TQ.qn ?_
          rcases oite H with ⟨h11, H⟩ | ⟨h11, H⟩
          · refine AW.condT eZ (decide_eq_true h11) ?_
            refine AW.skip ?_
            refine TQ.qn ?_
            refine AW.seq ?_
            refine AW.block ?_
            refine AW.seq ?_
            refine AW.regs ?_
            refine oFaddrN (m := 1) (eS rfl (eS rfl (eS rfl (eS rfl (eS rfl eZ))))) rfl ?_
            refine oLoadV (q := 1) (c := (.d (.sl 1 (List.map d_i64 a1.Order)))) eZ bZ rfl rfl ?_
            refine oMov (eS rfl (eS rfl (eS rfl (eS rfl (eS rfl (eS rfl (eS rfl (eS rfl (eS rfl eZ))))))))) ?_
            obtain ⟨v12, h13, H⟩ := obind H
            refine oAtD (eS rfl eZ) eZ h13 ?_
            refine oLoadB (e := (.int .i64 v12)) eZ rfl ?_
            refine oMov eZ ?_
            refine xNil ?_
            refine TQ.qn ?_
            refine AW.seqJ (fun t14 : Bool => (spec_CoordOk_j14 kb10 s9) t14 = some r) (fun t14 => mk [(1, (.one (.ptr (.nm 64 0 0)))), (3, (.one (.d (.int .i64 t5)))), (7, (.one (.d (.int .i64 s9)))), (106, (.one (.d (.bool t14))))] [(64, (.vars 2 [(.d (.sl 5 (List.map d_TRec a1.Recs))), (.d (.sl 1 (List.map d_i64 a1.Order)))]))] noG) ?_ ?_
            · intro t14 H
              unfold spec_CoordOk_j14 at H
              rcases oite H with ⟨h16, H⟩ | ⟨h16, H⟩
              · refine AW.condT (eS rfl (eS rfl (eS rfl eZ))) h16 ?_
                refine AW.seq ?_
                refine AW.regs ?_
                refine oMov eC ?_
                refine xNil ?_
                refine TQ.qn ?_
                refine AW.ret ?_
                refine BQ.qr ?_
                refine TQ.qr ?_
                refine TQ.qr ?_
                refine BQ.qr ?_
                refine TQ.qr ?_
                obtain rfl := Option.some.inj H
                exact endsR (RL.cons (RV.tmp eZ) (VO.flat rfl) RL.nil) List.nodup_nil
              · refine AW.condF (eS rfl (eS rfl (eS rfl eZ))) (nt h16) ?_
                refine AW.skip ?_
                refine BQ.qn ?_
                refine TQ.qn ?_
                refine AW.regs ?_
                refine oMov (eS rfl (eS rfl eZ)) ?_
                refine oAdd eZ eC ?_
                refine oMov eZ ?_
                refine xNil ?_
                exact TQ.qn ⟨(IntKind.wrap .i64 (s9 + 1)), H, (wk_mk [] (SL.cons (eS rfl (eS rfl (eS rfl eZ))) rfl VWk.rfl (SL.cons (eS rfl (eS rfl (eS rfl (eS rfl eZ)))) rfl VWk.rfl (SL.cons eZ rfl VWk.rfl SL.nil))) (BL.keep rfl BL.nil) (BK.cons rfl bZ rfl rfl BK.nil))⟩
            · refine AW.regs ?_
              refine oMov eZ ?_
              refine oFaddrN (m := 0) (eS rfl (eS rfl (eS rfl (eS rfl (eS rfl (eS rfl (eS rfl (eS rfl (eS rfl (eS rfl (eS rfl (eS rfl eZ)))))))))))) rfl ?_
              refine oLoadV (q := 0) (c := (.d (.sl 5 (List.map d_TRec a1.Recs)))) eZ bZ rfl rfl ?_
              refine oLenD eZ (n := a1.Recs.length) (List.length_map _) ?_
              obtain ⟨v17, h18, H⟩ := obind H
              refine oCall (u := (.one (.d (.bool v17)))) eC Cl.fn (c_spec_l1In h18) (Evs.cons (eS rfl (eS rfl (eS rfl eZ))) (Evs.cons eC (Evs.cons eZ Evs.nil))) (VDs.cons VD.plain (VDs.cons VD.plain (VDs.cons VD.plain VDs.nil))) rfl ?_
              refine oInv eZ ?_
              refine oMov eZ ?_
              rcases oite H with ⟨h19, H⟩ | ⟨h19, H⟩
              · refine gDo eZ (congrArg Bool.not h19) ?_
                refine oFaddrN (m := 0) (eS rfl (eS rfl (eS rfl (eS rfl (eS rfl (eS rfl (eS rfl (eS rfl (eS rfl (eS rfl (eS rfl (eS rfl (eS rfl (eS rfl (eS rfl (eS rfl (eS rfl (eS rfl eZ)))))))))))))))))) rfl ?_
                refine gDo (eS rfl eZ) (congrArg Bool.not h19) ?_
                refine oLoadV (q := 0) (c := (.d (.sl 5 (List.map d_TRec a1.Recs)))) eZ bZ rfl rfl ?_
                refine gDo (eS rfl (eS rfl eZ)) (congrArg Bool.not h19) ?_
                refine oMov (eS rfl (eS rfl (eS rfl (eS rfl (eS rfl (eS rfl (eS rfl (eS rfl (eS rfl eZ))))))))) ?_
                refine gDo (eS rfl (eS rfl (eS rfl eZ))) (congrArg Bool.not h19) ?_
                refine oSub eZ eC ?_
                refine gDo (eS rfl (eS rfl (eS rfl (eS rfl eZ)))) (congrArg Bool.not h19) ?_
                obtain ⟨v20, h21, H⟩ := obind H
                refine oAtD (eS rfl (eS rfl eZ)) eZ h21 ?_
                refine gDo (eS rfl (eS rfl (eS rfl (eS rfl (eS rfl eZ))))) (congrArg Bool.not h19) ?_
                refine oFaddrB (m := 3) eZ rfl ?_
                refine gDo (eS rfl (eS rfl (eS rfl (eS rfl (eS rfl (eS rfl eZ)))))) (congrArg Bool.not h19) ?_
                refine oLoadB (e := (.int .i64 v20.State)) eZ rfl ?_
                refine gDo (eS rfl (eS rfl (eS rfl (eS rfl (eS rfl (eS rfl (eS rfl eZ))))))) (congrArg Bool.not h19) ?_
                refine oNeq eZ eC ?_
                refine oPickF (eS rfl (eS rfl (eS rfl (eS rfl (eS rfl (eS rfl (eS rfl (eS rfl eZ)))))))) (congrArg Bool.not h19) eZ ?_
                refine oMov eZ ?_
                rcases oite H with ⟨h22, H⟩ | ⟨h22, H⟩
                · refine gSkip eZ (decide_eq_true h22) rfl ?_
                  refine gSkip (eS rfl eZ) (decide_eq_true h22) rfl ?_
                  refine gSkip (eS rfl (eS rfl eZ)) (decide_eq_true h22) rfl ?_
                  refine gSkip (eS rfl (eS rfl (eS rfl eZ))) (decide_eq_true h22) rfl ?_
                  refine gSkip (eS rfl (eS rfl (eS rfl (eS rfl eZ)))) (decide_eq_true h22) rfl ?_
                  refine gSkip (eS rfl (eS rfl (eS rfl (eS rfl (eS rfl eZ))))) (decide_eq_true h22) rfl ?_
                  refine oPickT (eS rfl (eS rfl (eS rfl (eS rfl (eS rfl (eS rfl eZ)))))) (decide_eq_true h22) eC ?_
                  refine xNil ?_
                  exact TQ.qn ⟨true, H, (wk_mk [] (SL.cons (eS rfl (eS rfl (eS rfl (eS rfl (eS rfl (eS rfl (eS rfl (eS rfl (eS rfl (eS rfl (eS rfl (eS rfl (eS rfl (eS rfl (eS rfl (eS rfl (eS rfl (eS rfl (eS rfl (eS rfl (eS rfl (eS rfl (eS rfl (eS rfl (eS rfl (eS rfl (eS rfl (eS rfl (eS rfl (eS rfl (eS rfl (eS rfl (eS rfl (eS rfl (eS rfl eZ))))))))))))))))))))))))))))))))))) rfl VWk.rfl (SL.cons (eS rfl (eS rfl (eS rfl (eS rfl (eS rfl (eS rfl (eS rfl (eS rfl (eS rfl (eS rfl (eS rfl (eS rfl (eS rfl (eS rfl (eS rfl (eS rfl (eS rfl (eS rfl (eS rfl (eS rfl (eS rfl (eS rfl (eS rfl (eS rfl (eS rfl (eS rfl (eS rfl (eS rfl (eS rfl (eS rfl (eS rfl (eS rfl (eS rfl (eS rfl (eS rfl (eS rfl eZ)))))))))))))))))))))))))))))))))))) rfl VWk.rfl (SL.cons (eS rfl (eS rfl (eS rfl (eS rfl (eS rfl (eS rfl (eS rfl (eS rfl (eS rfl (eS rfl (eS rfl (eS rfl (eS rfl (eS rfl (eS rfl (eS rfl (eS rfl (eS rfl (eS rfl (eS rfl (eS rfl (eS rfl (eS rfl (eS rfl (eS rfl (eS rfl (eS rfl (eS rfl (eS rfl (eS rfl (eS rfl (eS rfl (eS rfl (eS rfl (eS rfl (eS rfl (eS rfl eZ))))))))))))))))))))))))))))))))))))) rfl VWk.rfl (SL.cons eZ rfl VWk.rfl SL.nil)))) (BL.keep rfl BL.nil) (BK.cons rfl bZ rfl rfl BK.nil))⟩
                · refine gDo eZ (decide_eq_false h22) ?_
                  refine oFaddrN (m := 1) (eS rfl (eS rfl (eS rfl (eS rfl (eS rfl (eS rfl (eS rfl (eS rfl (eS rfl (eS rfl (eS rfl (eS rfl (eS rfl (eS rfl (eS rfl (eS rfl (eS rfl (eS rfl (eS rfl (eS rfl (eS rfl (eS rfl (eS rfl (eS rfl (eS rfl (eS rfl (eS rfl (eS rfl eZ)))))))))))))))))))))))))))) rfl ?_
                  refine gDo (eS rfl eZ) (decide_eq_false h22) ?_
                  refine oLoadV (q := 1) (c := (.d (.sl 1 (List.map d_i64 a1.Order)))) eZ bZ rfl rfl ?_
                  refine gDo (eS rfl (eS rfl eZ)) (decide_eq_false h22) ?_
                  refine oMov (eS rfl (eS rfl (eS rfl (eS rfl (eS rfl (eS rfl (eS rfl (eS rfl (eS rfl (eS rfl (eS rfl (eS rfl (eS rfl (eS rfl (eS rfl (eS rfl (eS rfl (eS rfl (eS rfl (eS rfl (eS rfl (eS rfl (eS rfl (eS rfl (eS rfl (eS rfl (eS rfl (eS rfl (eS rfl (eS rfl (eS rfl (eS rfl eZ)))))))))))))))))))))))))))))))) ?_
                  refine gDo (eS rfl (eS rfl (eS rfl eZ))) (decide_eq_false h22) ?_
                  obtain ⟨v23, h24, H⟩ := obind H
                  refine oCutD (eS rfl eZ) Bd.no (n := (a1.Order.length : Int)) rfl (Bd.at eZ) h24 ?_
                  refine gDo (eS rfl (eS rfl (eS rfl (eS rfl eZ)))) (decide_eq_false h22) ?_
                  refine oMov (eS rfl (eS rfl (eS rfl (eS rfl (eS rfl (eS rfl (eS rfl (eS rfl (eS rfl (eS rfl (eS rfl (eS rfl (eS rfl (eS rfl (eS rfl (eS rfl (eS rfl (eS rfl (eS rfl (eS rfl (eS rfl eZ))))))))))))))))))))) ?_
                  refine gDo (eS rfl (eS rfl (eS rfl (eS rfl (eS rfl eZ))))) (decide_eq_false h22) ?_
                  obtain ⟨v25, h26, H⟩ := obind H
                  refine oCall (u := (.one (.d (.bool v25)))) eC Cl.fn (c_spec_l12Has h26) (Evs.cons (eS rfl eZ) (Evs.cons eZ Evs.nil)) (VDs.cons VD.plain (VDs.cons VD.plain VDs.nil)) rfl ?_
                  refine oPickF (eS rfl (eS rfl (eS rfl (eS rfl (eS rfl (eS rfl eZ)))))) (decide_eq_false h22) eZ ?_
                  refine xNil ?_
                  exact TQ.qn ⟨v25, H, (wk_mk [] (SL.cons (eS rfl (eS rfl (eS rfl (eS rfl (eS rfl (eS rfl (eS rfl (eS rfl (eS rfl (eS rfl (eS rfl (eS rfl (eS rfl (eS rfl (eS rfl (eS rfl (eS rfl (eS rfl (eS rfl (eS rfl (eS rfl (eS rfl (eS rfl (eS rfl (eS rfl (eS rfl (eS rfl (eS rfl (eS rfl (eS rfl (eS rfl (eS rfl (eS rfl (eS rfl (eS rfl eZ))))))))))))))))))))))))))))))))))) rfl VWk.rfl (SL.cons (eS rfl (eS rfl (eS rfl (eS rfl (eS rfl (eS rfl (eS rfl (eS rfl (eS rfl (eS rfl (eS rfl (eS rfl (eS rfl (eS rfl (eS rfl (eS rfl (eS rfl (eS rfl (eS rfl (eS rfl (eS rfl (eS rfl (eS rfl (eS rfl (eS rfl (eS rfl (eS rfl (eS rfl (eS rfl (eS rfl (eS rfl (eS rfl (eS rfl (eS rfl (eS rfl (eS rfl eZ)))))))))))))))))))))))))))))))))))) rfl VWk.rfl (SL.cons (eS rfl (eS rfl (eS rfl (eS rfl (eS rfl (eS rfl (eS rfl (eS rfl (eS rfl (eS rfl (eS rfl (eS rfl (eS rfl (eS rfl (eS rfl (eS rfl (eS rfl (eS rfl (eS rfl (eS rfl (eS rfl (eS rfl (eS rfl (eS rfl (eS rfl (eS rfl (eS rfl (eS rfl (eS rfl (eS rfl (eS rfl (eS rfl (eS rfl (eS rfl (eS rfl (eS rfl (eS rfl eZ))))))))))))))))))))))))))))))))))))) rfl VWk.rfl (SL.cons eZ rfl VWk.rfl SL.nil)))) (BL.keep rfl BL.nil) (BK.cons rfl bZ rfl rfl BK.nil))⟩
              · refine gSkip eZ (congrArg Bool.not (nt h19)) rfl ?_
                refine gSkip (eS rfl eZ) (congrArg Bool.not (nt h19)) rfl ?_
                refine gSkip (eS rfl (eS rfl eZ)) (congrArg Bool.not (nt h19)) rfl ?_
                refine gSkip (eS rfl (eS rfl (eS rfl eZ))) (congrArg Bool.not (nt h19)) rfl ?_
                refine gSkip (eS rfl (eS rfl (eS rfl (eS rfl eZ)))) (congrArg Bool.not (nt h19)) rfl ?_
                refine gSkip (eS rfl (eS rfl (eS rfl (eS rfl (eS rfl eZ))))) (congrArg Bool.not (nt h19)) rfl ?_
                refine gSkip (eS rfl (eS rfl (eS rfl (eS rfl (eS rfl (eS rfl eZ)))))) (congrArg Bool.not (nt h19)) rfl ?_
                refine gSkip (eS rfl (eS rfl (eS rfl (eS rfl (eS rfl (eS rfl (eS rfl eZ))))))) (congrArg Bool.not (nt h19)) rfl ?_
                refine oPickT (eS rfl (eS rfl (eS rfl (eS rfl (eS rfl (eS rfl (eS rfl (eS rfl eZ)))))))) (congrArg Bool.not (nt h19)) eC ?_
                refine oMov eZ ?_
                refine gSkip eZ rfl rfl ?_
                refine gSkip (eS rfl eZ) rfl rfl ?_
                refine gSkip (eS rfl (eS rfl eZ)) rfl rfl ?_
                refine gSkip (eS rfl (eS rfl (eS rfl eZ))) rfl rfl ?_
                refine gSkip (eS rfl (eS rfl (eS rfl (eS rfl eZ)))) rfl rfl ?_
                refine gSkip (eS rfl (eS rfl (eS rfl (eS rfl (eS rfl eZ))))) rfl rfl ?_
                refine oPickT (eS rfl (eS rfl (eS rfl (eS rfl (eS rfl (eS rfl eZ)))))) rfl eC ?_
                refine xNil ?_
                exact TQ.qn ⟨true, H, (wk_mk [] (SL.cons (eS rfl (eS rfl (eS rfl (eS rfl (eS rfl (eS rfl (eS rfl (eS rfl (eS rfl (eS rfl (eS rfl (eS rfl (eS rfl (eS rfl (eS rfl (eS rfl (eS rfl (eS rfl (eS rfl (eS rfl (eS rfl (eS rfl (eS rfl (eS rfl (eS rfl (eS rfl (eS rfl (eS rfl (eS rfl (eS rfl (eS rfl (eS rfl (eS rfl (eS rfl (eS rfl eZ))))))))))))))))))))))))))))))))))) rfl VWk.rfl (SL.cons (eS rfl (eS rfl (eS rfl (eS rfl (eS rfl (eS rfl (eS rfl (eS rfl (eS rfl (eS rfl (eS rfl (eS rfl (eS rfl (eS rfl (eS rfl (eS rfl (eS rfl (eS rfl (eS rfl (eS rfl (eS rfl (eS rfl (eS rfl (eS rfl (eS rfl (eS rfl (eS rfl (eS rfl (eS rfl (eS rfl (eS rfl (eS rfl (eS rfl (eS rfl (eS rfl (eS rfl eZ)))))))))))))))))))))))))))))))))))) rfl VWk.rfl (SL.cons (eS rfl (eS rfl (eS rfl (eS rfl (eS rfl (eS rfl (eS rfl (eS rfl (eS rfl (eS rfl (eS rfl (eS rfl (eS rfl (eS rfl (eS rfl (eS rfl (eS rfl (eS rfl (eS rfl (eS rfl (eS rfl (eS rfl (eS rfl (eS rfl (eS rfl (eS rfl (eS rfl (eS rfl (eS rfl (eS rfl (eS rfl (eS rfl (eS rfl (eS rfl (eS rfl (eS rfl (eS rfl eZ))))))))))))))))))))))))))))))))))))) rfl VWk.rfl (SL.cons eZ rfl VWk.rfl SL.nil)))) (BL.keep rfl BL.nil) (BK.cons rfl bZ rfl rfl BK.nil))⟩
          · refine AW.condF eZ (decide_eq_false h11) ?_
            refine AW.exit ?_
            refine TQ.qe ?_
            refine TQ.qe ?_
            refine BQ.qe ?_
            exact TQ.qn ⟨(), H, (wk_mk [] (SL.cons (eS rfl (eS rfl (eS rfl (eS rfl (eS rfl eZ))))) rfl VWk.rfl (SL.cons (eS rfl (eS rfl (eS rfl (eS rfl (eS rfl (eS rfl eZ)))))) rfl VWk.rfl SL.nil)) (BL.keep rfl BL.nil) (BK.cons rfl bZ rfl rfl BK.nil))⟩
      · refine AW.seq ?_
        refine AW.regs ?_
        refine oMov eC ?_
        refine xNil ?_
        refine TQ.qn ?_
        refine AW.block ?_
        refine AW.iter (fun s27 : (Int × Int) => mk [(1, (.one (.ptr (.nm 64 0 0)))), (3, (.one (.d (.int .i64 s27.1)))), (4, (.one (.d (.int .i64 s27.2))))] [(64, (.vars 2 [(.d (.sl 5 (List.map d_TRec a1.Recs))), (.d (.sl 1 (List.map d_i64 a1.Order)))]))] noG) H (wk_mk [] (SL.cons (eS rfl (eS rfl eZ)) rfl VWk.rfl (SL.cons (eS rfl eZ) rfl VWk.rfl (SL.cons eZ rfl VWk.rfl SL.nil))) (BL.keep rfl BL.nil) (BK.cons rfl bZ rfl rfl BK.nil)) ?_
        intro kb28 s27 H
        unfold spec_CoordOk_b27 at H
        refine AW.seq ?_
        refine AW.seq ?_
        refine AW.regs ?_
        refine oMov (eS rfl (eS rfl eZ)) ?_
        refine oFaddrN (m := 0) (eS rfl eZ) rfl ?_
        refine oLoadV (q := 0) (c := (.d (.sl 5 (List.map d_TRec a1.Recs)))) eZ bZ rfl rfl ?_
        refine oLenD eZ (n := a1.Recs.length) (List.length_map _) ?_
        refine oLss (eS rfl (eS rfl (eS rfl eZ))) eZ ?_
        refine xNil ?_
        refine TQ.qn ?_
        rcases oite H with ⟨h29, H⟩ | ⟨h29, H⟩
        · refine AW.condT eZ (decide_eq_true h29) ?_
          refine AW.skip ?_
          refine TQ.qn ?_
          refine AW.seqJ (fun t30 : Int => (spec_CoordOk_j30 kb28 s27) t30 = some r) (fun t30 => mk [(1, (.one (.ptr (.nm 64 0 0)))), (3, (.one (.d (.int .i64 t30)))), (4, (.one (.d (.int .i64 s27.2))))] [(64, (.vars 2 [(.d (.sl 5 (List.map d_TRec a1.Recs))), (.d (.sl 1 (List.map d_i64 a1.Order)))]))] noG) ?_ ?_
          · intro t30 H
            unfold spec_CoordOk_j30 at H
            refine AW.regs ?_
            refine oMov (eS rfl (eS rfl eZ)) ?_
            refine oAdd eZ eC ?_
            refine oMov eZ ?_
            refine xNil ?_
            exact TQ.qn ⟨(t30, (IntKind.wrap .i64 (s27.2 + 1))), H, (wk_mk [] (SL.cons (eS rfl (eS rfl (eS rfl eZ))) rfl VWk.rfl (SL.cons (eS rfl (eS rfl (eS rfl (eS rfl eZ)))) rfl VWk.rfl (SL.cons eZ rfl VWk.rfl SL.nil))) (BL.keep rfl BL.nil) (BK.cons rfl bZ rfl rfl BK.nil))⟩
          · refine AW.block ?_
            refine AW.seq ?_
            refine AW.regs ?_
            refine oFaddrN (m := 0) (eS rfl (eS rfl (eS rfl (eS rfl (eS rfl eZ))))) rfl ?_
            refine oLoadV (q := 0) (c := (.d (.sl 5 (List.map d_TRec a1.Recs)))) eZ bZ rfl rfl ?_
            refine oMov (eS rfl (eS rfl (eS rfl (eS rfl (eS rfl (eS rfl (eS rfl (eS rfl (eS rfl eZ))))))))) ?_
            obtain ⟨v32, h33, H⟩ := obind H
            refine oAtD (eS rfl eZ) eZ h33 ?_
            refine oLoadBA (es := [(.d (.int .i64 v32.Tx)), (.d (.int .i64 v32.Client)), (.d (.int .i64 v32.Req)), (.d (.int .i64 v32.State)), (.d (.sl 4 (List.map d_TShare v32.Shares)))]) eZ rfl ?_
            refine oVar (n := 320) (m := 5) rfl rfl (nS rfl nZ) ?_
            refine oStoreV (es := [(.d (.int .i64 v32.Tx)), (.d (.int .i64 v32.Client)), (.d (.int .i64 v32.Req)), (.d (.int .i64 v32.State)), (.d (.sl 4 (List.map d_TShare v32.Shares)))]) eZ (eS rfl eZ) rfl rfl bZ rfl ?_
            refine xNil ?_
            refine TQ.qn ?_
            refine AW.seq ?_
            refine AW.seqJ (fun t34 : Bool => (spec_CoordOk_j34 s27 a1 v32 (spec_CoordOk_j30 kb28 s27)) t34 = some r) (fun t34 => mk [(1, (.one (.ptr (.nm 64 0 0)))), (3, (.one (.d (.int .i64 s27.1)))), (4, (.one (.d (.int .i64 s27.2)))), (5, (.one (.ptr (.nm 320 0 0)))), (40, (.one (.d (.bool t34))))] [(64, (.vars 2 [(.d (.sl 5 (List.map d_TRec a1.Recs))), (.d (.sl 1 (List.map d_i64 a1.Order)))])), (320, (.vars 5 [(.d (.int .i64 v32.Tx)), (.d (.int .i64 v32.Client)), (.d (.int .i64 v32.Req)), (.d (.int .i64 v32.State)), (.d (.sl 4 (List.map d_TShare v32.Shares)))]))] noG) ?_ ?_
            · intro t34 H
              unfold spec_CoordOk_j34 at H
              rcases oite H with ⟨h36, H⟩ | ⟨h36, H⟩
              · refine AW.condT (eS rfl (eS rfl (eS rfl (eS rfl eZ)))) h36 ?_
                refine AW.seq ?_
                refine AW.regs ?_
                refine oMov eC ?_
                refine xNil ?_
                refine TQ.qn ?_
                refine AW.ret ?_
                refine TQ.qr ?_
                refine BQ.qr ?_
                refine TQ.qr ?_
                refine TQ.qr ?_
                refine BQ.qr ?_
                refine TQ.qr ?_
                obtain rfl := Option.some.inj H
                exact endsR (RL.cons (RV.tmp eZ) (VO.flat rfl) RL.nil) List.nodup_nil
              · refine AW.condF (eS rfl (eS rfl (eS rfl (eS rfl eZ)))) (nt h36) ?_
                refine AW.skip ?_
                refine TQ.qn ?_
                refine AW.seqJ (fun t37 : Unit => (spec_CoordOk_j37 v32 (spec_CoordOk_j30 kb28 s27) s27) t37 = some r) (fun t37 => mk [(1, (.one (.ptr (.nm 64 0 0)))), (3, (.one (.d (.int .i64 s27.1)))), (4, (.one (.d (.int .i64 s27.2)))), (5, (.one (.ptr (.nm 320 0 0))))] [(64, (.vars 2 [(.d (.sl 5 (List.map d_TRec a1.Recs))), (.d (.sl 1 (List.map d_i64 a1.Order)))])), (320, (.vars 5 [(.d (.int .i64 v32.Tx)), (.d (.int .i64 v32.Client)), (.d (.int .i64 v32.Req)), (.d (.int .i64 v32.State)), (.d (.sl 4 (List.map d_TShare v32.Shares)))]))] noG) ?_ ?_
                · intro t37 H
                  unfold spec_CoordOk_j37 at H
                  refine AW.seq ?_
                  refine AW.regs ?_
                  refine oFaddrN (m := 3) (eS rfl (eS rfl (eS rfl eZ))) rfl ?_
                  refine oLoadV (q := 3) (c := (.d (.int .i64 v32.State))) eZ (bS rfl bZ) rfl rfl ?_
                  refine oEql eZ eC ?_
                  refine xNil ?_
                  refine TQ.qn ?_
                  rcases oite H with ⟨h39, H⟩ | ⟨h39, H⟩
                  · refine AW.condT eZ (decide_eq_true h39) ?_
                    refine AW.regs ?_
                    refine oMov (eS rfl (eS rfl (eS rfl (eS rfl eZ)))) ?_
                    refine oAdd eZ eC ?_
                    refine oMov eZ ?_
                    refine xNil ?_
                    refine BQ.qn ?_
                    exact TQ.qn ⟨(IntKind.wrap .i64 (s27.1 + 1)), H, (wk_mk [320] (SL.cons (eS rfl (eS rfl (eS rfl (eS rfl (eS rfl (eS rfl eZ)))))) rfl VWk.rfl (SL.cons eZ rfl VWk.rfl (SL.cons (eS rfl (eS rfl (eS rfl (eS rfl (eS rfl (eS rfl (eS rfl (eS rfl eZ)))))))) rfl VWk.rfl SL.nil))) (BL.keep rfl (BL.drop rfl BL.nil)) (BK.cons rfl bZ rfl rfl BK.nil))⟩
                  · refine AW.condF eZ (decide_eq_false h39) ?_
                    refine AW.skip ?_
                    refine BQ.qn ?_
                    exact TQ.qn ⟨s27.1, H, (wk_mk [320] (SL.cons (eS rfl (eS rfl (eS rfl eZ))) rfl VWk.rfl (SL.cons (eS rfl (eS rfl (eS rfl (eS rfl eZ)))) rfl VWk.rfl (SL.cons (eS rfl (eS rfl (eS rfl (eS rfl (eS rfl eZ))))) rfl VWk.rfl SL.nil))) (BL.keep rfl (BL.drop rfl BL.nil)) (BK.cons rfl bZ rfl rfl BK.nil))⟩
                · refine AW.seq ?_
                  refine AW.regs ?_
                  refine oMov eC ?_
                  refine xNil ?_
                  refine TQ.qn ?_
                  refine AW.block ?_
                  refine AW.iter (fun s40 : Int => mk [(1, (.one (.ptr (.nm 64 0 0)))), (3, (.one (.d (.int .i64 s27.1)))), (4, (.one (.d (.int .i64 s27.2)))), (5, (.one (.ptr (.nm 320 0 0)))), (6, (.one (.d (.int .i64 s40))))] [(64, (.vars 2 [(.d (.sl 5 (List.map d_TRec a1.Recs))), (.d (.sl 1 (List.map d_i64 a1.Order)))])), (320, (.vars 5 [(.d (.int .i64 v32.Tx)), (.d (.int .i64 v32.Client)), (.d (.int .i64 v32.Req)), (.d (.int .i64 v32.State)), (.d (.sl 4 (List.map d_TShare v32.Shares)))]))] noG) H (wk_mk [] (SL.cons (eS rfl eZ) rfl VWk.rfl (SL.cons (eS rfl (eS rfl eZ)) rfl VWk.rfl (SL.cons (eS rfl (eS rfl (eS rfl eZ))) rfl VWk.rfl (SL.cons (eS rfl (eS rfl (eS rfl (eS rfl eZ)))) rfl VWk.rfl (SL.cons eZ rfl VWk.rfl SL.nil))))) (BL.keep rfl (BL.keep rfl BL.nil)) (BK.cons rfl bZ rfl rfl (BK.cons rfl (bS rfl bZ) rfl rfl BK.nil))) ?_
                  intro kb41 s40 H
                  unfold spec_CoordOk_b40 at H
                  refine AW.seq ?_
                  refine AW.seq ?_
                  refine AW.regs ?_
                  refine oMov (eS rfl (eS rfl (eS rfl (eS rfl eZ)))) ?_
                  refine oMov (eS rfl (eS rfl (eS rfl eZ))) ?_
                  refine oLss (eS rfl eZ) eZ ?_
                  refine xNil ?_
                  refine TQ.qn ?_
                  rcases oite H with ⟨h42, H⟩ | ⟨h42, H⟩
                  · refine AW.condT eZ (decide_eq_true h42) ?_
                    refine AW.skip ?_
                    refine TQ.qn ?_
                    refine AW.seq ?_
                    refine AW.block ?_
                    refine AW.seqJ (fun t43 : Bool => (spec_CoordOk_j43 kb41 s40) t43 = some r) (fun t43 => mk [(1, (.one (.ptr (.nm 64 0 0)))), (3, (.one (.d (.int .i64 s27.1)))), (4, (.one (.d (.int .i64 s27.2)))), (5, (.one (.ptr (.nm 320 0 0)))), (6, (.one (.d (.int .i64 s40)))), (65, (.one (.d (.bool t43))))] [(64, (.vars 2 [(.d (.sl 5 (List.map d_TRec a1.Recs))), (.d (.sl 1 (List.map d_i64 a1.Order)))])), (320, (.vars 5 [(.d (.int .i64 v32.Tx)), (.d (.int .i64 v32.Client)), (.d (.int .i64 v32.Req)), (.d (.int .i64 v32.State)), (.d (.sl 4 (List.map d_TShare v32.Shares)))]))] noG) ?_ ?_
                    · intro t43 H
                      unfold spec_CoordOk_j43 at H
                      rcases oite H with ⟨h45, H⟩ | ⟨h45, H⟩
                      · refine AW.condT (eS rfl (eS rfl (eS rfl (eS rfl (eS rfl eZ))))) h45 ?_
                        refine AW.seq ?_
                        refine AW.regs ?_
                        refine oMov eC ?_
                        refine xNil ?_
                        refine TQ.qn ?_
                        refine AW.ret ?_
                        refine BQ.qr ?_
                        refine TQ.qr ?_
                        refine TQ.qr ?_
                        refine BQ.qr ?_
                        refine TQ.qr ?_
                        refine BQ.qr ?_
                        refine TQ.qr ?_
                        refine TQ.qr ?_
                        refine BQ.qr ?_
                        refine TQ.qr ?_
                        obtain rfl := Option.some.inj H
                        exact endsR (RL.cons (RV.tmp eZ) (VO.flat rfl) RL.nil) List.nodup_nil
                      · refine AW.condF (eS rfl (eS rfl (eS rfl (eS rfl (eS rfl eZ))))) (nt h45) ?_
                        refine AW.skip ?_
                        refine BQ.qn ?_
                        refine TQ.qn ?_
                        refine AW.regs ?_
                        refine oMov (eS rfl (eS rfl (eS rfl (eS rfl eZ)))) ?_
                        refine oAdd eZ eC ?_
                        refine oMov eZ ?_
                        refine xNil ?_
                        exact TQ.qn ⟨(IntKind.wrap .i64 (s40 + 1)), H, (wk_mk [] (SL.cons (eS rfl (eS rfl (eS rfl eZ))) rfl VWk.rfl (SL.cons (eS rfl (eS rfl (eS rfl (eS rfl eZ)))) rfl VWk.rfl (SL.cons (eS rfl (eS rfl (eS rfl (eS rfl (eS rfl eZ))))) rfl VWk.rfl (SL.cons (eS rfl (eS rfl (eS rfl (eS rfl (eS rfl (eS rfl eZ)))))) rfl VWk.rfl (SL.cons eZ rfl VWk.rfl SL.nil))))) (BL.keep rfl (BL.keep rfl BL.nil)) (BK.cons rfl bZ rfl rfl (BK.cons rfl (bS rfl bZ) rfl rfl BK.nil)))⟩
                    · refine AW.regd ?_
                      refine oFaddrN (m := 0) (eS rfl (eS rfl (eS rfl eZ))) rfl ?_
                      refine oLoadV (q := 0) (c := (.d (.sl 5 (List.map d_TRec a1.Recs)))) eZ bZ rfl rfl ?_
                      refine oMov (eS rfl (eS rfl (eS rfl (eS rfl (eS rfl (eS rfl (eS rfl (eS rfl (eS rfl eZ))))))))) ?_
                      obtain ⟨v46, h47, H⟩ := obind H
                      refine oAtD (eS rfl eZ) eZ h47 ?_
                      refine oFaddrB (m := 1) eZ rfl ?_
                      refine oLoadB (e := (.int .i64 v46.Client)) eZ rfl ?_
                      refine oFaddrN (m := 1) (eS rfl (eS rfl (eS rfl (eS rfl (eS rfl (eS rfl (eS rfl (eS rfl (eS rfl (eS rfl (eS rfl (eS rfl eZ)))))))))))) rfl ?_
                      refine oLoadV (q := 1) (c := (.d (.int .i64 v32.Client))) eZ (bS rfl bZ) rfl rfl ?_
                      refine oEql (eS rfl (eS rfl eZ)) eZ ?_
                      refine oMov eZ ?_
                      rcases oite H with ⟨h48, H⟩ | ⟨h48, H⟩
                      · refine gDo eZ (decide_eq_true h48) ?_
                        refine oFaddrN (m := 0) (eS rfl (eS rfl (eS rfl (eS rfl (eS rfl (eS rfl (eS rfl (eS rfl (eS rfl (eS rfl (eS rfl (eS rfl (eS rfl eZ))))))))))))) rfl ?_
                        refine gDo (eS rfl eZ) (decide_eq_true h48) ?_
                        refine oLoadV (q := 0) (c := (.d (.sl 5 (List.map d_TRec a1.Recs)))) eZ bZ rfl rfl ?_
                        refine gDo (eS rfl (eS rfl eZ)) (decide_eq_true h48) ?_
                        refine oMov (eS rfl (eS rfl (eS rfl (eS rfl (eS rfl (eS rfl (eS rfl (eS rfl (eS rfl (eS rfl (eS rfl (eS rfl (eS rfl (eS rfl (eS rfl (eS rfl (eS rfl (eS rfl (eS rfl eZ))))))))))))))))))) ?_
                        refine gDo (eS rfl (eS rfl (eS rfl eZ))) (decide_eq_true h48) ?_
                        obtain ⟨v49, h50, H⟩ := obind H
                        refine oAtD (eS rfl eZ) eZ h50 ?_
                        refine gDo (eS rfl (eS rfl (eS rfl (eS rfl eZ)))) (decide_eq_true h48) ?_
                        refine oFaddrB (m := 2) eZ rfl ?_
                        refine gDo (eS rfl (eS rfl (eS rfl (eS rfl (eS rfl eZ))))) (decide_eq_true h48) ?_
                        refine oLoadB (e := (.int .i64 v49.Req)) eZ rfl ?_
                        refine gDo (eS rfl (eS rfl (eS rfl (eS rfl (eS rfl (eS rfl eZ)))))) (decide_eq_true h48) ?_
                        refine oFaddrN (m := 2) (eS rfl (eS rfl (eS rfl (eS rfl (eS rfl (eS rfl (eS rfl (eS rfl (eS rfl (eS rfl (eS rfl (eS rfl (eS rfl (eS rfl (eS rfl (eS rfl (eS rfl (eS rfl (eS rfl (eS rfl (eS rfl (eS rfl eZ)))))))))))))))))))))) rfl ?_
                        refine gDo (eS rfl (eS rfl (eS rfl (eS rfl (eS rfl (eS rfl (eS rfl eZ))))))) (decide_eq_true h48) ?_
                        refine oLoadV (q := 2) (c := (.d (.int .i64 v32.Req))) eZ (bS rfl bZ) rfl rfl ?_
                        refine gDo (eS rfl (eS rfl (eS rfl (eS rfl (eS rfl (eS rfl (eS rfl (eS rfl eZ)))))))) (decide_eq_true h48) ?_
                        refine oEql (eS rfl (eS rfl eZ)) eZ ?_
                        refine oPickT (eS rfl (eS rfl (eS rfl (eS rfl (eS rfl (eS rfl (eS rfl (eS rfl (eS rfl eZ))))))))) (decide_eq_true h48) eZ ?_
                        refine xNil ?_
                        exact TQ.qn ⟨(decide (v49.Req = v32.Req)), H, (wk_mk [] (SL.cons (eS rfl (eS rfl (eS rfl (eS rfl (eS rfl (eS rfl (eS rfl (eS rfl (eS rfl (eS rfl (eS rfl (eS rfl (eS rfl (eS rfl (eS rfl (eS rfl (eS rfl (eS rfl (eS rfl (eS rfl (eS rfl (eS rfl (eS rfl eZ))))))))))))))))))))))) rfl VWk.rfl (SL.cons (eS rfl (eS rfl (eS rfl (eS rfl (eS rfl (eS rfl (eS rfl (eS rfl (eS rfl (eS rfl (eS rfl (eS rfl (eS rfl (eS rfl (eS rfl (eS rfl (eS rfl (eS rfl (eS rfl (eS rfl (eS rfl (eS rfl (eS rfl (eS rfl eZ)))))))))))))))))))))))) rfl VWk.rfl (SL.cons (eS rfl (eS rfl (eS rfl (eS rfl (eS rfl (eS rfl (eS rfl (eS rfl (eS rfl (eS rfl (eS rfl (eS rfl (eS rfl (eS rfl (eS rfl (eS rfl (eS rfl (eS rfl (eS rfl (eS rfl (eS rfl (eS rfl (eS rfl (eS rfl (eS rfl eZ))))))))))))))))))))))))) rfl VWk.rfl (SL.cons (eS rfl (eS rfl (eS rfl (eS rfl (eS rfl (eS rfl (eS rfl (eS rfl (eS rfl (eS rfl (eS rfl (eS rfl (eS rfl (eS rfl (eS rfl (eS rfl (eS rfl (eS rfl (eS rfl (eS rfl (eS rfl (eS rfl (eS rfl (eS rfl (eS rfl (eS rfl eZ)))))))))))))))))))))))))) rfl VWk.rfl (SL.cons (eS rfl (eS rfl (eS rfl (eS rfl (eS rfl (eS rfl (eS rfl (eS rfl (eS rfl (eS rfl (eS rfl (eS rfl (eS rfl (eS rfl (eS rfl (eS rfl (eS rfl (eS rfl (eS rfl (eS rfl (eS rfl (eS rfl (eS rfl (eS rfl (eS rfl (eS rfl (eS rfl eZ))))))))))))))))))))))))))) rfl VWk.rfl (SL.cons eZ rfl VWk.rfl SL.nil)))))) (BL.keep rfl (BL.keep rfl BL.nil)) (BK.cons rfl bZ rfl rfl (BK.cons rfl (bS rfl bZ) rfl rfl BK.nil)))⟩
                      · refine gSkip eZ (decide_eq_false h48) rfl ?_
                        refine gSkip (eS rfl eZ) (decide_eq_false h48) rfl ?_
                        refine gSkip (eS rfl (eS rfl eZ)) (decide_eq_false h48) rfl ?_
                        refine gSkip (eS rfl (eS rfl (eS rfl eZ))) (decide_eq_false h48) rfl ?_
                        refine gSkip (eS rfl (eS rfl (eS rfl (eS rfl eZ)))) (decide_eq_false h48) rfl ?_
                        refine gSkip (eS rfl (eS rfl (eS rfl (eS rfl (eS rfl eZ))))) (decide_eq_false h48) rfl ?_
                        refine gSkip (eS rfl (eS rfl (eS rfl (eS rfl (eS rfl (eS rfl eZ)))))) (decide_eq_false h48) rfl ?_
                        refine gSkip (eS rfl (eS rfl (eS rfl (eS rfl (eS rfl (eS rfl (eS rfl eZ))))))) (decide_eq_false h48) rfl ?_
                        refine gSkip (eS rfl (eS rfl (eS rfl (eS rfl (eS rfl (eS rfl (eS rfl (eS rfl eZ)))))))) (decide_eq_false h48) rfl ?_
                        refine oPickF (eS rfl (eS rfl (eS rfl (eS rfl (eS rfl (eS rfl (eS rfl (eS rfl (eS rfl eZ))))))))) (decide_eq_false h48) eC ?_
                        refine xNil ?_
                        exact TQ.qn ⟨false, H, (wk_mk [] (SL.cons (eS rfl (eS rfl (eS rfl (eS rfl (eS rfl (eS rfl (eS rfl (eS rfl (eS rfl (eS rfl (eS rfl (eS rfl (eS rfl (eS rfl (eS rfl (eS rfl (eS rfl (eS rfl (eS rfl (eS rfl (eS rfl (eS rfl (eS rfl eZ))))))))))))))))))))))) rfl VWk.rfl (SL.cons (eS rfl (eS rfl (eS rfl (eS rfl (eS rfl (eS rfl (eS rfl (eS rfl (eS rfl (eS rfl (eS rfl (eS rfl (eS rfl (eS rfl (eS rfl (eS rfl (eS rfl (eS rfl (eS rfl (eS rfl (eS rfl (eS rfl (eS rfl (eS rfl eZ)))))))))))))))))))))))) rfl VWk.rfl (SL.cons (eS rfl (eS rfl (eS rfl (eS rfl (eS rfl (eS rfl (eS rfl (eS rfl (eS rfl (eS rfl (eS rfl (eS rfl (eS rfl (eS rfl (eS rfl (eS rfl (eS rfl (eS rfl (eS rfl (eS rfl (eS rfl (eS rfl (eS rfl (eS rfl (eS rfl eZ))))))))))))))))))))))))) rfl VWk.rfl (SL.cons (eS rfl (eS rfl (eS rfl (eS rfl (eS rfl (eS rfl (eS rfl (eS rfl (eS rfl (eS rfl (eS rfl (eS rfl (eS rfl (eS rfl (eS rfl (eS rfl (eS rfl (eS rfl (eS rfl (eS rfl (eS rfl (eS rfl (eS rfl (eS rfl (eS rfl (eS rfl eZ)))))))))))))))))))))))))) rfl VWk.rfl (SL.cons (eS rfl (eS rfl (eS rfl (eS rfl (eS rfl (eS rfl (eS rfl (eS rfl (eS rfl (eS rfl (eS rfl (eS rfl (eS rfl (eS rfl (eS rfl (eS rfl (eS rfl (eS rfl (eS rfl (eS rfl (eS rfl (eS rfl (eS rfl (eS rfl (eS rfl (eS rfl (eS rfl eZ))))))))))))))))))))))))))) rfl VWk.rfl (SL.cons eZ rfl VWk.rfl SL.nil)))))) (BL.keep rfl (BL.keep rfl BL.nil)) (BK.cons rfl bZ rfl rfl (BK.cons rfl (bS rfl bZ) rfl rfl BK.nil)))⟩
                  · refine AW.condF eZ (decide_eq_false h42) ?_
                    refine AW.exit ?_
                    refine TQ.qe ?_
                    refine TQ.qe ?_
                    refine BQ.qe ?_
                    exact TQ.qn ⟨(), H, (wk_mk [] (SL.cons (eS rfl (eS rfl (eS rfl eZ))) rfl VWk.rfl (SL.cons (eS rfl (eS rfl (eS rfl (eS rfl eZ)))) rfl VWk.rfl (SL.cons (eS rfl (eS rfl (eS rfl (eS rfl (eS rfl eZ))))) rfl VWk.rfl (SL.cons (eS rfl (eS rfl (eS rfl (eS rfl (eS rfl (eS rfl eZ)))))) rfl VWk.rfl SL.nil)))) (BL.keep rfl (BL.keep rfl BL.nil)) (BK.cons rfl bZ rfl rfl (BK.cons rfl (bS rfl bZ) rfl rfl BK.nil)))⟩
            · refine AW.regs ?_
              refine oFaddrN (m := 0) eZ rfl ?_
              refine oLoadV (q := 0) (c := (.d (.int .i64 v32.Tx))) eZ bZ rfl rfl ?_
              refine oMov (eS rfl (eS rfl (eS rfl (eS rfl (eS rfl (eS rfl (eS rfl (eS rfl (eS rfl (eS rfl (eS rfl (eS rfl (eS rfl (eS rfl (eS rfl eZ))))))))))))))) ?_
              refine oAdd eZ eC ?_
              refine oNeq (eS rfl (eS rfl eZ)) eZ ?_
              refine oMov eZ ?_
              rcases oite H with ⟨h51, H⟩ | ⟨h51, H⟩
              · refine gSkip eZ (decide_eq_true h51) rfl ?_
                refine gSkip (eS rfl eZ) (decide_eq_true h51) rfl ?_
                refine gSkip (eS rfl (eS rfl eZ)) (decide_eq_true h51) rfl ?_
                refine oPickT (eS rfl (eS rfl (eS rfl eZ))) (decide_eq_true h51) eC ?_
                refine xNil ?_
                exact TQ.qn ⟨true, H, (wk_mk [] (SL.cons (eS rfl (eS rfl (eS rfl (eS rfl (eS rfl (eS rfl (eS rfl (eS rfl (eS rfl (eS rfl (eS rfl (eS rfl (eS rfl (eS rfl (eS rfl (eS rfl (eS rfl (eS rfl (eS rfl (eS rfl (eS rfl eZ))))))))))))))))))))) rfl VWk.rfl (SL.cons (eS rfl (eS rfl (eS rfl (eS rfl (eS rfl (eS rfl (eS rfl (eS rfl (eS rfl (eS rfl (eS rfl (eS rfl (eS rfl (eS rfl (eS rfl (eS rfl (eS rfl (eS rfl (eS rfl (eS rfl (eS rfl (eS rfl eZ)))))))))))))))))))))) rfl VWk.rfl (SL.cons (eS rfl (eS rfl (eS rfl (eS rfl (eS rfl (eS rfl (eS rfl (eS rfl (eS rfl (eS rfl (eS rfl (eS rfl (eS rfl (eS rfl (eS rfl (eS rfl (eS rfl (eS rfl (eS rfl (eS rfl (eS rfl (eS rfl (eS rfl eZ))))))))))))))))))))))) rfl VWk.rfl (SL.cons (eS rfl (eS rfl (eS rfl (eS rfl (eS rfl (eS rfl (eS rfl (eS rfl (eS rfl (eS rfl eZ)))))))))) rfl VWk.rfl (SL.cons eZ rfl VWk.rfl SL.nil))))) (BL.keep rfl (BL.keep rfl (BL.keep rfl BL.nil))) (BK.cons rfl (bS rfl (bS rfl bZ)) rfl rfl (BK.cons rfl bZ rfl rfl BK.nil)))⟩
              · refine gDo eZ (decide_eq_false h51) ?_
                refine oLoadVA (es := [(.d (.int .i64 v32.Tx)), (.d (.int .i64 v32.Client)), (.d (.int .i64 v32.Req)), (.d (.int .i64 v32.State)), (.d (.sl 4 (List.map d_TShare v32.Shares)))]) (eS rfl (eS rfl (eS rfl (eS rfl (eS rfl (eS rfl eZ)))))) bZ rfl ?_
                refine gDo (eS rfl eZ) (decide_eq_false h51) ?_
                obtain ⟨v52, h53, H⟩ := obind H
                refine oCall (u := (.one (.d (.bool v52)))) eC Cl.fn (c_spec_l14RecOk h53) (Evs.cons eZ Evs.nil) (VDs.cons (VD.agg rfl) VDs.nil) rfl ?_
                refine gDo (eS rfl (eS rfl eZ)) (decide_eq_false h51) ?_
                refine oInv eZ ?_
                refine oPickF (eS rfl (eS rfl (eS rfl eZ))) (decide_eq_false h51) eZ ?_
                refine xNil ?_
                exact TQ.qn ⟨(!v52), H, (wk_mk [] (SL.cons (eS rfl (eS rfl (eS rfl (eS rfl (eS rfl (eS rfl (eS rfl (eS rfl (eS rfl (eS rfl (eS rfl (eS rfl (eS rfl (eS rfl (eS rfl (eS rfl (eS rfl (eS rfl (eS rfl (eS rfl (eS rfl eZ))))))))))))))))))))) rfl VWk.rfl (SL.cons (eS rfl (eS rfl (eS rfl (eS rfl (eS rfl (eS rfl (eS rfl (eS rfl (eS rfl (eS rfl (eS rfl (eS rfl (eS rfl (eS rfl (eS rfl (eS rfl (eS rfl (eS rfl (eS rfl (eS rfl (eS rfl (eS rfl eZ)))))))))))))))))))))) rfl VWk.rfl (SL.cons (eS rfl (eS rfl (eS rfl (eS rfl (eS rfl (eS rfl (eS rfl (eS rfl (eS rfl (eS rfl (eS rfl (eS rfl (eS rfl (eS rfl (eS rfl (eS rfl (eS rfl (eS rfl (eS rfl (eS rfl (eS rfl (eS rfl (eS rfl eZ))))))))))))))))))))))) rfl VWk.rfl (SL.cons (eS rfl (eS rfl (eS rfl (eS rfl (eS rfl (eS rfl (eS rfl (eS rfl (eS rfl (eS rfl eZ)))))))))) rfl VWk.rfl (SL.cons eZ rfl VWk.rfl SL.nil))))) (BL.keep rfl (BL.keep rfl (BL.keep rfl BL.nil))) (BK.cons rfl (bS rfl (bS rfl bZ)) rfl rfl (BK.cons rfl bZ rfl rfl BK.nil)))⟩
        · refine AW.condF eZ (decide_eq_false h29) ?_
          refine AW.exit ?_
          refine TQ.qe ?_
          refine TQ.qe ?_
          refine BQ.qe ?_
          exact TQ.qn ⟨s27.1, H, (wk_mk [] (SL.cons (eS rfl (eS rfl (eS rfl (eS rfl (eS rfl eZ))))) rfl VWk.rfl (SL.cons (eS rfl (eS rfl (eS rfl (eS rfl (eS rfl (eS rfl eZ)))))) rfl VWk.rfl SL.nil)) (BL.keep rfl BL.nil) (BK.cons rfl bZ rfl rfl BK.nil))⟩
  · refine AW.regs ?_
    refine oFaddrN (m := 0) (eS rfl eZ) rfl ?_
    refine oLoadV (q := 0) (c := (.d (.sl 5 (List.map d_TRec a1.Recs)))) eZ bZ rfl rfl ?_
    refine oLenD eZ (n := a1.Recs.length) (List.length_map _) ?_
    refine oGtr eZ eC ?_
    refine oMov eZ ?_
    rcases oite H with ⟨h54, H⟩ | ⟨h54, H⟩
    · refine gSkip eZ (decide_eq_true h54) rfl ?_
      refine gSkip (eS rfl eZ) (decide_eq_true h54) rfl ?_
      refine gSkip (eS rfl (eS rfl eZ)) (decide_eq_true h54) rfl ?_
      refine gSkip (eS rfl (eS rfl (eS rfl eZ))) (decide_eq_true h54) rfl ?_
      refine oPickT (eS rfl (eS rfl (eS rfl (eS rfl eZ)))) (decide_eq_true h54) eC ?_
      refine xNil ?_
      exact TQ.qn ⟨true, H, (wk_mk [] (SL.cons (eS rfl (eS rfl (eS rfl (eS rfl (eS rfl (eS rfl (eS rfl (eS rfl (eS rfl (eS rfl (eS rfl eZ))))))))))) rfl VWk.rfl (SL.cons eZ rfl VWk.rfl SL.nil)) (BL.keep rfl BL.nil) (BK.cons rfl bZ rfl rfl BK.nil))⟩
    · refine gDo eZ (decide_eq_false h54) ?_
      refine oFaddrN (m := 1) (eS rfl (eS rfl (eS rfl (eS rfl (eS rfl (eS rfl eZ)))))) rfl ?_
      refine gDo (eS rfl eZ) (decide_eq_false h54) ?_
      refine oLoadV (q := 1) (c := (.d (.sl 1 (List.map d_i64 a1.Order)))) eZ bZ rfl rfl ?_
      refine gDo (eS rfl (eS rfl eZ)) (decide_eq_false h54) ?_
      refine oLenD eZ (n := a1.Order.length) (List.length_map _) ?_
      refine gDo (eS rfl (eS rfl (eS rfl eZ))) (decide_eq_false h54) ?_
      refine oGtr eZ eC ?_
      refine oPickF (eS rfl (eS rfl (eS rfl (eS rfl eZ)))) (decide_eq_false h54) eZ ?_
      refine xNil ?_
      exact TQ.qn ⟨(decide (60 < (a1.Order.length : Int))), H, (wk_mk [] (SL.cons (eS rfl (eS rfl (eS rfl (eS rfl (eS rfl (eS rfl (eS rfl (eS rfl (eS rfl (eS rfl (eS rfl eZ))))))))))) rfl VWk.rfl (SL.cons eZ rfl VWk.rfl SL.nil)) (BL.keep rfl BL.nil) (BK.cons rfl bZ rfl rfl BK.nil))⟩

theorem c_spec_CoordState {a1 : TCoord} {a2 : Int} {r : Int} (H : m_spec_CoordState a1 a2 = some r) : Fn Try.prog k_spec_CoordState (lent [(.agg (d_TCoord a1)), (.int .i64 a2)]) true [(.int .i64 r)] := by
  refine i_spec_CoordState_fn (Nat.le_of_ble_eq_true rfl) ?_
  rw [init_mk]
  refine AW.weaken (wk_mk [] (SL.cons (v := (.agg [(.d (.sl 5 (List.map d_TRec a1.Recs))), (.d (.sl 1 (List.map d_i64 a1.Order)))])) eZ rfl VWk.rfl (SL.cons (v := (.one (.d (.int .i64 a2)))) (eS rfl eZ) rfl VWk.rfl SL.nil)) BL.nil BK.nil) ?_
  unfold m_spec_CoordState at H
  unfold i_spec_CoordState
  refine AW.seq ?_
  refine AW.regs ?_
  refine oBox (n := 128) (m := 2) (cs := [(.d (.sl 5 (List.map d_TRec a1.Recs))), (.d (.sl 1 (List.map d_i64 a1.Order)))]) rfl eZ rfl rfl nZ ?_
  refine oMov eC ?_
  refine xNil ?_
  refine TQ.qn ?_
  refine AW.seq ?_
  refine AW.seqJ (fun t3 : Bool => (spec_CoordState_j3 a1 a2) t3 = some r) (fun t3 => mk [(1, (.one (.d (.int .i64 a2)))), (2, (.one (.ptr (.nm 128 0 0)))), (15, (.one (.d (.bool t3))))] [(128, (.vars 2 [(.d (.sl 5 (List.map d_TRec a1.Recs))), (.d (.sl 1 (List.map d_i64 a1.Order)))]))] noG) ?_ ?_
  · intro t3 H
    unfold spec_CoordState_j3 at H
    rcases oite H with ⟨h5, H⟩ | ⟨h5, H⟩
    · refine AW.condT (eS rfl (eS rfl eZ)) h5 ?_
      refine AW.seq ?_
      refine AW.regs ?_
      refine oMov eC ?_
      refine xNil ?_
      refine TQ.qn ?_
      refine AW.ret ?_
      refine TQ.qr ?_
      obtain rfl := Option.some.inj H
      exact endsR (RL.cons (RV.tmp eZ) (VO.flat rfl) RL.nil) List.nodup_nil
    · refine AW.condF (eS rfl (eS rfl eZ)) (nt h5) ?_
      refine AW.skip ?_
      refine TQ.qn ?_
      refine AW.seq ?_
      refine AW.regs ?_
      refine oFaddrN (m := 0) (eS rfl eZ) rfl ?_
      refine oLoadV (q := 0) (c := (.d (.sl 5 (List.map d_TRec a1.Recs)))) eZ bZ rfl rfl ?_
      refine oMov (eS rfl (eS rfl eZ)) ?_
      refine oSub eZ eC ?_
      obtain ⟨v6, h7, H⟩ := obind H
      refine oAtD (eS rfl (eS rfl eZ)) eZ h7 ?_
      refine oFaddrB (m := 3) eZ rfl ?_
      refine oLoadB (e := (.int .i64 v6.State)) eZ rfl ?_
      refine oMov eZ ?_
      refine xNil ?_
      refine TQ.qn ?_
      refine AW.ret ?_
      obtain rfl := Option.some.inj H
      exact endsR (RL.cons (RV.tmp eZ) (VO.flat rfl) RL.nil) List.nodup_nil
  · refine AW.regs ?_
    refine oLoadVA (es := [(.d (.sl 5 (List.map d_TRec a1.Recs))), (.d (.sl 1 (List.map d_i64 a1.Order)))]) (eS rfl eZ) bZ rfl ?_
    obtain ⟨v8, h9, H⟩ := obind H
    refine oCall (u := (.one (.d (.bool v8)))) eC Cl.fn (c_spec_CoordOk h9) (Evs.cons eZ Evs.nil) (VDs.cons (VD.agg rfl) VDs.nil) rfl ?_
    refine oInv eZ ?_
    refine oMov eZ ?_
    rcases oite H with ⟨h10, H⟩ | ⟨h10, H⟩
    · refine gDo eZ (congrArg Bool.not h10) ?_
      refine oMov (eS rfl (eS rfl (eS rfl (eS rfl (eS rfl (eS rfl (eS rfl eZ))))))) ?_
      refine gDo (eS rfl eZ) (congrArg Bool.not h10) ?_
      refine oFaddrN (m := 0) (eS rfl (eS rfl (eS rfl (eS rfl (eS rfl (eS rfl eZ)))))) rfl ?_
      refine gDo (eS rfl (eS rfl eZ)) (congrArg Bool.not h10) ?_
      refine oLoadV (q := 0) (c := (.d (.sl 5 (List.map d_TRec a1.Recs)))) eZ bZ rfl rfl ?_
      refine gDo (eS rfl (eS rfl (eS rfl eZ))) (congrArg Bool.not h10) ?_
      refine oLenD eZ (n := a1.Recs.length) (List.length_map _) ?_
      refine gDo (eS rfl (eS rfl (eS rfl (eS rfl eZ)))) (congrArg Bool.not h10) ?_
      obtain ⟨v11, h12, H⟩ := obind H
      refine oCall (u := (.one (.d (.bool v11)))) eC Cl.fn (c_spec_l1In h12) (Evs.cons (eS rfl (eS rfl (eS rfl eZ))) (Evs.cons eC (Evs.cons eZ Evs.nil))) (VDs.cons VD.plain (VDs.cons VD.plain (VDs.cons VD.plain VDs.nil))) rfl ?_
      refine gDo (eS rfl (eS rfl (eS rfl (eS rfl (eS rfl eZ))))) (congrArg Bool.not h10) ?_
      refine oInv eZ ?_
      refine oPickF (eS rfl (eS rfl (eS rfl (eS rfl (eS rfl (eS rfl eZ)))))) (congrArg Bool.not h10) eZ ?_
      refine xNil ?_
      exact TQ.qn ⟨(!v11), H, (wk_mk [] (SL.cons (eS rfl (eS rfl (eS rfl (eS rfl (eS rfl (eS rfl (eS rfl (eS rfl (eS rfl (eS rfl (eS rfl (eS rfl (eS rfl (eS rfl eZ)))))))))))))) rfl VWk.rfl (SL.cons (eS rfl (eS rfl (eS rfl (eS rfl (eS rfl (eS rfl (eS rfl (eS rfl (eS rfl (eS rfl (eS rfl (eS rfl eZ)))))))))))) rfl VWk.rfl (SL.cons eZ rfl VWk.rfl SL.nil))) (BL.keep rfl BL.nil) (BK.cons rfl bZ rfl rfl BK.nil))⟩
    · refine gSkip eZ (congrArg Bool.not (nt h10)) rfl ?_
      refine gSkip (eS rfl eZ) (congrArg Bool.not (nt h10)) rfl ?_
      refine gSkip (eS rfl (eS rfl eZ)) (congrArg Bool.not (nt h10)) rfl ?_
      refine gSkip (eS rfl (eS rfl (eS rfl eZ))) (congrArg Bool.not (nt h10)) rfl ?_
      refine gSkip (eS rfl (eS rfl (eS rfl (eS rfl eZ)))) (congrArg Bool.not (nt h10)) rfl ?_
      refine gSkip (eS rfl (eS rfl (eS rfl (eS rfl (eS rfl eZ))))) (congrArg Bool.not (nt h10)) rfl ?_
      refine oPickT (eS rfl (eS rfl (eS rfl (eS rfl (eS rfl (eS rfl eZ)))))) (congrArg Bool.not (nt h10)) eC ?_
      refine xNil ?_
      exact TQ.qn ⟨true, H, (wk_mk [] (SL.cons (eS rfl (eS rfl (eS rfl (eS rfl (eS rfl (eS rfl (eS rfl (eS rfl (eS rfl (eS rfl (eS rfl (eS rfl (eS rfl (eS rfl eZ)))))))))))))) rfl VWk.rfl (SL.cons (eS rfl (eS rfl (eS rfl (eS rfl (eS rfl (eS rfl (eS rfl (eS rfl (eS rfl (eS rfl (eS rfl (eS rfl eZ)))))))))))) rfl VWk.rfl (SL.cons eZ rfl VWk.rfl SL.nil))) (BL.keep rfl BL.nil) (BK.cons rfl bZ rfl rfl BK.nil))⟩

theorem c_impl_from {a1 : Int} {a2 : Int} {a3 : Int} {r : Bool} (H : m_impl_from a1 a2 a3 = some r) : Fn Try.prog k_impl_from (lent [(.int .i64 a1), (.int .i64 a2), (.int .i64 a3)]) true [(.bool r)] := by
  refine i_impl_from_fn (Nat.le_of_ble_eq_true rfl) ?_
  rw [init_mk]
  refine AW.weaken (wk_mk [] (SL.cons (v := (.one (.d (.int .i64 a1)))) eZ rfl VWk.rfl (SL.cons (v := (.one (.d (.int .i64 a2)))) (eS rfl eZ) rfl VWk.rfl (SL.cons (v := (.one (.d (.int .i64 a3)))) (eS rfl (eS rfl eZ)) rfl VWk.rfl SL.nil))) BL.nil BK.nil) ?_
  unfold m_impl_from at H
  unfold i_impl_from
  refine AW.seq ?_
  refine AW.regs ?_
  refine oMov eC ?_
  refine xNil ?_
  refine TQ.qn ?_
  refine AW.seq ?_
  refine AW.regs ?_
  refine oMov (eS rfl eZ) ?_
  refine oMov (eS rfl (eS rfl (eS rfl eZ))) ?_
  refine oGeq (eS rfl eZ) eZ ?_
  refine oMov eZ ?_
  rcases oite H with ⟨h4, H⟩ | ⟨h4, H⟩
  · refine gDo eZ (decide_eq_true h4) ?_
    refine oMov (eS rfl (eS rfl (eS rfl (eS rfl (eS rfl eZ))))) ?_
    refine gDo (eS rfl eZ) (decide_eq_true h4) ?_
    refine oMov (eS rfl (eS rfl (eS rfl (eS rfl (eS rfl (eS rfl (eS rfl (eS rfl eZ)))))))) ?_
    refine gDo (eS rfl (eS rfl eZ)) (decide_eq_true h4) ?_
    refine oLeq (eS rfl eZ) eZ ?_
    refine oPickT (eS rfl (eS rfl (eS rfl eZ))) (decide_eq_true h4) eZ ?_
    refine oMov eZ ?_
    refine xNil ?_
    refine TQ.qn ?_
    refine AW.ret ?_
    obtain rfl := Option.some.inj H
    exact endsR (RL.cons (RV.tmp eZ) (VO.flat rfl) RL.nil) List.nodup_nil
  · refine gSkip eZ (decide_eq_false h4) rfl ?_
    refine gSkip (eS rfl eZ) (decide_eq_false h4) rfl ?_
    refine gSkip (eS rfl (eS rfl eZ)) (decide_eq_false h4) rfl ?_
    refine oPickF (eS rfl (eS rfl (eS rfl eZ))) (decide_eq_false h4) eC ?_
    refine oMov eZ ?_
    refine xNil ?_
    refine TQ.qn ?_
    refine AW.ret ?_
    obtain rfl := Option.some.inj H
    exact endsR (RL.cons (RV.tmp eZ) (VO.flat rfl) RL.nil) List.nodup_nil

theorem c_impl_isWhole {a1 : Int} {r : Bool} (H : m_impl_isWhole a1 = some r) : Fn Try.prog k_impl_isWhole (lent [(.int .i64 a1)]) true [(.bool r)] := by
  refine i_impl_isWhole_fn (Nat.le_of_ble_eq_true rfl) ?_
  rw [init_mk]
  refine AW.weaken (wk_mk [] (SL.cons (v := (.one (.d (.int .i64 a1)))) eZ rfl VWk.rfl SL.nil) BL.nil BK.nil) ?_
  unfold m_impl_isWhole at H
  unfold i_impl_isWhole
  refine AW.seq ?_
  refine AW.regs ?_
  refine oMov eC ?_
  refine xNil ?_
  refine TQ.qn ?_
  refine AW.seq ?_
  refine AW.regs ?_
  refine oMov (eS rfl eZ) ?_
  obtain ⟨v2, h3, H⟩ := obind H
  refine oCall (u := (.one (.d (.bool v2)))) eC Cl.fn (c_impl_from h3) (Evs.cons eZ (Evs.cons eC (Evs.cons eC Evs.nil))) (VDs.cons VD.plain (VDs.cons VD.plain (VDs.cons VD.plain VDs.nil))) rfl ?_
  refine oMov eZ ?_
  refine xNil ?_
  refine TQ.qn ?_
  refine AW.ret ?_
  obtain rfl := Option.some.inj H
  exact endsR (RL.cons (RV.tmp eZ) (VO.flat rfl) RL.nil) List.nodup_nil

theorem c_impl_isReq {a1 : Int} {r : Bool} (H : m_impl_isReq a1 = some r) : Fn Try.prog k_impl_isReq (lent [(.int .i64 a1)]) true [(.bool r)] := by
  refine i_impl_isReq_fn (Nat.le_of_ble_eq_true rfl) ?_
  rw [init_mk]
  refine AW.weaken (wk_mk [] (SL.cons (v := (.one (.d (.int .i64 a1)))) eZ rfl VWk.rfl SL.nil) BL.nil BK.nil) ?_
  unfold m_impl_isReq at H
  unfold i_impl_isReq
  refine AW.seq ?_
  refine AW.regs ?_
  refine oMov eC ?_
  refine xNil ?_
  refine TQ.qn ?_
  refine AW.seq ?_
  refine AW.regs ?_
  refine oMov (eS rfl eZ) ?_
  obtain ⟨v2, h3, H⟩ := obind H
  refine oCall (u := (.one (.d (.bool v2)))) eC Cl.fn (c_impl_from h3) (Evs.cons eZ (Evs.cons eC (Evs.cons eC Evs.nil))) (VDs.cons VD.plain (VDs.cons VD.plain (VDs.cons VD.plain VDs.nil))) rfl ?_
  refine oMov eZ ?_
  refine xNil ?_
  refine TQ.qn ?_
  refine AW.ret ?_
  obtain rfl := Option.some.inj H
  exact endsR (RL.cons (RV.tmp eZ) (VO.flat rfl) RL.nil) List.nodup_nil

theorem c_impl_isGroup {a1 : Int} {r : Bool} (H : m_impl_isGroup a1 = some r) : Fn Try.prog k_impl_isGroup (lent [(.int .i64 a1)]) true [(.bool r)] := by
  refine i_impl_isGroup_fn (Nat.le_of_ble_eq_true rfl) ?_
  rw [init_mk]
  refine AW.weaken (wk_mk [] (SL.cons (v := (.one (.d (.int .i64 a1)))) eZ rfl VWk.rfl SL.nil) BL.nil BK.nil) ?_
  unfold m_impl_isGroup at H
  unfold i_impl_isGroup
  refine AW.seq ?_
  refine AW.regs ?_
  refine oMov eC ?_
  refine xNil ?_
  refine TQ.qn ?_
  refine AW.seq ?_
  refine AW.regs ?_
  refine oMov (eS rfl eZ) ?_
  obtain ⟨v2, h3, H⟩ := obind H
  refine oCall (u := (.one (.d (.bool v2)))) eC Cl.fn (c_impl_from h3) (Evs.cons eZ (Evs.cons eC (Evs.cons eC Evs.nil))) (VDs.cons VD.plain (VDs.cons VD.plain (VDs.cons VD.plain VDs.nil))) rfl ?_
  refine oMov eZ ?_
  refine xNil ?_
  refine TQ.qn ?_
  refine AW.ret ?_
  obtain rfl := Option.some.inj H
  exact endsR (RL.cons (RV.tmp eZ) (VO.flat rfl) RL.nil) List.nodup_nil

theorem c_impl_RangeOk {a1 : TRange} {r : Bool} (H : m_impl_RangeOk a1 = some r) : Fn Try.prog k_impl_RangeOk (lent [(.agg (d_TRange a1))]) true [(.bool r)] := by
  refine i_impl_RangeOk_fn (Nat.le_of_ble_eq_true rfl) ?_
  rw [init_mk]
  refine AW.weaken (wk_mk [] (SL.cons (v := (.agg [(.d (.int .i64 a1.Lo)), (.d (.int .i64 a1.Hi))])) eZ rfl VWk.rfl SL.nil) BL.nil BK.nil) ?_
  unfold m_impl_RangeOk at H
  unfold i_impl_RangeOk
  refine AW.seq ?_
  refine AW.regs ?_
  refine oBox (n := 64) (m := 2) (cs := [(.d (.int .i64 a1.Lo)), (.d (.int .i64 a1.Hi))]) rfl eZ rfl rfl nZ ?_
  refine oMov eC ?_
  refine xNil ?_
  refine TQ.qn ?_
  refine AW.seq ?_
  refine AW.regs ?_
  refine oFaddrN (m := 0) (eS rfl eZ) rfl ?_
  refine oLoadV (q := 0) (c := (.d (.int .i64 a1.Lo))) eZ bZ rfl rfl ?_
  refine oGeq eZ eC ?_
  refine oMov eZ ?_
  rcases oite H with ⟨h2, H⟩ | ⟨h2, H⟩
  · refine gDo eZ (decide_eq_true h2) ?_
    refine oFaddrN (m := 0) (eS rfl (eS rfl (eS rfl (eS rfl (eS rfl eZ))))) rfl ?_
    refine gDo (eS rfl eZ) (decide_eq_true h2) ?_
    refine oLoadV (q := 0) (c := (.d (.int .i64 a1.Lo))) eZ bZ rfl rfl ?_
    refine gDo (eS rfl (eS rfl eZ)) (decide_eq_true h2) ?_
    refine oFaddrN (m := 1) (eS rfl (eS rfl (eS rfl (eS rfl (eS rfl (eS rfl (eS rfl eZ))))))) rfl ?_
    refine gDo (eS rfl (eS rfl (eS rfl eZ))) (decide_eq_true h2) ?_
    refine oLoadV (q := 1) (c := (.d (.int .i64 a1.Hi))) eZ bZ rfl rfl ?_
    refine gDo (eS rfl (eS rfl (eS rfl (eS rfl eZ)))) (decide_eq_true h2) ?_
    refine oLss (eS rfl (eS rfl eZ)) eZ ?_
    refine oPickT (eS rfl (eS rfl (eS rfl (eS rfl (eS rfl eZ))))) (decide_eq_true h2) eZ ?_
    refine oMov eZ ?_
    rcases oite H with ⟨h3, H⟩ | ⟨h3, H⟩
    · refine gDo eZ (decide_eq_true h3) ?_
      refine oFaddrN (m := 1) (eS rfl (eS rfl (eS rfl (eS rfl (eS rfl (eS rfl (eS rfl (eS rfl (eS rfl (eS rfl (eS rfl (eS rfl eZ)))))))))))) rfl ?_
      refine gDo (eS rfl eZ) (decide_eq_true h3) ?_
      refine oLoadV (q := 1) (c := (.d (.int .i64 a1.Hi))) eZ bZ rfl rfl ?_
      refine gDo (eS rfl (eS rfl eZ)) (decide_eq_true h3) ?_
      refine oLeq eZ eC ?_
      refine oPickT (eS rfl (eS rfl (eS rfl eZ))) (decide_eq_true h3) eZ ?_
      refine oMov eZ ?_
      refine xNil ?_
      refine TQ.qn ?_
      refine AW.weaken (wk_mk [64] (SL.cons (k := 2) eZ rfl VWk.rfl SL.nil) (BL.drop rfl BL.nil) BK.nil) ?_
      refine AW.ret ?_
      obtain rfl := Option.some.inj H
      exact endsR (RL.cons (RV.tmp eZ) (VO.flat rfl) RL.nil) List.nodup_nil
    · refine gSkip eZ (decide_eq_false h3) rfl ?_
      refine gSkip (eS rfl eZ) (decide_eq_false h3) rfl ?_
      refine gSkip (eS rfl (eS rfl eZ)) (decide_eq_false h3) rfl ?_
      refine oPickF (eS rfl (eS rfl (eS rfl eZ))) (decide_eq_false h3) eC ?_
      refine oMov eZ ?_
      refine xNil ?_
      refine TQ.qn ?_
      refine AW.weaken (wk_mk [64] (SL.cons (k := 2) eZ rfl VWk.rfl SL.nil) (BL.drop rfl BL.nil) BK.nil) ?_
      refine AW.ret ?_
      obtain rfl := Option.some.inj H
      exact endsR (RL.cons (RV.tmp eZ) (VO.flat rfl) RL.nil) List.nodup_nil
  · refine gSkip eZ (decide_eq_false h2) rfl ?_
    refine gSkip (eS rfl eZ) (decide_eq_false h2) rfl ?_
    refine gSkip (eS rfl (eS rfl eZ)) (decide_eq_false h2) rfl ?_
    refine gSkip (eS rfl (eS rfl (eS rfl eZ))) (decide_eq_false h2) rfl ?_
    refine gSkip (eS rfl (eS rfl (eS rfl (eS rfl eZ)))) (decide_eq_false h2) rfl ?_
    refine oPickF (eS rfl (eS rfl (eS rfl (eS rfl (eS rfl eZ))))) (decide_eq_false h2) eC ?_
    refine oMov eZ ?_
    refine gSkip eZ rfl rfl ?_
    refine gSkip (eS rfl eZ) rfl rfl ?_
    refine gSkip (eS rfl (eS rfl eZ)) rfl rfl ?_
    refine oPickF (eS rfl (eS rfl (eS rfl eZ))) rfl eC ?_
    refine oMov eZ ?_
    refine xNil ?_
    refine TQ.qn ?_
    refine AW.weaken (wk_mk [64] (SL.cons (k := 2) eZ rfl VWk.rfl SL.nil) (BL.drop rfl BL.nil) BK.nil) ?_
    refine AW.ret ?_
    obtain rfl := Option.some.inj H
    exact endsR (RL.cons (RV.tmp eZ) (VO.flat rfl) RL.nil) List.nodup_nil

theorem c_impl_readsOk_1 {a1 : TRange} {r : Bool} (H : m_impl_readsOk_1 a1 = some r) : Fn Try.prog k_impl_readsOk_1 (lent [(.agg (d_TRange a1))]) true [(.bool r)] := by
  refine i_impl_readsOk_1_fn (Nat.le_of_ble_eq_true rfl) ?_
  rw [init_mk]
  refine AW.weaken (wk_mk [] (SL.cons (v := (.agg [(.d (.int .i64 a1.Lo)), (.d (.int .i64 a1.Hi))])) eZ rfl VWk.rfl SL.nil) BL.nil BK.nil) ?_
  unfold m_impl_readsOk_1 at H
  unfold i_impl_readsOk_1
  refine AW.seq ?_
  refine AW.regs ?_
  refine oBox (n := 64) (m := 2) (cs := [(.d (.int .i64 a1.Lo)), (.d (.int .i64 a1.Hi))]) rfl eZ rfl rfl nZ ?_
  refine oMov eC ?_
  refine xNil ?_
  refine TQ.qn ?_
  refine AW.seq ?_
  refine AW.regs ?_
  refine oLoadVA (es := [(.d (.int .i64 a1.Lo)), (.d (.int .i64 a1.Hi))]) (eS rfl eZ) bZ rfl ?_
  obtain ⟨v2, h3, H⟩ := obind H
  refine oCall (u := (.one (.d (.bool v2)))) eC Cl.fn (c_impl_RangeOk h3) (Evs.cons eZ Evs.nil) (VDs.cons (VD.agg rfl) VDs.nil) rfl ?_
  refine oInv eZ ?_
  refine oMov eZ ?_
  refine xNil ?_
  refine TQ.qn ?_
  refine AW.ret ?_
  obtain rfl := Option.some.inj H
  exact endsR (RL.cons (RV.tmp eZ) (VO.flat rfl) RL.nil) List.nodup_nil

theorem c_slices_IndexFunc_Range__readsOk_1 {a1 : (List TRange)} {r : Int} (H : m_slices_IndexFunc_Range__readsOk_1 a1 = some r) : Fn Try.prog k_slices_IndexFunc___impl_Range_impl_Range_ (lent [(.sl 2 (List.map d_TRange a1)), (.fn k_impl_readsOk_1 [])]) true [(.int .i64 r)] := by
  refine i_slices_IndexFunc___impl_Range_impl_Range__fn (Nat.le_of_ble_eq_true rfl) ?_
  rw [init_mk]
  refine AW.weaken (wk_mk [] (SL.cons (v := (.one (.d (.sl 2 (List.map d_TRange a1))))) eZ rfl VWk.rfl (SL.cons (v := (.one (.fn k_impl_readsOk_1 []))) (eS rfl eZ) rfl (VWk.one (CWk.fn (css := []))) SL.nil)) BL.nil BK.nil) ?_
  unfold m_slices_IndexFunc_Range__readsOk_1 at H
  unfold i_slices_IndexFunc___impl_Range_impl_Range_
  refine AW.seq ?_
  refine AW.regs ?_
  refine oMov eC ?_
  refine xNil ?_
  refine TQ.qn ?_
  refine AW.seqJ (fun t2 : Unit => slices_IndexFunc_Range__readsOk_1_j2 t2 = some r) (fun t2 => mk [] [] noG) ?_ ?_
  · intro t2 H
    unfold slices_IndexFunc_Range__readsOk_1_j2 at H
    refine AW.seq ?_
    refine AW.regs ?_
    refine oMov eC ?_
    refine xNil ?_
    refine TQ.qn ?_
    refine AW.ret ?_
    obtain rfl := Option.some.inj H
    exact endsR (RL.cons (RV.tmp eZ) (VO.flat rfl) RL.nil) List.nodup_nil
  · refine AW.seq ?_
    refine AW.regs ?_
    refine oMov (eS rfl eZ) ?_
    refine oLenD eZ (n := a1.length) (List.length_map _) ?_
    refine oMov eC ?_
    refine xNil ?_
    refine TQ.qn ?_
    refine AW.block ?_
    refine AW.iter (fun s4 : Int => mk [(0, (.one (.d (.sl 2 (List.map d_TRange a1))))), (1, (.one (.fn k_impl_readsOk_1 []))), (7, (.one (.d (.int .i64 (a1.length : Int))))), (8, (.one (.d (.int .i64 s4))))] [] noG) H (wk_mk [] (SL.cons (eS rfl (eS rfl (eS rfl (eS rfl eZ)))) rfl VWk.rfl (SL.cons (eS rfl (eS rfl (eS rfl (eS rfl (eS rfl eZ))))) rfl VWk.rfl (SL.cons (eS rfl eZ) rfl VWk.rfl (SL.cons eZ rfl VWk.rfl SL.nil)))) BL.nil BK.nil) ?_
    intro kb5 s4 H
    unfold slices_IndexFunc_Range__readsOk_1_b4 at H
    refine AW.seq ?_
    refine AW.regs ?_
    refine oLss (eS rfl (eS rfl (eS rfl eZ))) (eS rfl (eS rfl eZ)) ?_
    refine xNil ?_
    refine TQ.qn ?_
    refine AW.seq ?_
    rcases oite H with ⟨h6, H⟩ | ⟨h6, H⟩
    · refine AW.condT eZ (decide_eq_true h6) ?_
      refine AW.skip ?_
      refine TQ.qn ?_
      refine AW.seq ?_
      refine AW.block ?_
      refine AW.seq ?_
      refine AW.regs ?_
      refine oMov (eS rfl (eS rfl (eS rfl (eS rfl eZ)))) ?_
      refine oMov eZ ?_
      refine xNil ?_
      refine TQ.qn ?_
      refine AW.seq ?_
      refine AW.regs ?_
      refine oMov (eS rfl (eS rfl (eS rfl (eS rfl eZ)))) ?_
      refine oMov (eS rfl (eS rfl (eS rfl (eS rfl eZ)))) ?_
      refine oMov (eS rfl (eS rfl eZ)) ?_
      obtain ⟨v7, h8, H⟩ := obind H
      refine oAtD (eS rfl eZ) eZ h8 ?_
      refine oLoadBA (es := [(.d (.int .i64 v7.Lo)), (.d (.int .i64 v7.Hi))]) eZ rfl ?_
      obtain ⟨v9, h10, H⟩ := obind H
      refine oCall (u := (.one (.d (.bool v9)))) (eS rfl (eS rfl (eS rfl (eS rfl eZ)))) Cl.fn (c_impl_readsOk_1 h10) (Evs.cons eZ Evs.nil) (VDs.cons (VD.agg rfl) VDs.nil) rfl ?_
      refine xNil ?_
      refine TQ.qn ?_
      rcases oite H with ⟨h11, H⟩ | ⟨h11, H⟩
      · refine AW.condT eZ h11 ?_
        refine AW.seq ?_
        refine AW.regs ?_
        refine oMov (eS rfl (eS rfl (eS rfl (eS rfl (eS rfl (eS rfl eZ)))))) ?_
        refine oMov eZ ?_
        refine xNil ?_
        refine TQ.qn ?_
        refine AW.ret ?_
        refine BQ.qr ?_
        refine TQ.qr ?_
        refine TQ.qr ?_
        refine BQ.qr ?_
        refine TQ.qr ?_
        obtain rfl := Option.some.inj H
        exact endsR (RL.cons (RV.tmp eZ) (VO.flat rfl) RL.nil) List.nodup_nil
      · refine AW.condF eZ (nt h11) ?_
        refine AW.skip ?_
        refine BQ.qn ?_
        refine TQ.qn ?_
        refine AW.regs ?_
        refine oAdd (eS rfl (eS rfl (eS rfl (eS rfl (eS rfl (eS rfl (eS rfl (eS rfl (eS rfl (eS rfl (eS rfl (eS rfl eZ)))))))))))) eC ?_
        refine oMov eZ ?_
        refine xNil ?_
        exact TQ.qn ⟨(IntKind.wrap .i64 (s4 + 1)), H, (wk_mk [] (SL.cons (eS rfl (eS rfl (eS rfl (eS rfl (eS rfl (eS rfl (eS rfl (eS rfl (eS rfl (eS rfl (eS rfl eZ))))))))))) rfl VWk.rfl (SL.cons (eS rfl (eS rfl (eS rfl (eS rfl (eS rfl (eS rfl (eS rfl (eS rfl (eS rfl (eS rfl (eS rfl (eS rfl eZ)))))))))))) rfl VWk.rfl (SL.cons (eS rfl (eS rfl (eS rfl (eS rfl (eS rfl (eS rfl (eS rfl (eS rfl (eS rfl (eS rfl (eS rfl (eS rfl (eS rfl eZ))))))))))))) rfl VWk.rfl (SL.cons eZ rfl VWk.rfl SL.nil)))) BL.nil BK.nil)⟩
    · refine AW.condF eZ (decide_eq_false h6) ?_
      refine AW.exit ?_
      refine TQ.qe ?_
      refine TQ.qe ?_
      refine BQ.qe ?_
      exact TQ.qn ⟨(), H, (wk_mk [] SL.nil BL.nil BK.nil)⟩

theorem c_slices_ContainsFunc_Range__readsOk_1 {a1 : (List TRange)} {r : Bool} (H : m_slices_ContainsFunc_Range__readsOk_1 a1 = some r) : Fn Try.prog k_slices_ContainsFunc___impl_Range_impl_Range_ (lent [(.sl 2 (List.map d_TRange a1)), (.fn k_impl_readsOk_1 [])]) true [(.bool r)] := by
  refine i_slices_ContainsFunc___impl_Range_impl_Range__fn (Nat.le_of_ble_eq_true rfl) ?_
  rw [init_mk]
  refine AW.weaken (wk_mk [] (SL.cons (v := (.one (.d (.sl 2 (List.map d_TRange a1))))) eZ rfl VWk.rfl (SL.cons (v := (.one (.fn k_impl_readsOk_1 []))) (eS rfl eZ) rfl (VWk.one (CWk.fn (css := []))) SL.nil)) BL.nil BK.nil) ?_
  unfold m_slices_ContainsFunc_Range__readsOk_1 at H
  unfold i_slices_ContainsFunc___impl_Range_impl_Range_
  refine AW.seq ?_
  refine AW.regs ?_
  refine oMov eC ?_
  refine xNil ?_
  refine TQ.qn ?_
  refine AW.seq ?_
  refine AW.regs ?_
  refine oMov (eS rfl eZ) ?_
  refine oMov (eS rfl (eS rfl (eS rfl eZ))) ?_
  obtain ⟨v2, h3, H⟩ := obind H
  refine oCall (u := (.one (.d (.int .i64 v2)))) eC Cl.fn (c_slices_IndexFunc_Range__readsOk_1 h3) (Evs.cons (eS rfl eZ) (Evs.cons eZ Evs.nil)) (VDs.cons VD.plain (VDs.cons (VD.fn PDs.nil) VDs.nil)) rfl ?_
  refine oGeq eZ eC ?_
  refine oMov eZ ?_
  refine xNil ?_
  refine TQ.qn ?_
  refine AW.ret ?_
  obtain rfl := Option.some.inj H
  exact endsR (RL.cons (RV.tmp eZ) (VO.flat rfl) RL.nil) List.nodup_nil

theorem c_impl_readsOk {a1 : (List TRange)} {r : Bool} (H : m_impl_readsOk a1 = some r) : Fn Try.prog k_impl_readsOk (lent [(.sl 2 (List.map d_TRange a1))]) true [(.bool r)] := by
  refine i_impl_readsOk_fn (Nat.le_of_ble_eq_true rfl) ?_
  rw [init_mk]
  refine AW.weaken (wk_mk [] (SL.cons (v := (.one (.d (.sl 2 (List.map d_TRange a1))))) eZ rfl VWk.rfl SL.nil) BL.nil BK.nil) ?_
  unfold m_impl_readsOk at H
  unfold i_impl_readsOk
  refine AW.seq ?_
  refine AW.regs ?_
  refine oMov eC ?_
  refine xNil ?_
  refine TQ.qn ?_
  refine AW.seq ?_
  refine AW.regs ?_
  refine oMov (eS rfl eZ) ?_
  refine oLenD eZ (n := a1.length) (List.length_map _) ?_
  refine oLeq eZ eC ?_
  refine oMov eZ ?_
  rcases oite H with ⟨h2, H⟩ | ⟨h2, H⟩
  · refine gDo eZ (decide_eq_true h2) ?_
    refine oMov (eS rfl (eS rfl (eS rfl (eS rfl (eS rfl eZ))))) ?_
    refine gDo (eS rfl eZ) (decide_eq_true h2) ?_
    obtain ⟨v3, h4, H⟩ := obind H
    refine oCall (u := (.one (.d (.bool v3)))) eC Cl.fn (c_slices_ContainsFunc_Range__readsOk_1 h4) (Evs.cons eZ (Evs.cons eC Evs.nil)) (VDs.cons VD.plain (VDs.cons (VD.fn PDs.nil) VDs.nil)) rfl ?_
    refine gDo (eS rfl (eS rfl eZ)) (decide_eq_true h2) ?_
    refine oInv eZ ?_
    refine oPickT (eS rfl (eS rfl (eS rfl eZ))) (decide_eq_true h2) eZ ?_
    refine oMov eZ ?_
    refine xNil ?_
    refine TQ.qn ?_
    refine AW.ret ?_
    obtain rfl := Option.some.inj H
    exact endsR (RL.cons (RV.tmp eZ) (VO.flat rfl) RL.nil) List.nodup_nil
  · refine gSkip eZ (decide_eq_false h2) rfl ?_
    refine gSkip (eS rfl eZ) (decide_eq_false h2) rfl ?_
    refine gSkip (eS rfl (eS rfl eZ)) (decide_eq_false h2) rfl ?_
    refine oPickF (eS rfl (eS rfl (eS rfl eZ))) (decide_eq_false h2) eC ?_
    refine oMov eZ ?_
    refine xNil ?_
    refine TQ.qn ?_
    refine AW.ret ?_
    obtain rfl := Option.some.inj H
    exact endsR (RL.cons (RV.tmp eZ) (VO.flat rfl) RL.nil) List.nodup_nil

theorem c_impl_isKey {a1 : Int} {r : Bool} (H : m_impl_isKey a1 = some r) : Fn Try.prog k_impl_isKey (lent [(.int .i64 a1)]) true [(.bool r)] := by
  refine i_impl_isKey_fn (Nat.le_of_ble_eq_true rfl) ?_
  rw [init_mk]
  refine AW.weaken (wk_mk [] (SL.cons (v := (.one (.d (.int .i64 a1)))) eZ rfl VWk.rfl SL.nil) BL.nil BK.nil) ?_
  unfold m_impl_isKey at H
  unfold i_impl_isKey
  refine AW.seq ?_
  refine AW.regs ?_
  refine oMov eC ?_
  refine xNil ?_
  refine TQ.qn ?_
  refine AW.seq ?_
  refine AW.regs ?_
  refine oMov (eS rfl eZ) ?_
  obtain ⟨v2, h3, H⟩ := obind H
  refine oCall (u := (.one (.d (.bool v2)))) eC Cl.fn (c_impl_from h3) (Evs.cons eZ (Evs.cons eC (Evs.cons eC Evs.nil))) (VDs.cons VD.plain (VDs.cons VD.plain (VDs.cons VD.plain VDs.nil))) rfl ?_
  refine oMov eZ ?_
  refine xNil ?_
  refine TQ.qn ?_
  refine AW.ret ?_
  obtain rfl := Option.some.inj H
  exact endsR (RL.cons (RV.tmp eZ) (VO.flat rfl) RL.nil) List.nodup_nil

theorem c_impl_isAnswer {a1 : Int} {r : Bool} (H : m_impl_isAnswer a1 = some r) : Fn Try.prog k_impl_isAnswer (lent [(.int .i64 a1)]) true [(.bool r)] := by
  refine i_impl_isAnswer_fn (Nat.le_of_ble_eq_true rfl) ?_
  rw [init_mk]
  refine AW.weaken (wk_mk [] (SL.cons (v := (.one (.d (.int .i64 a1)))) eZ rfl VWk.rfl SL.nil) BL.nil BK.nil) ?_
  unfold m_impl_isAnswer at H
  unfold i_impl_isAnswer
  refine AW.seq ?_
  refine AW.regs ?_
  refine oMov eC ?_
  refine xNil ?_
  refine TQ.qn ?_
  refine AW.seq ?_
  refine AW.regs ?_
  refine oMov (eS rfl eZ) ?_
  obtain ⟨v2, h3, H⟩ := obind H
  refine oCall (u := (.one (.d (.bool v2)))) eC Cl.fn (c_impl_from h3) (Evs.cons eZ (Evs.cons eC (Evs.cons eC Evs.nil))) (VDs.cons VD.plain (VDs.cons VD.plain (VDs.cons VD.plain VDs.nil))) rfl ?_
  refine oMov eZ ?_
  refine xNil ?_
  refine TQ.qn ?_
  refine AW.ret ?_
  obtain rfl := Option.some.inj H
  exact endsR (RL.cons (RV.tmp eZ) (VO.flat rfl) RL.nil) List.nodup_nil

end Go.AW
