/- That functions of the program compute what the plain functions say: printed by a program of the prover's own (tool/dec.py). Conditions: each theorem's own. -/
import Derived.Test.YtpnkbfanecbmgaaMSharesOk
import Derived.Test.YtpnkbfanecbmgaaGSharesOk
set_option linter.unusedVariables false
set_option maxRecDepth 100000
namespace Go.AW
open Go.Proofs

theorem c_laws_szRangeS {a1 : (List TRange)} {a2 : Int} {r : Int} (H : m_laws_szRangeS a1 a2 = some r) : Fn Try.prog k_laws_szRangeS (lent [(.sl 2 (List.map d_TRange a1)), (.int .i64 a2)]) true [(.int .i64 r)] := by
  refine i_laws_szRangeS_fn (Nat.le_of_ble_eq_true rfl) ?_
  rw [init_mk]
  refine AW.weaken (wk_mk [] (SL.cons (v := (.one (.d (.sl 2 (List.map d_TRange a1))))) eZ rfl VWk.rfl (SL.cons (v := (.one (.d (.int .i64 a2)))) (eS rfl eZ) rfl VWk.rfl SL.nil)) BL.nil BK.nil) ?_
  unfold m_laws_szRangeS at H
  unfold i_laws_szRangeS
  refine AW.seq ?_
  refine AW.regs ?_
  refine oMov eC ?_
  refine xNil ?_
  refine TQ.qn ?_
  refine AW.seq ?_
  refine AW.regs ?_
  refine oMov (eS rfl (eS rfl eZ)) ?_
  refine oMov (eS rfl (eS rfl eZ)) ?_
  refine oLenD eZ (n := a1.length) (List.length_map _) ?_
  refine oSub (eS rfl (eS rfl eZ)) eZ ?_
  refine oMov eZ ?_
  refine xNil ?_
  refine TQ.qn ?_
  refine AW.seq ?_
  refine AW.seq ?_
  refine AW.regs ?_
  refine oMov eZ ?_
  refine oLss eZ eC ?_
  refine xNil ?_
  refine TQ.qn ?_
  rcases oite H with ⟨h3, H⟩ | ⟨h3, H⟩
  · refine AW.condT eZ (decide_eq_true h3) ?_
    refine AW.seq ?_
    refine AW.regs ?_
    refine oMov eC ?_
    refine xNil ?_
    refine TQ.qn ?_
    refine AW.ret ?_
    refine TQ.qr ?_
    obtain rfl := Option.some.inj H
    exact endsR (RL.cons (RV.tmp eZ) (VO.flat rfl) RL.nil) List.nodup_nil
  · refine AW.condF eZ (decide_eq_false h3) ?_
    refine AW.skip ?_
    refine TQ.qn ?_
    refine AW.seq ?_
    refine AW.regs ?_
    refine oMov (eS rfl (eS rfl eZ)) ?_
    refine oMov eZ ?_
    refine xNil ?_
    refine TQ.qn ?_
    refine AW.ret ?_
    obtain rfl := Option.some.inj H
    exact endsR (RL.cons (RV.tmp eZ) (VO.flat rfl) RL.nil) List.nodup_nil

theorem c_laws_szWriteS {a1 : (List TCell)} {a2 : Int} {r : Int} (H : m_laws_szWriteS a1 a2 = some r) : Fn Try.prog k_laws_szWriteS (lent [(.sl 2 (List.map d_TCell a1)), (.int .i64 a2)]) true [(.int .i64 r)] := by
  refine i_laws_szWriteS_fn (Nat.le_of_ble_eq_true rfl) ?_
  rw [init_mk]
  refine AW.weaken (wk_mk [] (SL.cons (v := (.one (.d (.sl 2 (List.map d_TCell a1))))) eZ rfl VWk.rfl (SL.cons (v := (.one (.d (.int .i64 a2)))) (eS rfl eZ) rfl VWk.rfl SL.nil)) BL.nil BK.nil) ?_
  unfold m_laws_szWriteS at H
  unfold i_laws_szWriteS
  refine AW.seq ?_
  refine AW.regs ?_
  refine oMov eC ?_
  refine xNil ?_
  refine TQ.qn ?_
  refine AW.seq ?_
  refine AW.regs ?_
  refine oMov (eS rfl (eS rfl eZ)) ?_
  refine oMov (eS rfl (eS rfl eZ)) ?_
  refine oLenD eZ (n := a1.length) (List.length_map _) ?_
  refine oSub (eS rfl (eS rfl eZ)) eZ ?_
  refine oMov eZ ?_
  refine xNil ?_
  refine TQ.qn ?_
  refine AW.seq ?_
  refine AW.seq ?_
  refine AW.regs ?_
  refine oMov eZ ?_
  refine oLss eZ eC ?_
  refine xNil ?_
  refine TQ.qn ?_
  rcases oite H with ⟨h3, H⟩ | ⟨h3, H⟩
  · refine AW.condT eZ (decide_eq_true h3) ?_
    refine AW.seq ?_
    refine AW.regs ?_
    refine oMov eC ?_
    refine xNil ?_
    refine TQ.qn ?_
    refine AW.ret ?_
    refine TQ.qr ?_
    obtain rfl := Option.some.inj H
    exact endsR (RL.cons (RV.tmp eZ) (VO.flat rfl) RL.nil) List.nodup_nil
  · refine AW.condF eZ (decide_eq_false h3) ?_
    refine AW.skip ?_
    refine TQ.qn ?_
    refine AW.seq ?_
    refine AW.regs ?_
    refine oMov (eS rfl (eS rfl eZ)) ?_
    refine oMov eZ ?_
    refine xNil ?_
    refine TQ.qn ?_
    refine AW.ret ?_
    obtain rfl := Option.some.inj H
    exact endsR (RL.cons (RV.tmp eZ) (VO.flat rfl) RL.nil) List.nodup_nil

theorem c_laws_szShare {a1 : TShare} {a2 : Int} {r : Int} (H : m_laws_szShare a1 a2 = some r) : Fn Try.prog k_laws_szShare (lent [(.agg (d_TShare a1)), (.int .i64 a2)]) true [(.int .i64 r)] := by
  refine i_laws_szShare_fn (Nat.le_of_ble_eq_true rfl) ?_
  rw [init_mk]
  refine AW.weaken (wk_mk [] (SL.cons (v := (.agg [(.d (.int .i64 a1.Group)), (.d (.sl 2 (List.map d_TRange a1.Reads))), (.d (.sl 2 (List.map d_TCell a1.Writes))), (.d (.int .i64 a1.Vote))])) eZ rfl VWk.rfl (SL.cons (v := (.one (.d (.int .i64 a2)))) (eS rfl eZ) rfl VWk.rfl SL.nil)) BL.nil BK.nil) ?_
  unfold m_laws_szShare at H
  unfold i_laws_szShare
  refine AW.seq ?_
  refine AW.regs ?_
  refine oBox (n := 128) (m := 4) (cs := [(.d (.int .i64 a1.Group)), (.d (.sl 2 (List.map d_TRange a1.Reads))), (.d (.sl 2 (List.map d_TCell a1.Writes))), (.d (.int .i64 a1.Vote))]) rfl eZ rfl rfl nZ ?_
  refine oMov eC ?_
  refine xNil ?_
  refine TQ.qn ?_
  refine AW.seq ?_
  refine AW.regs ?_
  refine oFaddrN (m := 1) (eS rfl eZ) rfl ?_
  refine oLoadV (q := 1) (c := (.d (.sl 2 (List.map d_TRange a1.Reads)))) eZ bZ rfl rfl ?_
  refine oMov (eS rfl (eS rfl (eS rfl (eS rfl (eS rfl eZ))))) ?_
  obtain ⟨v3, h4, H⟩ := obind H
  refine oCall (u := (.one (.d (.int .i64 v3)))) eC Cl.fn (c_laws_szRangeS h4) (Evs.cons (eS rfl eZ) (Evs.cons eZ Evs.nil)) (VDs.cons VD.plain (VDs.cons VD.plain VDs.nil)) rfl ?_
  refine oMov eZ ?_
  refine xNil ?_
  refine TQ.qn ?_
  refine AW.seq ?_
  refine AW.seq ?_
  refine AW.regs ?_
  refine oMov eZ ?_
  refine oLss eZ eC ?_
  refine xNil ?_
  refine TQ.qn ?_
  rcases oite H with ⟨h5, H⟩ | ⟨h5, H⟩
  · refine AW.condT eZ (decide_eq_true h5) ?_
    refine AW.seq ?_
    refine AW.regs ?_
    refine oMov eC ?_
    refine xNil ?_
    refine TQ.qn ?_
    refine AW.ret ?_
    refine TQ.qr ?_
    obtain rfl := Option.some.inj H
    exact endsR (RL.cons (RV.tmp eZ) (VO.flat rfl) RL.nil) List.nodup_nil
  · refine AW.condF eZ (decide_eq_false h5) ?_
    refine AW.skip ?_
    refine TQ.qn ?_
    refine AW.seq ?_
    refine AW.regs ?_
    refine oFaddrN (m := 2) (eS rfl (eS rfl (eS rfl (eS rfl (eS rfl (eS rfl (eS rfl (eS rfl eZ)))))))) rfl ?_
    refine oLoadV (q := 2) (c := (.d (.sl 2 (List.map d_TCell a1.Writes)))) eZ bZ rfl rfl ?_
    refine oMov (eS rfl (eS rfl (eS rfl (eS rfl eZ)))) ?_
    obtain ⟨v6, h7, H⟩ := obind H
    refine oCall (u := (.one (.d (.int .i64 v6)))) eC Cl.fn (c_laws_szWriteS h7) (Evs.cons (eS rfl eZ) (Evs.cons eZ Evs.nil)) (VDs.cons VD.plain (VDs.cons VD.plain VDs.nil)) rfl ?_
    refine oMov eZ ?_
    refine xNil ?_
    refine TQ.qn ?_
    refine AW.weaken (wk_mk [128] (SL.cons (k := 1) eZ rfl VWk.rfl SL.nil) (BL.drop rfl BL.nil) BK.nil) ?_
    refine AW.seq ?_
    refine AW.seq ?_
    refine AW.regs ?_
    refine oMov eZ ?_
    refine oLss eZ eC ?_
    refine xNil ?_
    refine TQ.qn ?_
    rcases oite H with ⟨h8, H⟩ | ⟨h8, H⟩
    · refine AW.condT eZ (decide_eq_true h8) ?_
      refine AW.seq ?_
      refine AW.regs ?_
      refine oMov eC ?_
      refine xNil ?_
      refine TQ.qn ?_
      refine AW.ret ?_
      refine TQ.qr ?_
      obtain rfl := Option.some.inj H
      exact endsR (RL.cons (RV.tmp eZ) (VO.flat rfl) RL.nil) List.nodup_nil
    · refine AW.condF eZ (decide_eq_false h8) ?_
      refine AW.skip ?_
      refine TQ.qn ?_
      refine AW.seq ?_
      refine AW.regs ?_
      refine oMov (eS rfl (eS rfl eZ)) ?_
      refine oMov eZ ?_
      refine xNil ?_
      refine TQ.qn ?_
      refine AW.ret ?_
      obtain rfl := Option.some.inj H
      exact endsR (RL.cons (RV.tmp eZ) (VO.flat rfl) RL.nil) List.nodup_nil

theorem c_laws_szShareS {a1 : (List TShare)} {a2 : Int} {r : Int} (H : m_laws_szShareS a1 a2 = some r) : Fn Try.prog k_laws_szShareS (lent [(.sl 4 (List.map d_TShare a1)), (.int .i64 a2)]) true [(.int .i64 r)] := by
  refine i_laws_szShareS_fn (Nat.le_of_ble_eq_true rfl) ?_
  rw [init_mk]
  refine AW.weaken (wk_mk [] (SL.cons (v := (.one (.d (.sl 4 (List.map d_TShare a1))))) eZ rfl VWk.rfl (SL.cons (v := (.one (.d (.int .i64 a2)))) (eS rfl eZ) rfl VWk.rfl SL.nil)) BL.nil BK.nil) ?_
  unfold m_laws_szShareS at H
  unfold i_laws_szShareS
  refine AW.seq ?_
  refine AW.regs ?_
  refine oMov eC ?_
  refine xNil ?_
  refine TQ.qn ?_
  refine AW.seq ?_
  refine AW.regs ?_
  refine oMov (eS rfl (eS rfl eZ)) ?_
  refine oMov (eS rfl (eS rfl eZ)) ?_
  refine oLenD eZ (n := a1.length) (List.length_map _) ?_
  refine oSub (eS rfl (eS rfl eZ)) eZ ?_
  refine oMov eZ ?_
  refine xNil ?_
  refine TQ.qn ?_
  refine AW.seq ?_
  refine AW.seq ?_
  refine AW.regs ?_
  refine oMov eZ ?_
  refine oLss eZ eC ?_
  refine xNil ?_
  refine TQ.qn ?_
  rcases oite H with ⟨h3, H⟩ | ⟨h3, H⟩
  · refine AW.condT eZ (decide_eq_true h3) ?_
    refine AW.seq ?_
    refine AW.regs ?_
    refine oMov eC ?_
    refine xNil ?_
    refine TQ.qn ?_
    refine AW.ret ?_
    refine TQ.qr ?_
    obtain rfl := Option.some.inj H
    exact endsR (RL.cons (RV.tmp eZ) (VO.flat rfl) RL.nil) List.nodup_nil
  · refine AW.condF eZ (decide_eq_false h3) ?_
    refine AW.skip ?_
    refine TQ.qn ?_
    refine AW.seqJ (fun t4 : Int => laws_szShareS_j4 t4 = some r) (fun t4 => mk [(1, (.one (.d (.int .i64 t4))))] [] noG) ?_ ?_
    · intro t4 H
      unfold laws_szShareS_j4 at H
      refine AW.seq ?_
      refine AW.regs ?_
      refine oMov eZ ?_
      refine oMov eZ ?_
      refine xNil ?_
      refine TQ.qn ?_
      refine AW.ret ?_
      obtain rfl := Option.some.inj H
      exact endsR (RL.cons (RV.tmp eZ) (VO.flat rfl) RL.nil) List.nodup_nil
    · refine AW.seq ?_
      refine AW.regs ?_
      refine oMov eC ?_
      refine xNil ?_
      refine TQ.qn ?_
      refine AW.block ?_
      refine AW.iter (fun s6 : (Int × Int) => mk [(0, (.one (.d (.sl 4 (List.map d_TShare a1))))), (1, (.one (.d (.int .i64 s6.1)))), (5, (.one (.d (.int .i64 s6.2))))] [] noG) H (wk_mk [] (SL.cons (eS rfl (eS rfl (eS rfl (eS rfl (eS rfl (eS rfl (eS rfl (eS rfl (eS rfl eZ))))))))) rfl VWk.rfl (SL.cons (eS rfl (eS rfl (eS rfl eZ))) rfl VWk.rfl (SL.cons eZ rfl VWk.rfl SL.nil))) BL.nil BK.nil) ?_
      intro kb7 s6 H
      unfold laws_szShareS_b6 at H
      refine AW.seq ?_
      refine AW.seq ?_
      refine AW.regs ?_
      refine oMov (eS rfl (eS rfl eZ)) ?_
      refine oMov (eS rfl eZ) ?_
      refine oLenD eZ (n := a1.length) (List.length_map _) ?_
      refine oLss (eS rfl (eS rfl eZ)) eZ ?_
      refine xNil ?_
      refine TQ.qn ?_
      rcases oite H with ⟨h8, H⟩ | ⟨h8, H⟩
      · refine AW.condT eZ (decide_eq_true h8) ?_
        refine AW.skip ?_
        refine TQ.qn ?_
        refine AW.seq ?_
        refine AW.block ?_
        refine AW.seq ?_
        refine AW.regs ?_
        refine oMov (eS rfl (eS rfl (eS rfl (eS rfl eZ)))) ?_
        refine oMov (eS rfl (eS rfl (eS rfl (eS rfl (eS rfl (eS rfl (eS rfl eZ))))))) ?_
        obtain ⟨v9, h10, H⟩ := obind H
        refine oAtD (eS rfl eZ) eZ h10 ?_
        refine oLoadBA (es := [(.d (.int .i64 v9.Group)), (.d (.sl 2 (List.map d_TRange v9.Reads))), (.d (.sl 2 (List.map d_TCell v9.Writes))), (.d (.int .i64 v9.Vote))]) eZ rfl ?_
        refine oMov (eS rfl (eS rfl (eS rfl (eS rfl (eS rfl (eS rfl (eS rfl (eS rfl (eS rfl eZ))))))))) ?_
        obtain ⟨v11, h12, H⟩ := obind H
        refine oCall (u := (.one (.d (.int .i64 v11)))) eC Cl.fn (c_laws_szShare h12) (Evs.cons (eS rfl eZ) (Evs.cons eZ Evs.nil)) (VDs.cons (VD.agg rfl) (VDs.cons VD.plain VDs.nil)) rfl ?_
        refine oMov eZ ?_
        refine xNil ?_
        refine TQ.qn ?_
        refine AW.seq ?_
        refine AW.regs ?_
        refine oMov eZ ?_
        refine oLss eZ eC ?_
        refine xNil ?_
        refine TQ.qn ?_
        refine AW.weaken (wk_mk [] (SL.cons (k := 25) eZ rfl VWk.rfl (SL.cons (k := 1) (eS rfl (eS rfl eZ)) rfl VWk.rfl (SL.cons (k := 0) (eS rfl (eS rfl (eS rfl (eS rfl (eS rfl (eS rfl (eS rfl (eS rfl (eS rfl (eS rfl (eS rfl (eS rfl (eS rfl eZ))))))))))))) rfl VWk.rfl (SL.cons (k := 5) (eS rfl (eS rfl (eS rfl (eS rfl (eS rfl (eS rfl (eS rfl (eS rfl (eS rfl (eS rfl (eS rfl (eS rfl (eS rfl (eS rfl (eS rfl eZ))))))))))))))) rfl VWk.rfl SL.nil)))) BL.nil BK.nil) ?_
        rcases oite H with ⟨h13, H⟩ | ⟨h13, H⟩
        · refine AW.condT eZ (decide_eq_true h13) ?_
          refine AW.seq ?_
          refine AW.regs ?_
          refine oMov eC ?_
          refine xNil ?_
          refine TQ.qn ?_
          refine AW.ret ?_
          refine BQ.qr ?_
          refine TQ.qr ?_
          refine TQ.qr ?_
          refine BQ.qr ?_
          refine TQ.qr ?_
          obtain rfl := Option.some.inj H
          exact endsR (RL.cons (RV.tmp eZ) (VO.flat rfl) RL.nil) List.nodup_nil
        · refine AW.condF eZ (decide_eq_false h13) ?_
          refine AW.skip ?_
          refine BQ.qn ?_
          refine TQ.qn ?_
          refine AW.regs ?_
          refine oMov (eS rfl (eS rfl (eS rfl eZ))) ?_
          refine oAdd eZ eC ?_
          refine oMov eZ ?_
          refine xNil ?_
          exact TQ.qn ⟨(v11, (IntKind.wrap .i64 (s6.2 + 1))), H, (wk_mk [] (SL.cons (eS rfl (eS rfl (eS rfl (eS rfl (eS rfl eZ))))) rfl VWk.rfl (SL.cons (eS rfl (eS rfl (eS rfl (eS rfl eZ)))) rfl VWk.rfl (SL.cons eZ rfl VWk.rfl SL.nil))) BL.nil BK.nil)⟩
      · refine AW.condF eZ (decide_eq_false h8) ?_
        refine AW.exit ?_
        refine TQ.qe ?_
        refine TQ.qe ?_
        refine BQ.qe ?_
        exact TQ.qn ⟨s6.1, H, (wk_mk [] (SL.cons (eS rfl (eS rfl (eS rfl (eS rfl (eS rfl eZ))))) rfl VWk.rfl SL.nil) BL.nil BK.nil)⟩

theorem c_laws_toRange {a1 : TRange} {r : TRange} (H : m_laws_toRange a1 = some r) : Fn Try.prog k_laws_toRange (lent [(.agg (d_TRange a1))]) true [(.agg (d_TRange r))] := by
  refine i_laws_toRange_fn (Nat.le_of_ble_eq_true rfl) ?_
  rw [init_mk]
  refine AW.weaken (wk_mk [] (SL.cons (v := (.agg [(.d (.int .i64 a1.Lo)), (.d (.int .i64 a1.Hi))])) eZ rfl VWk.rfl SL.nil) BL.nil BK.nil) ?_
  unfold m_laws_toRange at H
  unfold i_laws_toRange
  refine AW.seq ?_
  refine AW.regs ?_
  refine oBox (n := 64) (m := 2) (cs := [(.d (.int .i64 a1.Lo)), (.d (.int .i64 a1.Hi))]) rfl eZ rfl rfl nZ ?_
  refine oVar (n := 128) (m := 2) rfl rfl (nS rfl nZ) ?_
  refine xNil ?_
  refine TQ.qn ?_
  refine AW.seq ?_
  refine AW.regs ?_
  refine oVar (n := 192) (m := 2) rfl rfl (nS rfl (nS rfl nZ)) ?_
  refine xNil ?_
  refine TQ.qn ?_
  refine AW.seq ?_
  refine AW.regs ?_
  refine oFaddrN (m := 0) (eS rfl (eS rfl eZ)) rfl ?_
  refine oLoadV (q := 0) (c := (.d (.int .i64 a1.Lo))) eZ (bS rfl (bS rfl bZ)) rfl rfl ?_
  refine oFaddrN (m := 0) (eS rfl (eS rfl eZ)) rfl ?_
  refine oStoreV (es := [(.d (.int .i64 a1.Lo)), (.d (.int .i64 0))]) eZ (eS rfl eZ) rfl rfl bZ rfl ?_
  refine xNil ?_
  refine TQ.qn ?_
  refine AW.seq ?_
  refine AW.regs ?_
  refine oFaddrN (m := 1) (eS rfl (eS rfl (eS rfl (eS rfl (eS rfl eZ))))) rfl ?_
  refine oLoadV (q := 1) (c := (.d (.int .i64 a1.Hi))) eZ (bS rfl (bS rfl (bS rfl bZ))) rfl rfl ?_
  refine oFaddrN (m := 1) (eS rfl (eS rfl (eS rfl (eS rfl (eS rfl eZ))))) rfl ?_
  refine oStoreV (es := [(.d (.int .i64 a1.Lo)), (.d (.int .i64 a1.Hi))]) eZ (eS rfl eZ) rfl rfl bZ rfl ?_
  refine xNil ?_
  refine TQ.qn ?_
  refine AW.seq ?_
  refine AW.regs ?_
  refine oLoadVA (es := [(.d (.int .i64 a1.Lo)), (.d (.int .i64 a1.Hi))]) (eS rfl (eS rfl (eS rfl (eS rfl (eS rfl (eS rfl eZ)))))) bZ rfl ?_
  refine oStoreV (es := [(.d (.int .i64 a1.Lo)), (.d (.int .i64 a1.Hi))]) (eS rfl (eS rfl (eS rfl (eS rfl (eS rfl (eS rfl (eS rfl (eS rfl eZ)))))))) eZ rfl rfl (bS rfl (bS rfl (bS rfl bZ))) rfl ?_
  refine xNil ?_
  refine TQ.qn ?_
  refine AW.ret ?_
  obtain rfl := Option.some.inj H
  exact endsR (RL.cons (RV.cellA (es := [(.d (.int .i64 a1.Lo)), (.d (.int .i64 a1.Hi))]) (eS rfl (eS rfl (eS rfl (eS rfl (eS rfl (eS rfl (eS rfl (eS rfl eZ)))))))) bZ rfl) (VO.agg (ds := [(.int .i64 a1.Lo), (.int .i64 a1.Hi)]) rfl rfl) RL.nil) List.nodup_nil

theorem c_laws_toRangeS {a1 : (List TRange)} {r : (List TRange)} (H : m_laws_toRangeS a1 = some r) : Fn Try.prog k_laws_toRangeS (lent [(.sl 2 (List.map d_TRange a1))]) true [(.sl 2 (List.map d_TRange r))] := by
  refine i_laws_toRangeS_fn (Nat.le_of_ble_eq_true rfl) ?_
  rw [init_mk]
  refine AW.weaken (wk_mk [] (SL.cons (v := (.one (.d (.sl 2 (List.map d_TRange a1))))) eZ rfl VWk.rfl SL.nil) BL.nil BK.nil) ?_
  unfold m_laws_toRangeS at H
  unfold i_laws_toRangeS
  refine AW.seq ?_
  refine AW.regs ?_
  refine oMov eC ?_
  refine xNil ?_
  refine TQ.qn ?_
  refine AW.seq ?_
  refine AW.regs ?_
  refine oMov (eS rfl eZ) ?_
  refine oLenD eZ (n := a1.length) (List.length_map _) ?_
  obtain ⟨h2, H⟩ := oguard H
  refine oMksl (f := d_TRange) (zv := (TRange.mk 0 0)) (own := true) (m := 448) (q := (Int.toNat (a1.length : Int))) rfl rfl eZ eZ h2.1 h2.2 rfl (by decide) rfl nZ ?_
  refine oMov eZ ?_
  refine xNil ?_
  refine TQ.qn ?_
  refine AW.seqJ (fun t3 : (List TRange) => laws_toRangeS_j3 t3 = some r) (fun t3 => mk [(3, (.one (.sl 320128 0 t3.length)))] [(320128, (.data 2 (List.map d_TRange t3) true none))] noG) ?_ ?_
  · intro t3 H
    unfold laws_toRangeS_j3 at H
    refine AW.seq ?_
    refine AW.regs ?_
    refine oMov eZ ?_
    refine oMov eZ ?_
    refine xNil ?_
    refine TQ.qn ?_
    refine AW.ret ?_
    obtain rfl := Option.some.inj H
    exact endsR (RL.cons (RV.tmp eZ) (VO.sl bZ (List.length_map _) (allFlat fun _ => rfl)) RL.nil) (by decide)
  · refine AW.seq ?_
    refine AW.regs ?_
    refine oMov eC ?_
    refine xNil ?_
    refine TQ.qn ?_
    refine AW.block ?_
    refine AW.iter (fun s5 : ((List TRange) × Int) => mk [(0, (.one (.d (.sl 2 (List.map d_TRange a1))))), (3, (.one (.sl 320192 0 s5.1.length))), (4, (.one (.d (.int .i64 s5.2))))] [(320192, (.data 2 (List.map d_TRange s5.1) true none))] noG) H ((wk_mk [] (SL.cons (eS rfl (eS rfl (eS rfl (eS rfl (eS rfl (eS rfl eZ)))))) rfl VWk.rfl (SL.cons (eS rfl eZ) rfl (VWk.one (CWk.len (by simp))) (SL.cons eZ rfl VWk.rfl SL.nil))) (BL.keep rfl BL.nil) (BK.cons rfl bZ rfl rfl BK.nil)).trans (wk_ren 448 320192 rfl rfl (nS rfl nZ))) ?_
    intro kb6 s5 H
    unfold laws_toRangeS_b5 at H
    refine AW.seq ?_
    refine AW.seq ?_
    refine AW.regs ?_
    refine oMov (eS rfl (eS rfl eZ)) ?_
    refine oMov (eS rfl eZ) ?_
    refine oLenD eZ (n := a1.length) (List.length_map _) ?_
    refine oLss (eS rfl (eS rfl eZ)) eZ ?_
    refine xNil ?_
    refine TQ.qn ?_
    rcases oite H with ⟨h7, H⟩ | ⟨h7, H⟩
    · refine AW.condT eZ (decide_eq_true h7) ?_
      refine AW.skip ?_
      refine TQ.qn ?_
      refine AW.seq ?_
      refine AW.block ?_
      refine AW.regs ?_
      refine oMov (eS rfl (eS rfl (eS rfl (eS rfl (eS rfl eZ))))) ?_
      refine oMov (eS rfl (eS rfl (eS rfl (eS rfl (eS rfl (eS rfl (eS rfl eZ))))))) ?_
      refine oMov (eS rfl (eS rfl (eS rfl (eS rfl (eS rfl (eS rfl eZ)))))) ?_
      refine oMov (eS rfl (eS rfl (eS rfl (eS rfl (eS rfl (eS rfl (eS rfl (eS rfl (eS rfl eZ))))))))) ?_
      obtain ⟨v8, h9, H⟩ := obind H
      refine oAtD (eS rfl eZ) eZ h9 ?_
      refine oLoadBA (es := [(.d (.int .i64 v8.Lo)), (.d (.int .i64 v8.Hi))]) eZ rfl ?_
      obtain ⟨v10, h11, H⟩ := obind H
      refine oCall (u := (.agg [(.d (.int .i64 v10.Lo)), (.d (.int .i64 v10.Hi))])) eC Cl.fn (c_laws_toRange h11) (Evs.cons eZ Evs.nil) (VDs.cons (VD.agg rfl) VDs.nil) rfl ?_
      obtain ⟨v12, h13, H⟩ := obind H
      refine oAtN (eS rfl (eS rfl (eS rfl (eS rfl (eS rfl (eS rfl eZ)))))) (eS rfl (eS rfl (eS rfl (eS rfl (eS rfl eZ))))) bZ rfl h13 ?_
      refine oStoreD (t := v12) (t' := v10) (es := [(.int .i64 v10.Lo), (.int .i64 v10.Hi)]) eZ (eS rfl eZ) rfl rfl bZ (idx_at h13) rfl rfl ?_
      refine xNil ?_
      refine BQ.qn ?_
      refine TQ.qn ?_
      refine AW.regs ?_
      refine oMov (eS rfl (eS rfl (eS rfl (eS rfl (eS rfl (eS rfl (eS rfl (eS rfl (eS rfl (eS rfl (eS rfl (eS rfl (eS rfl (eS rfl eZ)))))))))))))) ?_
      refine oAdd eZ eC ?_
      refine oMov eZ ?_
      refine xNil ?_
      exact TQ.qn ⟨(s5.1.set (Int.toNat s5.2) v10, (IntKind.wrap .i64 (s5.2 + 1))), H, (wk_mk [] (SL.cons (eS rfl (eS rfl (eS rfl (eS rfl (eS rfl (eS rfl (eS rfl (eS rfl (eS rfl (eS rfl (eS rfl (eS rfl (eS rfl (eS rfl (eS rfl eZ))))))))))))))) rfl VWk.rfl (SL.cons (eS rfl (eS rfl (eS rfl (eS rfl (eS rfl (eS rfl (eS rfl (eS rfl (eS rfl (eS rfl (eS rfl (eS rfl (eS rfl (eS rfl (eS rfl (eS rfl eZ)))))))))))))))) rfl (VWk.one (CWk.len (by simp))) (SL.cons eZ rfl VWk.rfl SL.nil))) (BL.keep rfl (BL.keep rfl BL.nil)) (BK.cons rfl bZ rfl rfl BK.nil))⟩
    · refine AW.condF eZ (decide_eq_false h7) ?_
      refine AW.exit ?_
      refine TQ.qe ?_
      refine TQ.qe ?_
      refine BQ.qe ?_
      exact TQ.qn ⟨s5.1, H, ((wk_mk [] (SL.cons (eS rfl (eS rfl (eS rfl (eS rfl (eS rfl eZ))))) rfl VWk.rfl SL.nil) (BL.keep rfl BL.nil) (BK.cons rfl bZ rfl rfl BK.nil)).trans (wk_ren 320192 320128 rfl rfl (nS rfl nZ)))⟩

theorem c_laws_toWrite {a1 : TCell} {r : TCell} (H : m_laws_toWrite a1 = some r) : Fn Try.prog k_laws_toWrite (lent [(.agg (d_TCell a1))]) true [(.agg (d_TCell r))] := by
  refine i_laws_toWrite_fn (Nat.le_of_ble_eq_true rfl) ?_
  rw [init_mk]
  refine AW.weaken (wk_mk [] (SL.cons (v := (.agg [(.d (.int .i64 a1.Key)), (.d (.int .i64 a1.Value))])) eZ rfl VWk.rfl SL.nil) BL.nil BK.nil) ?_
  unfold m_laws_toWrite at H
  unfold i_laws_toWrite
  refine AW.seq ?_
  refine AW.regs ?_
  refine oBox (n := 64) (m := 2) (cs := [(.d (.int .i64 a1.Key)), (.d (.int .i64 a1.Value))]) rfl eZ rfl rfl nZ ?_
  refine oVar (n := 128) (m := 2) rfl rfl (nS rfl nZ) ?_
  refine xNil ?_
  refine TQ.qn ?_
  refine AW.seq ?_
  refine AW.regs ?_
  refine oVar (n := 192) (m := 2) rfl rfl (nS rfl (nS rfl nZ)) ?_
  refine xNil ?_
  refine TQ.qn ?_
  refine AW.seq ?_
  refine AW.regs ?_
  refine oFaddrN (m := 0) (eS rfl (eS rfl eZ)) rfl ?_
  refine oLoadV (q := 0) (c := (.d (.int .i64 a1.Key))) eZ (bS rfl (bS rfl bZ)) rfl rfl ?_
  refine oFaddrN (m := 0) (eS rfl (eS rfl eZ)) rfl ?_
  refine oStoreV (es := [(.d (.int .i64 a1.Key)), (.d (.int .i64 0))]) eZ (eS rfl eZ) rfl rfl bZ rfl ?_
  refine xNil ?_
  refine TQ.qn ?_
  refine AW.seq ?_
  refine AW.regs ?_
  refine oFaddrN (m := 1) (eS rfl (eS rfl (eS rfl (eS rfl (eS rfl eZ))))) rfl ?_
  refine oLoadV (q := 1) (c := (.d (.int .i64 a1.Value))) eZ (bS rfl (bS rfl (bS rfl bZ))) rfl rfl ?_
  refine oFaddrN (m := 1) (eS rfl (eS rfl (eS rfl (eS rfl (eS rfl eZ))))) rfl ?_
  refine oStoreV (es := [(.d (.int .i64 a1.Key)), (.d (.int .i64 a1.Value))]) eZ (eS rfl eZ) rfl rfl bZ rfl ?_
  refine xNil ?_
  refine TQ.qn ?_
  refine AW.seq ?_
  refine AW.regs ?_
  refine oLoadVA (es := [(.d (.int .i64 a1.Key)), (.d (.int .i64 a1.Value))]) (eS rfl (eS rfl (eS rfl (eS rfl (eS rfl (eS rfl eZ)))))) bZ rfl ?_
  refine oStoreV (es := [(.d (.int .i64 a1.Key)), (.d (.int .i64 a1.Value))]) (eS rfl (eS rfl (eS rfl (eS rfl (eS rfl (eS rfl (eS rfl (eS rfl eZ)))))))) eZ rfl rfl (bS rfl (bS rfl (bS rfl bZ))) rfl ?_
  refine xNil ?_
  refine TQ.qn ?_
  refine AW.ret ?_
  obtain rfl := Option.some.inj H
  exact endsR (RL.cons (RV.cellA (es := [(.d (.int .i64 a1.Key)), (.d (.int .i64 a1.Value))]) (eS rfl (eS rfl (eS rfl (eS rfl (eS rfl (eS rfl (eS rfl (eS rfl eZ)))))))) bZ rfl) (VO.agg (ds := [(.int .i64 a1.Key), (.int .i64 a1.Value)]) rfl rfl) RL.nil) List.nodup_nil

theorem c_laws_toWriteS {a1 : (List TCell)} {r : (List TCell)} (H : m_laws_toWriteS a1 = some r) : Fn Try.prog k_laws_toWriteS (lent [(.sl 2 (List.map d_TCell a1))]) true [(.sl 2 (List.map d_TCell r))] := by
  refine i_laws_toWriteS_fn (Nat.le_of_ble_eq_true rfl) ?_
  rw [init_mk]
  refine AW.weaken (wk_mk [] (SL.cons (v := (.one (.d (.sl 2 (List.map d_TCell a1))))) eZ rfl VWk.rfl SL.nil) BL.nil BK.nil) ?_
  unfold m_laws_toWriteS at H
  unfold i_laws_toWriteS
  refine AW.seq ?_
  refine AW.regs ?_
  refine oMov eC ?_
  refine xNil ?_
  refine TQ.qn ?_
  refine AW.seq ?_
  refine AW.regs ?_
  refine oMov (eS rfl eZ) ?_
  refine oLenD eZ (n := a1.length) (List.length_map _) ?_
  obtain ⟨h2, H⟩ := oguard H
  refine oMksl (f := d_TCell) (zv := (TCell.mk 0 0)) (own := true) (m := 448) (q := (Int.toNat (a1.length : Int))) rfl rfl eZ eZ h2.1 h2.2 rfl (by decide) rfl nZ ?_
  refine oMov eZ ?_
  refine xNil ?_
  refine TQ.qn ?_
  refine AW.seqJ (fun t3 : (List TCell) => laws_toWriteS_j3 t3 = some r) (fun t3 => mk [(3, (.one (.sl 320128 0 t3.length)))] [(320128, (.data 2 (List.map d_TCell t3) true none))] noG) ?_ ?_
  · intro t3 H
    unfold laws_toWriteS_j3 at H
    refine AW.seq ?_
    refine AW.regs ?_
    refine oMov eZ ?_
    refine oMov eZ ?_
    refine xNil ?_
    refine TQ.qn ?_
    refine AW.ret ?_
    obtain rfl := Option.some.inj H
    exact endsR (RL.cons (RV.tmp eZ) (VO.sl bZ (List.length_map _) (allFlat fun _ => rfl)) RL.nil) (by decide)
  · refine AW.seq ?_
    refine AW.regs ?_
    refine oMov eC ?_
    refine xNil ?_
    refine TQ.qn ?_
    refine AW.block ?_
    refine AW.iter (fun s5 : ((List TCell) × Int) => mk [(0, (.one (.d (.sl 2 (List.map d_TCell a1))))), (3, (.one (.sl 320192 0 s5.1.length))), (4, (.one (.d (.int .i64 s5.2))))] [(320192, (.data 2 (List.map d_TCell s5.1) true none))] noG) H ((wk_mk [] (SL.cons (eS rfl (eS rfl (eS rfl (eS rfl (eS rfl (eS rfl eZ)))))) rfl VWk.rfl (SL.cons (eS rfl eZ) rfl (VWk.one (CWk.len (by simp))) (SL.cons eZ rfl VWk.rfl SL.nil))) (BL.keep rfl BL.nil) (BK.cons rfl bZ rfl rfl BK.nil)).trans (wk_ren 448 320192 rfl rfl (nS rfl nZ))) ?_
    intro kb6 s5 H
    unfold laws_toWriteS_b5 at H
    refine AW.seq ?_
    refine AW.seq ?_
    refine AW.regs ?_
    refine oMov (eS rfl (eS rfl eZ)) ?_
    refine oMov (eS rfl eZ) ?_
    refine oLenD eZ (n := a1.length) (List.length_map _) ?_
    refine oLss (eS rfl (eS rfl eZ)) eZ ?_
    refine xNil ?_
    refine TQ.qn ?_
    rcases oite H with ⟨h7, H⟩ | ⟨h7, H⟩
    · refine AW.condT eZ (decide_eq_true h7) ?_
      refine AW.skip ?_
      refine TQ.qn ?_
      refine AW.seq ?_
      refine AW.block ?_
      refine AW.regs ?_
      refine oMov (eS rfl (eS rfl (eS rfl (eS rfl (eS rfl eZ))))) ?_
      refine oMov (eS rfl (eS rfl (eS rfl (eS rfl (eS rfl (eS rfl (eS rfl eZ))))))) ?_
      refine oMov (eS rfl (eS rfl (eS rfl (eS rfl (eS rfl (eS rfl eZ)))))) ?_
      refine oMov (eS rfl (eS rfl (eS rfl (eS rfl (eS rfl (eS rfl (eS rfl (eS rfl (eS rfl eZ))))))))) ?_
      obtain ⟨v8, h9, H⟩ := obind H
      refine oAtD (eS rfl eZ) eZ h9 ?_
      refine oLoadBA (es := [(.d (.int .i64 v8.Key)), (.d (.int .i64 v8.Value))]) eZ rfl ?_
      obtain ⟨v10, h11, H⟩ := obind H
      refine oCall (u := (.agg [(.d (.int .i64 v10.Key)), (.d (.int .i64 v10.Value))])) eC Cl.fn (c_laws_toWrite h11) (Evs.cons eZ Evs.nil) (VDs.cons (VD.agg rfl) VDs.nil) rfl ?_
      obtain ⟨v12, h13, H⟩ := obind H
      refine oAtN (eS rfl (eS rfl (eS rfl (eS rfl (eS rfl (eS rfl eZ)))))) (eS rfl (eS rfl (eS rfl (eS rfl (eS rfl eZ))))) bZ rfl h13 ?_
      refine oStoreD (t := v12) (t' := v10) (es := [(.int .i64 v10.Key), (.int .i64 v10.Value)]) eZ (eS rfl eZ) rfl rfl bZ (idx_at h13) rfl rfl ?_
      refine xNil ?_
      refine BQ.qn ?_
      refine TQ.qn ?_
      refine AW.regs ?_
      refine oMov (eS rfl (eS rfl (eS rfl (eS rfl (eS rfl (eS rfl (eS rfl (eS rfl (eS rfl (eS rfl (eS rfl (eS rfl (eS rfl (eS rfl eZ)))))))))))))) ?_
      refine oAdd eZ eC ?_
      refine oMov eZ ?_
      refine xNil ?_
      exact TQ.qn ⟨(s5.1.set (Int.toNat s5.2) v10, (IntKind.wrap .i64 (s5.2 + 1))), H, (wk_mk [] (SL.cons (eS rfl (eS rfl (eS rfl (eS rfl (eS rfl (eS rfl (eS rfl (eS rfl (eS rfl (eS rfl (eS rfl (eS rfl (eS rfl (eS rfl (eS rfl eZ))))))))))))))) rfl VWk.rfl (SL.cons (eS rfl (eS rfl (eS rfl (eS rfl (eS rfl (eS rfl (eS rfl (eS rfl (eS rfl (eS rfl (eS rfl (eS rfl (eS rfl (eS rfl (eS rfl (eS rfl eZ)))))))))))))))) rfl (VWk.one (CWk.len (by simp))) (SL.cons eZ rfl VWk.rfl SL.nil))) (BL.keep rfl (BL.keep rfl BL.nil)) (BK.cons rfl bZ rfl rfl BK.nil))⟩
    · refine AW.condF eZ (decide_eq_false h7) ?_
      refine AW.exit ?_
      refine TQ.qe ?_
      refine TQ.qe ?_
      refine BQ.qe ?_
      exact TQ.qn ⟨s5.1, H, ((wk_mk [] (SL.cons (eS rfl (eS rfl (eS rfl (eS rfl (eS rfl eZ))))) rfl VWk.rfl SL.nil) (BL.keep rfl BL.nil) (BK.cons rfl bZ rfl rfl BK.nil)).trans (wk_ren 320192 320128 rfl rfl (nS rfl nZ)))⟩

theorem c_laws_toShare {a1 : TShare} {r : TShare} (H : m_laws_toShare a1 = some r) : Fn Try.prog k_laws_toShare (lent [(.agg (d_TShare a1))]) true [(.agg (d_TShare r))] := by
  refine i_laws_toShare_fn (Nat.le_of_ble_eq_true rfl) ?_
  rw [init_mk]
  refine AW.weaken (wk_mk [] (SL.cons (v := (.agg [(.d (.int .i64 a1.Group)), (.d (.sl 2 (List.map d_TRange a1.Reads))), (.d (.sl 2 (List.map d_TCell a1.Writes))), (.d (.int .i64 a1.Vote))])) eZ rfl VWk.rfl SL.nil) BL.nil BK.nil) ?_
  unfold m_laws_toShare at H
  unfold i_laws_toShare
  refine AW.seq ?_
  refine AW.regs ?_
  refine oBox (n := 64) (m := 4) (cs := [(.d (.int .i64 a1.Group)), (.d (.sl 2 (List.map d_TRange a1.Reads))), (.d (.sl 2 (List.map d_TCell a1.Writes))), (.d (.int .i64 a1.Vote))]) rfl eZ rfl rfl nZ ?_
  refine oVar (n := 128) (m := 4) rfl rfl (nS rfl nZ) ?_
  refine xNil ?_
  refine TQ.qn ?_
  refine AW.seq ?_
  refine AW.regs ?_
  refine oVar (n := 192) (m := 4) rfl rfl (nS rfl (nS rfl nZ)) ?_
  refine xNil ?_
  refine TQ.qn ?_
  refine AW.seq ?_
  refine AW.regs ?_
  refine oFaddrN (m := 0) (eS rfl (eS rfl eZ)) rfl ?_
  refine oLoadV (q := 0) (c := (.d (.int .i64 a1.Group))) eZ (bS rfl (bS rfl bZ)) rfl rfl ?_
  refine oFaddrN (m := 0) (eS rfl (eS rfl eZ)) rfl ?_
  refine oStoreV (es := [(.d (.int .i64 a1.Group)), .zs, .zs, (.d (.int .i64 0))]) eZ (eS rfl eZ) rfl rfl bZ rfl ?_
  refine xNil ?_
  refine TQ.qn ?_
  refine AW.seq ?_
  refine AW.regs ?_
  refine oFaddrN (m := 1) (eS rfl (eS rfl (eS rfl (eS rfl (eS rfl eZ))))) rfl ?_
  refine oLoadV (q := 1) (c := (.d (.sl 2 (List.map d_TRange a1.Reads)))) eZ (bS rfl (bS rfl (bS rfl bZ))) rfl rfl ?_
  obtain ⟨v2, h3, H⟩ := obind H
  refine oCallN (u := (.one (.sl 576 0 ((List.map d_TRange v2).length)))) (bs := [(576, (.data 2 (List.map d_TRange v2) true none))]) eC Cl.fn (c_laws_toRangeS h3) (Evs.cons eZ Evs.nil) (VDs.cons VD.plain VDs.nil) rfl rfl (fC (nS rfl (nS rfl (nS rfl (nS rfl nZ)))) rfl (fC (nS rfl (nS rfl (nS rfl (nS rfl nZ)))) rfl fN)) ?_
  refine oFaddrN (m := 1) (eS rfl (eS rfl (eS rfl (eS rfl (eS rfl (eS rfl eZ)))))) rfl ?_
  refine oStoreV (es := [(.d (.int .i64 a1.Group)), (.sl 576 0 ((List.map d_TRange v2).length)), .zs, (.d (.int .i64 0))]) eZ (eS rfl eZ) rfl rfl (bS rfl bZ) rfl ?_
  refine xNil ?_
  refine TQ.qn ?_
  refine AW.seq ?_
  refine AW.regs ?_
  refine oFaddrN (m := 2) (eS rfl (eS rfl (eS rfl (eS rfl (eS rfl (eS rfl (eS rfl (eS rfl (eS rfl eZ))))))))) rfl ?_
  refine oLoadV (q := 2) (c := (.d (.sl 2 (List.map d_TCell a1.Writes)))) eZ (bS rfl (bS rfl (bS rfl (bS rfl (bS rfl bZ))))) rfl rfl ?_
  obtain ⟨v4, h5, H⟩ := obind H
  refine oCallN (u := (.one (.sl 832 0 ((List.map d_TCell v4).length)))) (bs := [(832, (.data 2 (List.map d_TCell v4) true none))]) eC Cl.fn (c_laws_toWriteS h5) (Evs.cons eZ Evs.nil) (VDs.cons VD.plain VDs.nil) rfl rfl (fC (nS rfl (nS rfl (nS rfl (nS rfl (nS rfl (nS rfl nZ)))))) rfl (fC (nS rfl (nS rfl (nS rfl (nS rfl (nS rfl (nS rfl nZ)))))) rfl fN)) ?_
  refine oFaddrN (m := 2) (eS rfl (eS rfl (eS rfl (eS rfl (eS rfl (eS rfl (eS rfl (eS rfl (eS rfl (eS rfl eZ)))))))))) rfl ?_
  refine oStoreV (es := [(.d (.int .i64 a1.Group)), (.sl 576 0 ((List.map d_TRange v2).length)), (.sl 832 0 ((List.map d_TCell v4).length)), (.d (.int .i64 0))]) eZ (eS rfl eZ) rfl rfl (bS rfl bZ) rfl ?_
  refine xNil ?_
  refine TQ.qn ?_
  refine AW.seq ?_
  refine AW.regs ?_
  refine oFaddrN (m := 3) (eS rfl (eS rfl (eS rfl (eS rfl (eS rfl (eS rfl (eS rfl (eS rfl (eS rfl (eS rfl (eS rfl (eS rfl (eS rfl eZ))))))))))))) rfl ?_
  refine oLoadV (q := 3) (c := (.d (.int .i64 a1.Vote))) eZ (bS rfl (bS rfl (bS rfl (bS rfl (bS rfl (bS rfl (bS rfl bZ))))))) rfl rfl ?_
  refine oFaddrN (m := 3) (eS rfl (eS rfl (eS rfl (eS rfl (eS rfl (eS rfl (eS rfl (eS rfl (eS rfl (eS rfl (eS rfl (eS rfl (eS rfl eZ))))))))))))) rfl ?_
  refine oStoreV (es := [(.d (.int .i64 a1.Group)), (.sl 576 0 ((List.map d_TRange v2).length)), (.sl 832 0 ((List.map d_TCell v4).length)), (.d (.int .i64 a1.Vote))]) eZ (eS rfl eZ) rfl rfl bZ rfl ?_
  refine xNil ?_
  refine TQ.qn ?_
  refine AW.weaken (wk_mk [64] (SL.cons (k := 3) (eS rfl (eS rfl (eS rfl (eS rfl (eS rfl (eS rfl (eS rfl (eS rfl (eS rfl (eS rfl (eS rfl (eS rfl (eS rfl (eS rfl eZ)))))))))))))) rfl VWk.rfl (SL.cons (k := 2) (eS rfl (eS rfl (eS rfl (eS rfl (eS rfl (eS rfl (eS rfl (eS rfl (eS rfl (eS rfl (eS rfl (eS rfl (eS rfl (eS rfl (eS rfl eZ))))))))))))))) rfl VWk.rfl SL.nil)) (BL.keep rfl (BL.keep rfl (BL.keep rfl (BL.keep rfl (BL.keep rfl (BL.keep rfl (BL.keep rfl (BL.keep rfl (BL.drop rfl BL.nil))))))))) (BK.cons (n := 192) rfl bZ rfl rfl (BK.cons (n := 832) rfl (bS rfl (bS rfl bZ)) rfl rfl (BK.cons (n := 576) rfl (bS rfl (bS rfl (bS rfl (bS rfl bZ)))) rfl rfl (BK.cons (n := 128) rfl (bS rfl (bS rfl (bS rfl (bS rfl (bS rfl (bS rfl (bS rfl bZ))))))) rfl rfl BK.nil))))) ?_
  refine AW.seq ?_
  refine AW.regs ?_
  refine oLoadVA (es := [(.d (.int .i64 a1.Group)), (.sl 576 0 ((List.map d_TRange v2).length)), (.sl 832 0 ((List.map d_TCell v4).length)), (.d (.int .i64 a1.Vote))]) eZ bZ rfl ?_
  refine oStoreV (es := [(.d (.int .i64 a1.Group)), (.sl 576 0 ((List.map d_TRange v2).length)), (.sl 832 0 ((List.map d_TCell v4).length)), (.d (.int .i64 a1.Vote))]) (eS rfl (eS rfl eZ)) eZ rfl rfl (bS rfl (bS rfl (bS rfl bZ))) rfl ?_
  refine xNil ?_
  refine TQ.qn ?_
  refine AW.ret ?_
  obtain rfl := Option.some.inj H
  exact endsR (RL.cons (RV.cellA (es := [(.d (.int .i64 a1.Group)), (.sl 576 0 ((List.map d_TRange v2).length)), (.sl 832 0 ((List.map d_TCell v4).length)), (.d (.int .i64 a1.Vote))]) (eS rfl (eS rfl eZ)) bZ rfl) (VO.aggs (VOs.cons (VO.flat rfl) (VOs.cons (VO.sl (bS rfl (bS rfl (bS rfl bZ))) (by simp) (allFlat fun _ => rfl)) (VOs.cons (VO.sl (bS rfl (bS rfl bZ)) (by simp) (allFlat fun _ => rfl)) (VOs.cons (VO.flat rfl) VOs.nil))))) RL.nil) (by decide)

theorem c_laws_toShareS {a1 : (List TShare)} {r : (List TShare)} (H : m_laws_toShareS a1 = some r) : Fn Try.prog k_laws_toShareS (lent [(.sl 4 (List.map d_TShare a1))]) false [(.sl 4 (List.map d_TShare r))] := by
  refine i_laws_toShareS_fnB (Nat.le_of_ble_eq_true rfl) ?_
  rw [init_mk]
  refine AW.weaken (wk_mk [] (SL.cons (v := (.one (.d (.sl 4 (List.map d_TShare a1))))) eZ rfl VWk.rfl SL.nil) BL.nil BK.nil) ?_
  unfold m_laws_toShareS at H
  unfold i_laws_toShareS
  refine AW.seq ?_
  refine AW.regs ?_
  refine oMov eC ?_
  refine xNil ?_
  refine TQ.qn ?_
  refine AW.seq ?_
  refine AW.regs ?_
  refine oMov (eS rfl eZ) ?_
  refine oLenD eZ (n := a1.length) (List.length_map _) ?_
  obtain ⟨h2, H⟩ := oguard H
  refine oMksl (f := d_TShare) (zv := (TShare.mk 0 ([] : (List TRange)) ([] : (List TCell)) 0)) (own := false) (m := 448) (q := (Int.toNat (a1.length : Int))) rfl rfl eZ eZ h2.1 h2.2 rfl (by decide) rfl nZ ?_
  refine oMov eZ ?_
  refine xNil ?_
  refine TQ.qn ?_
  refine AW.seqJ (fun t3 : (List TShare) => laws_toShareS_j3 t3 = some r) (fun t3 => mk [(3, (.one (.sl 320128 0 t3.length)))] [(320128, (.data 4 (List.map d_TShare t3) false none))] noG) ?_ ?_
  · intro t3 H
    unfold laws_toShareS_j3 at H
    refine AW.seq ?_
    refine AW.regs ?_
    refine oMov eZ ?_
    refine oMov eZ ?_
    refine xNil ?_
    refine TQ.qn ?_
    refine AW.ret ?_
    obtain rfl := Option.some.inj H
    exact endsRB (RB.cons (RV.tmp eZ) (VD.sl bZ (List.length_map _)) RdI.rfl rfl RB.nil)
  · refine AW.seq ?_
    refine AW.regs ?_
    refine oMov eC ?_
    refine xNil ?_
    refine TQ.qn ?_
    refine AW.block ?_
    refine AW.iter (fun s5 : ((List TShare) × Int) => mk [(0, (.one (.d (.sl 4 (List.map d_TShare a1))))), (3, (.one (.sl 320192 0 s5.1.length))), (4, (.one (.d (.int .i64 s5.2))))] [(320192, (.data 4 (List.map d_TShare s5.1) false none))] noG) H ((wk_mk [] (SL.cons (eS rfl (eS rfl (eS rfl (eS rfl (eS rfl (eS rfl eZ)))))) rfl VWk.rfl (SL.cons (eS rfl eZ) rfl (VWk.one (CWk.len (by simp))) (SL.cons eZ rfl VWk.rfl SL.nil))) (BL.keep rfl BL.nil) (BK.cons rfl bZ rfl rfl BK.nil)).trans (wk_ren 448 320192 rfl rfl (nS rfl nZ))) ?_
    intro kb6 s5 H
    unfold laws_toShareS_b5 at H
    refine AW.seq ?_
    refine AW.seq ?_
    refine AW.regs ?_
    refine oMov (eS rfl (eS rfl eZ)) ?_
    refine oMov (eS rfl eZ) ?_
    refine oLenD eZ (n := a1.length) (List.length_map _) ?_
    refine oLss (eS rfl (eS rfl eZ)) eZ ?_
    refine xNil ?_
    refine TQ.qn ?_
    rcases oite H with ⟨h7, H⟩ | ⟨h7, H⟩
    · refine AW.condT eZ (decide_eq_true h7) ?_
      refine AW.skip ?_
      refine TQ.qn ?_
      refine AW.seq ?_
      refine AW.block ?_
      refine AW.regs ?_
      refine oMov (eS rfl (eS rfl (eS rfl (eS rfl (eS rfl eZ))))) ?_
      refine oMov (eS rfl (eS rfl (eS rfl (eS rfl (eS rfl (eS rfl (eS rfl eZ))))))) ?_
      refine oMov (eS rfl (eS rfl (eS rfl (eS rfl (eS rfl (eS rfl eZ)))))) ?_
      refine oMov (eS rfl (eS rfl (eS rfl (eS rfl (eS rfl (eS rfl (eS rfl (eS rfl (eS rfl eZ))))))))) ?_
      obtain ⟨v8, h9, H⟩ := obind H
      refine oAtD (eS rfl eZ) eZ h9 ?_
      refine oLoadBA (es := [(.d (.int .i64 v8.Group)), (.d (.sl 2 (List.map d_TRange v8.Reads))), (.d (.sl 2 (List.map d_TCell v8.Writes))), (.d (.int .i64 v8.Vote))]) eZ rfl ?_
      obtain ⟨v10, h11, H⟩ := obind H
      refine oCall (u := (.agg [(.d (.int .i64 v10.Group)), (.d (.sl 2 (List.map d_TRange v10.Reads))), (.d (.sl 2 (List.map d_TCell v10.Writes))), (.d (.int .i64 v10.Vote))])) eC Cl.fn (c_laws_toShare h11) (Evs.cons eZ Evs.nil) (VDs.cons (VD.agg rfl) VDs.nil) rfl ?_
      obtain ⟨v12, h13, H⟩ := obind H
      refine oAtN (eS rfl (eS rfl (eS rfl (eS rfl (eS rfl (eS rfl eZ)))))) (eS rfl (eS rfl (eS rfl (eS rfl (eS rfl eZ))))) bZ rfl h13 ?_
      refine oStoreD (t := v12) (t' := v10) (es := [(.int .i64 v10.Group), (.sl 2 (List.map d_TRange v10.Reads)), (.sl 2 (List.map d_TCell v10.Writes)), (.int .i64 v10.Vote)]) eZ (eS rfl eZ) rfl rfl bZ (idx_at h13) rfl rfl ?_
      refine xNil ?_
      refine BQ.qn ?_
      refine TQ.qn ?_
      refine AW.regs ?_
      refine oMov (eS rfl (eS rfl (eS rfl (eS rfl (eS rfl (eS rfl (eS rfl (eS rfl (eS rfl (eS rfl (eS rfl (eS rfl (eS rfl (eS rfl eZ)))))))))))))) ?_
      refine oAdd eZ eC ?_
      refine oMov eZ ?_
      refine xNil ?_
      exact TQ.qn ⟨(s5.1.set (Int.toNat s5.2) v10, (IntKind.wrap .i64 (s5.2 + 1))), H, (wk_mk [] (SL.cons (eS rfl (eS rfl (eS rfl (eS rfl (eS rfl (eS rfl (eS rfl (eS rfl (eS rfl (eS rfl (eS rfl (eS rfl (eS rfl (eS rfl (eS rfl eZ))))))))))))))) rfl VWk.rfl (SL.cons (eS rfl (eS rfl (eS rfl (eS rfl (eS rfl (eS rfl (eS rfl (eS rfl (eS rfl (eS rfl (eS rfl (eS rfl (eS rfl (eS rfl (eS rfl (eS rfl eZ)))))))))))))))) rfl (VWk.one (CWk.len (by simp))) (SL.cons eZ rfl VWk.rfl SL.nil))) (BL.keep rfl (BL.keep rfl BL.nil)) (BK.cons rfl bZ rfl rfl BK.nil))⟩
    · refine AW.condF eZ (decide_eq_false h7) ?_
      refine AW.exit ?_
      refine TQ.qe ?_
      refine TQ.qe ?_
      refine BQ.qe ?_
      exact TQ.qn ⟨s5.1, H, ((wk_mk [] (SL.cons (eS rfl (eS rfl (eS rfl (eS rfl (eS rfl eZ))))) rfl VWk.rfl SL.nil) (BL.keep rfl BL.nil) (BK.cons rfl bZ rfl rfl BK.nil)).trans (wk_ren 320192 320128 rfl rfl (nS rfl nZ)))⟩

theorem c_spec_l1In {a1 : Int} {a2 : Int} {a3 : Int} {r : Bool} (H : m_spec_l1In a1 a2 a3 = some r) : Fn Try.prog k_spec_l1In (lent [(.int .i64 a1), (.int .i64 a2), (.int .i64 a3)]) true [(.bool r)] := by
  refine i_spec_l1In_fn (Nat.le_of_ble_eq_true rfl) ?_
  rw [init_mk]
  refine AW.weaken (wk_mk [] (SL.cons (v := (.one (.d (.int .i64 a1)))) eZ rfl VWk.rfl (SL.cons (v := (.one (.d (.int .i64 a2)))) (eS rfl eZ) rfl VWk.rfl (SL.cons (v := (.one (.d (.int .i64 a3)))) (eS rfl (eS rfl eZ)) rfl VWk.rfl SL.nil))) BL.nil BK.nil) ?_
  unfold m_spec_l1In at H
  unfold i_spec_l1In
  refine AW.seq ?_
  refine AW.regs ?_
  refine oMov eC ?_
  refine xNil ?_
  refine TQ.qn ?_
  refine AW.seq ?_
  refine AW.regs ?_
  refine oMov (eS rfl eZ) ?_
  refine oMov (eS rfl (eS rfl (eS rfl eZ))) ?_
  refine oGeq (eS rfl eZ) eZ ?_
  refine oMov eZ ?_
  rcases oite H with ⟨h4, H⟩ | ⟨h4, H⟩
  · refine gDo eZ (decide_eq_true h4) ?_
    refine oMov (eS rfl (eS rfl (eS rfl (eS rfl (eS rfl eZ))))) ?_
    refine gDo (eS rfl eZ) (decide_eq_true h4) ?_
    refine oMov (eS rfl (eS rfl (eS rfl (eS rfl (eS rfl (eS rfl (eS rfl (eS rfl eZ)))))))) ?_
    refine gDo (eS rfl (eS rfl eZ)) (decide_eq_true h4) ?_
    refine oLeq (eS rfl eZ) eZ ?_
    refine oPickT (eS rfl (eS rfl (eS rfl eZ))) (decide_eq_true h4) eZ ?_
    refine oMov eZ ?_
    refine xNil ?_
    refine TQ.qn ?_
    refine AW.ret ?_
    obtain rfl := Option.some.inj H
    exact endsR (RL.cons (RV.tmp eZ) (VO.flat rfl) RL.nil) List.nodup_nil
  · refine gSkip eZ (decide_eq_false h4) rfl ?_
    refine gSkip (eS rfl eZ) (decide_eq_false h4) rfl ?_
    refine gSkip (eS rfl (eS rfl eZ)) (decide_eq_false h4) rfl ?_
    refine oPickF (eS rfl (eS rfl (eS rfl eZ))) (decide_eq_false h4) eC ?_
    refine oMov eZ ?_
    refine xNil ?_
    refine TQ.qn ?_
    refine AW.ret ?_
    obtain rfl := Option.some.inj H
    exact endsR (RL.cons (RV.tmp eZ) (VO.flat rfl) RL.nil) List.nodup_nil

theorem c_spec_l10Key {a1 : Int} {r : Bool} (H : m_spec_l10Key a1 = some r) : Fn Try.prog k_spec_l10Key (lent [(.int .i64 a1)]) true [(.bool r)] := by
  refine i_spec_l10Key_fn (Nat.le_of_ble_eq_true rfl) ?_
  rw [init_mk]
  refine AW.weaken (wk_mk [] (SL.cons (v := (.one (.d (.int .i64 a1)))) eZ rfl VWk.rfl SL.nil) BL.nil BK.nil) ?_
  unfold m_spec_l10Key at H
  unfold i_spec_l10Key
  refine AW.seq ?_
  refine AW.regs ?_
  refine oMov eC ?_
  refine xNil ?_
  refine TQ.qn ?_
  refine AW.seq ?_
  refine AW.regs ?_
  refine oMov (eS rfl eZ) ?_
  obtain ⟨v2, h3, H⟩ := obind H
  refine oCall (u := (.one (.d (.bool v2)))) eC Cl.fn (c_spec_l1In h3) (Evs.cons eZ (Evs.cons eC (Evs.cons eC Evs.nil))) (VDs.cons VD.plain (VDs.cons VD.plain (VDs.cons VD.plain VDs.nil))) rfl ?_
  refine oMov eZ ?_
  refine xNil ?_
  refine TQ.qn ?_
  refine AW.ret ?_
  obtain rfl := Option.some.inj H
  exact endsR (RL.cons (RV.tmp eZ) (VO.flat rfl) RL.nil) List.nodup_nil

theorem c_spec_WritesOk {a1 : (List TCell)} {r : Bool} (H : m_spec_WritesOk a1 = some r) : Fn Try.prog k_spec_WritesOk (lent [(.sl 2 (List.map d_TCell a1))]) true [(.bool r)] := by
  refine i_spec_WritesOk_fn (Nat.le_of_ble_eq_true rfl) ?_
  rw [init_mk]
  refine AW.weaken (wk_mk [] (SL.cons (v := (.one (.d (.sl 2 (List.map d_TCell a1))))) eZ rfl VWk.rfl SL.nil) BL.nil BK.nil) ?_
  unfold m_spec_WritesOk at H
  unfold i_spec_WritesOk
  refine AW.seq ?_
  refine AW.regs ?_
  refine oMov eC ?_
  refine xNil ?_
  refine TQ.qn ?_
  refine AW.seq ?_
  refine AW.seq ?_
  refine AW.regs ?_
  refine oMov (eS rfl eZ) ?_
  refine oLenD eZ (n := a1.length) (List.length_map _) ?_
  refine oGtr eZ eC ?_
  refine xNil ?_
  refine TQ.qn ?_
  rcases oite H with ⟨h2, H⟩ | ⟨h2, H⟩
  · refine AW.condT eZ (decide_eq_true h2) ?_
    refine AW.seq ?_
    refine AW.regs ?_
    refine oMov eC ?_
    refine xNil ?_
    refine TQ.qn ?_
    refine AW.ret ?_
    refine TQ.qr ?_
    obtain rfl := Option.some.inj H
    exact endsR (RL.cons (RV.tmp eZ) (VO.flat rfl) RL.nil) List.nodup_nil
  · refine AW.condF eZ (decide_eq_false h2) ?_
    refine AW.skip ?_
    refine TQ.qn ?_
    refine AW.seqJ (fun t3 : Unit => spec_WritesOk_j3 t3 = some r) (fun t3 => mk [] [] noG) ?_ ?_
    · intro t3 H
      unfold spec_WritesOk_j3 at H
      refine AW.seq ?_
      refine AW.regs ?_
      refine oMov eC ?_
      refine xNil ?_
      refine TQ.qn ?_
      refine AW.ret ?_
      obtain rfl := Option.some.inj H
      exact endsR (RL.cons (RV.tmp eZ) (VO.flat rfl) RL.nil) List.nodup_nil
    · refine AW.seq ?_
      refine AW.regs ?_
      refine oMov eC ?_
      refine xNil ?_
      refine TQ.qn ?_
      refine AW.block ?_
      refine AW.iter (fun s5 : Int => mk [(0, (.one (.d (.sl 2 (List.map d_TCell a1))))), (3, (.one (.d (.int .i64 s5))))] [] noG) H (wk_mk [] (SL.cons (eS rfl (eS rfl (eS rfl (eS rfl (eS rfl eZ))))) rfl VWk.rfl (SL.cons eZ rfl VWk.rfl SL.nil)) BL.nil BK.nil) ?_
      intro kb6 s5 H
      unfold spec_WritesOk_b5 at H
      refine AW.seq ?_
      refine AW.seq ?_
      refine AW.regs ?_
      refine oMov (eS rfl eZ) ?_
      refine oMov (eS rfl eZ) ?_
      refine oLenD eZ (n := a1.length) (List.length_map _) ?_
      refine oLss (eS rfl (eS rfl eZ)) eZ ?_
      refine xNil ?_
      refine TQ.qn ?_
      rcases oite H with ⟨h7, H⟩ | ⟨h7, H⟩
      · refine AW.condT eZ (decide_eq_true h7) ?_
        refine AW.skip ?_
        refine TQ.qn ?_
        refine AW.seq ?_
        refine AW.block ?_
        refine AW.seqJ (fun t8 : Bool => (spec_WritesOk_j8 kb6 s5) t8 = some r) (fun t8 => mk [(0, (.one (.d (.sl 2 (List.map d_TCell a1))))), (3, (.one (.d (.int .i64 s5)))), (46, (.one (.d (.bool t8))))] [] noG) ?_ ?_
        · intro t8 H
          unfold spec_WritesOk_j8 at H
          rcases oite H with ⟨h10, H⟩ | ⟨h10, H⟩
          · refine AW.condT (eS rfl (eS rfl eZ)) h10 ?_
            refine AW.seq ?_
            refine AW.regs ?_
            refine oMov eC ?_
            refine xNil ?_
            refine TQ.qn ?_
            refine AW.ret ?_
            refine BQ.qr ?_
            refine TQ.qr ?_
            refine TQ.qr ?_
            refine BQ.qr ?_
            refine TQ.qr ?_
            obtain rfl := Option.some.inj H
            exact endsR (RL.cons (RV.tmp eZ) (VO.flat rfl) RL.nil) List.nodup_nil
          · refine AW.condF (eS rfl (eS rfl eZ)) (nt h10) ?_
            refine AW.skip ?_
            refine BQ.qn ?_
            refine TQ.qn ?_
            refine AW.regs ?_
            refine oMov (eS rfl eZ) ?_
            refine oAdd eZ eC ?_
            refine oMov eZ ?_
            refine xNil ?_
            exact TQ.qn ⟨(IntKind.wrap .i64 (s5 + 1)), H, (wk_mk [] (SL.cons (eS rfl (eS rfl (eS rfl eZ))) rfl VWk.rfl (SL.cons eZ rfl VWk.rfl SL.nil)) BL.nil BK.nil)⟩
        · refine AW.regd ?_
          refine oMov (eS rfl (eS rfl (eS rfl (eS rfl eZ)))) ?_
          refine oMov (eS rfl (eS rfl (eS rfl (eS rfl (eS rfl (eS rfl eZ)))))) ?_
          obtain ⟨v11, h12, H⟩ := obind H
          refine oAtD (eS rfl eZ) eZ h12 ?_
          refine oFaddrB (m := 0) eZ rfl ?_
          refine oLoadB (e := (.int .i64 v11.Key)) eZ rfl ?_
          obtain ⟨v13, h14, H⟩ := obind H
          refine oCall (u := (.one (.d (.bool v13)))) eC Cl.fn (c_spec_l10Key h14) (Evs.cons eZ Evs.nil) (VDs.cons VD.plain VDs.nil) rfl ?_
          refine oInv eZ ?_
          refine oMov eZ ?_
          rcases oite H with ⟨h15, H⟩ | ⟨h15, H⟩
          · refine gDo eZ (congrArg Bool.not h15) ?_
            refine oMov (eS rfl (eS rfl (eS rfl (eS rfl (eS rfl (eS rfl (eS rfl (eS rfl (eS rfl (eS rfl (eS rfl (eS rfl eZ)))))))))))) ?_
            refine gDo (eS rfl eZ) (congrArg Bool.not h15) ?_
            refine oMov (eS rfl (eS rfl (eS rfl (eS rfl (eS rfl (eS rfl (eS rfl (eS rfl (eS rfl (eS rfl (eS rfl (eS rfl (eS rfl (eS rfl eZ)))))))))))))) ?_
            refine gDo (eS rfl (eS rfl eZ)) (congrArg Bool.not h15) ?_
            obtain ⟨v16, h17, H⟩ := obind H
            refine oAtD (eS rfl eZ) eZ h17 ?_
            refine gDo (eS rfl (eS rfl (eS rfl eZ))) (congrArg Bool.not h15) ?_
            refine oFaddrB (m := 1) eZ rfl ?_
            refine gDo (eS rfl (eS rfl (eS rfl (eS rfl eZ)))) (congrArg Bool.not h15) ?_
            refine oLoadB (e := (.int .i64 v16.Value)) eZ rfl ?_
            refine gDo (eS rfl (eS rfl (eS rfl (eS rfl (eS rfl eZ))))) (congrArg Bool.not h15) ?_
            obtain ⟨v18, h19, H⟩ := obind H
            refine oCall (u := (.one (.d (.bool v18)))) eC Cl.fn (c_spec_l1In h19) (Evs.cons eZ (Evs.cons eC (Evs.cons eC Evs.nil))) (VDs.cons VD.plain (VDs.cons VD.plain (VDs.cons VD.plain VDs.nil))) rfl ?_
            refine gDo (eS rfl (eS rfl (eS rfl (eS rfl (eS rfl (eS rfl eZ)))))) (congrArg Bool.not h15) ?_
            refine oInv eZ ?_
            refine oPickF (eS rfl (eS rfl (eS rfl (eS rfl (eS rfl (eS rfl (eS rfl eZ))))))) (congrArg Bool.not h15) eZ ?_
            refine oMov eZ ?_
            rcases oite H with ⟨h20, H⟩ | ⟨h20, H⟩
            · refine gDo eZ (congrArg Bool.not h20) ?_
              refine oMov (eS rfl (eS rfl (eS rfl (eS rfl (eS rfl (eS rfl (eS rfl (eS rfl (eS rfl (eS rfl (eS rfl (eS rfl (eS rfl (eS rfl (eS rfl (eS rfl (eS rfl (eS rfl (eS rfl (eS rfl (eS rfl (eS rfl eZ)))))))))))))))))))))) ?_
              refine gDo (eS rfl eZ) (congrArg Bool.not h20) ?_
              refine oGtr eZ eC ?_
              refine gDo (eS rfl (eS rfl eZ)) (congrArg Bool.not h20) ?_
              refine oMov eZ ?_
              rcases oite H with ⟨h21, H⟩ | ⟨h21, H⟩
              · refine gDo eZ (decide_eq_true h21) ?_
                refine oMov (eS rfl (eS rfl (eS rfl (eS rfl (eS rfl (eS rfl (eS rfl (eS rfl (eS rfl (eS rfl (eS rfl (eS rfl (eS rfl (eS rfl (eS rfl (eS rfl (eS rfl (eS rfl (eS rfl (eS rfl (eS rfl (eS rfl (eS rfl (eS rfl eZ)))))))))))))))))))))))) ?_
                refine gDo (eS rfl eZ) (decide_eq_true h21) ?_
                refine oMov (eS rfl (eS rfl (eS rfl (eS rfl (eS rfl (eS rfl (eS rfl (eS rfl (eS rfl (eS rfl (eS rfl (eS rfl (eS rfl (eS rfl (eS rfl (eS rfl (eS rfl (eS rfl (eS rfl (eS rfl (eS rfl (eS rfl (eS rfl (eS rfl (eS rfl (eS rfl eZ)))))))))))))))))))))))))) ?_
                refine gDo (eS rfl (eS rfl eZ)) (decide_eq_true h21) ?_
                refine oSub eZ eC ?_
                refine gDo (eS rfl (eS rfl (eS rfl eZ))) (decide_eq_true h21) ?_
                obtain ⟨v22, h23, H⟩ := obind H
                refine oAtD (eS rfl (eS rfl eZ)) eZ h23 ?_
                refine gDo (eS rfl (eS rfl (eS rfl (eS rfl eZ)))) (decide_eq_true h21) ?_
                refine oFaddrB (m := 0) eZ rfl ?_
                refine gDo (eS rfl (eS rfl (eS rfl (eS rfl (eS rfl eZ))))) (decide_eq_true h21) ?_
                refine oLoadB (e := (.int .i64 v22.Key)) eZ rfl ?_
                refine gDo (eS rfl (eS rfl (eS rfl (eS rfl (eS rfl (eS rfl eZ)))))) (decide_eq_true h21) ?_
                refine oMov (eS rfl (eS rfl (eS rfl (eS rfl (eS rfl (eS rfl (eS rfl (eS rfl (eS rfl (eS rfl (eS rfl (eS rfl (eS rfl (eS rfl (eS rfl (eS rfl (eS rfl (eS rfl (eS rfl (eS rfl (eS rfl (eS rfl (eS rfl (eS rfl (eS rfl (eS rfl (eS rfl (eS rfl (eS rfl (eS rfl eZ)))))))))))))))))))))))))))))) ?_
                refine gDo (eS rfl (eS rfl (eS rfl (eS rfl (eS rfl (eS rfl (eS rfl eZ))))))) (decide_eq_true h21) ?_
                refine oMov (eS rfl (eS rfl (eS rfl (eS rfl (eS rfl (eS rfl (eS rfl (eS rfl (eS rfl (eS rfl (eS rfl (eS rfl (eS rfl (eS rfl (eS rfl (eS rfl (eS rfl (eS rfl (eS rfl (eS rfl (eS rfl (eS rfl (eS rfl (eS rfl (eS rfl (eS rfl (eS rfl (eS rfl (eS rfl (eS rfl (eS rfl (eS rfl eZ)))))))))))))))))))))))))))))))) ?_
                refine gDo (eS rfl (eS rfl (eS rfl (eS rfl (eS rfl (eS rfl (eS rfl (eS rfl eZ)))))))) (decide_eq_true h21) ?_
                obtain ⟨v24, h25, H⟩ := obind H
                refine oAtD (eS rfl eZ) eZ h25 ?_
                refine gDo (eS rfl (eS rfl (eS rfl (eS rfl (eS rfl (eS rfl (eS rfl (eS rfl (eS rfl eZ))))))))) (decide_eq_true h21) ?_
                refine oFaddrB (m := 0) eZ rfl ?_
                refine gDo (eS rfl (eS rfl (eS rfl (eS rfl (eS rfl (eS rfl (eS rfl (eS rfl (eS rfl (eS rfl eZ)))))))))) (decide_eq_true h21) ?_
                refine oLoadB (e := (.int .i64 v24.Key)) eZ rfl ?_
                refine gDo (eS rfl (eS rfl (eS rfl (eS rfl (eS rfl (eS rfl (eS rfl (eS rfl (eS rfl (eS rfl (eS rfl eZ))))))))))) (decide_eq_true h21) ?_
                refine oGeq (eS rfl (eS rfl (eS rfl (eS rfl (eS rfl eZ))))) eZ ?_
                refine gDo (eS rfl (eS rfl (eS rfl (eS rfl (eS rfl (eS rfl (eS rfl (eS rfl (eS rfl (eS rfl (eS rfl (eS rfl (eS rfl (eS rfl (eS rfl eZ))))))))))))))) (congrArg Bool.not h20) ?_
                refine oPickT (eS rfl (eS rfl (eS rfl (eS rfl (eS rfl (eS rfl (eS rfl (eS rfl (eS rfl (eS rfl (eS rfl (eS rfl eZ)))))))))))) (decide_eq_true h21) eZ ?_
                refine oPickF (eS rfl (eS rfl (eS rfl (eS rfl (eS rfl (eS rfl (eS rfl (eS rfl (eS rfl (eS rfl (eS rfl (eS rfl (eS rfl (eS rfl (eS rfl (eS rfl eZ)))))))))))))))) (congrArg Bool.not h20) eZ ?_
                refine xNil ?_
                exact TQ.qn ⟨(decide (v24.Key ≤ v22.Key)), H, (wk_mk [] (SL.cons (eS rfl (eS rfl (eS rfl (eS rfl (eS rfl (eS rfl (eS rfl (eS rfl (eS rfl (eS rfl (eS rfl (eS rfl (eS rfl (eS rfl (eS rfl (eS rfl (eS rfl (eS rfl (eS rfl (eS rfl (eS rfl (eS rfl (eS rfl (eS rfl (eS rfl (eS rfl (eS rfl (eS rfl (eS rfl (eS rfl (eS rfl (eS rfl (eS rfl (eS rfl (eS rfl (eS rfl (eS rfl (eS rfl eZ)))))))))))))))))))))))))))))))))))))) rfl VWk.rfl (SL.cons (eS rfl (eS rfl (eS rfl (eS rfl (eS rfl (eS rfl (eS rfl (eS rfl (eS rfl (eS rfl (eS rfl (eS rfl (eS rfl (eS rfl (eS rfl (eS rfl (eS rfl (eS rfl (eS rfl (eS rfl (eS rfl (eS rfl (eS rfl (eS rfl (eS rfl (eS rfl (eS rfl (eS rfl (eS rfl (eS rfl (eS rfl (eS rfl (eS rfl (eS rfl (eS rfl (eS rfl (eS rfl (eS rfl (eS rfl eZ))))))))))))))))))))))))))))))))))))))) rfl VWk.rfl (SL.cons eZ rfl VWk.rfl SL.nil))) BL.nil BK.nil)⟩
              · refine gSkip eZ (decide_eq_false h21) rfl ?_
                refine gSkip (eS rfl eZ) (decide_eq_false h21) rfl ?_
                refine gSkip (eS rfl (eS rfl eZ)) (decide_eq_false h21) rfl ?_
                refine gSkip (eS rfl (eS rfl (eS rfl eZ))) (decide_eq_false h21) rfl ?_
                refine gSkip (eS rfl (eS rfl (eS rfl (eS rfl eZ)))) (decide_eq_false h21) rfl ?_
                refine gSkip (eS rfl (eS rfl (eS rfl (eS rfl (eS rfl eZ))))) (decide_eq_false h21) rfl ?_
                refine gSkip (eS rfl (eS rfl (eS rfl (eS rfl (eS rfl (eS rfl eZ)))))) (decide_eq_false h21) rfl ?_
                refine gSkip (eS rfl (eS rfl (eS rfl (eS rfl (eS rfl (eS rfl (eS rfl eZ))))))) (decide_eq_false h21) rfl ?_
                refine gSkip (eS rfl (eS rfl (eS rfl (eS rfl (eS rfl (eS rfl (eS rfl (eS rfl eZ)))))))) (decide_eq_false h21) rfl ?_
                refine gSkip (eS rfl (eS rfl (eS rfl (eS rfl (eS rfl (eS rfl (eS rfl (eS rfl (eS rfl eZ))))))))) (decide_eq_false h21) rfl ?_
                refine gSkip (eS rfl (eS rfl (eS rfl (eS rfl (eS rfl (eS rfl (eS rfl (eS rfl (eS rfl (eS rfl eZ)))))))))) (decide_eq_false h21) rfl ?_
                refine gSkip (eS rfl (eS rfl (eS rfl (eS rfl (eS rfl (eS rfl (eS rfl (eS rfl (eS rfl (eS rfl (eS rfl eZ))))))))))) (decide_eq_false h21) rfl ?_
                refine gDo (eS rfl (eS rfl (eS rfl (eS rfl (eS rfl (eS rfl (eS rfl (eS rfl (eS rfl (eS rfl (eS rfl (eS rfl (eS rfl (eS rfl (eS rfl eZ))))))))))))))) (congrArg Bool.not h20) ?_
                refine oPickF (eS rfl (eS rfl (eS rfl (eS rfl (eS rfl (eS rfl (eS rfl (eS rfl (eS rfl (eS rfl (eS rfl (eS rfl eZ)))))))))))) (decide_eq_false h21) eC ?_
                refine oPickF (eS rfl (eS rfl (eS rfl (eS rfl (eS rfl (eS rfl (eS rfl (eS rfl (eS rfl (eS rfl (eS rfl (eS rfl (eS rfl (eS rfl (eS rfl (eS rfl eZ)))))))))))))))) (congrArg Bool.not h20) eZ ?_
                refine xNil ?_
                exact TQ.qn ⟨false, H, (wk_mk [] (SL.cons (eS rfl (eS rfl (eS rfl (eS rfl (eS rfl (eS rfl (eS rfl (eS rfl (eS rfl (eS rfl (eS rfl (eS rfl (eS rfl (eS rfl (eS rfl (eS rfl (eS rfl (eS rfl (eS rfl (eS rfl (eS rfl (eS rfl (eS rfl (eS rfl (eS rfl (eS rfl (eS rfl (eS rfl (eS rfl (eS rfl (eS rfl (eS rfl (eS rfl (eS rfl (eS rfl (eS rfl (eS rfl (eS rfl eZ)))))))))))))))))))))))))))))))))))))) rfl VWk.rfl (SL.cons (eS rfl (eS rfl (eS rfl (eS rfl (eS rfl (eS rfl (eS rfl (eS rfl (eS rfl (eS rfl (eS rfl (eS rfl (eS rfl (eS rfl (eS rfl (eS rfl (eS rfl (eS rfl (eS rfl (eS rfl (eS rfl (eS rfl (eS rfl (eS rfl (eS rfl (eS rfl (eS rfl (eS rfl (eS rfl (eS rfl (eS rfl (eS rfl (eS rfl (eS rfl (eS rfl (eS rfl (eS rfl (eS rfl (eS rfl eZ))))))))))))))))))))))))))))))))))))))) rfl VWk.rfl (SL.cons eZ rfl VWk.rfl SL.nil))) BL.nil BK.nil)⟩
            · refine gSkip eZ (congrArg Bool.not (nt h20)) rfl ?_
              refine gSkip (eS rfl eZ) (congrArg Bool.not (nt h20)) rfl ?_
              refine gSkip (eS rfl (eS rfl eZ)) (congrArg Bool.not (nt h20)) rfl ?_
              refine gSkipU eZ rfl ?_
              refine gSkipU (eS rfl eZ) rfl ?_
              refine gSkipU (eS rfl (eS rfl eZ)) rfl ?_
              refine gSkipU (eS rfl (eS rfl (eS rfl eZ))) rfl ?_
              refine gSkipU (eS rfl (eS rfl (eS rfl (eS rfl eZ)))) rfl ?_
              refine gSkipU (eS rfl (eS rfl (eS rfl (eS rfl (eS rfl eZ))))) rfl ?_
              refine gSkipU (eS rfl (eS rfl (eS rfl (eS rfl (eS rfl (eS rfl eZ)))))) rfl ?_
              refine gSkipU (eS rfl (eS rfl (eS rfl (eS rfl (eS rfl (eS rfl (eS rfl eZ))))))) rfl ?_
              refine gSkipU (eS rfl (eS rfl (eS rfl (eS rfl (eS rfl (eS rfl (eS rfl (eS rfl eZ)))))))) rfl ?_
              refine gSkipU (eS rfl (eS rfl (eS rfl (eS rfl (eS rfl (eS rfl (eS rfl (eS rfl (eS rfl eZ))))))))) rfl ?_
              refine gSkipU (eS rfl (eS rfl (eS rfl (eS rfl (eS rfl (eS rfl (eS rfl (eS rfl (eS rfl (eS rfl eZ)))))))))) rfl ?_
              refine gSkipU (eS rfl (eS rfl (eS rfl (eS rfl (eS rfl (eS rfl (eS rfl (eS rfl (eS rfl (eS rfl (eS rfl eZ))))))))))) rfl ?_
              refine gSkip (eS rfl (eS rfl (eS rfl (eS rfl (eS rfl (eS rfl (eS rfl (eS rfl (eS rfl (eS rfl (eS rfl (eS rfl (eS rfl (eS rfl (eS rfl eZ))))))))))))))) (congrArg Bool.not (nt h20)) rfl ?_
              refine oPickT (eS rfl (eS rfl (eS rfl (eS rfl (eS rfl (eS rfl (eS rfl (eS rfl (eS rfl (eS rfl (eS rfl (eS rfl (eS rfl (eS rfl (eS rfl (eS rfl eZ)))))))))))))))) (congrArg Bool.not (nt h20)) eC ?_
              refine xNil ?_
              exact TQ.qn ⟨true, H, (wk_mk [] (SL.cons (eS rfl (eS rfl (eS rfl (eS rfl (eS rfl (eS rfl (eS rfl (eS rfl (eS rfl (eS rfl (eS rfl (eS rfl (eS rfl (eS rfl (eS rfl (eS rfl (eS rfl (eS rfl (eS rfl (eS rfl (eS rfl (eS rfl (eS rfl (eS rfl (eS rfl (eS rfl (eS rfl (eS rfl (eS rfl (eS rfl (eS rfl (eS rfl (eS rfl (eS rfl (eS rfl (eS rfl (eS rfl (eS rfl eZ)))))))))))))))))))))))))))))))))))))) rfl VWk.rfl (SL.cons (eS rfl (eS rfl (eS rfl (eS rfl (eS rfl (eS rfl (eS rfl (eS rfl (eS rfl (eS rfl (eS rfl (eS rfl (eS rfl (eS rfl (eS rfl (eS rfl (eS rfl (eS rfl (eS rfl (eS rfl (eS rfl (eS rfl (eS rfl (eS rfl (eS rfl (eS rfl (eS rfl (eS rfl (eS rfl (eS rfl (eS rfl (eS rfl (eS rfl (eS rfl (eS rfl (eS rfl (eS rfl (eS rfl (eS rfl eZ))))))))))))))))))))))))))))))))))))))) rfl VWk.rfl (SL.cons eZ rfl VWk.rfl SL.nil))) BL.nil BK.nil)⟩
          · refine gSkip eZ (congrArg Bool.not (nt h15)) rfl ?_
            refine gSkip (eS rfl eZ) (congrArg Bool.not (nt h15)) rfl ?_
            refine gSkip (eS rfl (eS rfl eZ)) (congrArg Bool.not (nt h15)) rfl ?_
            refine gSkip (eS rfl (eS rfl (eS rfl eZ))) (congrArg Bool.not (nt h15)) rfl ?_
            refine gSkip (eS rfl (eS rfl (eS rfl (eS rfl eZ)))) (congrArg Bool.not (nt h15)) rfl ?_
            refine gSkip (eS rfl (eS rfl (eS rfl (eS rfl (eS rfl eZ))))) (congrArg Bool.not (nt h15)) rfl ?_
            refine gSkip (eS rfl (eS rfl (eS rfl (eS rfl (eS rfl (eS rfl eZ)))))) (congrArg Bool.not (nt h15)) rfl ?_
            refine oPickT (eS rfl (eS rfl (eS rfl (eS rfl (eS rfl (eS rfl (eS rfl eZ))))))) (congrArg Bool.not (nt h15)) eC ?_
            refine oMov eZ ?_
            refine gSkip eZ rfl rfl ?_
            refine gSkip (eS rfl eZ) rfl rfl ?_
            refine gSkip (eS rfl (eS rfl eZ)) rfl rfl ?_
            refine gSkipU eZ rfl ?_
            refine gSkipU (eS rfl eZ) rfl ?_
            refine gSkipU (eS rfl (eS rfl eZ)) rfl ?_
            refine gSkipU (eS rfl (eS rfl (eS rfl eZ))) rfl ?_
            refine gSkipU (eS rfl (eS rfl (eS rfl (eS rfl eZ)))) rfl ?_
            refine gSkipU (eS rfl (eS rfl (eS rfl (eS rfl (eS rfl eZ))))) rfl ?_
            refine gSkipU (eS rfl (eS rfl (eS rfl (eS rfl (eS rfl (eS rfl eZ)))))) rfl ?_
            refine gSkipU (eS rfl (eS rfl (eS rfl (eS rfl (eS rfl (eS rfl (eS rfl eZ))))))) rfl ?_
            refine gSkipU (eS rfl (eS rfl (eS rfl (eS rfl (eS rfl (eS rfl (eS rfl (eS rfl eZ)))))))) rfl ?_
            refine gSkipU (eS rfl (eS rfl (eS rfl (eS rfl (eS rfl (eS rfl (eS rfl (eS rfl (eS rfl eZ))))))))) rfl ?_
            refine gSkipU (eS rfl (eS rfl (eS rfl (eS rfl (eS rfl (eS rfl (eS rfl (eS rfl (eS rfl (eS rfl eZ)))))))))) rfl ?_
            refine gSkipU (eS rfl (eS rfl (eS rfl (eS rfl (eS rfl (eS rfl (eS rfl (eS rfl (eS rfl (eS rfl (eS rfl eZ))))))))))) rfl ?_
            refine gSkip (eS rfl (eS rfl (eS rfl (eS rfl (eS rfl (eS rfl (eS rfl (eS rfl (eS rfl (eS rfl (eS rfl (eS rfl (eS rfl (eS rfl (eS rfl eZ))))))))))))))) rfl rfl ?_
            refine oPickT (eS rfl (eS rfl (eS rfl (eS rfl (eS rfl (eS rfl (eS rfl (eS rfl (eS rfl (eS rfl (eS rfl (eS rfl (eS rfl (eS rfl (eS rfl (eS rfl eZ)))))))))))))))) rfl eC ?_
            refine xNil ?_
            exact TQ.qn ⟨true, H, (wk_mk [] (SL.cons (eS rfl (eS rfl (eS rfl (eS rfl (eS rfl (eS rfl (eS rfl (eS rfl (eS rfl (eS rfl (eS rfl (eS rfl (eS rfl (eS rfl (eS rfl (eS rfl (eS rfl (eS rfl (eS rfl (eS rfl (eS rfl (eS rfl (eS rfl (eS rfl (eS rfl (eS rfl (eS rfl (eS rfl (eS rfl (eS rfl (eS rfl (eS rfl (eS rfl (eS rfl (eS rfl (eS rfl (eS rfl (eS rfl eZ)))))))))))))))))))))))))))))))))))))) rfl VWk.rfl (SL.cons (eS rfl (eS rfl (eS rfl (eS rfl (eS rfl (eS rfl (eS rfl (eS rfl (eS rfl (eS rfl (eS rfl (eS rfl (eS rfl (eS rfl (eS rfl (eS rfl (eS rfl (eS rfl (eS rfl (eS rfl (eS rfl (eS rfl (eS rfl (eS rfl (eS rfl (eS rfl (eS rfl (eS rfl (eS rfl (eS rfl (eS rfl (eS rfl (eS rfl (eS rfl (eS rfl (eS rfl (eS rfl (eS rfl (eS rfl eZ))))))))))))))))))))))))))))))))))))))) rfl VWk.rfl (SL.cons eZ rfl VWk.rfl SL.nil))) BL.nil BK.nil)⟩
      · refine AW.condF eZ (decide_eq_false h7) ?_
        refine AW.exit ?_
        refine TQ.qe ?_
        refine TQ.qe ?_
        refine BQ.qe ?_
        exact TQ.qn ⟨(), H, (wk_mk [] SL.nil BL.nil BK.nil)⟩

theorem c_spec_RangeOk {a1 : TRange} {r : Bool} (H : m_spec_RangeOk a1 = some r) : Fn Try.prog k_spec_RangeOk (lent [(.agg (d_TRange a1))]) true [(.bool r)] := by
  refine i_spec_RangeOk_fn (Nat.le_of_ble_eq_true rfl) ?_
  rw [init_mk]
  refine AW.weaken (wk_mk [] (SL.cons (v := (.agg [(.d (.int .i64 a1.Lo)), (.d (.int .i64 a1.Hi))])) eZ rfl VWk.rfl SL.nil) BL.nil BK.nil) ?_
  unfold m_spec_RangeOk at H
  unfold i_spec_RangeOk
  refine AW.seq ?_
  refine AW.regs ?_
  refine oBox (n := 64) (m := 2) (cs := [(.d (.int .i64 a1.Lo)), (.d (.int .i64 a1.Hi))]) rfl eZ rfl rfl nZ ?_
  refine oMov eC ?_
  refine xNil ?_
  refine TQ.qn ?_
  refine AW.seq ?_
  refine AW.regs ?_
  refine oFaddrN (m := 0) (eS rfl eZ) rfl ?_
  refine oLoadV (q := 0) (c := (.d (.int .i64 a1.Lo))) eZ bZ rfl rfl ?_
  refine oGeq eZ eC ?_
  refine oMov eZ ?_
  rcases oite H with ⟨h2, H⟩ | ⟨h2, H⟩
  · refine gDo eZ (decide_eq_true h2) ?_
    refine oFaddrN (m := 0) (eS rfl (eS rfl (eS rfl (eS rfl (eS rfl eZ))))) rfl ?_
    refine gDo (eS rfl eZ) (decide_eq_true h2) ?_
    refine oLoadV (q := 0) (c := (.d (.int .i64 a1.Lo))) eZ bZ rfl rfl ?_
    refine gDo (eS rfl (eS rfl eZ)) (decide_eq_true h2) ?_
    refine oFaddrN (m := 1) (eS rfl (eS rfl (eS rfl (eS rfl (eS rfl (eS rfl (eS rfl eZ))))))) rfl ?_
    refine gDo (eS rfl (eS rfl (eS rfl eZ))) (decide_eq_true h2) ?_
    refine oLoadV (q := 1) (c := (.d (.int .i64 a1.Hi))) eZ bZ rfl rfl ?_
    refine gDo (eS rfl (eS rfl (eS rfl (eS rfl eZ)))) (decide_eq_true h2) ?_
    refine oLss (eS rfl (eS rfl eZ)) eZ ?_
    refine oPickT (eS rfl (eS rfl (eS rfl (eS rfl (eS rfl eZ))))) (decide_eq_true h2) eZ ?_
    refine oMov eZ ?_
    rcases oite H with ⟨h3, H⟩ | ⟨h3, H⟩
    · refine gDo eZ (decide_eq_true h3) ?_
      refine oFaddrN (m := 1) (eS rfl (eS rfl (eS rfl (eS rfl (eS rfl (eS rfl (eS rfl (eS rfl (eS rfl (eS rfl (eS rfl (eS rfl eZ)))))))))))) rfl ?_
      refine gDo (eS rfl eZ) (decide_eq_true h3) ?_
      refine oLoadV (q := 1) (c := (.d (.int .i64 a1.Hi))) eZ bZ rfl rfl ?_
      refine gDo (eS rfl (eS rfl eZ)) (decide_eq_true h3) ?_
      refine oLeq eZ eC ?_
      refine oPickT (eS rfl (eS rfl (eS rfl eZ))) (decide_eq_true h3) eZ ?_
      refine oMov eZ ?_
      refine xNil ?_
      refine TQ.qn ?_
      refine AW.weaken (wk_mk [64] (SL.cons (k := 2) eZ rfl VWk.rfl SL.nil) (BL.drop rfl BL.nil) BK.nil) ?_
      refine AW.ret ?_
      obtain rfl := Option.some.inj H
      exact endsR (RL.cons (RV.tmp eZ) (VO.flat rfl) RL.nil) List.nodup_nil
    · refine gSkip eZ (decide_eq_false h3) rfl ?_
      refine gSkip (eS rfl eZ) (decide_eq_false h3) rfl ?_
      refine gSkip (eS rfl (eS rfl eZ)) (decide_eq_false h3) rfl ?_
      refine oPickF (eS rfl (eS rfl (eS rfl eZ))) (decide_eq_false h3) eC ?_
      refine oMov eZ ?_
      refine xNil ?_
      refine TQ.qn ?_
      refine AW.weaken (wk_mk [64] (SL.cons (k := 2) eZ rfl VWk.rfl SL.nil) (BL.drop rfl BL.nil) BK.nil) ?_
      refine AW.ret ?_
      obtain rfl := Option.some.inj H
      exact endsR (RL.cons (RV.tmp eZ) (VO.flat rfl) RL.nil) List.nodup_nil
  · refine gSkip eZ (decide_eq_false h2) rfl ?_
    refine gSkip (eS rfl eZ) (decide_eq_false h2) rfl ?_
    refine gSkip (eS rfl (eS rfl eZ)) (decide_eq_false h2) rfl ?_
    refine gSkip (eS rfl (eS rfl (eS rfl eZ))) (decide_eq_false h2) rfl ?_
    refine gSkip (eS rfl (eS rfl (eS rfl (eS rfl eZ)))) (decide_eq_false h2) rfl ?_
    refine oPickF (eS rfl (eS rfl (eS rfl (eS rfl (eS rfl eZ))))) (decide_eq_false h2) eC ?_
    refine oMov eZ ?_
    refine gSkip eZ rfl rfl ?_
    refine gSkip (eS rfl eZ) rfl rfl ?_
    refine gSkip (eS rfl (eS rfl eZ)) rfl rfl ?_
    refine oPickF (eS rfl (eS rfl (eS rfl eZ))) rfl eC ?_
    refine oMov eZ ?_
    refine xNil ?_
    refine TQ.qn ?_
    refine AW.weaken (wk_mk [64] (SL.cons (k := 2) eZ rfl VWk.rfl SL.nil) (BL.drop rfl BL.nil) BK.nil) ?_
    refine AW.ret ?_
    obtain rfl := Option.some.inj H
    exact endsR (RL.cons (RV.tmp eZ) (VO.flat rfl) RL.nil) List.nodup_nil

theorem c_spec_SharesOk {a1 : (List TShare)} {r : Bool} (H : m_spec_SharesOk a1 = some r) : Fn Try.prog k_spec_SharesOk (lent [(.sl 4 (List.map d_TShare a1))]) true [(.bool r)] := by
  refine i_spec_SharesOk_fn (Nat.le_of_ble_eq_true rfl) ?_
  rw [init_mk]
  refine AW.weaken (wk_mk [] (SL.cons (v := (.one (.d (.sl 4 (List.map d_TShare a1))))) eZ rfl VWk.rfl SL.nil) BL.nil BK.nil) ?_
  unfold m_spec_SharesOk at H
  unfold i_spec_SharesOk
  refine AW.seq ?_
  refine AW.regs ?_
  refine oMov eC ?_
  refine xNil ?_
  refine TQ.qn ?_
  refine AW.seq ?_
  refine AW.seq ?_
  refine AW.regs ?_
  refine oMov (eS rfl eZ) ?_
  refine oLenD eZ (n := a1.length) (List.length_map _) ?_
  refine oGtr eZ eC ?_
  refine xNil ?_
  refine TQ.qn ?_
  rcases oite H with ⟨h2, H⟩ | ⟨h2, H⟩
  · refine AW.condT eZ (decide_eq_true h2) ?_
    refine AW.seq ?_
    refine AW.regs ?_
    refine oMov eC ?_
    refine xNil ?_
    refine TQ.qn ?_
    refine AW.ret ?_
    refine TQ.qr ?_
    obtain rfl := Option.some.inj H
    exact endsR (RL.cons (RV.tmp eZ) (VO.flat rfl) RL.nil) List.nodup_nil
  · refine AW.condF eZ (decide_eq_false h2) ?_
    refine AW.skip ?_
    refine TQ.qn ?_
    refine AW.seqJ (fun t3 : Unit => spec_SharesOk_j3 t3 = some r) (fun t3 => mk [] [] noG) ?_ ?_
    · intro t3 H
      unfold spec_SharesOk_j3 at H
      refine AW.seq ?_
      refine AW.regs ?_
      refine oMov eC ?_
      refine xNil ?_
      refine TQ.qn ?_
      refine AW.ret ?_
      obtain rfl := Option.some.inj H
      exact endsR (RL.cons (RV.tmp eZ) (VO.flat rfl) RL.nil) List.nodup_nil
    · refine AW.seq ?_
      refine AW.regs ?_
      refine oMov eC ?_
      refine xNil ?_
      refine TQ.qn ?_
      refine AW.block ?_
      refine AW.iter (fun s5 : Int => mk [(0, (.one (.d (.sl 4 (List.map d_TShare a1))))), (3, (.one (.d (.int .i64 s5))))] [] noG) H (wk_mk [] (SL.cons (eS rfl (eS rfl (eS rfl (eS rfl (eS rfl eZ))))) rfl VWk.rfl (SL.cons eZ rfl VWk.rfl SL.nil)) BL.nil BK.nil) ?_
      intro kb6 s5 H
      unfold spec_SharesOk_b5 at H
      refine AW.seq ?_
      refine AW.seq ?_
      refine AW.regs ?_
      refine oMov (eS rfl eZ) ?_
      refine oMov (eS rfl eZ) ?_
      refine oLenD eZ (n := a1.length) (List.length_map _) ?_
      refine oLss (eS rfl (eS rfl eZ)) eZ ?_
      refine xNil ?_
      refine TQ.qn ?_
      rcases oite H with ⟨h7, H⟩ | ⟨h7, H⟩
      · refine AW.condT eZ (decide_eq_true h7) ?_
        refine AW.skip ?_
        refine TQ.qn ?_
        refine AW.seqJ (fun t8 : Unit => (spec_SharesOk_j8 kb6 s5) t8 = some r) (fun t8 => mk [(0, (.one (.d (.sl 4 (List.map d_TShare a1))))), (3, (.one (.d (.int .i64 s5))))] [] noG) ?_ ?_
        · intro t8 H
          unfold spec_SharesOk_j8 at H
          refine AW.regs ?_
          refine oMov (eS rfl eZ) ?_
          refine oAdd eZ eC ?_
          refine oMov eZ ?_
          refine xNil ?_
          exact TQ.qn ⟨(IntKind.wrap .i64 (s5 + 1)), H, (wk_mk [] (SL.cons (eS rfl (eS rfl (eS rfl eZ))) rfl VWk.rfl (SL.cons eZ rfl VWk.rfl SL.nil)) BL.nil BK.nil)⟩
        · refine AW.block ?_
          refine AW.seq ?_
          refine AW.regs ?_
          refine oMov (eS rfl (eS rfl (eS rfl (eS rfl eZ)))) ?_
          refine oMov (eS rfl (eS rfl (eS rfl (eS rfl (eS rfl (eS rfl eZ)))))) ?_
          obtain ⟨v10, h11, H⟩ := obind H
          refine oAtD (eS rfl eZ) eZ h11 ?_
          refine oLoadBA (es := [(.d (.int .i64 v10.Group)), (.d (.sl 2 (List.map d_TRange v10.Reads))), (.d (.sl 2 (List.map d_TCell v10.Writes))), (.d (.int .i64 v10.Vote))]) eZ rfl ?_
          refine oVar (n := 256) (m := 4) rfl rfl nZ ?_
          refine oStoreV (es := [(.d (.int .i64 v10.Group)), (.d (.sl 2 (List.map d_TRange v10.Reads))), (.d (.sl 2 (List.map d_TCell v10.Writes))), (.d (.int .i64 v10.Vote))]) eZ (eS rfl eZ) rfl rfl bZ rfl ?_
          refine xNil ?_
          refine TQ.qn ?_
          refine AW.seq ?_
          refine AW.seqJ (fun t12 : Bool => (spec_SharesOk_j12 v10 (spec_SharesOk_j8 kb6 s5)) t12 = some r) (fun t12 => mk [(0, (.one (.d (.sl 4 (List.map d_TShare a1))))), (3, (.one (.d (.int .i64 s5)))), (4, (.one (.ptr (.nm 256 0 0)))), (55, (.one (.d (.bool t12))))] [(256, (.vars 4 [(.d (.int .i64 v10.Group)), (.d (.sl 2 (List.map d_TRange v10.Reads))), (.d (.sl 2 (List.map d_TCell v10.Writes))), (.d (.int .i64 v10.Vote))]))] noG) ?_ ?_
          · intro t12 H
            unfold spec_SharesOk_j12 at H
            rcases oite H with ⟨h14, H⟩ | ⟨h14, H⟩
            · refine AW.condT (eS rfl (eS rfl (eS rfl eZ))) h14 ?_
              refine AW.seq ?_
              refine AW.regs ?_
              refine oMov eC ?_
              refine xNil ?_
              refine TQ.qn ?_
              refine AW.ret ?_
              refine TQ.qr ?_
              refine BQ.qr ?_
              refine TQ.qr ?_
              refine TQ.qr ?_
              refine BQ.qr ?_
              refine TQ.qr ?_
              obtain rfl := Option.some.inj H
              exact endsR (RL.cons (RV.tmp eZ) (VO.flat rfl) RL.nil) List.nodup_nil
            · refine AW.condF (eS rfl (eS rfl (eS rfl eZ))) (nt h14) ?_
              refine AW.skip ?_
              refine TQ.qn ?_
              refine AW.seq ?_
              refine AW.regs ?_
              refine oMov eC ?_
              refine xNil ?_
              refine TQ.qn ?_
              refine AW.block ?_
              refine AW.iter (fun s15 : Int => mk [(0, (.one (.d (.sl 4 (List.map d_TShare a1))))), (3, (.one (.d (.int .i64 s5)))), (4, (.one (.ptr (.nm 256 0 0)))), (5, (.one (.d (.int .i64 s15))))] [(256, (.vars 4 [(.d (.int .i64 v10.Group)), (.d (.sl 2 (List.map d_TRange v10.Reads))), (.d (.sl 2 (List.map d_TCell v10.Writes))), (.d (.int .i64 v10.Vote))]))] noG) H (wk_mk [] (SL.cons (eS rfl eZ) rfl VWk.rfl (SL.cons (eS rfl (eS rfl eZ)) rfl VWk.rfl (SL.cons (eS rfl (eS rfl (eS rfl eZ))) rfl VWk.rfl (SL.cons eZ rfl VWk.rfl SL.nil)))) (BL.keep rfl BL.nil) (BK.cons rfl bZ rfl rfl BK.nil)) ?_
              intro kb16 s15 H
              unfold spec_SharesOk_b15 at H
              refine AW.seq ?_
              refine AW.seq ?_
              refine AW.regs ?_
              refine oMov (eS rfl (eS rfl (eS rfl eZ))) ?_
              refine oFaddrN (m := 1) (eS rfl (eS rfl (eS rfl eZ))) rfl ?_
              refine oLoadV (q := 1) (c := (.d (.sl 2 (List.map d_TRange v10.Reads)))) eZ bZ rfl rfl ?_
              refine oLenD eZ (n := v10.Reads.length) (List.length_map _) ?_
              refine oLss (eS rfl (eS rfl (eS rfl eZ))) eZ ?_
              refine xNil ?_
              refine TQ.qn ?_
              rcases oite H with ⟨h17, H⟩ | ⟨h17, H⟩
              · refine AW.condT eZ (decide_eq_true h17) ?_
                refine AW.skip ?_
                refine TQ.qn ?_
                refine AW.seq ?_
                refine AW.block ?_
                refine AW.seq ?_
                refine AW.regs ?_
                refine oFaddrN (m := 1) (eS rfl (eS rfl (eS rfl (eS rfl (eS rfl (eS rfl (eS rfl eZ))))))) rfl ?_
                refine oLoadV (q := 1) (c := (.d (.sl 2 (List.map d_TRange v10.Reads)))) eZ bZ rfl rfl ?_
                refine oMov (eS rfl (eS rfl (eS rfl (eS rfl (eS rfl (eS rfl (eS rfl (eS rfl (eS rfl (eS rfl eZ)))))))))) ?_
                obtain ⟨v18, h19, H⟩ := obind H
                refine oAtD (eS rfl eZ) eZ h19 ?_
                refine oLoadBA (es := [(.d (.int .i64 v18.Lo)), (.d (.int .i64 v18.Hi))]) eZ rfl ?_
                obtain ⟨v20, h21, H⟩ := obind H
                refine oCall (u := (.one (.d (.bool v20)))) eC Cl.fn (c_spec_RangeOk h21) (Evs.cons eZ Evs.nil) (VDs.cons (VD.agg rfl) VDs.nil) rfl ?_
                refine oInv eZ ?_
                refine xNil ?_
                refine TQ.qn ?_
                refine AW.weaken (wk_mk [] (SL.cons (k := 69) eZ rfl VWk.rfl (SL.cons (k := 0) (eS rfl (eS rfl (eS rfl (eS rfl (eS rfl (eS rfl (eS rfl (eS rfl (eS rfl (eS rfl (eS rfl (eS rfl eZ)))))))))))) rfl VWk.rfl (SL.cons (k := 3) (eS rfl (eS rfl (eS rfl (eS rfl (eS rfl (eS rfl (eS rfl (eS rfl (eS rfl (eS rfl (eS rfl (eS rfl (eS rfl eZ))))))))))))) rfl VWk.rfl (SL.cons (k := 4) (eS rfl (eS rfl (eS rfl (eS rfl (eS rfl (eS rfl (eS rfl (eS rfl (eS rfl (eS rfl (eS rfl (eS rfl (eS rfl (eS rfl eZ)))))))))))))) rfl VWk.rfl (SL.cons (k := 5) (eS rfl (eS rfl (eS rfl (eS rfl (eS rfl (eS rfl (eS rfl (eS rfl (eS rfl (eS rfl (eS rfl (eS rfl (eS rfl (eS rfl (eS rfl eZ))))))))))))))) rfl VWk.rfl SL.nil))))) (BL.keep rfl BL.nil) (BK.cons (n := 256) rfl bZ rfl rfl BK.nil)) ?_
                rcases oite H with ⟨h22, H⟩ | ⟨h22, H⟩
                · refine AW.condF eZ (congrArg Bool.not h22) ?_
                  refine AW.skip ?_
                  refine BQ.qn ?_
                  refine TQ.qn ?_
                  refine AW.regs ?_
                  refine oMov (eS rfl (eS rfl (eS rfl (eS rfl eZ)))) ?_
                  refine oAdd eZ eC ?_
                  refine oMov eZ ?_
                  refine xNil ?_
                  exact TQ.qn ⟨(IntKind.wrap .i64 (s15 + 1)), H, (wk_mk [] (SL.cons (eS rfl (eS rfl (eS rfl (eS rfl eZ)))) rfl VWk.rfl (SL.cons (eS rfl (eS rfl (eS rfl (eS rfl (eS rfl eZ))))) rfl VWk.rfl (SL.cons (eS rfl (eS rfl (eS rfl (eS rfl (eS rfl (eS rfl eZ)))))) rfl VWk.rfl (SL.cons eZ rfl VWk.rfl SL.nil)))) (BL.keep rfl BL.nil) (BK.cons rfl bZ rfl rfl BK.nil))⟩
                · refine AW.condT eZ (congrArg Bool.not (nt h22)) ?_
                  refine AW.seq ?_
                  refine AW.regs ?_
                  refine oMov eC ?_
                  refine xNil ?_
                  refine TQ.qn ?_
                  refine AW.ret ?_
                  refine BQ.qr ?_
                  refine TQ.qr ?_
                  refine TQ.qr ?_
                  refine BQ.qr ?_
                  refine BQ.qr ?_
                  refine TQ.qr ?_
                  refine TQ.qr ?_
                  refine BQ.qr ?_
                  refine TQ.qr ?_
                  obtain rfl := Option.some.inj H
                  exact endsR (RL.cons (RV.tmp eZ) (VO.flat rfl) RL.nil) List.nodup_nil
              · refine AW.condF eZ (decide_eq_false h17) ?_
                refine AW.exit ?_
                refine TQ.qe ?_
                refine TQ.qe ?_
                refine BQ.qe ?_
                refine BQ.qn ?_
                exact TQ.qn ⟨(), H, (wk_mk [256] (SL.cons (eS rfl (eS rfl (eS rfl (eS rfl (eS rfl eZ))))) rfl VWk.rfl (SL.cons (eS rfl (eS rfl (eS rfl (eS rfl (eS rfl (eS rfl eZ)))))) rfl VWk.rfl SL.nil)) (BL.drop rfl BL.nil) BK.nil)⟩
          · refine AW.regd ?_
            refine oFaddrN (m := 0) eZ rfl ?_
            refine oLoadV (q := 0) (c := (.d (.int .i64 v10.Group))) eZ bZ rfl rfl ?_
            obtain ⟨v23, h24, H⟩ := obind H
            refine oCall (u := (.one (.d (.bool v23)))) eC Cl.fn (c_spec_l1In h24) (Evs.cons eZ (Evs.cons eC (Evs.cons eC Evs.nil))) (VDs.cons VD.plain (VDs.cons VD.plain (VDs.cons VD.plain VDs.nil))) rfl ?_
            refine oInv eZ ?_
            refine oMov eZ ?_
            rcases oite H with ⟨h25, H⟩ | ⟨h25, H⟩
            · refine gDo eZ (congrArg Bool.not h25) ?_
              refine oMov (eS rfl (eS rfl (eS rfl (eS rfl (eS rfl (eS rfl (eS rfl (eS rfl (eS rfl (eS rfl (eS rfl (eS rfl (eS rfl (eS rfl (eS rfl eZ))))))))))))))) ?_
              refine gDo (eS rfl eZ) (congrArg Bool.not h25) ?_
              refine oGtr eZ eC ?_
              refine gDo (eS rfl (eS rfl eZ)) (congrArg Bool.not h25) ?_
              refine oMov eZ ?_
              rcases oite H with ⟨h26, H⟩ | ⟨h26, H⟩
              · refine gDo eZ (decide_eq_true h26) ?_
                refine oMov (eS rfl (eS rfl (eS rfl (eS rfl (eS rfl (eS rfl (eS rfl (eS rfl (eS rfl (eS rfl (eS rfl (eS rfl (eS rfl (eS rfl (eS rfl (eS rfl (eS rfl eZ))))))))))))))))) ?_
                refine gDo (eS rfl eZ) (decide_eq_true h26) ?_
                refine oMov (eS rfl (eS rfl (eS rfl (eS rfl (eS rfl (eS rfl (eS rfl (eS rfl (eS rfl (eS rfl (eS rfl (eS rfl (eS rfl (eS rfl (eS rfl (eS rfl (eS rfl (eS rfl (eS rfl eZ))))))))))))))))))) ?_
                refine gDo (eS rfl (eS rfl eZ)) (decide_eq_true h26) ?_
                refine oSub eZ eC ?_
                refine gDo (eS rfl (eS rfl (eS rfl eZ))) (decide_eq_true h26) ?_
                obtain ⟨v27, h28, H⟩ := obind H
                refine oAtD (eS rfl (eS rfl eZ)) eZ h28 ?_
                refine gDo (eS rfl (eS rfl (eS rfl (eS rfl eZ)))) (decide_eq_true h26) ?_
                refine oFaddrB (m := 0) eZ rfl ?_
                refine gDo (eS rfl (eS rfl (eS rfl (eS rfl (eS rfl eZ))))) (decide_eq_true h26) ?_
                refine oLoadB (e := (.int .i64 v27.Group)) eZ rfl ?_
                refine gDo (eS rfl (eS rfl (eS rfl (eS rfl (eS rfl (eS rfl eZ)))))) (decide_eq_true h26) ?_
                refine oFaddrN (m := 0) (eS rfl (eS rfl (eS rfl (eS rfl (eS rfl (eS rfl (eS rfl (eS rfl (eS rfl (eS rfl (eS rfl (eS rfl (eS rfl (eS rfl eZ)))))))))))))) rfl ?_
                refine gDo (eS rfl (eS rfl (eS rfl (eS rfl (eS rfl (eS rfl (eS rfl eZ))))))) (decide_eq_true h26) ?_
                refine oLoadV (q := 0) (c := (.d (.int .i64 v10.Group))) eZ bZ rfl rfl ?_
                refine gDo (eS rfl (eS rfl (eS rfl (eS rfl (eS rfl (eS rfl (eS rfl (eS rfl eZ)))))))) (decide_eq_true h26) ?_
                refine oGeq (eS rfl (eS rfl eZ)) eZ ?_
                refine gDo (eS rfl (eS rfl (eS rfl (eS rfl (eS rfl (eS rfl (eS rfl (eS rfl (eS rfl (eS rfl (eS rfl (eS rfl eZ)))))))))))) (congrArg Bool.not h25) ?_
                refine oPickT (eS rfl (eS rfl (eS rfl (eS rfl (eS rfl (eS rfl (eS rfl (eS rfl (eS rfl eZ))))))))) (decide_eq_true h26) eZ ?_
                refine oPickF (eS rfl (eS rfl (eS rfl (eS rfl (eS rfl (eS rfl (eS rfl (eS rfl (eS rfl (eS rfl (eS rfl (eS rfl (eS rfl eZ))))))))))))) (congrArg Bool.not h25) eZ ?_
                refine oMov eZ ?_
                rcases oite H with ⟨h29, H⟩ | ⟨h29, H⟩
                · refine gSkip eZ (decide_eq_true h29) rfl ?_
                  refine gSkip (eS rfl eZ) (decide_eq_true h29) rfl ?_
                  refine gSkip (eS rfl (eS rfl eZ)) (decide_eq_true h29) rfl ?_
                  refine gSkip (eS rfl (eS rfl (eS rfl eZ))) (decide_eq_true h29) rfl ?_
                  refine oPickT (eS rfl (eS rfl (eS rfl (eS rfl eZ)))) (decide_eq_true h29) eC ?_
                  refine oMov eZ ?_
                  refine gSkip eZ rfl rfl ?_
                  refine gSkip (eS rfl eZ) rfl rfl ?_
                  refine gSkip (eS rfl (eS rfl eZ)) rfl rfl ?_
                  refine gSkip (eS rfl (eS rfl (eS rfl eZ))) rfl rfl ?_
                  refine oPickT (eS rfl (eS rfl (eS rfl (eS rfl eZ)))) rfl eC ?_
                  refine oMov eZ ?_
                  refine gSkip eZ rfl rfl ?_
                  refine gSkip (eS rfl eZ) rfl rfl ?_
                  refine gSkip (eS rfl (eS rfl eZ)) rfl rfl ?_
                  refine gSkip (eS rfl (eS rfl (eS rfl eZ))) rfl rfl ?_
                  refine oPickT (eS rfl (eS rfl (eS rfl (eS rfl eZ)))) rfl eC ?_
                  refine xNil ?_
                  exact TQ.qn ⟨true, H, (wk_mk [] (SL.cons (eS rfl (eS rfl (eS rfl (eS rfl (eS rfl (eS rfl (eS rfl (eS rfl (eS rfl (eS rfl (eS rfl (eS rfl (eS rfl (eS rfl (eS rfl (eS rfl (eS rfl (eS rfl (eS rfl (eS rfl (eS rfl (eS rfl (eS rfl (eS rfl (eS rfl (eS rfl (eS rfl (eS rfl (eS rfl (eS rfl (eS rfl (eS rfl (eS rfl (eS rfl (eS rfl (eS rfl (eS rfl (eS rfl (eS rfl (eS rfl (eS rfl (eS rfl (eS rfl (eS rfl (eS rfl (eS rfl eZ)))))))))))))))))))))))))))))))))))))))))))))) rfl VWk.rfl (SL.cons (eS rfl (eS rfl (eS rfl (eS rfl (eS rfl (eS rfl (eS rfl (eS rfl (eS rfl (eS rfl (eS rfl (eS rfl (eS rfl (eS rfl (eS rfl (eS rfl (eS rfl (eS rfl (eS rfl (eS rfl (eS rfl (eS rfl (eS rfl (eS rfl (eS rfl (eS rfl (eS rfl (eS rfl (eS rfl (eS rfl (eS rfl (eS rfl (eS rfl (eS rfl (eS rfl (eS rfl (eS rfl (eS rfl (eS rfl (eS rfl (eS rfl (eS rfl (eS rfl (eS rfl (eS rfl (eS rfl (eS rfl eZ))))))))))))))))))))))))))))))))))))))))))))))) rfl VWk.rfl (SL.cons (eS rfl (eS rfl (eS rfl (eS rfl (eS rfl (eS rfl (eS rfl (eS rfl (eS rfl (eS rfl (eS rfl (eS rfl (eS rfl (eS rfl (eS rfl (eS rfl (eS rfl (eS rfl (eS rfl (eS rfl (eS rfl (eS rfl (eS rfl (eS rfl (eS rfl (eS rfl (eS rfl (eS rfl (eS rfl (eS rfl (eS rfl (eS rfl (eS rfl (eS rfl (eS rfl (eS rfl (eS rfl eZ))))))))))))))))))))))))))))))))))))) rfl VWk.rfl (SL.cons eZ rfl VWk.rfl SL.nil)))) (BL.keep rfl (BL.keep rfl BL.nil)) (BK.cons rfl bZ rfl rfl BK.nil))⟩
                · refine gDo eZ (decide_eq_false h29) ?_
                  refine oFaddrN (m := 1) (eS rfl (eS rfl (eS rfl (eS rfl (eS rfl (eS rfl (eS rfl (eS rfl (eS rfl (eS rfl (eS rfl (eS rfl (eS rfl (eS rfl (eS rfl (eS rfl (eS rfl (eS rfl (eS rfl (eS rfl eZ)))))))))))))))))))) rfl ?_
                  refine gDo (eS rfl eZ) (decide_eq_false h29) ?_
                  refine oLoadV (q := 1) (c := (.d (.sl 2 (List.map d_TRange v10.Reads)))) eZ bZ rfl rfl ?_
                  refine gDo (eS rfl (eS rfl eZ)) (decide_eq_false h29) ?_
                  refine oLenD eZ (n := v10.Reads.length) (List.length_map _) ?_
                  refine gDo (eS rfl (eS rfl (eS rfl eZ))) (decide_eq_false h29) ?_
                  refine oGtr eZ eC ?_
                  refine oPickF (eS rfl (eS rfl (eS rfl (eS rfl eZ)))) (decide_eq_false h29) eZ ?_
                  refine oMov eZ ?_
                  rcases oite H with ⟨h30, H⟩ | ⟨h30, H⟩
                  · refine gSkip eZ (decide_eq_true h30) rfl ?_
                    refine gSkip (eS rfl eZ) (decide_eq_true h30) rfl ?_
                    refine gSkip (eS rfl (eS rfl eZ)) (decide_eq_true h30) rfl ?_
                    refine gSkip (eS rfl (eS rfl (eS rfl eZ))) (decide_eq_true h30) rfl ?_
                    refine oPickT (eS rfl (eS rfl (eS rfl (eS rfl eZ)))) (decide_eq_true h30) eC ?_
                    refine oMov eZ ?_
                    refine gSkip eZ rfl rfl ?_
                    refine gSkip (eS rfl eZ) rfl rfl ?_
                    refine gSkip (eS rfl (eS rfl eZ)) rfl rfl ?_
                    refine gSkip (eS rfl (eS rfl (eS rfl eZ))) rfl rfl ?_
                    refine oPickT (eS rfl (eS rfl (eS rfl (eS rfl eZ)))) rfl eC ?_
                    refine xNil ?_
                    exact TQ.qn ⟨true, H, (wk_mk [] (SL.cons (eS rfl (eS rfl (eS rfl (eS rfl (eS rfl (eS rfl (eS rfl (eS rfl (eS rfl (eS rfl (eS rfl (eS rfl (eS rfl (eS rfl (eS rfl (eS rfl (eS rfl (eS rfl (eS rfl (eS rfl (eS rfl (eS rfl (eS rfl (eS rfl (eS rfl (eS rfl (eS rfl (eS rfl (eS rfl (eS rfl (eS rfl (eS rfl (eS rfl (eS rfl (eS rfl (eS rfl (eS rfl (eS rfl (eS rfl (eS rfl (eS rfl (eS rfl (eS rfl (eS rfl (eS rfl (eS rfl eZ)))))))))))))))))))))))))))))))))))))))))))))) rfl VWk.rfl (SL.cons (eS rfl (eS rfl (eS rfl (eS rfl (eS rfl (eS rfl (eS rfl (eS rfl (eS rfl (eS rfl (eS rfl (eS rfl (eS rfl (eS rfl (eS rfl (eS rfl (eS rfl (eS rfl (eS rfl (eS rfl (eS rfl (eS rfl (eS rfl (eS rfl (eS rfl (eS rfl (eS rfl (eS rfl (eS rfl (eS rfl (eS rfl (eS rfl (eS rfl (eS rfl (eS rfl (eS rfl (eS rfl (eS rfl (eS rfl (eS rfl (eS rfl (eS rfl (eS rfl (eS rfl (eS rfl (eS rfl (eS rfl eZ))))))))))))))))))))))))))))))))))))))))))))))) rfl VWk.rfl (SL.cons (eS rfl (eS rfl (eS rfl (eS rfl (eS rfl (eS rfl (eS rfl (eS rfl (eS rfl (eS rfl (eS rfl (eS rfl (eS rfl (eS rfl (eS rfl (eS rfl (eS rfl (eS rfl (eS rfl (eS rfl (eS rfl (eS rfl (eS rfl (eS rfl (eS rfl (eS rfl (eS rfl (eS rfl (eS rfl (eS rfl (eS rfl (eS rfl (eS rfl (eS rfl (eS rfl (eS rfl (eS rfl eZ))))))))))))))))))))))))))))))))))))) rfl VWk.rfl (SL.cons eZ rfl VWk.rfl SL.nil)))) (BL.keep rfl (BL.keep rfl BL.nil)) (BK.cons rfl bZ rfl rfl BK.nil))⟩
                  · refine gDo eZ (decide_eq_false h30) ?_
                    refine oFaddrN (m := 2) (eS rfl (eS rfl (eS rfl (eS rfl (eS rfl (eS rfl (eS rfl (eS rfl (eS rfl (eS rfl (eS rfl (eS rfl (eS rfl (eS rfl (eS rfl (eS rfl (eS rfl (eS rfl (eS rfl (eS rfl (eS rfl (eS rfl (eS rfl (eS rfl (eS rfl (eS rfl eZ)))))))))))))))))))))))))) rfl ?_
                    refine gDo (eS rfl eZ) (decide_eq_false h30) ?_
                    refine oLoadV (q := 2) (c := (.d (.sl 2 (List.map d_TCell v10.Writes)))) eZ bZ rfl rfl ?_
                    refine gDo (eS rfl (eS rfl eZ)) (decide_eq_false h30) ?_
                    obtain ⟨v31, h32, H⟩ := obind H
                    refine oCall (u := (.one (.d (.bool v31)))) eC Cl.fn (c_spec_WritesOk h32) (Evs.cons eZ Evs.nil) (VDs.cons VD.plain VDs.nil) rfl ?_
                    refine gDo (eS rfl (eS rfl (eS rfl eZ))) (decide_eq_false h30) ?_
                    refine oInv eZ ?_
                    refine oPickF (eS rfl (eS rfl (eS rfl (eS rfl eZ)))) (decide_eq_false h30) eZ ?_
                    refine oMov eZ ?_
                    rcases oite H with ⟨h33, H⟩ | ⟨h33, H⟩
                    · refine gDo eZ (congrArg Bool.not h33) ?_
                      refine oFaddrN (m := 3) (eS rfl (eS rfl (eS rfl (eS rfl (eS rfl (eS rfl (eS rfl (eS rfl (eS rfl (eS rfl (eS rfl (eS rfl (eS rfl (eS rfl (eS rfl (eS rfl (eS rfl (eS rfl (eS rfl (eS rfl (eS rfl (eS rfl (eS rfl (eS rfl (eS rfl (eS rfl (eS rfl (eS rfl (eS rfl (eS rfl (eS rfl (eS rfl eZ)))))))))))))))))))))))))))))))) rfl ?_
                      refine gDo (eS rfl eZ) (congrArg Bool.not h33) ?_
                      refine oLoadV (q := 3) (c := (.d (.int .i64 v10.Vote))) eZ bZ rfl rfl ?_
                      refine gDo (eS rfl (eS rfl eZ)) (congrArg Bool.not h33) ?_
                      obtain ⟨v34, h35, H⟩ := obind H
                      refine oCall (u := (.one (.d (.bool v34)))) eC Cl.fn (c_spec_l1In h35) (Evs.cons eZ (Evs.cons eC (Evs.cons eC Evs.nil))) (VDs.cons VD.plain (VDs.cons VD.plain (VDs.cons VD.plain VDs.nil))) rfl ?_
                      refine gDo (eS rfl (eS rfl (eS rfl eZ))) (congrArg Bool.not h33) ?_
                      refine oInv eZ ?_
                      refine oPickF (eS rfl (eS rfl (eS rfl (eS rfl eZ)))) (congrArg Bool.not h33) eZ ?_
                      refine xNil ?_
                      exact TQ.qn ⟨(!v34), H, (wk_mk [] (SL.cons (eS rfl (eS rfl (eS rfl (eS rfl (eS rfl (eS rfl (eS rfl (eS rfl (eS rfl (eS rfl (eS rfl (eS rfl (eS rfl (eS rfl (eS rfl (eS rfl (eS rfl (eS rfl (eS rfl (eS rfl (eS rfl (eS rfl (eS rfl (eS rfl (eS rfl (eS rfl (eS rfl (eS rfl (eS rfl (eS rfl (eS rfl (eS rfl (eS rfl (eS rfl (eS rfl (eS rfl (eS rfl (eS rfl (eS rfl (eS rfl (eS rfl (eS rfl (eS rfl (eS rfl (eS rfl (eS rfl eZ)))))))))))))))))))))))))))))))))))))))))))))) rfl VWk.rfl (SL.cons (eS rfl (eS rfl (eS rfl (eS rfl (eS rfl (eS rfl (eS rfl (eS rfl (eS rfl (eS rfl (eS rfl (eS rfl (eS rfl (eS rfl (eS rfl (eS rfl (eS rfl (eS rfl (eS rfl (eS rfl (eS rfl (eS rfl (eS rfl (eS rfl (eS rfl (eS rfl (eS rfl (eS rfl (eS rfl (eS rfl (eS rfl (eS rfl (eS rfl (eS rfl (eS rfl (eS rfl (eS rfl (eS rfl (eS rfl (eS rfl (eS rfl (eS rfl (eS rfl (eS rfl (eS rfl (eS rfl (eS rfl eZ))))))))))))))))))))))))))))))))))))))))))))))) rfl VWk.rfl (SL.cons (eS rfl (eS rfl (eS rfl (eS rfl (eS rfl (eS rfl (eS rfl (eS rfl (eS rfl (eS rfl (eS rfl (eS rfl (eS rfl (eS rfl (eS rfl (eS rfl (eS rfl (eS rfl (eS rfl (eS rfl (eS rfl (eS rfl (eS rfl (eS rfl (eS rfl (eS rfl (eS rfl (eS rfl (eS rfl (eS rfl (eS rfl (eS rfl (eS rfl (eS rfl (eS rfl (eS rfl (eS rfl eZ))))))))))))))))))))))))))))))))))))) rfl VWk.rfl (SL.cons eZ rfl VWk.rfl SL.nil)))) (BL.keep rfl (BL.keep rfl BL.nil)) (BK.cons rfl bZ rfl rfl BK.nil))⟩
                    · refine gSkip eZ (congrArg Bool.not (nt h33)) rfl ?_
                      refine gSkip (eS rfl eZ) (congrArg Bool.not (nt h33)) rfl ?_
                      refine gSkip (eS rfl (eS rfl eZ)) (congrArg Bool.not (nt h33)) rfl ?_
                      refine gSkip (eS rfl (eS rfl (eS rfl eZ))) (congrArg Bool.not (nt h33)) rfl ?_
                      refine oPickT (eS rfl (eS rfl (eS rfl (eS rfl eZ)))) (congrArg Bool.not (nt h33)) eC ?_
                      refine xNil ?_
                      exact TQ.qn ⟨true, H, (wk_mk [] (SL.cons (eS rfl (eS rfl (eS rfl (eS rfl (eS rfl (eS rfl (eS rfl (eS rfl (eS rfl (eS rfl (eS rfl (eS rfl (eS rfl (eS rfl (eS rfl (eS rfl (eS rfl (eS rfl (eS rfl (eS rfl (eS rfl (eS rfl (eS rfl (eS rfl (eS rfl (eS rfl (eS rfl (eS rfl (eS rfl (eS rfl (eS rfl (eS rfl (eS rfl (eS rfl (eS rfl (eS rfl (eS rfl (eS rfl (eS rfl (eS rfl (eS rfl (eS rfl (eS rfl (eS rfl (eS rfl (eS rfl eZ)))))))))))))))))))))))))))))))))))))))))))))) rfl VWk.rfl (SL.cons (eS rfl (eS rfl (eS rfl (eS rfl (eS rfl (eS rfl (eS rfl (eS rfl (eS rfl (eS rfl (eS rfl (eS rfl (eS rfl (eS rfl (eS rfl (eS rfl (eS rfl (eS rfl (eS rfl (eS rfl (eS rfl (eS rfl (eS rfl (eS rfl (eS rfl (eS rfl (eS rfl (eS rfl (eS rfl (eS rfl (eS rfl (eS rfl (eS rfl (eS rfl (eS rfl (eS rfl (eS rfl (eS rfl (eS rfl (eS rfl (eS rfl (eS rfl (eS rfl (eS rfl (eS rfl (eS rfl (eS rfl eZ))))))))))))))))))))))))))))))))))))))))))))))) rfl VWk.rfl (SL.cons (eS rfl (eS rfl (eS rfl (eS rfl (eS rfl (eS rfl (eS rfl (eS rfl (eS rfl (eS rfl (eS rfl (eS rfl (eS rfl (eS rfl (eS rfl (eS rfl (eS rfl (eS rfl (eS rfl (eS rfl (eS rfl (eS rfl (eS rfl (eS rfl (eS rfl (eS rfl (eS rfl (eS rfl (eS rfl (eS rfl (eS rfl (eS rfl (eS rfl (eS rfl (eS rfl (eS rfl (eS rfl eZ))))))))))))))))))))))))))))))))))))) rfl VWk.rfl (SL.cons eZ rfl VWk.rfl SL.nil)))) (BL.keep rfl (BL.keep rfl BL.nil)) (BK.cons rfl bZ rfl rfl BK.nil))⟩
              · refine gSkip eZ (decide_eq_false h26) rfl ?_
                refine gSkip (eS rfl eZ) (decide_eq_false h26) rfl ?_
                refine gSkip (eS rfl (eS rfl eZ)) (decide_eq_false h26) rfl ?_
                refine gSkip (eS rfl (eS rfl (eS rfl eZ))) (decide_eq_false h26) rfl ?_
                refine gSkip (eS rfl (eS rfl (eS rfl (eS rfl eZ)))) (decide_eq_false h26) rfl ?_
                refine gSkip (eS rfl (eS rfl (eS rfl (eS rfl (eS rfl eZ))))) (decide_eq_false h26) rfl ?_
                refine gSkip (eS rfl (eS rfl (eS rfl (eS rfl (eS rfl (eS rfl eZ)))))) (decide_eq_false h26) rfl ?_
                refine gSkip (eS rfl (eS rfl (eS rfl (eS rfl (eS rfl (eS rfl (eS rfl eZ))))))) (decide_eq_false h26) rfl ?_
                refine gSkip (eS rfl (eS rfl (eS rfl (eS rfl (eS rfl (eS rfl (eS rfl (eS rfl eZ)))))))) (decide_eq_false h26) rfl ?_
                refine gDo (eS rfl (eS rfl (eS rfl (eS rfl (eS rfl (eS rfl (eS rfl (eS rfl (eS rfl (eS rfl (eS rfl (eS rfl eZ)))))))))))) (congrArg Bool.not h25) ?_
                refine oPickF (eS rfl (eS rfl (eS rfl (eS rfl (eS rfl (eS rfl (eS rfl (eS rfl (eS rfl eZ))))))))) (decide_eq_false h26) eC ?_
                refine oPickF (eS rfl (eS rfl (eS rfl (eS rfl (eS rfl (eS rfl (eS rfl (eS rfl (eS rfl (eS rfl (eS rfl (eS rfl (eS rfl eZ))))))))))))) (congrArg Bool.not h25) eZ ?_
                refine oMov eZ ?_
                refine gDo eZ rfl ?_
                refine oFaddrN (m := 1) (eS rfl (eS rfl (eS rfl (eS rfl (eS rfl (eS rfl (eS rfl (eS rfl (eS rfl (eS rfl (eS rfl (eS rfl (eS rfl (eS rfl (eS rfl (eS rfl (eS rfl (eS rfl (eS rfl (eS rfl eZ)))))))))))))))))))) rfl ?_
                refine gDo (eS rfl eZ) rfl ?_
                refine oLoadV (q := 1) (c := (.d (.sl 2 (List.map d_TRange v10.Reads)))) eZ bZ rfl rfl ?_
                refine gDo (eS rfl (eS rfl eZ)) rfl ?_
                refine oLenD eZ (n := v10.Reads.length) (List.length_map _) ?_
                refine gDo (eS rfl (eS rfl (eS rfl eZ))) rfl ?_
                refine oGtr eZ eC ?_
                refine oPickF (eS rfl (eS rfl (eS rfl (eS rfl eZ)))) rfl eZ ?_
                refine oMov eZ ?_
                rcases oite H with ⟨h36, H⟩ | ⟨h36, H⟩
                · refine gSkip eZ (decide_eq_true h36) rfl ?_
                  refine gSkip (eS rfl eZ) (decide_eq_true h36) rfl ?_
                  refine gSkip (eS rfl (eS rfl eZ)) (decide_eq_true h36) rfl ?_
                  refine gSkip (eS rfl (eS rfl (eS rfl eZ))) (decide_eq_true h36) rfl ?_
                  refine oPickT (eS rfl (eS rfl (eS rfl (eS rfl eZ)))) (decide_eq_true h36) eC ?_
                  refine oMov eZ ?_
                  refine gSkip eZ rfl rfl ?_
                  refine gSkip (eS rfl eZ) rfl rfl ?_
                  refine gSkip (eS rfl (eS rfl eZ)) rfl rfl ?_
                  refine gSkip (eS rfl (eS rfl (eS rfl eZ))) rfl rfl ?_
                  refine oPickT (eS rfl (eS rfl (eS rfl (eS rfl eZ)))) rfl eC ?_
                  refine xNil ?_
                  exact TQ.qn ⟨true, H, (wk_mk [] (SL.cons (eS rfl (eS rfl (eS rfl (eS rfl (eS rfl (eS rfl (eS rfl (eS rfl (eS rfl (eS rfl (eS rfl (eS rfl (eS rfl (eS rfl (eS rfl (eS rfl (eS rfl (eS rfl (eS rfl (eS rfl (eS rfl (eS rfl (eS rfl (eS rfl (eS rfl (eS rfl (eS rfl (eS rfl (eS rfl (eS rfl (eS rfl (eS rfl (eS rfl (eS rfl (eS rfl (eS rfl (eS rfl (eS rfl (eS rfl (eS rfl (eS rfl (eS rfl (eS rfl (eS rfl (eS rfl (eS rfl eZ)))))))))))))))))))))))))))))))))))))))))))))) rfl VWk.rfl (SL.cons (eS rfl (eS rfl (eS rfl (eS rfl (eS rfl (eS rfl (eS rfl (eS rfl (eS rfl (eS rfl (eS rfl (eS rfl (eS rfl (eS rfl (eS rfl (eS rfl (eS rfl (eS rfl (eS rfl (eS rfl (eS rfl (eS rfl (eS rfl (eS rfl (eS rfl (eS rfl (eS rfl (eS rfl (eS rfl (eS rfl (eS rfl (eS rfl (eS rfl (eS rfl (eS rfl (eS rfl (eS rfl (eS rfl (eS rfl (eS rfl (eS rfl (eS rfl (eS rfl (eS rfl (eS rfl (eS rfl (eS rfl eZ))))))))))))))))))))))))))))))))))))))))))))))) rfl VWk.rfl (SL.cons (eS rfl (eS rfl (eS rfl (eS rfl (eS rfl (eS rfl (eS rfl (eS rfl (eS rfl (eS rfl (eS rfl (eS rfl (eS rfl (eS rfl (eS rfl (eS rfl (eS rfl (eS rfl (eS rfl (eS rfl (eS rfl (eS rfl (eS rfl (eS rfl (eS rfl (eS rfl (eS rfl (eS rfl (eS rfl (eS rfl (eS rfl (eS rfl (eS rfl (eS rfl (eS rfl (eS rfl (eS rfl eZ))))))))))))))))))))))))))))))))))))) rfl VWk.rfl (SL.cons eZ rfl VWk.rfl SL.nil)))) (BL.keep rfl (BL.keep rfl BL.nil)) (BK.cons rfl bZ rfl rfl BK.nil))⟩
                · refine gDo eZ (decide_eq_false h36) ?_
                  refine oFaddrN (m := 2) (eS rfl (eS rfl (eS rfl (eS rfl (eS rfl (eS rfl (eS rfl (eS rfl (eS rfl (eS rfl (eS rfl (eS rfl (eS rfl (eS rfl (eS rfl (eS rfl (eS rfl (eS rfl (eS rfl (eS rfl (eS rfl (eS rfl (eS rfl (eS rfl (eS rfl (eS rfl eZ)))))))))))))))))))))))))) rfl ?_
                  refine gDo (eS rfl eZ) (decide_eq_false h36) ?_
                  refine oLoadV (q := 2) (c := (.d (.sl 2 (List.map d_TCell v10.Writes)))) eZ bZ rfl rfl ?_
                  refine gDo (eS rfl (eS rfl eZ)) (decide_eq_false h36) ?_
                  obtain ⟨v37, h38, H⟩ := obind H
                  refine oCall (u := (.one (.d (.bool v37)))) eC Cl.fn (c_spec_WritesOk h38) (Evs.cons eZ Evs.nil) (VDs.cons VD.plain VDs.nil) rfl ?_
                  refine gDo (eS rfl (eS rfl (eS rfl eZ))) (decide_eq_false h36) ?_
                  refine oInv eZ ?_
                  refine oPickF (eS rfl (eS rfl (eS rfl (eS rfl eZ)))) (decide_eq_false h36) eZ ?_
                  refine oMov eZ ?_
                  rcases oite H with ⟨h39, H⟩ | ⟨h39, H⟩
                  · refine gDo eZ (congrArg Bool.not h39) ?_
                    refine oFaddrN (m := 3) (eS rfl (eS rfl (eS rfl (eS rfl (eS rfl (eS rfl (eS rfl (eS rfl (eS rfl (eS rfl (eS rfl (eS rfl (eS rfl (eS rfl (eS rfl (eS rfl (eS rfl (eS rfl (eS rfl (eS rfl (eS rfl (eS rfl (eS rfl (eS rfl (eS rfl (eS rfl (eS rfl (eS rfl (eS rfl (eS rfl (eS rfl (eS rfl eZ)))))))))))))))))))))))))))))))) rfl ?_
                    refine gDo (eS rfl eZ) (congrArg Bool.not h39) ?_
                    refine oLoadV (q := 3) (c := (.d (.int .i64 v10.Vote))) eZ bZ rfl rfl ?_
                    refine gDo (eS rfl (eS rfl eZ)) (congrArg Bool.not h39) ?_
                    obtain ⟨v40, h41, H⟩ := obind H
                    refine oCall (u := (.one (.d (.bool v40)))) eC Cl.fn (c_spec_l1In h41) (Evs.cons eZ (Evs.cons eC (Evs.cons eC Evs.nil))) (VDs.cons VD.plain (VDs.cons VD.plain (VDs.cons VD.plain VDs.nil))) rfl ?_
                    refine gDo (eS rfl (eS rfl (eS rfl eZ))) (congrArg Bool.not h39) ?_
                    refine oInv eZ ?_
                    refine oPickF (eS rfl (eS rfl (eS rfl (eS rfl eZ)))) (congrArg Bool.not h39) eZ ?_
                    refine xNil ?_
                    exact TQ.qn ⟨(!v40), H, (wk_mk [] (SL.cons (eS rfl (eS rfl (eS rfl (eS rfl (eS rfl (eS rfl (eS rfl (eS rfl (eS rfl (eS rfl (eS rfl (eS rfl (eS rfl (eS rfl (eS rfl (eS rfl (eS rfl (eS rfl (eS rfl (eS rfl (eS rfl (eS rfl (eS rfl (eS rfl (eS rfl (eS rfl (eS rfl (eS rfl (eS rfl (eS rfl (eS rfl (eS rfl (eS rfl (eS rfl (eS rfl (eS rfl (eS rfl (eS rfl (eS rfl (eS rfl (eS rfl (eS rfl (eS rfl (eS rfl (eS rfl (eS rfl eZ)))))))))))))))))))))))))))))))))))))))))))))) rfl VWk.rfl (SL.cons (eS rfl (eS rfl (eS rfl (eS rfl (eS rfl (eS rfl (eS rfl (eS rfl (eS rfl (eS rfl (eS rfl (eS rfl (eS rfl (eS rfl (eS rfl (eS rfl (eS rfl (eS rfl (eS rfl (eS rfl (eS rfl (eS rfl (eS rfl (eS rfl (eS rfl (eS rfl (eS rfl (eS rfl (eS rfl (eS rfl (eS rfl (eS rfl (eS rfl (eS rfl (eS rfl (eS rfl (eS rfl (eS rfl (eS rfl (eS rfl (eS rfl (eS rfl (eS rfl (eS rfl (eS rfl (eS rfl (eS rfl eZ))))))))))))))))))))))))))))))))))))))))))))))) rfl VWk.rfl (SL.cons (eS rfl (eS rfl (eS rfl (eS rfl (eS rfl (eS rfl (eS rfl (eS rfl (eS rfl (eS rfl (eS rfl (eS rfl (eS rfl (eS rfl (eS rfl (eS rfl (eS rfl (eS rfl (eS rfl (eS rfl (eS rfl (eS rfl (eS rfl (eS rfl (eS rfl (eS rfl (eS rfl (eS rfl (eS rfl (eS rfl (eS rfl (eS rfl (eS rfl (eS rfl (eS rfl (eS rfl (eS rfl eZ))))))))))))))))))))))))))))))))))))) rfl VWk.rfl (SL.cons eZ rfl VWk.rfl SL.nil)))) (BL.keep rfl (BL.keep rfl BL.nil)) (BK.cons rfl bZ rfl rfl BK.nil))⟩
                  · refine gSkip eZ (congrArg Bool.not (nt h39)) rfl ?_
                    refine gSkip (eS rfl eZ) (congrArg Bool.not (nt h39)) rfl ?_
                    refine gSkip (eS rfl (eS rfl eZ)) (congrArg Bool.not (nt h39)) rfl ?_
                    refine gSkip (eS rfl (eS rfl (eS rfl eZ))) (congrArg Bool.not (nt h39)) rfl ?_
                    refine oPickT (eS rfl (eS rfl (eS rfl (eS rfl eZ)))) (congrArg Bool.not (nt h39)) eC ?_
                    refine xNil ?_
                    exact TQ.qn ⟨true, H, (wk_mk [] (SL.cons (eS rfl (eS rfl (eS rfl (eS rfl (eS rfl (eS rfl (eS rfl (eS rfl (eS rfl (eS rfl (eS rfl (eS rfl (eS rfl (eS rfl (eS rfl (eS rfl (eS rfl (eS rfl (eS rfl (eS rfl (eS rfl (eS rfl (eS rfl (eS rfl (eS rfl (eS rfl (eS rfl (eS rfl (eS rfl (eS rfl (eS rfl (eS rfl (eS rfl (eS rfl (eS rfl (eS rfl (eS rfl (eS rfl (eS rfl (eS rfl (eS rfl (eS rfl (eS rfl (eS rfl (eS rfl (eS rfl eZ)))))))))))))))))))))))))))))))))))))))))))))) rfl VWk.rfl (SL.cons (eS rfl (eS rfl (eS rfl (eS rfl (eS rfl (eS rfl (eS rfl (eS rfl (eS rfl (eS rfl (eS rfl (eS rfl (eS rfl (eS rfl (eS rfl (eS rfl (eS rfl (eS rfl (eS rfl (eS rfl (eS rfl (eS rfl (eS rfl (eS rfl (eS rfl (eS rfl (eS rfl (eS rfl (eS rfl (eS rfl (eS rfl (eS rfl (eS rfl (eS rfl (eS rfl (eS rfl (eS rfl (eS rfl (eS rfl (eS rfl (eS rfl (eS rfl (eS rfl (eS rfl (eS rfl (eS rfl (eS rfl eZ))))))))))))))))))))))))))))))))))))))))))))))) rfl VWk.rfl (SL.cons (eS rfl (eS rfl (eS rfl (eS rfl (eS rfl (eS rfl (eS rfl (eS rfl (eS rfl (eS rfl (eS rfl (eS rfl (eS rfl (eS rfl (eS rfl (eS rfl (eS rfl (eS rfl (eS rfl (eS rfl (eS rfl (eS rfl (eS rfl (eS rfl (eS rfl (eS rfl (eS rfl (eS rfl (eS rfl (eS rfl (eS rfl (eS rfl (eS rfl (eS rfl (eS rfl (eS rfl (eS rfl eZ))))))))))))))))))))))))))))))))))))) rfl VWk.rfl (SL.cons eZ rfl VWk.rfl SL.nil)))) (BL.keep rfl (BL.keep rfl BL.nil)) (BK.cons rfl bZ rfl rfl BK.nil))⟩
            · refine gSkip eZ (congrArg Bool.not (nt h25)) rfl ?_
              refine gSkip (eS rfl eZ) (congrArg Bool.not (nt h25)) rfl ?_
              refine gSkip (eS rfl (eS rfl eZ)) (congrArg Bool.not (nt h25)) rfl ?_
              refine gSkipU eZ rfl ?_
              refine gSkipU (eS rfl eZ) rfl ?_
              refine gSkipU (eS rfl (eS rfl eZ)) rfl ?_
              refine gSkipU (eS rfl (eS rfl (eS rfl eZ))) rfl ?_
              refine gSkipU (eS rfl (eS rfl (eS rfl (eS rfl eZ)))) rfl ?_
              refine gSkipU (eS rfl (eS rfl (eS rfl (eS rfl (eS rfl eZ))))) rfl ?_
              refine gSkipU (eS rfl (eS rfl (eS rfl (eS rfl (eS rfl (eS rfl eZ)))))) rfl ?_
              refine gSkipU (eS rfl (eS rfl (eS rfl (eS rfl (eS rfl (eS rfl (eS rfl eZ))))))) rfl ?_
              refine gSkipU (eS rfl (eS rfl (eS rfl (eS rfl (eS rfl (eS rfl (eS rfl (eS rfl eZ)))))))) rfl ?_
              refine gSkip (eS rfl (eS rfl (eS rfl (eS rfl (eS rfl (eS rfl (eS rfl (eS rfl (eS rfl (eS rfl (eS rfl (eS rfl eZ)))))))))))) (congrArg Bool.not (nt h25)) rfl ?_
              refine oPickT (eS rfl (eS rfl (eS rfl (eS rfl (eS rfl (eS rfl (eS rfl (eS rfl (eS rfl (eS rfl (eS rfl (eS rfl (eS rfl eZ))))))))))))) (congrArg Bool.not (nt h25)) eC ?_
              refine oMov eZ ?_
              refine gSkip eZ rfl rfl ?_
              refine gSkip (eS rfl eZ) rfl rfl ?_
              refine gSkip (eS rfl (eS rfl eZ)) rfl rfl ?_
              refine gSkip (eS rfl (eS rfl (eS rfl eZ))) rfl rfl ?_
              refine oPickT (eS rfl (eS rfl (eS rfl (eS rfl eZ)))) rfl eC ?_
              refine oMov eZ ?_
              refine gSkip eZ rfl rfl ?_
              refine gSkip (eS rfl eZ) rfl rfl ?_
              refine gSkip (eS rfl (eS rfl eZ)) rfl rfl ?_
              refine gSkip (eS rfl (eS rfl (eS rfl eZ))) rfl rfl ?_
              refine oPickT (eS rfl (eS rfl (eS rfl (eS rfl eZ)))) rfl eC ?_
              refine oMov eZ ?_
              refine gSkip eZ rfl rfl ?_
              refine gSkip (eS rfl eZ) rfl rfl ?_
              refine gSkip (eS rfl (eS rfl eZ)) rfl rfl ?_
              refine gSkip (eS rfl (eS rfl (eS rfl eZ))) rfl rfl ?_
              refine oPickT (eS rfl (eS rfl (eS rfl (eS rfl eZ)))) rfl eC ?_
              refine xNil ?_
              exact TQ.qn ⟨true, H, (wk_mk [] (SL.cons (eS rfl (eS rfl (eS rfl (eS rfl (eS rfl (eS rfl (eS rfl (eS rfl (eS rfl (eS rfl (eS rfl (eS rfl (eS rfl (eS rfl (eS rfl (eS rfl (eS rfl (eS rfl (eS rfl (eS rfl (eS rfl (eS rfl (eS rfl (eS rfl (eS rfl (eS rfl (eS rfl (eS rfl (eS rfl (eS rfl (eS rfl (eS rfl (eS rfl (eS rfl (eS rfl (eS rfl (eS rfl (eS rfl (eS rfl (eS rfl (eS rfl (eS rfl (eS rfl (eS rfl (eS rfl (eS rfl eZ)))))))))))))))))))))))))))))))))))))))))))))) rfl VWk.rfl (SL.cons (eS rfl (eS rfl (eS rfl (eS rfl (eS rfl (eS rfl (eS rfl (eS rfl (eS rfl (eS rfl (eS rfl (eS rfl (eS rfl (eS rfl (eS rfl (eS rfl (eS rfl (eS rfl (eS rfl (eS rfl (eS rfl (eS rfl (eS rfl (eS rfl (eS rfl (eS rfl (eS rfl (eS rfl (eS rfl (eS rfl (eS rfl (eS rfl (eS rfl (eS rfl (eS rfl (eS rfl (eS rfl (eS rfl (eS rfl (eS rfl (eS rfl (eS rfl (eS rfl (eS rfl (eS rfl (eS rfl (eS rfl eZ))))))))))))))))))))))))))))))))))))))))))))))) rfl VWk.rfl (SL.cons (eS rfl (eS rfl (eS rfl (eS rfl (eS rfl (eS rfl (eS rfl (eS rfl (eS rfl (eS rfl (eS rfl (eS rfl (eS rfl (eS rfl (eS rfl (eS rfl (eS rfl (eS rfl (eS rfl (eS rfl (eS rfl (eS rfl (eS rfl (eS rfl (eS rfl (eS rfl (eS rfl (eS rfl (eS rfl (eS rfl (eS rfl (eS rfl (eS rfl (eS rfl (eS rfl (eS rfl (eS rfl eZ))))))))))))))))))))))))))))))))))))) rfl VWk.rfl (SL.cons eZ rfl VWk.rfl SL.nil)))) (BL.keep rfl (BL.keep rfl BL.nil)) (BK.cons rfl bZ rfl rfl BK.nil))⟩
      · refine AW.condF eZ (decide_eq_false h7) ?_
        refine AW.exit ?_
        refine TQ.qe ?_
        refine TQ.qe ?_
        refine BQ.qe ?_
        exact TQ.qn ⟨(), H, (wk_mk [] SL.nil BL.nil BK.nil)⟩

theorem c_impl_from {a1 : Int} {a2 : Int} {a3 : Int} {r : Bool} (H : m_impl_from a1 a2 a3 = some r) : Fn Try.prog k_impl_from (lent [(.int .i64 a1), (.int .i64 a2), (.int .i64 a3)]) true [(.bool r)] := by
  refine i_impl_from_fn (Nat.le_of_ble_eq_true rfl) ?_
  rw [init_mk]
  refine AW.weaken (wk_mk [] (SL.cons (v := (.one (.d (.int .i64 a1)))) eZ rfl VWk.rfl (SL.cons (v := (.one (.d (.int .i64 a2)))) (eS rfl eZ) rfl VWk.rfl (SL.cons (v := (.one (.d (.int .i64 a3)))) (eS rfl (eS rfl eZ)) rfl VWk.rfl SL.nil))) BL.nil BK.nil) ?_
  unfold m_impl_from at H
  unfold i_impl_from
  refine AW.seq ?_
  refine AW.regs ?_
  refine oMov eC ?_
  refine xNil ?_
  refine TQ.qn ?_
  refine AW.seq ?_
  refine AW.regs ?_
  refine oMov (eS rfl eZ) ?_
  refine oMov (eS rfl (eS rfl (eS rfl eZ))) ?_
  refine oGeq (eS rfl eZ) eZ ?_
  refine oMov eZ ?_
  rcases oite H with ⟨h4, H⟩ | ⟨h4, H⟩
  · refine gDo eZ (decide_eq_true h4) ?_
    refine oMov (eS rfl (eS rfl (eS rfl (eS rfl (eS rfl eZ))))) ?_
    refine gDo (eS rfl eZ) (decide_eq_true h4) ?_
    refine oMov (eS rfl (eS rfl (eS rfl (eS rfl (eS rfl (eS rfl (eS rfl (eS rfl eZ)))))))) ?_
    refine gDo (eS rfl (eS rfl eZ)) (decide_eq_true h4) ?_
    refine oLeq (eS rfl eZ) eZ ?_
    refine oPickT (eS rfl (eS rfl (eS rfl eZ))) (decide_eq_true h4) eZ ?_
    refine oMov eZ ?_
    refine xNil ?_
    refine TQ.qn ?_
    refine AW.ret ?_
    obtain rfl := Option.some.inj H
    exact endsR (RL.cons (RV.tmp eZ) (VO.flat rfl) RL.nil) List.nodup_nil
  · refine gSkip eZ (decide_eq_false h4) rfl ?_
    refine gSkip (eS rfl eZ) (decide_eq_false h4) rfl ?_
    refine gSkip (eS rfl (eS rfl eZ)) (decide_eq_false h4) rfl ?_
    refine oPickF (eS rfl (eS rfl (eS rfl eZ))) (decide_eq_false h4) eC ?_
    refine oMov eZ ?_
    refine xNil ?_
    refine TQ.qn ?_
    refine AW.ret ?_
    obtain rfl := Option.some.inj H
    exact endsR (RL.cons (RV.tmp eZ) (VO.flat rfl) RL.nil) List.nodup_nil

theorem c_impl_isGroup {a1 : Int} {r : Bool} (H : m_impl_isGroup a1 = some r) : Fn Try.prog k_impl_isGroup (lent [(.int .i64 a1)]) true [(.bool r)] := by
  refine i_impl_isGroup_fn (Nat.le_of_ble_eq_true rfl) ?_
  rw [init_mk]
  refine AW.weaken (wk_mk [] (SL.cons (v := (.one (.d (.int .i64 a1)))) eZ rfl VWk.rfl SL.nil) BL.nil BK.nil) ?_
  unfold m_impl_isGroup at H
  unfold i_impl_isGroup
  refine AW.seq ?_
  refine AW.regs ?_
  refine oMov eC ?_
  refine xNil ?_
  refine TQ.qn ?_
  refine AW.seq ?_
  refine AW.regs ?_
  refine oMov (eS rfl eZ) ?_
  obtain ⟨v2, h3, H⟩ := obind H
  refine oCall (u := (.one (.d (.bool v2)))) eC Cl.fn (c_impl_from h3) (Evs.cons eZ (Evs.cons eC (Evs.cons eC Evs.nil))) (VDs.cons VD.plain (VDs.cons VD.plain (VDs.cons VD.plain VDs.nil))) rfl ?_
  refine oMov eZ ?_
  refine xNil ?_
  refine TQ.qn ?_
  refine AW.ret ?_
  obtain rfl := Option.some.inj H
  exact endsR (RL.cons (RV.tmp eZ) (VO.flat rfl) RL.nil) List.nodup_nil

theorem c_impl_RangeOk {a1 : TRange} {r : Bool} (H : m_impl_RangeOk a1 = some r) : Fn Try.prog k_impl_RangeOk (lent [(.agg (d_TRange a1))]) true [(.bool r)] := by
  refine i_impl_RangeOk_fn (Nat.le_of_ble_eq_true rfl) ?_
  rw [init_mk]
  refine AW.weaken (wk_mk [] (SL.cons (v := (.agg [(.d (.int .i64 a1.Lo)), (.d (.int .i64 a1.Hi))])) eZ rfl VWk.rfl SL.nil) BL.nil BK.nil) ?_
  unfold m_impl_RangeOk at H
  unfold i_impl_RangeOk
  refine AW.seq ?_
  refine AW.regs ?_
  refine oBox (n := 64) (m := 2) (cs := [(.d (.int .i64 a1.Lo)), (.d (.int .i64 a1.Hi))]) rfl eZ rfl rfl nZ ?_
  refine oMov eC ?_
  refine xNil ?_
  refine TQ.qn ?_
  refine AW.seq ?_
  refine AW.regs ?_
  refine oFaddrN (m := 0) (eS rfl eZ) rfl ?_
  refine oLoadV (q := 0) (c := (.d (.int .i64 a1.Lo))) eZ bZ rfl rfl ?_
  refine oGeq eZ eC ?_
  refine oMov eZ ?_
  rcases oite H with ⟨h2, H⟩ | ⟨h2, H⟩
  · refine gDo eZ (decide_eq_true h2) ?_
    refine oFaddrN (m := 0) (eS rfl (eS rfl (eS rfl (eS rfl (eS rfl eZ))))) rfl ?_
    refine gDo (eS rfl eZ) (decide_eq_true h2) ?_
    refine oLoadV (q := 0) (c := (.d (.int .i64 a1.Lo))) eZ bZ rfl rfl ?_
    refine gDo (eS rfl (eS rfl eZ)) (decide_eq_true h2) ?_
    refine oFaddrN (m := 1) (eS rfl (eS rfl (eS rfl (eS rfl (eS rfl (eS rfl (eS rfl eZ))))))) rfl ?_
    refine gDo (eS rfl (eS rfl (eS rfl eZ))) (decide_eq_true h2) ?_
    refine oLoadV (q := 1) (c := (.d (.int .i64 a1.Hi))) eZ bZ rfl rfl ?_
    refine gDo (eS rfl (eS rfl (eS rfl (eS rfl eZ)))) (decide_eq_true h2) ?_
    refine oLss (eS rfl (eS rfl eZ)) eZ ?_
    refine oPickT (eS rfl (eS rfl (eS rfl (eS rfl (eS rfl eZ))))) (decide_eq_true h2) eZ ?_
    refine oMov eZ ?_
    rcases oite H with ⟨h3, H⟩ | ⟨h3, H⟩
    · refine gDo eZ (decide_eq_true h3) ?_
      refine oFaddrN (m := 1) (eS rfl (eS rfl (eS rfl (eS rfl (eS rfl (eS rfl (eS rfl (eS rfl (eS rfl (eS rfl (eS rfl (eS rfl eZ)))))))))))) rfl ?_
      refine gDo (eS rfl eZ) (decide_eq_true h3) ?_
      refine oLoadV (q := 1) (c := (.d (.int .i64 a1.Hi))) eZ bZ rfl rfl ?_
      refine gDo (eS rfl (eS rfl eZ)) (decide_eq_true h3) ?_
      refine oLeq eZ eC ?_
      refine oPickT (eS rfl (eS rfl (eS rfl eZ))) (decide_eq_true h3) eZ ?_
      refine oMov eZ ?_
      refine xNil ?_
      refine TQ.qn ?_
      refine AW.weaken (wk_mk [64] (SL.cons (k := 2) eZ rfl VWk.rfl SL.nil) (BL.drop rfl BL.nil) BK.nil) ?_
      refine AW.ret ?_
      obtain rfl := Option.some.inj H
      exact endsR (RL.cons (RV.tmp eZ) (VO.flat rfl) RL.nil) List.nodup_nil
    · refine gSkip eZ (decide_eq_false h3) rfl ?_
      refine gSkip (eS rfl eZ) (decide_eq_false h3) rfl ?_
      refine gSkip (eS rfl (eS rfl eZ)) (decide_eq_false h3) rfl ?_
      refine oPickF (eS rfl (eS rfl (eS rfl eZ))) (decide_eq_false h3) eC ?_
      refine oMov eZ ?_
      refine xNil ?_
      refine TQ.qn ?_
      refine AW.weaken (wk_mk [64] (SL.cons (k := 2) eZ rfl VWk.rfl SL.nil) (BL.drop rfl BL.nil) BK.nil) ?_
      refine AW.ret ?_
      obtain rfl := Option.some.inj H
      exact endsR (RL.cons (RV.tmp eZ) (VO.flat rfl) RL.nil) List.nodup_nil
  · refine gSkip eZ (decide_eq_false h2) rfl ?_
    refine gSkip (eS rfl eZ) (decide_eq_false h2) rfl ?_
    refine gSkip (eS rfl (eS rfl eZ)) (decide_eq_false h2) rfl ?_
    refine gSkip (eS rfl (eS rfl (eS rfl eZ))) (decide_eq_false h2) rfl ?_
    refine gSkip (eS rfl (eS rfl (eS rfl (eS rfl eZ)))) (decide_eq_false h2) rfl ?_
    refine oPickF (eS rfl (eS rfl (eS rfl (eS rfl (eS rfl eZ))))) (decide_eq_false h2) eC ?_
    refine oMov eZ ?_
    refine gSkip eZ rfl rfl ?_
    refine gSkip (eS rfl eZ) rfl rfl ?_
    refine gSkip (eS rfl (eS rfl eZ)) rfl rfl ?_
    refine oPickF (eS rfl (eS rfl (eS rfl eZ))) rfl eC ?_
    refine oMov eZ ?_
    refine xNil ?_
    refine TQ.qn ?_
    refine AW.weaken (wk_mk [64] (SL.cons (k := 2) eZ rfl VWk.rfl SL.nil) (BL.drop rfl BL.nil) BK.nil) ?_
    refine AW.ret ?_
    obtain rfl := Option.some.inj H
    exact endsR (RL.cons (RV.tmp eZ) (VO.flat rfl) RL.nil) List.nodup_nil

theorem c_impl_readsOk_1 {a1 : TRange} {r : Bool} (H : m_impl_readsOk_1 a1 = some r) : Fn Try.prog k_impl_readsOk_1 (lent [(.agg (d_TRange a1))]) true [(.bool r)] := by
  refine i_impl_readsOk_1_fn (Nat.le_of_ble_eq_true rfl) ?_
  rw [init_mk]
  refine AW.weaken (wk_mk [] (SL.cons (v := (.agg [(.d (.int .i64 a1.Lo)), (.d (.int .i64 a1.Hi))])) eZ rfl VWk.rfl SL.nil) BL.nil BK.nil) ?_
  unfold m_impl_readsOk_1 at H
  unfold i_impl_readsOk_1
  refine AW.seq ?_
  refine AW.regs ?_
  refine oBox (n := 64) (m := 2) (cs := [(.d (.int .i64 a1.Lo)), (.d (.int .i64 a1.Hi))]) rfl eZ rfl rfl nZ ?_
  refine oMov eC ?_
  refine xNil ?_
  refine TQ.qn ?_
  refine AW.seq ?_
  refine AW.regs ?_
  refine oLoadVA (es := [(.d (.int .i64 a1.Lo)), (.d (.int .i64 a1.Hi))]) (eS rfl eZ) bZ rfl ?_
  obtain ⟨v2, h3, H⟩ := obind H
  refine oCall (u := (.one (.d (.bool v2)))) eC Cl.fn (c_impl_RangeOk h3) (Evs.cons eZ Evs.nil) (VDs.cons (VD.agg rfl) VDs.nil) rfl ?_
  refine oInv eZ ?_
  refine oMov eZ ?_
  refine xNil ?_
  refine TQ.qn ?_
  refine AW.ret ?_
  obtain rfl := Option.some.inj H
  exact endsR (RL.cons (RV.tmp eZ) (VO.flat rfl) RL.nil) List.nodup_nil

theorem c_slices_IndexFunc_Range__readsOk_1 {a1 : (List TRange)} {r : Int} (H : m_slices_IndexFunc_Range__readsOk_1 a1 = some r) : Fn Try.prog k_slices_IndexFunc___impl_Range_impl_Range_ (lent [(.sl 2 (List.map d_TRange a1)), (.fn k_impl_readsOk_1 [])]) true [(.int .i64 r)] := by
  refine i_slices_IndexFunc___impl_Range_impl_Range__fn (Nat.le_of_ble_eq_true rfl) ?_
  rw [init_mk]
  refine AW.weaken (wk_mk [] (SL.cons (v := (.one (.d (.sl 2 (List.map d_TRange a1))))) eZ rfl VWk.rfl (SL.cons (v := (.one (.fn k_impl_readsOk_1 []))) (eS rfl eZ) rfl (VWk.one (CWk.fn (css := []))) SL.nil)) BL.nil BK.nil) ?_
  unfold m_slices_IndexFunc_Range__readsOk_1 at H
  unfold i_slices_IndexFunc___impl_Range_impl_Range_
  refine AW.seq ?_
  refine AW.regs ?_
  refine oMov eC ?_
  refine xNil ?_
  refine TQ.qn ?_
  refine AW.seqJ (fun t2 : Unit => slices_IndexFunc_Range__readsOk_1_j2 t2 = some r) (fun t2 => mk [] [] noG) ?_ ?_
  · intro t2 H
    unfold slices_IndexFunc_Range__readsOk_1_j2 at H
    refine AW.seq ?_
    refine AW.regs ?_
    refine oMov eC ?_
    refine xNil ?_
    refine TQ.qn ?_
    refine AW.ret ?_
    obtain rfl := Option.some.inj H
    exact endsR (RL.cons (RV.tmp eZ) (VO.flat rfl) RL.nil) List.nodup_nil
  · refine AW.seq ?_
    refine AW.regs ?_
    refine oMov (eS rfl eZ) ?_
    refine oLenD eZ (n := a1.length) (List.length_map _) ?_
    refine oMov eC ?_
    refine xNil ?_
    refine TQ.qn ?_
    refine AW.block ?_
    refine AW.iter (fun s4 : Int => mk [(0, (.one (.d (.sl 2 (List.map d_TRange a1))))), (1, (.one (.fn k_impl_readsOk_1 []))), (7, (.one (.d (.int .i64 (a1.length : Int))))), (8, (.one (.d (.int .i64 s4))))] [] noG) H (wk_mk [] (SL.cons (eS rfl (eS rfl (eS rfl (eS rfl eZ)))) rfl VWk.rfl (SL.cons (eS rfl (eS rfl (eS rfl (eS rfl (eS rfl eZ))))) rfl VWk.rfl (SL.cons (eS rfl eZ) rfl VWk.rfl (SL.cons eZ rfl VWk.rfl SL.nil)))) BL.nil BK.nil) ?_
    intro kb5 s4 H
    unfold slices_IndexFunc_Range__readsOk_1_b4 at H
    refine AW.seq ?_
    refine AW.regs ?_
    refine oLss (eS rfl (eS rfl (eS rfl eZ))) (eS rfl (eS rfl eZ)) ?_
    refine xNil ?_
    refine TQ.qn ?_
    refine AW.seq ?_
    rcases oite H with ⟨h6, H⟩ | ⟨h6, H⟩
    · refine AW.condT eZ (decide_eq_true h6) ?_
      refine AW.skip ?_
      refine TQ.qn ?_
      refine AW.seq ?_
      refine AW.block ?_
      refine AW.seq ?_
      refine AW.regs ?_
      refine oMov (eS rfl (eS rfl (eS rfl (eS rfl eZ)))) ?_
      refine oMov eZ ?_
      refine xNil ?_
      refine TQ.qn ?_
      refine AW.seq ?_
      refine AW.regs ?_
      refine oMov (eS rfl (eS rfl (eS rfl (eS rfl eZ)))) ?_
      refine oMov (eS rfl (eS rfl (eS rfl (eS rfl eZ)))) ?_
      refine oMov (eS rfl (eS rfl eZ)) ?_
      obtain ⟨v7, h8, H⟩ := obind H
      refine oAtD (eS rfl eZ) eZ h8 ?_
      refine oLoadBA (es := [(.d (.int .i64 v7.Lo)), (.d (.int .i64 v7.Hi))]) eZ rfl ?_
      obtain ⟨v9, h10, H⟩ := obind H
      refine oCall (u := (.one (.d (.bool v9)))) (eS rfl (eS rfl (eS rfl (eS rfl eZ)))) Cl.fn (c_impl_readsOk_1 h10) (Evs.cons eZ Evs.nil) (VDs.cons (VD.agg rfl) VDs.nil) rfl ?_
      refine xNil ?_
      refine TQ.qn ?_
      rcases oite H with ⟨h11, H⟩ | ⟨h11, H⟩
      · refine AW.condT eZ h11 ?_
        refine AW.seq ?_
        refine AW.regs ?_
        refine oMov (eS rfl (eS rfl (eS rfl (eS rfl (eS rfl (eS rfl eZ)))))) ?_
        refine oMov eZ ?_
        refine xNil ?_
        refine TQ.qn ?_
        refine AW.ret ?_
        refine BQ.qr ?_
        refine TQ.qr ?_
        refine TQ.qr ?_
        refine BQ.qr ?_
        refine TQ.qr ?_
        obtain rfl := Option.some.inj H
        exact endsR (RL.cons (RV.tmp eZ) (VO.flat rfl) RL.nil) List.nodup_nil
      · refine AW.condF eZ (nt h11) ?_
        refine AW.skip ?_
        refine BQ.qn ?_
        refine TQ.qn ?_
        refine AW.regs ?_
        refine oAdd (eS rfl (eS rfl (eS rfl (eS rfl (eS rfl (eS rfl (eS rfl (eS rfl (eS rfl (eS rfl (eS rfl (eS rfl eZ)))))))))))) eC ?_
        refine oMov eZ ?_
        refine xNil ?_
        exact TQ.qn ⟨(IntKind.wrap .i64 (s4 + 1)), H, (wk_mk [] (SL.cons (eS rfl (eS rfl (eS rfl (eS rfl (eS rfl (eS rfl (eS rfl (eS rfl (eS rfl (eS rfl (eS rfl eZ))))))))))) rfl VWk.rfl (SL.cons (eS rfl (eS rfl (eS rfl (eS rfl (eS rfl (eS rfl (eS rfl (eS rfl (eS rfl (eS rfl (eS rfl (eS rfl eZ)))))))))))) rfl VWk.rfl (SL.cons (eS rfl (eS rfl (eS rfl (eS rfl (eS rfl (eS rfl (eS rfl (eS rfl (eS rfl (eS rfl (eS rfl (eS rfl (eS rfl eZ))))))))))))) rfl VWk.rfl (SL.cons eZ rfl VWk.rfl SL.nil)))) BL.nil BK.nil)⟩
    · refine AW.condF eZ (decide_eq_false h6) ?_
      refine AW.exit ?_
      refine TQ.qe ?_
      refine TQ.qe ?_
      refine BQ.qe ?_
      exact TQ.qn ⟨(), H, (wk_mk [] SL.nil BL.nil BK.nil)⟩

theorem c_slices_ContainsFunc_Range__readsOk_1 {a1 : (List TRange)} {r : Bool} (H : m_slices_ContainsFunc_Range__readsOk_1 a1 = some r) : Fn Try.prog k_slices_ContainsFunc___impl_Range_impl_Range_ (lent [(.sl 2 (List.map d_TRange a1)), (.fn k_impl_readsOk_1 [])]) true [(.bool r)] := by
  refine i_slices_ContainsFunc___impl_Range_impl_Range__fn (Nat.le_of_ble_eq_true rfl) ?_
  rw [init_mk]
  refine AW.weaken (wk_mk [] (SL.cons (v := (.one (.d (.sl 2 (List.map d_TRange a1))))) eZ rfl VWk.rfl (SL.cons (v := (.one (.fn k_impl_readsOk_1 []))) (eS rfl eZ) rfl (VWk.one (CWk.fn (css := []))) SL.nil)) BL.nil BK.nil) ?_
  unfold m_slices_ContainsFunc_Range__readsOk_1 at H
  unfold i_slices_ContainsFunc___impl_Range_impl_Range_
  refine AW.seq ?_
  refine AW.regs ?_
  refine oMov eC ?_
  refine xNil ?_
  refine TQ.qn ?_
  refine AW.seq ?_
  refine AW.regs ?_
  refine oMov (eS rfl eZ) ?_
  refine oMov (eS rfl (eS rfl (eS rfl eZ))) ?_
  obtain ⟨v2, h3, H⟩ := obind H
  refine oCall (u := (.one (.d (.int .i64 v2)))) eC Cl.fn (c_slices_IndexFunc_Range__readsOk_1 h3) (Evs.cons (eS rfl eZ) (Evs.cons eZ Evs.nil)) (VDs.cons VD.plain (VDs.cons (VD.fn PDs.nil) VDs.nil)) rfl ?_
  refine oGeq eZ eC ?_
  refine oMov eZ ?_
  refine xNil ?_
  refine TQ.qn ?_
  refine AW.ret ?_
  obtain rfl := Option.some.inj H
  exact endsR (RL.cons (RV.tmp eZ) (VO.flat rfl) RL.nil) List.nodup_nil

theorem c_impl_readsOk {a1 : (List TRange)} {r : Bool} (H : m_impl_readsOk a1 = some r) : Fn Try.prog k_impl_readsOk (lent [(.sl 2 (List.map d_TRange a1))]) true [(.bool r)] := by
  refine i_impl_readsOk_fn (Nat.le_of_ble_eq_true rfl) ?_
  rw [init_mk]
  refine AW.weaken (wk_mk [] (SL.cons (v := (.one (.d (.sl 2 (List.map d_TRange a1))))) eZ rfl VWk.rfl SL.nil) BL.nil BK.nil) ?_
  unfold m_impl_readsOk at H
  unfold i_impl_readsOk
  refine AW.seq ?_
  refine AW.regs ?_
  refine oMov eC ?_
  refine xNil ?_
  refine TQ.qn ?_
  refine AW.seq ?_
  refine AW.regs ?_
  refine oMov (eS rfl eZ) ?_
  refine oLenD eZ (n := a1.length) (List.length_map _) ?_
  refine oLeq eZ eC ?_
  refine oMov eZ ?_
  rcases oite H with ⟨h2, H⟩ | ⟨h2, H⟩
  · refine gDo eZ (decide_eq_true h2) ?_
    refine oMov (eS rfl (eS rfl (eS rfl (eS rfl (eS rfl eZ))))) ?_
    refine gDo (eS rfl eZ) (decide_eq_true h2) ?_
    obtain ⟨v3, h4, H⟩ := obind H
    refine oCall (u := (.one (.d (.bool v3)))) eC Cl.fn (c_slices_ContainsFunc_Range__readsOk_1 h4) (Evs.cons eZ (Evs.cons eC Evs.nil)) (VDs.cons VD.plain (VDs.cons (VD.fn PDs.nil) VDs.nil)) rfl ?_
    refine gDo (eS rfl (eS rfl eZ)) (decide_eq_true h2) ?_
    refine oInv eZ ?_
    refine oPickT (eS rfl (eS rfl (eS rfl eZ))) (decide_eq_true h2) eZ ?_
    refine oMov eZ ?_
    refine xNil ?_
    refine TQ.qn ?_
    refine AW.ret ?_
    obtain rfl := Option.some.inj H
    exact endsR (RL.cons (RV.tmp eZ) (VO.flat rfl) RL.nil) List.nodup_nil
  · refine gSkip eZ (decide_eq_false h2) rfl ?_
    refine gSkip (eS rfl eZ) (decide_eq_false h2) rfl ?_
    refine gSkip (eS rfl (eS rfl eZ)) (decide_eq_false h2) rfl ?_
    refine oPickF (eS rfl (eS rfl (eS rfl eZ))) (decide_eq_false h2) eC ?_
    refine oMov eZ ?_
    refine xNil ?_
    refine TQ.qn ?_
    refine AW.ret ?_
    obtain rfl := Option.some.inj H
    exact endsR (RL.cons (RV.tmp eZ) (VO.flat rfl) RL.nil) List.nodup_nil

theorem c_impl_isKey {a1 : Int} {r : Bool} (H : m_impl_isKey a1 = some r) : Fn Try.prog k_impl_isKey (lent [(.int .i64 a1)]) true [(.bool r)] := by
  refine i_impl_isKey_fn (Nat.le_of_ble_eq_true rfl) ?_
  rw [init_mk]
  refine AW.weaken (wk_mk [] (SL.cons (v := (.one (.d (.int .i64 a1)))) eZ rfl VWk.rfl SL.nil) BL.nil BK.nil) ?_
  unfold m_impl_isKey at H
  unfold i_impl_isKey
  refine AW.seq ?_
  refine AW.regs ?_
  refine oMov eC ?_
  refine xNil ?_
  refine TQ.qn ?_
  refine AW.seq ?_
  refine AW.regs ?_
  refine oMov (eS rfl eZ) ?_
  obtain ⟨v2, h3, H⟩ := obind H
  refine oCall (u := (.one (.d (.bool v2)))) eC Cl.fn (c_impl_from h3) (Evs.cons eZ (Evs.cons eC (Evs.cons eC Evs.nil))) (VDs.cons VD.plain (VDs.cons VD.plain (VDs.cons VD.plain VDs.nil))) rfl ?_
  refine oMov eZ ?_
  refine xNil ?_
  refine TQ.qn ?_
  refine AW.ret ?_
  obtain rfl := Option.some.inj H
  exact endsR (RL.cons (RV.tmp eZ) (VO.flat rfl) RL.nil) List.nodup_nil

theorem c_impl_isAnswer {a1 : Int} {r : Bool} (H : m_impl_isAnswer a1 = some r) : Fn Try.prog k_impl_isAnswer (lent [(.int .i64 a1)]) true [(.bool r)] := by
  refine i_impl_isAnswer_fn (Nat.le_of_ble_eq_true rfl) ?_
  rw [init_mk]
  refine AW.weaken (wk_mk [] (SL.cons (v := (.one (.d (.int .i64 a1)))) eZ rfl VWk.rfl SL.nil) BL.nil BK.nil) ?_
  unfold m_impl_isAnswer at H
  unfold i_impl_isAnswer
  refine AW.seq ?_
  refine AW.regs ?_
  refine oMov eC ?_
  refine xNil ?_
  refine TQ.qn ?_
  refine AW.seq ?_
  refine AW.regs ?_
  refine oMov (eS rfl eZ) ?_
  obtain ⟨v2, h3, H⟩ := obind H
  refine oCall (u := (.one (.d (.bool v2)))) eC Cl.fn (c_impl_from h3) (Evs.cons eZ (Evs.cons eC (Evs.cons eC Evs.nil))) (VDs.cons VD.plain (VDs.cons VD.plain (VDs.cons VD.plain VDs.nil))) rfl ?_
  refine oMov eZ ?_
  refine xNil ?_
  refine TQ.qn ?_
  refine AW.ret ?_
  obtain rfl := Option.some.inj H
  exact endsR (RL.cons (RV.tmp eZ) (VO.flat rfl) RL.nil) List.nodup_nil

theorem c_impl_WritesOk {a1 : (List TCell)} {r : Bool} (H : m_impl_WritesOk a1 = some r) : Fn Try.prog k_impl_WritesOk (lent [(.sl 2 (List.map d_TCell a1))]) true [(.bool r)] := by
  refine i_impl_WritesOk_fn (Nat.le_of_ble_eq_true rfl) ?_
  rw [init_mk]
  refine AW.weaken (wk_mk [] (SL.cons (v := (.one (.d (.sl 2 (List.map d_TCell a1))))) eZ rfl VWk.rfl SL.nil) BL.nil BK.nil) ?_
  unfold m_impl_WritesOk at H
  unfold i_impl_WritesOk
  refine AW.seq ?_
  refine AW.regs ?_
  refine oMov eC ?_
  refine xNil ?_
  refine TQ.qn ?_
  refine AW.seqJ (fun t2 : Unit => (impl_WritesOk_j2 a1) t2 = some r) (fun t2 => mk [(0, (.one (.d (.sl 2 (List.map d_TCell a1)))))] [] noG) ?_ ?_
  · intro t2 H
    unfold impl_WritesOk_j2 at H
    refine AW.seq ?_
    refine AW.regs ?_
    refine oMov eZ ?_
    refine oLenD eZ (n := a1.length) (List.length_map _) ?_
    refine oLeq eZ eC ?_
    refine oMov eZ ?_
    refine xNil ?_
    refine TQ.qn ?_
    refine AW.ret ?_
    obtain rfl := Option.some.inj H
    exact endsR (RL.cons (RV.tmp eZ) (VO.flat rfl) RL.nil) List.nodup_nil
  · refine AW.seq ?_
    refine AW.regs ?_
    refine oMov (eS rfl eZ) ?_
    refine oLenD eZ (n := a1.length) (List.length_map _) ?_
    refine oMov eC ?_
    refine xNil ?_
    refine TQ.qn ?_
    refine AW.block ?_
    refine AW.iter (fun s4 : Int => mk [(0, (.one (.d (.sl 2 (List.map d_TCell a1))))), (5, (.one (.d (.sl 2 (List.map d_TCell a1))))), (6, (.one (.d (.int .i64 (a1.length : Int))))), (7, (.one (.d (.int .i64 s4))))] [] noG) H (wk_mk [] (SL.cons (eS rfl (eS rfl (eS rfl (eS rfl eZ)))) rfl VWk.rfl (SL.cons (eS rfl (eS rfl eZ)) rfl VWk.rfl (SL.cons (eS rfl eZ) rfl VWk.rfl (SL.cons eZ rfl VWk.rfl SL.nil)))) BL.nil BK.nil) ?_
    intro kb5 s4 H
    unfold impl_WritesOk_b4 at H
    refine AW.seq ?_
    refine AW.regs ?_
    refine oLss (eS rfl (eS rfl (eS rfl eZ))) (eS rfl (eS rfl eZ)) ?_
    refine xNil ?_
    refine TQ.qn ?_
    refine AW.seq ?_
    rcases oite H with ⟨h6, H⟩ | ⟨h6, H⟩
    · refine AW.condT eZ (decide_eq_true h6) ?_
      refine AW.skip ?_
      refine TQ.qn ?_
      refine AW.seq ?_
      refine AW.block ?_
      refine AW.seq ?_
      refine AW.regs ?_
      refine oMov (eS rfl (eS rfl (eS rfl (eS rfl eZ)))) ?_
      obtain ⟨v7, h8, H⟩ := obind H
      refine oAtD (eS rfl (eS rfl (eS rfl eZ))) (eS rfl (eS rfl (eS rfl (eS rfl (eS rfl eZ))))) h8 ?_
      refine oLoadBA (es := [(.d (.int .i64 v7.Key)), (.d (.int .i64 v7.Value))]) eZ rfl ?_
      refine oVar (n := 256) (m := 2) rfl rfl nZ ?_
      refine oMov (eS rfl (eS rfl (eS rfl eZ))) ?_
      refine oStoreV (es := [(.d (.int .i64 v7.Key)), (.d (.int .i64 v7.Value))]) (eS rfl eZ) (eS rfl (eS rfl eZ)) rfl rfl bZ rfl ?_
      refine xNil ?_
      refine TQ.qn ?_
      refine AW.seqJ (fun t9 : Bool => (impl_WritesOk_j9 kb5 s4) t9 = some r) (fun t9 => mk [(0, (.one (.d (.sl 2 (List.map d_TCell a1))))), (5, (.one (.d (.sl 2 (List.map d_TCell a1))))), (6, (.one (.d (.int .i64 (a1.length : Int))))), (7, (.one (.d (.int .i64 s4)))), (36, (.one (.d (.bool t9))))] [] noG) ?_ ?_
      · intro t9 H
        unfold impl_WritesOk_j9 at H
        rcases oite H with ⟨h11, H⟩ | ⟨h11, H⟩
        · refine AW.condT (eS rfl (eS rfl (eS rfl (eS rfl eZ)))) h11 ?_
          refine AW.seq ?_
          refine AW.regs ?_
          refine oMov eC ?_
          refine xNil ?_
          refine TQ.qn ?_
          refine AW.ret ?_
          refine BQ.qr ?_
          refine TQ.qr ?_
          refine TQ.qr ?_
          refine BQ.qr ?_
          refine TQ.qr ?_
          obtain rfl := Option.some.inj H
          exact endsR (RL.cons (RV.tmp eZ) (VO.flat rfl) RL.nil) List.nodup_nil
        · refine AW.condF (eS rfl (eS rfl (eS rfl (eS rfl eZ)))) (nt h11) ?_
          refine AW.skip ?_
          refine BQ.qn ?_
          refine TQ.qn ?_
          refine AW.regs ?_
          refine oAdd (eS rfl (eS rfl (eS rfl eZ))) eC ?_
          refine oMov eZ ?_
          refine xNil ?_
          exact TQ.qn ⟨(IntKind.wrap .i64 (s4 + 1)), H, (wk_mk [] (SL.cons (eS rfl (eS rfl eZ)) rfl VWk.rfl (SL.cons (eS rfl (eS rfl (eS rfl eZ))) rfl VWk.rfl (SL.cons (eS rfl (eS rfl (eS rfl (eS rfl eZ)))) rfl VWk.rfl (SL.cons eZ rfl VWk.rfl SL.nil)))) BL.nil BK.nil)⟩
      · refine AW.regd ?_
        refine oFaddrN (m := 0) (eS rfl eZ) rfl ?_
        refine oLoadV (q := 0) (c := (.d (.int .i64 v7.Key))) eZ bZ rfl rfl ?_
        obtain ⟨v12, h13, H⟩ := obind H
        refine oCall (u := (.one (.d (.bool v12)))) eC Cl.fn (c_impl_isKey h13) (Evs.cons eZ Evs.nil) (VDs.cons VD.plain VDs.nil) rfl ?_
        refine oInv eZ ?_
        refine oMov eZ ?_
        rcases oite H with ⟨h14, H⟩ | ⟨h14, H⟩
        · refine gDo eZ (congrArg Bool.not h14) ?_
          refine oFaddrN (m := 1) (eS rfl (eS rfl (eS rfl (eS rfl (eS rfl (eS rfl eZ)))))) rfl ?_
          refine gDo (eS rfl eZ) (congrArg Bool.not h14) ?_
          refine oLoadV (q := 1) (c := (.d (.int .i64 v7.Value))) eZ bZ rfl rfl ?_
          refine gDo (eS rfl (eS rfl eZ)) (congrArg Bool.not h14) ?_
          obtain ⟨v15, h16, H⟩ := obind H
          refine oCall (u := (.one (.d (.bool v15)))) eC Cl.fn (c_impl_isAnswer h16) (Evs.cons eZ Evs.nil) (VDs.cons VD.plain VDs.nil) rfl ?_
          refine gDo (eS rfl (eS rfl (eS rfl eZ))) (congrArg Bool.not h14) ?_
          refine oInv eZ ?_
          refine oPickF (eS rfl (eS rfl (eS rfl (eS rfl eZ)))) (congrArg Bool.not h14) eZ ?_
          refine oMov eZ ?_
          rcases oite H with ⟨h17, H⟩ | ⟨h17, H⟩
          · refine gDo eZ (congrArg Bool.not h17) ?_
            refine oMov (eS rfl (eS rfl (eS rfl (eS rfl (eS rfl (eS rfl (eS rfl (eS rfl (eS rfl (eS rfl (eS rfl eZ))))))))))) ?_
            refine gDo (eS rfl eZ) (congrArg Bool.not h17) ?_
            refine oGtr eZ eC ?_
            refine gDo (eS rfl (eS rfl eZ)) (congrArg Bool.not h17) ?_
            refine oMov eZ ?_
            rcases oite H with ⟨h18, H⟩ | ⟨h18, H⟩
            · refine gDo eZ (decide_eq_true h18) ?_
              refine oMov (eS rfl (eS rfl (eS rfl (eS rfl (eS rfl (eS rfl (eS rfl (eS rfl (eS rfl (eS rfl (eS rfl (eS rfl (eS rfl (eS rfl (eS rfl (eS rfl (eS rfl (eS rfl (eS rfl (eS rfl eZ)))))))))))))))))))) ?_
              refine gDo (eS rfl eZ) (decide_eq_true h18) ?_
              refine oMov (eS rfl (eS rfl (eS rfl (eS rfl (eS rfl (eS rfl (eS rfl (eS rfl (eS rfl (eS rfl (eS rfl (eS rfl (eS rfl (eS rfl (eS rfl eZ))))))))))))))) ?_
              refine gDo (eS rfl (eS rfl eZ)) (decide_eq_true h18) ?_
              refine oSub eZ eC ?_
              refine gDo (eS rfl (eS rfl (eS rfl eZ))) (decide_eq_true h18) ?_
              obtain ⟨v19, h20, H⟩ := obind H
              refine oAtD (eS rfl (eS rfl eZ)) eZ h20 ?_
              refine gDo (eS rfl (eS rfl (eS rfl (eS rfl eZ)))) (decide_eq_true h18) ?_
              refine oFaddrB (m := 0) eZ rfl ?_
              refine gDo (eS rfl (eS rfl (eS rfl (eS rfl (eS rfl eZ))))) (decide_eq_true h18) ?_
              refine oLoadB (e := (.int .i64 v19.Key)) eZ rfl ?_
              refine gDo (eS rfl (eS rfl (eS rfl (eS rfl (eS rfl (eS rfl eZ)))))) (decide_eq_true h18) ?_
              refine oFaddrN (m := 0) (eS rfl (eS rfl (eS rfl (eS rfl (eS rfl (eS rfl (eS rfl (eS rfl (eS rfl (eS rfl (eS rfl (eS rfl (eS rfl (eS rfl (eS rfl (eS rfl (eS rfl (eS rfl (eS rfl (eS rfl (eS rfl eZ))))))))))))))))))))) rfl ?_
              refine gDo (eS rfl (eS rfl (eS rfl (eS rfl (eS rfl (eS rfl (eS rfl eZ))))))) (decide_eq_true h18) ?_
              refine oLoadV (q := 0) (c := (.d (.int .i64 v7.Key))) eZ bZ rfl rfl ?_
              refine gDo (eS rfl (eS rfl (eS rfl (eS rfl (eS rfl (eS rfl (eS rfl (eS rfl eZ)))))))) (decide_eq_true h18) ?_
              refine oGeq (eS rfl (eS rfl eZ)) eZ ?_
              refine gDo (eS rfl (eS rfl (eS rfl (eS rfl (eS rfl (eS rfl (eS rfl (eS rfl (eS rfl (eS rfl (eS rfl (eS rfl eZ)))))))))))) (congrArg Bool.not h17) ?_
              refine oPickT (eS rfl (eS rfl (eS rfl (eS rfl (eS rfl (eS rfl (eS rfl (eS rfl (eS rfl eZ))))))))) (decide_eq_true h18) eZ ?_
              refine oPickF (eS rfl (eS rfl (eS rfl (eS rfl (eS rfl (eS rfl (eS rfl (eS rfl (eS rfl (eS rfl (eS rfl (eS rfl (eS rfl eZ))))))))))))) (congrArg Bool.not h17) eZ ?_
              refine xNil ?_
              exact TQ.qn ⟨(decide (v7.Key ≤ v19.Key)), H, (wk_mk [256] (SL.cons (eS rfl (eS rfl (eS rfl (eS rfl (eS rfl (eS rfl (eS rfl (eS rfl (eS rfl (eS rfl (eS rfl (eS rfl (eS rfl (eS rfl (eS rfl (eS rfl (eS rfl (eS rfl (eS rfl (eS rfl (eS rfl (eS rfl (eS rfl (eS rfl (eS rfl (eS rfl (eS rfl (eS rfl (eS rfl (eS rfl (eS rfl eZ))))))))))))))))))))))))))))))) rfl VWk.rfl (SL.cons (eS rfl (eS rfl (eS rfl (eS rfl (eS rfl (eS rfl (eS rfl (eS rfl (eS rfl (eS rfl (eS rfl (eS rfl (eS rfl (eS rfl (eS rfl (eS rfl (eS rfl (eS rfl (eS rfl (eS rfl (eS rfl (eS rfl (eS rfl (eS rfl (eS rfl (eS rfl (eS rfl (eS rfl (eS rfl (eS rfl (eS rfl (eS rfl eZ)))))))))))))))))))))))))))))))) rfl VWk.rfl (SL.cons (eS rfl (eS rfl (eS rfl (eS rfl (eS rfl (eS rfl (eS rfl (eS rfl (eS rfl (eS rfl (eS rfl (eS rfl (eS rfl (eS rfl (eS rfl (eS rfl (eS rfl (eS rfl (eS rfl (eS rfl (eS rfl (eS rfl (eS rfl (eS rfl (eS rfl (eS rfl (eS rfl (eS rfl (eS rfl (eS rfl (eS rfl (eS rfl (eS rfl eZ))))))))))))))))))))))))))))))))) rfl VWk.rfl (SL.cons (eS rfl (eS rfl (eS rfl (eS rfl (eS rfl (eS rfl (eS rfl (eS rfl (eS rfl (eS rfl (eS rfl (eS rfl (eS rfl (eS rfl (eS rfl (eS rfl (eS rfl (eS rfl (eS rfl (eS rfl (eS rfl (eS rfl (eS rfl (eS rfl (eS rfl (eS rfl (eS rfl (eS rfl (eS rfl (eS rfl (eS rfl (eS rfl (eS rfl (eS rfl eZ)))))))))))))))))))))))))))))))))) rfl VWk.rfl (SL.cons eZ rfl VWk.rfl SL.nil))))) (BL.drop rfl (BL.drop rfl BL.nil)) BK.nil)⟩
            · refine gSkip eZ (decide_eq_false h18) rfl ?_
              refine gSkip (eS rfl eZ) (decide_eq_false h18) rfl ?_
              refine gSkip (eS rfl (eS rfl eZ)) (decide_eq_false h18) rfl ?_
              refine gSkip (eS rfl (eS rfl (eS rfl eZ))) (decide_eq_false h18) rfl ?_
              refine gSkip (eS rfl (eS rfl (eS rfl (eS rfl eZ)))) (decide_eq_false h18) rfl ?_
              refine gSkip (eS rfl (eS rfl (eS rfl (eS rfl (eS rfl eZ))))) (decide_eq_false h18) rfl ?_
              refine gSkip (eS rfl (eS rfl (eS rfl (eS rfl (eS rfl (eS rfl eZ)))))) (decide_eq_false h18) rfl ?_
              refine gSkip (eS rfl (eS rfl (eS rfl (eS rfl (eS rfl (eS rfl (eS rfl eZ))))))) (decide_eq_false h18) rfl ?_
              refine gSkip (eS rfl (eS rfl (eS rfl (eS rfl (eS rfl (eS rfl (eS rfl (eS rfl eZ)))))))) (decide_eq_false h18) rfl ?_
              refine gDo (eS rfl (eS rfl (eS rfl (eS rfl (eS rfl (eS rfl (eS rfl (eS rfl (eS rfl (eS rfl (eS rfl (eS rfl eZ)))))))))))) (congrArg Bool.not h17) ?_
              refine oPickF (eS rfl (eS rfl (eS rfl (eS rfl (eS rfl (eS rfl (eS rfl (eS rfl (eS rfl eZ))))))))) (decide_eq_false h18) eC ?_
              refine oPickF (eS rfl (eS rfl (eS rfl (eS rfl (eS rfl (eS rfl (eS rfl (eS rfl (eS rfl (eS rfl (eS rfl (eS rfl (eS rfl eZ))))))))))))) (congrArg Bool.not h17) eZ ?_
              refine xNil ?_
              exact TQ.qn ⟨false, H, (wk_mk [256] (SL.cons (eS rfl (eS rfl (eS rfl (eS rfl (eS rfl (eS rfl (eS rfl (eS rfl (eS rfl (eS rfl (eS rfl (eS rfl (eS rfl (eS rfl (eS rfl (eS rfl (eS rfl (eS rfl (eS rfl (eS rfl (eS rfl (eS rfl (eS rfl (eS rfl (eS rfl (eS rfl (eS rfl (eS rfl (eS rfl (eS rfl (eS rfl eZ))))))))))))))))))))))))))))))) rfl VWk.rfl (SL.cons (eS rfl (eS rfl (eS rfl (eS rfl (eS rfl (eS rfl (eS rfl (eS rfl (eS rfl (eS rfl (eS rfl (eS rfl (eS rfl (eS rfl (eS rfl (eS rfl (eS rfl (eS rfl (eS rfl (eS rfl (eS rfl (eS rfl (eS rfl (eS rfl (eS rfl (eS rfl (eS rfl (eS rfl (eS rfl (eS rfl (eS rfl (eS rfl eZ)))))))))))))))))))))))))))))))) rfl VWk.rfl (SL.cons (eS rfl (eS rfl (eS rfl (eS rfl (eS rfl (eS rfl (eS rfl (eS rfl (eS rfl (eS rfl (eS rfl (eS rfl (eS rfl (eS rfl (eS rfl (eS rfl (eS rfl (eS rfl (eS rfl (eS rfl (eS rfl (eS rfl (eS rfl (eS rfl (eS rfl (eS rfl (eS rfl (eS rfl (eS rfl (eS rfl (eS rfl (eS rfl (eS rfl eZ))))))))))))))))))))))))))))))))) rfl VWk.rfl (SL.cons (eS rfl (eS rfl (eS rfl (eS rfl (eS rfl (eS rfl (eS rfl (eS rfl (eS rfl (eS rfl (eS rfl (eS rfl (eS rfl (eS rfl (eS rfl (eS rfl (eS rfl (eS rfl (eS rfl (eS rfl (eS rfl (eS rfl (eS rfl (eS rfl (eS rfl (eS rfl (eS rfl (eS rfl (eS rfl (eS rfl (eS rfl (eS rfl (eS rfl (eS rfl eZ)))))))))))))))))))))))))))))))))) rfl VWk.rfl (SL.cons eZ rfl VWk.rfl SL.nil))))) (BL.drop rfl (BL.drop rfl BL.nil)) BK.nil)⟩
          · refine gSkip eZ (congrArg Bool.not (nt h17)) rfl ?_
            refine gSkip (eS rfl eZ) (congrArg Bool.not (nt h17)) rfl ?_
            refine gSkip (eS rfl (eS rfl eZ)) (congrArg Bool.not (nt h17)) rfl ?_
            refine gSkipU eZ rfl ?_
            refine gSkipU (eS rfl eZ) rfl ?_
            refine gSkipU (eS rfl (eS rfl eZ)) rfl ?_
            refine gSkipU (eS rfl (eS rfl (eS rfl eZ))) rfl ?_
            refine gSkipU (eS rfl (eS rfl (eS rfl (eS rfl eZ)))) rfl ?_
            refine gSkipU (eS rfl (eS rfl (eS rfl (eS rfl (eS rfl eZ))))) rfl ?_
            refine gSkipU (eS rfl (eS rfl (eS rfl (eS rfl (eS rfl (eS rfl eZ)))))) rfl ?_
            refine gSkipU (eS rfl (eS rfl (eS rfl (eS rfl (eS rfl (eS rfl (eS rfl eZ))))))) rfl ?_
            refine gSkipU (eS rfl (eS rfl (eS rfl (eS rfl (eS rfl (eS rfl (eS rfl (eS rfl eZ)))))))) rfl ?_
            refine gSkip (eS rfl (eS rfl (eS rfl (eS rfl (eS rfl (eS rfl (eS rfl (eS rfl (eS rfl (eS rfl (eS rfl (eS rfl eZ)))))))))))) (congrArg Bool.not (nt h17)) rfl ?_
            refine oPickT (eS rfl (eS rfl (eS rfl (eS rfl (eS rfl (eS rfl (eS rfl (eS rfl (eS rfl (eS rfl (eS rfl (eS rfl (eS rfl eZ))))))))))))) (congrArg Bool.not (nt h17)) eC ?_
            refine xNil ?_
            exact TQ.qn ⟨true, H, (wk_mk [256] (SL.cons (eS rfl (eS rfl (eS rfl (eS rfl (eS rfl (eS rfl (eS rfl (eS rfl (eS rfl (eS rfl (eS rfl (eS rfl (eS rfl (eS rfl (eS rfl (eS rfl (eS rfl (eS rfl (eS rfl (eS rfl (eS rfl (eS rfl (eS rfl (eS rfl (eS rfl (eS rfl (eS rfl (eS rfl (eS rfl (eS rfl (eS rfl eZ))))))))))))))))))))))))))))))) rfl VWk.rfl (SL.cons (eS rfl (eS rfl (eS rfl (eS rfl (eS rfl (eS rfl (eS rfl (eS rfl (eS rfl (eS rfl (eS rfl (eS rfl (eS rfl (eS rfl (eS rfl (eS rfl (eS rfl (eS rfl (eS rfl (eS rfl (eS rfl (eS rfl (eS rfl (eS rfl (eS rfl (eS rfl (eS rfl (eS rfl (eS rfl (eS rfl (eS rfl (eS rfl eZ)))))))))))))))))))))))))))))))) rfl VWk.rfl (SL.cons (eS rfl (eS rfl (eS rfl (eS rfl (eS rfl (eS rfl (eS rfl (eS rfl (eS rfl (eS rfl (eS rfl (eS rfl (eS rfl (eS rfl (eS rfl (eS rfl (eS rfl (eS rfl (eS rfl (eS rfl (eS rfl (eS rfl (eS rfl (eS rfl (eS rfl (eS rfl (eS rfl (eS rfl (eS rfl (eS rfl (eS rfl (eS rfl (eS rfl eZ))))))))))))))))))))))))))))))))) rfl VWk.rfl (SL.cons (eS rfl (eS rfl (eS rfl (eS rfl (eS rfl (eS rfl (eS rfl (eS rfl (eS rfl (eS rfl (eS rfl (eS rfl (eS rfl (eS rfl (eS rfl (eS rfl (eS rfl (eS rfl (eS rfl (eS rfl (eS rfl (eS rfl (eS rfl (eS rfl (eS rfl (eS rfl (eS rfl (eS rfl (eS rfl (eS rfl (eS rfl (eS rfl (eS rfl (eS rfl eZ)))))))))))))))))))))))))))))))))) rfl VWk.rfl (SL.cons eZ rfl VWk.rfl SL.nil))))) (BL.drop rfl (BL.drop rfl BL.nil)) BK.nil)⟩
        · refine gSkip eZ (congrArg Bool.not (nt h14)) rfl ?_
          refine gSkip (eS rfl eZ) (congrArg Bool.not (nt h14)) rfl ?_
          refine gSkip (eS rfl (eS rfl eZ)) (congrArg Bool.not (nt h14)) rfl ?_
          refine gSkip (eS rfl (eS rfl (eS rfl eZ))) (congrArg Bool.not (nt h14)) rfl ?_
          refine oPickT (eS rfl (eS rfl (eS rfl (eS rfl eZ)))) (congrArg Bool.not (nt h14)) eC ?_
          refine oMov eZ ?_
          refine gSkip eZ rfl rfl ?_
          refine gSkip (eS rfl eZ) rfl rfl ?_
          refine gSkip (eS rfl (eS rfl eZ)) rfl rfl ?_
          refine gSkipU eZ rfl ?_
          refine gSkipU (eS rfl eZ) rfl ?_
          refine gSkipU (eS rfl (eS rfl eZ)) rfl ?_
          refine gSkipU (eS rfl (eS rfl (eS rfl eZ))) rfl ?_
          refine gSkipU (eS rfl (eS rfl (eS rfl (eS rfl eZ)))) rfl ?_
          refine gSkipU (eS rfl (eS rfl (eS rfl (eS rfl (eS rfl eZ))))) rfl ?_
          refine gSkipU (eS rfl (eS rfl (eS rfl (eS rfl (eS rfl (eS rfl eZ)))))) rfl ?_
          refine gSkipU (eS rfl (eS rfl (eS rfl (eS rfl (eS rfl (eS rfl (eS rfl eZ))))))) rfl ?_
          refine gSkipU (eS rfl (eS rfl (eS rfl (eS rfl (eS rfl (eS rfl (eS rfl (eS rfl eZ)))))))) rfl ?_
          refine gSkip (eS rfl (eS rfl (eS rfl (eS rfl (eS rfl (eS rfl (eS rfl (eS rfl (eS rfl (eS rfl (eS rfl (eS rfl eZ)))))))))))) rfl rfl ?_
          refine oPickT (eS rfl (eS rfl (eS rfl (eS rfl (eS rfl (eS rfl (eS rfl (eS rfl (eS rfl (eS rfl (eS rfl (eS rfl (eS rfl eZ))))))))))))) rfl eC ?_
          refine xNil ?_
          exact TQ.qn ⟨true, H, (wk_mk [256] (SL.cons (eS rfl (eS rfl (eS rfl (eS rfl (eS rfl (eS rfl (eS rfl (eS rfl (eS rfl (eS rfl (eS rfl (eS rfl (eS rfl (eS rfl (eS rfl (eS rfl (eS rfl (eS rfl (eS rfl (eS rfl (eS rfl (eS rfl (eS rfl (eS rfl (eS rfl (eS rfl (eS rfl (eS rfl (eS rfl (eS rfl (eS rfl eZ))))))))))))))))))))))))))))))) rfl VWk.rfl (SL.cons (eS rfl (eS rfl (eS rfl (eS rfl (eS rfl (eS rfl (eS rfl (eS rfl (eS rfl (eS rfl (eS rfl (eS rfl (eS rfl (eS rfl (eS rfl (eS rfl (eS rfl (eS rfl (eS rfl (eS rfl (eS rfl (eS rfl (eS rfl (eS rfl (eS rfl (eS rfl (eS rfl (eS rfl (eS rfl (eS rfl (eS rfl (eS rfl eZ)))))))))))))))))))))))))))))))) rfl VWk.rfl (SL.cons (eS rfl (eS rfl (eS rfl (eS rfl (eS rfl (eS rfl (eS rfl (eS rfl (eS rfl (eS rfl (eS rfl (eS rfl (eS rfl (eS rfl (eS rfl (eS rfl (eS rfl (eS rfl (eS rfl (eS rfl (eS rfl (eS rfl (eS rfl (eS rfl (eS rfl (eS rfl (eS rfl (eS rfl (eS rfl (eS rfl (eS rfl (eS rfl (eS rfl eZ))))))))))))))))))))))))))))))))) rfl VWk.rfl (SL.cons (eS rfl (eS rfl (eS rfl (eS rfl (eS rfl (eS rfl (eS rfl (eS rfl (eS rfl (eS rfl (eS rfl (eS rfl (eS rfl (eS rfl (eS rfl (eS rfl (eS rfl (eS rfl (eS rfl (eS rfl (eS rfl (eS rfl (eS rfl (eS rfl (eS rfl (eS rfl (eS rfl (eS rfl (eS rfl (eS rfl (eS rfl (eS rfl (eS rfl (eS rfl eZ)))))))))))))))))))))))))))))))))) rfl VWk.rfl (SL.cons eZ rfl VWk.rfl SL.nil))))) (BL.drop rfl (BL.drop rfl BL.nil)) BK.nil)⟩
    · refine AW.condF eZ (decide_eq_false h6) ?_
      refine AW.exit ?_
      refine TQ.qe ?_
      refine TQ.qe ?_
      refine BQ.qe ?_
      exact TQ.qn ⟨(), H, (wk_mk [] (SL.cons (eS rfl eZ) rfl VWk.rfl SL.nil) BL.nil BK.nil)⟩

theorem c_impl_SharesOk {a1 : (List TShare)} {r : Bool} (H : m_impl_SharesOk a1 = some r) : Fn Try.prog k_impl_SharesOk (lent [(.sl 4 (List.map d_TShare a1))]) true [(.bool r)] := by
  refine i_impl_SharesOk_fn (Nat.le_of_ble_eq_true rfl) ?_
  rw [init_mk]
  refine AW.weaken (wk_mk [] (SL.cons (v := (.one (.d (.sl 4 (List.map d_TShare a1))))) eZ rfl VWk.rfl SL.nil) BL.nil BK.nil) ?_
  unfold m_impl_SharesOk at H
  unfold i_impl_SharesOk
  refine AW.seq ?_
  refine AW.regs ?_
  refine oMov eC ?_
  refine xNil ?_
  refine TQ.qn ?_
  refine AW.seqJ (fun t2 : Unit => (impl_SharesOk_j2 a1) t2 = some r) (fun t2 => mk [(0, (.one (.d (.sl 4 (List.map d_TShare a1)))))] [] noG) ?_ ?_
  · intro t2 H
    unfold impl_SharesOk_j2 at H
    refine AW.seq ?_
    refine AW.regs ?_
    refine oMov eZ ?_
    refine oLenD eZ (n := a1.length) (List.length_map _) ?_
    refine oLeq eZ eC ?_
    refine oMov eZ ?_
    refine xNil ?_
    refine TQ.qn ?_
    refine AW.ret ?_
    obtain rfl := Option.some.inj H
    exact endsR (RL.cons (RV.tmp eZ) (VO.flat rfl) RL.nil) List.nodup_nil
  · refine AW.seq ?_
    refine AW.regs ?_
    refine oMov (eS rfl eZ) ?_
    refine oLenD eZ (n := a1.length) (List.length_map _) ?_
    refine oMov eC ?_
    refine xNil ?_
    refine TQ.qn ?_
    refine AW.block ?_
    refine AW.iter (fun s4 : Int => mk [(0, (.one (.d (.sl 4 (List.map d_TShare a1))))), (5, (.one (.d (.sl 4 (List.map d_TShare a1))))), (6, (.one (.d (.int .i64 (a1.length : Int))))), (7, (.one (.d (.int .i64 s4))))] [] noG) H (wk_mk [] (SL.cons (eS rfl (eS rfl (eS rfl (eS rfl eZ)))) rfl VWk.rfl (SL.cons (eS rfl (eS rfl eZ)) rfl VWk.rfl (SL.cons (eS rfl eZ) rfl VWk.rfl (SL.cons eZ rfl VWk.rfl SL.nil)))) BL.nil BK.nil) ?_
    intro kb5 s4 H
    unfold impl_SharesOk_b4 at H
    refine AW.seq ?_
    refine AW.regs ?_
    refine oLss (eS rfl (eS rfl (eS rfl eZ))) (eS rfl (eS rfl eZ)) ?_
    refine xNil ?_
    refine TQ.qn ?_
    refine AW.seq ?_
    rcases oite H with ⟨h6, H⟩ | ⟨h6, H⟩
    · refine AW.condT eZ (decide_eq_true h6) ?_
      refine AW.skip ?_
      refine TQ.qn ?_
      refine AW.seq ?_
      refine AW.block ?_
      refine AW.seq ?_
      refine AW.regs ?_
      refine oMov (eS rfl (eS rfl (eS rfl (eS rfl eZ)))) ?_
      obtain ⟨v7, h8, H⟩ := obind H
      refine oAtD (eS rfl (eS rfl (eS rfl eZ))) (eS rfl (eS rfl (eS rfl (eS rfl (eS rfl eZ))))) h8 ?_
      refine oLoadBA (es := [(.d (.int .i64 v7.Group)), (.d (.sl 2 (List.map d_TRange v7.Reads))), (.d (.sl 2 (List.map d_TCell v7.Writes))), (.d (.int .i64 v7.Vote))]) eZ rfl ?_
      refine oVar (n := 256) (m := 4) rfl rfl nZ ?_
      refine oMov (eS rfl (eS rfl (eS rfl eZ))) ?_
      refine oStoreV (es := [(.d (.int .i64 v7.Group)), (.d (.sl 2 (List.map d_TRange v7.Reads))), (.d (.sl 2 (List.map d_TCell v7.Writes))), (.d (.int .i64 v7.Vote))]) (eS rfl eZ) (eS rfl (eS rfl eZ)) rfl rfl bZ rfl ?_
      refine xNil ?_
      refine TQ.qn ?_
      refine AW.seqJ (fun t9 : Bool => (impl_SharesOk_j9 kb5 s4) t9 = some r) (fun t9 => mk [(0, (.one (.d (.sl 4 (List.map d_TShare a1))))), (5, (.one (.d (.sl 4 (List.map d_TShare a1))))), (6, (.one (.d (.int .i64 (a1.length : Int))))), (7, (.one (.d (.int .i64 s4)))), (48, (.one (.d (.bool t9))))] [] noG) ?_ ?_
      · intro t9 H
        unfold impl_SharesOk_j9 at H
        rcases oite H with ⟨h11, H⟩ | ⟨h11, H⟩
        · refine AW.condT (eS rfl (eS rfl (eS rfl (eS rfl eZ)))) h11 ?_
          refine AW.seq ?_
          refine AW.regs ?_
          refine oMov eC ?_
          refine xNil ?_
          refine TQ.qn ?_
          refine AW.ret ?_
          refine BQ.qr ?_
          refine TQ.qr ?_
          refine TQ.qr ?_
          refine BQ.qr ?_
          refine TQ.qr ?_
          obtain rfl := Option.some.inj H
          exact endsR (RL.cons (RV.tmp eZ) (VO.flat rfl) RL.nil) List.nodup_nil
        · refine AW.condF (eS rfl (eS rfl (eS rfl (eS rfl eZ)))) (nt h11) ?_
          refine AW.skip ?_
          refine BQ.qn ?_
          refine TQ.qn ?_
          refine AW.regs ?_
          refine oAdd (eS rfl (eS rfl (eS rfl eZ))) eC ?_
          refine oMov eZ ?_
          refine xNil ?_
          exact TQ.qn ⟨(IntKind.wrap .i64 (s4 + 1)), H, (wk_mk [] (SL.cons (eS rfl (eS rfl eZ)) rfl VWk.rfl (SL.cons (eS rfl (eS rfl (eS rfl eZ))) rfl VWk.rfl (SL.cons (eS rfl (eS rfl (eS rfl (eS rfl eZ)))) rfl VWk.rfl (SL.cons eZ rfl VWk.rfl SL.nil)))) BL.nil BK.nil)⟩
      · refine AW.regd ?_
        refine oFaddrN (m := 0) (eS rfl eZ) rfl ?_
        refine oLoadV (q := 0) (c := (.d (.int .i64 v7.Group))) eZ bZ rfl rfl ?_
        obtain ⟨v12, h13, H⟩ := obind H
        refine oCall (u := (.one (.d (.bool v12)))) eC Cl.fn (c_impl_isGroup h13) (Evs.cons eZ Evs.nil) (VDs.cons VD.plain VDs.nil) rfl ?_
        refine oInv eZ ?_
        refine oMov eZ ?_
        rcases oite H with ⟨h14, H⟩ | ⟨h14, H⟩
        · refine gDo eZ (congrArg Bool.not h14) ?_
          refine oMov (eS rfl (eS rfl (eS rfl (eS rfl (eS rfl eZ))))) ?_
          refine gDo (eS rfl eZ) (congrArg Bool.not h14) ?_
          refine oGtr eZ eC ?_
          refine gDo (eS rfl (eS rfl eZ)) (congrArg Bool.not h14) ?_
          refine oMov eZ ?_
          rcases oite H with ⟨h15, H⟩ | ⟨h15, H⟩
          · refine gDo eZ (decide_eq_true h15) ?_
            refine oMov (eS rfl (eS rfl (eS rfl (eS rfl (eS rfl (eS rfl (eS rfl (eS rfl (eS rfl (eS rfl (eS rfl (eS rfl (eS rfl (eS rfl eZ)))))))))))))) ?_
            refine gDo (eS rfl eZ) (decide_eq_true h15) ?_
            refine oMov (eS rfl (eS rfl (eS rfl (eS rfl (eS rfl (eS rfl (eS rfl (eS rfl (eS rfl eZ))))))))) ?_
            refine gDo (eS rfl (eS rfl eZ)) (decide_eq_true h15) ?_
            refine oSub eZ eC ?_
            refine gDo (eS rfl (eS rfl (eS rfl eZ))) (decide_eq_true h15) ?_
            obtain ⟨v16, h17, H⟩ := obind H
            refine oAtD (eS rfl (eS rfl eZ)) eZ h17 ?_
            refine gDo (eS rfl (eS rfl (eS rfl (eS rfl eZ)))) (decide_eq_true h15) ?_
            refine oFaddrB (m := 0) eZ rfl ?_
            refine gDo (eS rfl (eS rfl (eS rfl (eS rfl (eS rfl eZ))))) (decide_eq_true h15) ?_
            refine oLoadB (e := (.int .i64 v16.Group)) eZ rfl ?_
            refine gDo (eS rfl (eS rfl (eS rfl (eS rfl (eS rfl (eS rfl eZ)))))) (decide_eq_true h15) ?_
            refine oFaddrN (m := 0) (eS rfl (eS rfl (eS rfl (eS rfl (eS rfl (eS rfl (eS rfl (eS rfl (eS rfl (eS rfl (eS rfl (eS rfl (eS rfl (eS rfl (eS rfl eZ))))))))))))))) rfl ?_
            refine gDo (eS rfl (eS rfl (eS rfl (eS rfl (eS rfl (eS rfl (eS rfl eZ))))))) (decide_eq_true h15) ?_
            refine oLoadV (q := 0) (c := (.d (.int .i64 v7.Group))) eZ bZ rfl rfl ?_
            refine gDo (eS rfl (eS rfl (eS rfl (eS rfl (eS rfl (eS rfl (eS rfl (eS rfl eZ)))))))) (decide_eq_true h15) ?_
            refine oGeq (eS rfl (eS rfl eZ)) eZ ?_
            refine gDo (eS rfl (eS rfl (eS rfl (eS rfl (eS rfl (eS rfl (eS rfl (eS rfl (eS rfl (eS rfl (eS rfl (eS rfl eZ)))))))))))) (congrArg Bool.not h14) ?_
            refine oPickT (eS rfl (eS rfl (eS rfl (eS rfl (eS rfl (eS rfl (eS rfl (eS rfl (eS rfl eZ))))))))) (decide_eq_true h15) eZ ?_
            refine oPickF (eS rfl (eS rfl (eS rfl (eS rfl (eS rfl (eS rfl (eS rfl (eS rfl (eS rfl (eS rfl (eS rfl (eS rfl (eS rfl eZ))))))))))))) (congrArg Bool.not h14) eZ ?_
            refine oMov eZ ?_
            rcases oite H with ⟨h18, H⟩ | ⟨h18, H⟩
            · refine gSkip eZ (decide_eq_true h18) rfl ?_
              refine gSkip (eS rfl eZ) (decide_eq_true h18) rfl ?_
              refine gSkip (eS rfl (eS rfl eZ)) (decide_eq_true h18) rfl ?_
              refine gSkip (eS rfl (eS rfl (eS rfl eZ))) (decide_eq_true h18) rfl ?_
              refine oPickT (eS rfl (eS rfl (eS rfl (eS rfl eZ)))) (decide_eq_true h18) eC ?_
              refine oMov eZ ?_
              refine gSkip eZ rfl rfl ?_
              refine gSkip (eS rfl eZ) rfl rfl ?_
              refine gSkip (eS rfl (eS rfl eZ)) rfl rfl ?_
              refine gSkip (eS rfl (eS rfl (eS rfl eZ))) rfl rfl ?_
              refine oPickT (eS rfl (eS rfl (eS rfl (eS rfl eZ)))) rfl eC ?_
              refine oMov eZ ?_
              refine gSkip eZ rfl rfl ?_
              refine gSkip (eS rfl eZ) rfl rfl ?_
              refine gSkip (eS rfl (eS rfl eZ)) rfl rfl ?_
              refine gSkip (eS rfl (eS rfl (eS rfl eZ))) rfl rfl ?_
              refine oPickT (eS rfl (eS rfl (eS rfl (eS rfl eZ)))) rfl eC ?_
              refine xNil ?_
              exact TQ.qn ⟨true, H, (wk_mk [256] (SL.cons (eS rfl (eS rfl (eS rfl (eS rfl (eS rfl (eS rfl (eS rfl (eS rfl (eS rfl (eS rfl (eS rfl (eS rfl (eS rfl (eS rfl (eS rfl (eS rfl (eS rfl (eS rfl (eS rfl (eS rfl (eS rfl (eS rfl (eS rfl (eS rfl (eS rfl (eS rfl (eS rfl (eS rfl (eS rfl (eS rfl (eS rfl (eS rfl (eS rfl (eS rfl (eS rfl (eS rfl (eS rfl (eS rfl (eS rfl (eS rfl (eS rfl (eS rfl (eS rfl eZ))))))))))))))))))))))))))))))))))))))))))) rfl VWk.rfl (SL.cons (eS rfl (eS rfl (eS rfl (eS rfl (eS rfl (eS rfl (eS rfl (eS rfl (eS rfl (eS rfl (eS rfl (eS rfl (eS rfl (eS rfl (eS rfl (eS rfl (eS rfl (eS rfl (eS rfl (eS rfl (eS rfl (eS rfl (eS rfl (eS rfl (eS rfl (eS rfl (eS rfl (eS rfl (eS rfl (eS rfl (eS rfl (eS rfl (eS rfl (eS rfl (eS rfl (eS rfl (eS rfl (eS rfl (eS rfl (eS rfl (eS rfl (eS rfl (eS rfl (eS rfl eZ)))))))))))))))))))))))))))))))))))))))))))) rfl VWk.rfl (SL.cons (eS rfl (eS rfl (eS rfl (eS rfl (eS rfl (eS rfl (eS rfl (eS rfl (eS rfl (eS rfl (eS rfl (eS rfl (eS rfl (eS rfl (eS rfl (eS rfl (eS rfl (eS rfl (eS rfl (eS rfl (eS rfl (eS rfl (eS rfl (eS rfl (eS rfl (eS rfl (eS rfl (eS rfl (eS rfl (eS rfl (eS rfl (eS rfl (eS rfl (eS rfl (eS rfl (eS rfl (eS rfl (eS rfl (eS rfl (eS rfl (eS rfl (eS rfl (eS rfl (eS rfl (eS rfl eZ))))))))))))))))))))))))))))))))))))))))))))) rfl VWk.rfl (SL.cons (eS rfl (eS rfl (eS rfl (eS rfl (eS rfl (eS rfl (eS rfl (eS rfl (eS rfl (eS rfl (eS rfl (eS rfl (eS rfl (eS rfl (eS rfl (eS rfl (eS rfl (eS rfl (eS rfl (eS rfl (eS rfl (eS rfl (eS rfl (eS rfl (eS rfl (eS rfl (eS rfl (eS rfl (eS rfl (eS rfl (eS rfl (eS rfl (eS rfl (eS rfl (eS rfl (eS rfl (eS rfl (eS rfl (eS rfl (eS rfl (eS rfl (eS rfl (eS rfl (eS rfl (eS rfl (eS rfl eZ)))))))))))))))))))))))))))))))))))))))))))))) rfl VWk.rfl (SL.cons eZ rfl VWk.rfl SL.nil))))) (BL.drop rfl (BL.drop rfl BL.nil)) BK.nil)⟩
            · refine gDo eZ (decide_eq_false h18) ?_
              refine oFaddrN (m := 1) (eS rfl (eS rfl (eS rfl (eS rfl (eS rfl (eS rfl (eS rfl (eS rfl (eS rfl (eS rfl (eS rfl (eS rfl (eS rfl (eS rfl (eS rfl (eS rfl (eS rfl (eS rfl (eS rfl (eS rfl (eS rfl eZ))))))))))))))))))))) rfl ?_
              refine gDo (eS rfl eZ) (decide_eq_false h18) ?_
              refine oLoadV (q := 1) (c := (.d (.sl 2 (List.map d_TRange v7.Reads)))) eZ bZ rfl rfl ?_
              refine gDo (eS rfl (eS rfl eZ)) (decide_eq_false h18) ?_
              obtain ⟨v19, h20, H⟩ := obind H
              refine oCall (u := (.one (.d (.bool v19)))) eC Cl.fn (c_impl_readsOk h20) (Evs.cons eZ Evs.nil) (VDs.cons VD.plain VDs.nil) rfl ?_
              refine gDo (eS rfl (eS rfl (eS rfl eZ))) (decide_eq_false h18) ?_
              refine oInv eZ ?_
              refine oPickF (eS rfl (eS rfl (eS rfl (eS rfl eZ)))) (decide_eq_false h18) eZ ?_
              refine oMov eZ ?_
              rcases oite H with ⟨h21, H⟩ | ⟨h21, H⟩
              · refine gDo eZ (congrArg Bool.not h21) ?_
                refine oFaddrN (m := 2) (eS rfl (eS rfl (eS rfl (eS rfl (eS rfl (eS rfl (eS rfl (eS rfl (eS rfl (eS rfl (eS rfl (eS rfl (eS rfl (eS rfl (eS rfl (eS rfl (eS rfl (eS rfl (eS rfl (eS rfl (eS rfl (eS rfl (eS rfl (eS rfl (eS rfl (eS rfl (eS rfl eZ))))))))))))))))))))))))))) rfl ?_
                refine gDo (eS rfl eZ) (congrArg Bool.not h21) ?_
                refine oLoadV (q := 2) (c := (.d (.sl 2 (List.map d_TCell v7.Writes)))) eZ bZ rfl rfl ?_
                refine gDo (eS rfl (eS rfl eZ)) (congrArg Bool.not h21) ?_
                obtain ⟨v22, h23, H⟩ := obind H
                refine oCall (u := (.one (.d (.bool v22)))) eC Cl.fn (c_impl_WritesOk h23) (Evs.cons eZ Evs.nil) (VDs.cons VD.plain VDs.nil) rfl ?_
                refine gDo (eS rfl (eS rfl (eS rfl eZ))) (congrArg Bool.not h21) ?_
                refine oInv eZ ?_
                refine oPickF (eS rfl (eS rfl (eS rfl (eS rfl eZ)))) (congrArg Bool.not h21) eZ ?_
                refine oMov eZ ?_
                rcases oite H with ⟨h24, H⟩ | ⟨h24, H⟩
                · refine gDo eZ (congrArg Bool.not h24) ?_
                  refine oFaddrN (m := 3) (eS rfl (eS rfl (eS rfl (eS rfl (eS rfl (eS rfl (eS rfl (eS rfl (eS rfl (eS rfl (eS rfl (eS rfl (eS rfl (eS rfl (eS rfl (eS rfl (eS rfl (eS rfl (eS rfl (eS rfl (eS rfl (eS rfl (eS rfl (eS rfl (eS rfl (eS rfl (eS rfl (eS rfl (eS rfl (eS rfl (eS rfl (eS rfl (eS rfl eZ))))))))))))))))))))))))))))))))) rfl ?_
                  refine gDo (eS rfl eZ) (congrArg Bool.not h24) ?_
                  refine oLoadV (q := 3) (c := (.d (.int .i64 v7.Vote))) eZ bZ rfl rfl ?_
                  refine gDo (eS rfl (eS rfl eZ)) (congrArg Bool.not h24) ?_
                  obtain ⟨v25, h26, H⟩ := obind H
                  refine oCall (u := (.one (.d (.bool v25)))) eC Cl.fn (c_impl_from h26) (Evs.cons eZ (Evs.cons eC (Evs.cons eC Evs.nil))) (VDs.cons VD.plain (VDs.cons VD.plain (VDs.cons VD.plain VDs.nil))) rfl ?_
                  refine gDo (eS rfl (eS rfl (eS rfl eZ))) (congrArg Bool.not h24) ?_
                  refine oInv eZ ?_
                  refine oPickF (eS rfl (eS rfl (eS rfl (eS rfl eZ)))) (congrArg Bool.not h24) eZ ?_
                  refine xNil ?_
                  exact TQ.qn ⟨(!v25), H, (wk_mk [256] (SL.cons (eS rfl (eS rfl (eS rfl (eS rfl (eS rfl (eS rfl (eS rfl (eS rfl (eS rfl (eS rfl (eS rfl (eS rfl (eS rfl (eS rfl (eS rfl (eS rfl (eS rfl (eS rfl (eS rfl (eS rfl (eS rfl (eS rfl (eS rfl (eS rfl (eS rfl (eS rfl (eS rfl (eS rfl (eS rfl (eS rfl (eS rfl (eS rfl (eS rfl (eS rfl (eS rfl (eS rfl (eS rfl (eS rfl (eS rfl (eS rfl (eS rfl (eS rfl (eS rfl eZ))))))))))))))))))))))))))))))))))))))))))) rfl VWk.rfl (SL.cons (eS rfl (eS rfl (eS rfl (eS rfl (eS rfl (eS rfl (eS rfl (eS rfl (eS rfl (eS rfl (eS rfl (eS rfl (eS rfl (eS rfl (eS rfl (eS rfl (eS rfl (eS rfl (eS rfl (eS rfl (eS rfl (eS rfl (eS rfl (eS rfl (eS rfl (eS rfl (eS rfl (eS rfl (eS rfl (eS rfl (eS rfl (eS rfl (eS rfl (eS rfl (eS rfl (eS rfl (eS rfl (eS rfl (eS rfl (eS rfl (eS rfl (eS rfl (eS rfl (eS rfl eZ)))))))))))))))))))))))))))))))))))))))))))) rfl VWk.rfl (SL.cons (eS rfl (eS rfl (eS rfl (eS rfl (eS rfl (eS rfl (eS rfl (eS rfl (eS rfl (eS rfl (eS rfl (eS rfl (eS rfl (eS rfl (eS rfl (eS rfl (eS rfl (eS rfl (eS rfl (eS rfl (eS rfl (eS rfl (eS rfl (eS rfl (eS rfl (eS rfl (eS rfl (eS rfl (eS rfl (eS rfl (eS rfl (eS rfl (eS rfl (eS rfl (eS rfl (eS rfl (eS rfl (eS rfl (eS rfl (eS rfl (eS rfl (eS rfl (eS rfl (eS rfl (eS rfl eZ))))))))))))))))))))))))))))))))))))))))))))) rfl VWk.rfl (SL.cons (eS rfl (eS rfl (eS rfl (eS rfl (eS rfl (eS rfl (eS rfl (eS rfl (eS rfl (eS rfl (eS rfl (eS rfl (eS rfl (eS rfl (eS rfl (eS rfl (eS rfl (eS rfl (eS rfl (eS rfl (eS rfl (eS rfl (eS rfl (eS rfl (eS rfl (eS rfl (eS rfl (eS rfl (eS rfl (eS rfl (eS rfl (eS rfl (eS rfl (eS rfl (eS rfl (eS rfl (eS rfl (eS rfl (eS rfl (eS rfl (eS rfl (eS rfl (eS rfl (eS rfl (eS rfl (eS rfl eZ)))))))))))))))))))))))))))))))))))))))))))))) rfl VWk.rfl (SL.cons eZ rfl VWk.rfl SL.nil))))) (BL.drop rfl (BL.drop rfl BL.nil)) BK.nil)⟩
                · refine gSkip eZ (congrArg Bool.not (nt h24)) rfl ?_
                  refine gSkip (eS rfl eZ) (congrArg Bool.not (nt h24)) rfl ?_
                  refine gSkip (eS rfl (eS rfl eZ)) (congrArg Bool.not (nt h24)) rfl ?_
                  refine gSkip (eS rfl (eS rfl (eS rfl eZ))) (congrArg Bool.not (nt h24)) rfl ?_
                  refine oPickT (eS rfl (eS rfl (eS rfl (eS rfl eZ)))) (congrArg Bool.not (nt h24)) eC ?_
                  refine xNil ?_
                  exact TQ.qn ⟨true, H, (wk_mk [256] (SL.cons (eS rfl (eS rfl (eS rfl (eS rfl (eS rfl (eS rfl (eS rfl (eS rfl (eS rfl (eS rfl (eS rfl (eS rfl (eS rfl (eS rfl (eS rfl (eS rfl (eS rfl (eS rfl (eS rfl (eS rfl (eS rfl (eS rfl (eS rfl (eS rfl (eS rfl (eS rfl (eS rfl (eS rfl (eS rfl (eS rfl (eS rfl (eS rfl (eS rfl (eS rfl (eS rfl (eS rfl (eS rfl (eS rfl (eS rfl (eS rfl (eS rfl (eS rfl (eS rfl eZ))))))))))))))))))))))))))))))))))))))))))) rfl VWk.rfl (SL.cons (eS rfl (eS rfl (eS rfl (eS rfl (eS rfl (eS rfl (eS rfl (eS rfl (eS rfl (eS rfl (eS rfl (eS rfl (eS rfl (eS rfl (eS rfl (eS rfl (eS rfl (eS rfl (eS rfl (eS rfl (eS rfl (eS rfl (eS rfl (eS rfl (eS rfl (eS rfl (eS rfl (eS rfl (eS rfl (eS rfl (eS rfl (eS rfl (eS rfl (eS rfl (eS rfl (eS rfl (eS rfl (eS rfl (eS rfl (eS rfl (eS rfl (eS rfl (eS rfl (eS rfl eZ)))))))))))))))))))))))))))))))))))))))))))) rfl VWk.rfl (SL.cons (eS rfl (eS rfl (eS rfl (eS rfl (eS rfl (eS rfl (eS rfl (eS rfl (eS rfl (eS rfl (eS rfl (eS rfl (eS rfl (eS rfl (eS rfl (eS rfl (eS rfl (eS rfl (eS rfl (eS rfl (eS rfl (eS rfl (eS rfl (eS rfl (eS rfl (eS rfl (eS rfl (eS rfl (eS rfl (eS rfl (eS rfl (eS rfl (eS rfl (eS rfl (eS rfl (eS rfl (eS rfl (eS rfl (eS rfl (eS rfl (eS rfl (eS rfl (eS rfl (eS rfl (eS rfl eZ))))))))))))))))))))))))))))))))))))))))))))) rfl VWk.rfl (SL.cons (eS rfl (eS rfl (eS rfl (eS rfl (eS rfl (eS rfl (eS rfl (eS rfl (eS rfl (eS rfl (eS rfl (eS rfl (eS rfl (eS rfl (eS rfl (eS rfl (eS rfl (eS rfl (eS rfl (eS rfl (eS rfl (eS rfl (eS rfl (eS rfl (eS rfl (eS rfl (eS rfl (eS rfl (eS rfl (eS rfl (eS rfl (eS rfl (eS rfl (eS rfl (eS rfl (eS rfl (eS rfl (eS rfl (eS rfl (eS rfl (eS rfl (eS rfl (eS rfl (eS rfl (eS rfl (eS rfl eZ)))))))))))))))))))))))))))))))))))))))))))))) rfl VWk.rfl (SL.cons eZ rfl VWk.rfl SL.nil))))) (BL.drop rfl (BL.drop rfl BL.nil)) BK.nil)⟩
              · refine gSkip eZ (congrArg Bool.not (nt h21)) rfl ?_
                refine gSkip (eS rfl eZ) (congrArg Bool.not (nt h21)) rfl ?_
                refine gSkip (eS rfl (eS rfl eZ)) (congrArg Bool.not (nt h21)) rfl ?_
                refine gSkip (eS rfl (eS rfl (eS rfl eZ))) (congrArg Bool.not (nt h21)) rfl ?_
                refine oPickT (eS rfl (eS rfl (eS rfl (eS rfl eZ)))) (congrArg Bool.not (nt h21)) eC ?_
                refine oMov eZ ?_
                refine gSkip eZ rfl rfl ?_
                refine gSkip (eS rfl eZ) rfl rfl ?_
                refine gSkip (eS rfl (eS rfl eZ)) rfl rfl ?_
                refine gSkip (eS rfl (eS rfl (eS rfl eZ))) rfl rfl ?_
                refine oPickT (eS rfl (eS rfl (eS rfl (eS rfl eZ)))) rfl eC ?_
                refine xNil ?_
                exact TQ.qn ⟨true, H, (wk_mk [256] (SL.cons (eS rfl (eS rfl (eS rfl (eS rfl (eS rfl (eS rfl (eS rfl (eS rfl (eS rfl (eS rfl (eS rfl (eS rfl (eS rfl (eS rfl (eS rfl (eS rfl (eS rfl (eS rfl (eS rfl (eS rfl (eS rfl (eS rfl (eS rfl (eS rfl (eS rfl (eS rfl (eS rfl (eS rfl (eS rfl (eS rfl (eS rfl (eS rfl (eS rfl (eS rfl (eS rfl (eS rfl (eS rfl (eS rfl (eS rfl (eS rfl (eS rfl (eS rfl (eS rfl eZ))))))))))))))))))))))))))))))))))))))))))) rfl VWk.rfl (SL.cons (eS rfl (eS rfl (eS rfl (eS rfl (eS rfl (eS rfl (eS rfl (eS rfl (eS rfl (eS rfl (eS rfl (eS rfl (eS rfl (eS rfl (eS rfl (eS rfl (eS rfl (eS rfl (eS rfl (eS rfl (eS rfl (eS rfl (eS rfl (eS rfl (eS rfl (eS rfl (eS rfl (eS rfl (eS rfl (eS rfl (eS rfl (eS rfl (eS rfl (eS rfl (eS rfl (eS rfl (eS rfl (eS rfl (eS rfl (eS rfl (eS rfl (eS rfl (eS rfl (eS rfl eZ)))))))))))))))))))))))))))))))))))))))))))) rfl VWk.rfl (SL.cons (eS rfl (eS rfl (eS rfl (eS rfl (eS rfl (eS rfl (eS rfl (eS rfl (eS rfl (eS rfl (eS rfl (eS rfl (eS rfl (eS rfl (eS rfl (eS rfl (eS rfl (eS rfl (eS rfl (eS rfl (eS rfl (eS rfl (eS rfl (eS rfl (eS rfl (eS rfl (eS rfl (eS rfl (eS rfl (eS rfl (eS rfl (eS rfl (eS rfl (eS rfl (eS rfl (eS rfl (eS rfl (eS rfl (eS rfl (eS rfl (eS rfl (eS rfl (eS rfl (eS rfl (eS rfl eZ))))))))))))))))))))))))))))))))))))))))))))) rfl VWk.rfl (SL.cons (eS rfl (eS rfl (eS rfl (eS rfl (eS rfl (eS rfl (eS rfl (eS rfl (eS rfl (eS rfl (eS rfl (eS rfl (eS rfl (eS rfl (eS rfl (eS rfl (eS rfl (eS rfl (eS rfl (eS rfl (eS rfl (eS rfl (eS rfl (eS rfl (eS rfl (eS rfl (eS rfl (eS rfl (eS rfl (eS rfl (eS rfl (eS rfl (eS rfl (eS rfl (eS rfl (eS rfl (eS rfl (eS rfl (eS rfl (eS rfl (eS rfl (eS rfl (eS rfl (eS rfl (eS rfl (eS rfl eZ)))))))))))))))))))))))))))))))))))))))))))))) rfl VWk.rfl (SL.cons eZ rfl VWk.rfl SL.nil))))) (BL.drop rfl (BL.drop rfl BL.nil)) BK.nil)⟩
          · refine gSkip eZ (decide_eq_false h15) rfl ?_
            refine gSkip (eS rfl eZ) (decide_eq_false h15) rfl ?_
            refine gSkip (eS rfl (eS rfl eZ)) (decide_eq_false h15) rfl ?_
            refine gSkip (eS rfl (eS rfl (eS rfl eZ))) (decide_eq_false h15) rfl ?_
            refine gSkip (eS rfl (eS rfl (eS rfl (eS rfl eZ)))) (decide_eq_false h15) rfl ?_
            refine gSkip (eS rfl (eS rfl (eS rfl (eS rfl (eS rfl eZ))))) (decide_eq_false h15) rfl ?_
            refine gSkip (eS rfl (eS rfl (eS rfl (eS rfl (eS rfl (eS rfl eZ)))))) (decide_eq_false h15) rfl ?_
            refine gSkip (eS rfl (eS rfl (eS rfl (eS rfl (eS rfl (eS rfl (eS rfl eZ))))))) (decide_eq_false h15) rfl ?_
            refine gSkip (eS rfl (eS rfl (eS rfl (eS rfl (eS rfl (eS rfl (eS rfl (eS rfl eZ)))))))) (decide_eq_false h15) rfl ?_
            refine gDo (eS rfl (eS rfl (eS rfl (eS rfl (eS rfl (eS rfl (eS rfl (eS rfl (eS rfl (eS rfl (eS rfl (eS rfl eZ)))))))))))) (congrArg Bool.not h14) ?_
            refine oPickF (eS rfl (eS rfl (eS rfl (eS rfl (eS rfl (eS rfl (eS rfl (eS rfl (eS rfl eZ))))))))) (decide_eq_false h15) eC ?_
            refine oPickF (eS rfl (eS rfl (eS rfl (eS rfl (eS rfl (eS rfl (eS rfl (eS rfl (eS rfl (eS rfl (eS rfl (eS rfl (eS rfl eZ))))))))))))) (congrArg Bool.not h14) eZ ?_
            refine oMov eZ ?_
            refine gDo eZ rfl ?_
            refine oFaddrN (m := 1) (eS rfl (eS rfl (eS rfl (eS rfl (eS rfl (eS rfl (eS rfl (eS rfl (eS rfl (eS rfl (eS rfl (eS rfl (eS rfl (eS rfl (eS rfl (eS rfl (eS rfl (eS rfl (eS rfl (eS rfl (eS rfl eZ))))))))))))))))))))) rfl ?_
            refine gDo (eS rfl eZ) rfl ?_
            refine oLoadV (q := 1) (c := (.d (.sl 2 (List.map d_TRange v7.Reads)))) eZ bZ rfl rfl ?_
            refine gDo (eS rfl (eS rfl eZ)) rfl ?_
            obtain ⟨v27, h28, H⟩ := obind H
            refine oCall (u := (.one (.d (.bool v27)))) eC Cl.fn (c_impl_readsOk h28) (Evs.cons eZ Evs.nil) (VDs.cons VD.plain VDs.nil) rfl ?_
            refine gDo (eS rfl (eS rfl (eS rfl eZ))) rfl ?_
            refine oInv eZ ?_
            refine oPickF (eS rfl (eS rfl (eS rfl (eS rfl eZ)))) rfl eZ ?_
            refine oMov eZ ?_
            rcases oite H with ⟨h29, H⟩ | ⟨h29, H⟩
            · refine gDo eZ (congrArg Bool.not h29) ?_
              refine oFaddrN (m := 2) (eS rfl (eS rfl (eS rfl (eS rfl (eS rfl (eS rfl (eS rfl (eS rfl (eS rfl (eS rfl (eS rfl (eS rfl (eS rfl (eS rfl (eS rfl (eS rfl (eS rfl (eS rfl (eS rfl (eS rfl (eS rfl (eS rfl (eS rfl (eS rfl (eS rfl (eS rfl (eS rfl eZ))))))))))))))))))))))))))) rfl ?_
              refine gDo (eS rfl eZ) (congrArg Bool.not h29) ?_
              refine oLoadV (q := 2) (c := (.d (.sl 2 (List.map d_TCell v7.Writes)))) eZ bZ rfl rfl ?_
              refine gDo (eS rfl (eS rfl eZ)) (congrArg Bool.not h29) ?_
              obtain ⟨v30, h31, H⟩ := obind H
              refine oCall (u := (.one (.d (.bool v30)))) eC Cl.fn (c_impl_WritesOk h31) (Evs.cons eZ Evs.nil) (VDs.cons VD.plain VDs.nil) rfl ?_
              refine gDo (eS rfl (eS rfl (eS rfl eZ))) (congrArg Bool.not h29) ?_
              refine oInv eZ ?_
              refine oPickF (eS rfl (eS rfl (eS rfl (eS rfl eZ)))) (congrArg Bool.not h29) eZ ?_
              refine oMov eZ ?_
              rcases oite H with ⟨h32, H⟩ | ⟨h32, H⟩
              · refine gDo eZ (congrArg Bool.not h32) ?_
                refine oFaddrN (m := 3) (eS rfl (eS rfl (eS rfl (eS rfl (eS rfl (eS rfl (eS rfl (eS rfl (eS rfl (eS rfl (eS rfl (eS rfl (eS rfl (eS rfl (eS rfl (eS rfl (eS rfl (eS rfl (eS rfl (eS rfl (eS rfl (eS rfl (eS rfl (eS rfl (eS rfl (eS rfl (eS rfl (eS rfl (eS rfl (eS rfl (eS rfl (eS rfl (eS rfl eZ))))))))))))))))))))))))))))))))) rfl ?_
                refine gDo (eS rfl eZ) (congrArg Bool.not h32) ?_
                refine oLoadV (q := 3) (c := (.d (.int .i64 v7.Vote))) eZ bZ rfl rfl ?_
                refine gDo (eS rfl (eS rfl eZ)) (congrArg Bool.not h32) ?_
                obtain ⟨v33, h34, H⟩ := obind H
                refine oCall (u := (.one (.d (.bool v33)))) eC Cl.fn (c_impl_from h34) (Evs.cons eZ (Evs.cons eC (Evs.cons eC Evs.nil))) (VDs.cons VD.plain (VDs.cons VD.plain (VDs.cons VD.plain VDs.nil))) rfl ?_
                refine gDo (eS rfl (eS rfl (eS rfl eZ))) (congrArg Bool.not h32) ?_
                refine oInv eZ ?_
                refine oPickF (eS rfl (eS rfl (eS rfl (eS rfl eZ)))) (congrArg Bool.not h32) eZ ?_
                refine xNil ?_
                exact TQ.qn ⟨(!v33), H, (wk_mk [256] (SL.cons (eS rfl (eS rfl (eS rfl (eS rfl (eS rfl (eS rfl (eS rfl (eS rfl (eS rfl (eS rfl (eS rfl (eS rfl (eS rfl (eS rfl (eS rfl (eS rfl (eS rfl (eS rfl (eS rfl (eS rfl (eS rfl (eS rfl (eS rfl (eS rfl (eS rfl (eS rfl (eS rfl (eS rfl (eS rfl (eS rfl (eS rfl (eS rfl (eS rfl (eS rfl (eS rfl (eS rfl (eS rfl (eS rfl (eS rfl (eS rfl (eS rfl (eS rfl (eS rfl eZ))))))))))))))))))))))))))))))))))))))))))) rfl VWk.rfl (SL.cons (eS rfl (eS rfl (eS rfl (eS rfl (eS rfl (eS rfl (eS rfl (eS rfl (eS rfl (eS rfl (eS rfl (eS rfl (eS rfl (eS rfl (eS rfl (eS rfl (eS rfl (eS rfl (eS rfl (eS rfl (eS rfl (eS rfl (eS rfl (eS rfl (eS rfl (eS rfl (eS rfl (eS rfl (eS rfl (eS rfl (eS rfl (eS rfl (eS rfl (eS rfl (eS rfl (eS rfl (eS rfl (eS rfl (eS rfl (eS rfl (eS rfl (eS rfl (eS rfl (eS rfl eZ)))))))))))))))))))))))))))))))))))))))))))) rfl VWk.rfl (SL.cons (eS rfl (eS rfl (eS rfl (eS rfl (eS rfl (eS rfl (eS rfl (eS rfl (eS rfl (eS rfl (eS rfl (eS rfl (eS rfl (eS rfl (eS rfl (eS rfl (eS rfl (eS rfl (eS rfl (eS rfl (eS rfl (eS rfl (eS rfl (eS rfl (eS rfl (eS rfl (eS rfl (eS rfl (eS rfl (eS rfl (eS rfl (eS rfl (eS rfl (eS rfl (eS rfl (eS rfl (eS rfl (eS rfl (eS rfl (eS rfl (eS rfl (eS rfl (eS rfl (eS rfl (eS rfl eZ))))))))))))))))))))))))))))))))))))))))))))) rfl VWk.rfl (SL.cons (eS rfl (eS rfl (eS rfl (eS rfl (eS rfl (eS rfl (eS rfl (eS rfl (eS rfl (eS rfl (eS rfl (eS rfl (eS rfl (eS rfl (eS rfl (eS rfl (eS rfl (eS rfl (eS rfl (eS rfl (eS rfl (eS rfl (eS rfl (eS rfl (eS rfl (eS rfl (eS rfl (eS rfl (eS rfl (eS rfl (eS rfl (eS rfl (eS rfl (eS rfl (eS rfl (eS rfl (eS rfl (eS rfl (eS rfl (eS rfl (eS rfl (eS rfl (eS rfl (eS rfl (eS rfl (eS rfl eZ)))))))))))))))))))))))))))))))))))))))))))))) rfl VWk.rfl (SL.cons eZ rfl VWk.rfl SL.nil))))) (BL.drop rfl (BL.drop rfl BL.nil)) BK.nil)⟩
              · refine gSkip eZ (congrArg Bool.not (nt h32)) rfl ?_
                refine gSkip (eS rfl eZ) (congrArg Bool.not (nt h32)) rfl ?_
                refine gSkip (eS rfl (eS rfl eZ)) (congrArg Bool.not (nt h32)) rfl ?_
                refine gSkip (eS rfl (eS rfl (eS rfl eZ))) (congrArg Bool.not (nt h32)) rfl ?_
                refine oPickT (eS rfl (eS rfl (eS rfl (eS rfl eZ)))) (congrArg Bool.not (nt h32)) eC ?_
                refine xNil ?_
                exact TQ.qn ⟨true, H, (wk_mk [256] (SL.cons (eS rfl (eS rfl (eS rfl (eS rfl (eS rfl (eS rfl (eS rfl (eS rfl (eS rfl (eS rfl (eS rfl (eS rfl (eS rfl (eS rfl (eS rfl (eS rfl (eS rfl (eS rfl (eS rfl (eS rfl (eS rfl (eS rfl (eS rfl (eS rfl (eS rfl (eS rfl (eS rfl (eS rfl (eS rfl (eS rfl (eS rfl (eS rfl (eS rfl (eS rfl (eS rfl (eS rfl (eS rfl (eS rfl (eS rfl (eS rfl (eS rfl (eS rfl (eS rfl eZ))))))))))))))))))))))))))))))))))))))))))) rfl VWk.rfl (SL.cons (eS rfl (eS rfl (eS rfl (eS rfl (eS rfl (eS rfl (eS rfl (eS rfl (eS rfl (eS rfl (eS rfl (eS rfl (eS rfl (eS rfl (eS rfl (eS rfl (eS rfl (eS rfl (eS rfl (eS rfl (eS rfl (eS rfl (eS rfl (eS rfl (eS rfl (eS rfl (eS rfl (eS rfl (eS rfl (eS rfl (eS rfl (eS rfl (eS rfl (eS rfl (eS rfl (eS rfl (eS rfl (eS rfl (eS rfl (eS rfl (eS rfl (eS rfl (eS rfl (eS rfl eZ)))))))))))))))))))))))))))))))))))))))))))) rfl VWk.rfl (SL.cons (eS rfl (eS rfl (eS rfl (eS rfl (eS rfl (eS rfl (eS rfl (eS rfl (eS rfl (eS rfl (eS rfl (eS rfl (eS rfl (eS rfl (eS rfl (eS rfl (eS rfl (eS rfl (eS rfl (eS rfl (eS rfl (eS rfl (eS rfl (eS rfl (eS rfl (eS rfl (eS rfl (eS rfl (eS rfl (eS rfl (eS rfl (eS rfl (eS rfl (eS rfl (eS rfl (eS rfl (eS rfl (eS rfl (eS rfl (eS rfl (eS rfl (eS rfl (eS rfl (eS rfl (eS rfl eZ))))))))))))))))))))))))))))))))))))))))))))) rfl VWk.rfl (SL.cons (eS rfl (eS rfl (eS rfl (eS rfl (eS rfl (eS rfl (eS rfl (eS rfl (eS rfl (eS rfl (eS rfl (eS rfl (eS rfl (eS rfl (eS rfl (eS rfl (eS rfl (eS rfl (eS rfl (eS rfl (eS rfl (eS rfl (eS rfl (eS rfl (eS rfl (eS rfl (eS rfl (eS rfl (eS rfl (eS rfl (eS rfl (eS rfl (eS rfl (eS rfl (eS rfl (eS rfl (eS rfl (eS rfl (eS rfl (eS rfl (eS rfl (eS rfl (eS rfl (eS rfl (eS rfl (eS rfl eZ)))))))))))))))))))))))))))))))))))))))))))))) rfl VWk.rfl (SL.cons eZ rfl VWk.rfl SL.nil))))) (BL.drop rfl (BL.drop rfl BL.nil)) BK.nil)⟩
            · refine gSkip eZ (congrArg Bool.not (nt h29)) rfl ?_
              refine gSkip (eS rfl eZ) (congrArg Bool.not (nt h29)) rfl ?_
              refine gSkip (eS rfl (eS rfl eZ)) (congrArg Bool.not (nt h29)) rfl ?_
              refine gSkip (eS rfl (eS rfl (eS rfl eZ))) (congrArg Bool.not (nt h29)) rfl ?_
              refine oPickT (eS rfl (eS rfl (eS rfl (eS rfl eZ)))) (congrArg Bool.not (nt h29)) eC ?_
              refine oMov eZ ?_
              refine gSkip eZ rfl rfl ?_
              refine gSkip (eS rfl eZ) rfl rfl ?_
              refine gSkip (eS rfl (eS rfl eZ)) rfl rfl ?_
              refine gSkip (eS rfl (eS rfl (eS rfl eZ))) rfl rfl ?_
              refine oPickT (eS rfl (eS rfl (eS rfl (eS rfl eZ)))) rfl eC ?_
              refine xNil ?_
              exact TQ.qn ⟨true, H, (wk_mk [256] (SL.cons (eS rfl (eS rfl (eS rfl (eS rfl (eS rfl (eS rfl (eS rfl (eS rfl (eS rfl (eS rfl (eS rfl (eS rfl (eS rfl (eS rfl (eS rfl (eS rfl (eS rfl (eS rfl (eS rfl (eS rfl (eS rfl (eS rfl (eS rfl (eS rfl (eS rfl (eS rfl (eS rfl (eS rfl (eS rfl (eS rfl (eS rfl (eS rfl (eS rfl (eS rfl (eS rfl (eS rfl (eS rfl (eS rfl (eS rfl (eS rfl (eS rfl (eS rfl (eS rfl eZ))))))))))))))))))))))))))))))))))))))))))) rfl VWk.rfl (SL.cons (eS rfl (eS rfl (eS rfl (eS rfl (eS rfl (eS rfl (eS rfl (eS rfl (eS rfl (eS rfl (eS rfl (eS rfl (eS rfl (eS rfl (eS rfl (eS rfl (eS rfl (eS rfl (eS rfl (eS rfl (eS rfl (eS rfl (eS rfl (eS rfl (eS rfl (eS rfl (eS rfl (eS rfl (eS rfl (eS rfl (eS rfl (eS rfl (eS rfl (eS rfl (eS rfl (eS rfl (eS rfl (eS rfl (eS rfl (eS rfl (eS rfl (eS rfl (eS rfl (eS rfl eZ)))))))))))))))))))))))))))))))))))))))))))) rfl VWk.rfl (SL.cons (eS rfl (eS rfl (eS rfl (eS rfl (eS rfl (eS rfl (eS rfl (eS rfl (eS rfl (eS rfl (eS rfl (eS rfl (eS rfl (eS rfl (eS rfl (eS rfl (eS rfl (eS rfl (eS rfl (eS rfl (eS rfl (eS rfl (eS rfl (eS rfl (eS rfl (eS rfl (eS rfl (eS rfl (eS rfl (eS rfl (eS rfl (eS rfl (eS rfl (eS rfl (eS rfl (eS rfl (eS rfl (eS rfl (eS rfl (eS rfl (eS rfl (eS rfl (eS rfl (eS rfl (eS rfl eZ))))))))))))))))))))))))))))))))))))))))))))) rfl VWk.rfl (SL.cons (eS rfl (eS rfl (eS rfl (eS rfl (eS rfl (eS rfl (eS rfl (eS rfl (eS rfl (eS rfl (eS rfl (eS rfl (eS rfl (eS rfl (eS rfl (eS rfl (eS rfl (eS rfl (eS rfl (eS rfl (eS rfl (eS rfl (eS rfl (eS rfl (eS rfl (eS rfl (eS rfl (eS rfl (eS rfl (eS rfl (eS rfl (eS rfl (eS rfl (eS rfl (eS rfl (eS rfl (eS rfl (eS rfl (eS rfl (eS rfl (eS rfl (eS rfl (eS rfl (eS rfl (eS rfl (eS rfl eZ)))))))))))))))))))))))))))))))))))))))))))))) rfl VWk.rfl (SL.cons eZ rfl VWk.rfl SL.nil))))) (BL.drop rfl (BL.drop rfl BL.nil)) BK.nil)⟩
        · refine gSkip eZ (congrArg Bool.not (nt h14)) rfl ?_
          refine gSkip (eS rfl eZ) (congrArg Bool.not (nt h14)) rfl ?_
          refine gSkip (eS rfl (eS rfl eZ)) (congrArg Bool.not (nt h14)) rfl ?_
          refine gSkipU eZ rfl ?_
          refine gSkipU (eS rfl eZ) rfl ?_
          refine gSkipU (eS rfl (eS rfl eZ)) rfl ?_
          refine gSkipU (eS rfl (eS rfl (eS rfl eZ))) rfl ?_
          refine gSkipU (eS rfl (eS rfl (eS rfl (eS rfl eZ)))) rfl ?_
          refine gSkipU (eS rfl (eS rfl (eS rfl (eS rfl (eS rfl eZ))))) rfl ?_
          refine gSkipU (eS rfl (eS rfl (eS rfl (eS rfl (eS rfl (eS rfl eZ)))))) rfl ?_
          refine gSkipU (eS rfl (eS rfl (eS rfl (eS rfl (eS rfl (eS rfl (eS rfl eZ))))))) rfl ?_
          refine gSkipU (eS rfl (eS rfl (eS rfl (eS rfl (eS rfl (eS rfl (eS rfl (eS rfl eZ)))))))) rfl ?_
          refine gSkip (eS rfl (eS rfl (eS rfl (eS rfl (eS rfl (eS rfl (eS rfl (eS rfl (eS rfl (eS rfl (eS rfl (eS rfl eZ)))))))))))) (congrArg Bool.not (nt h14)) rfl ?_
          refine oPickT (eS rfl (eS rfl (eS rfl (eS rfl (eS rfl (eS rfl (eS rfl (eS rfl (eS rfl (eS rfl (eS rfl (eS rfl (eS rfl eZ))))))))))))) (congrArg Bool.not (nt h14)) eC ?_
          refine oMov eZ ?_
          refine gSkip eZ rfl rfl ?_
          refine gSkip (eS rfl eZ) rfl rfl ?_
          refine gSkip (eS rfl (eS rfl eZ)) rfl rfl ?_
          refine gSkip (eS rfl (eS rfl (eS rfl eZ))) rfl rfl ?_
          refine oPickT (eS rfl (eS rfl (eS rfl (eS rfl eZ)))) rfl eC ?_
          refine oMov eZ ?_
          refine gSkip eZ rfl rfl ?_
          refine gSkip (eS rfl eZ) rfl rfl ?_
          refine gSkip (eS rfl (eS rfl eZ)) rfl rfl ?_
          refine gSkip (eS rfl (eS rfl (eS rfl eZ))) rfl rfl ?_
          refine oPickT (eS rfl (eS rfl (eS rfl (eS rfl eZ)))) rfl eC ?_
          refine oMov eZ ?_
          refine gSkip eZ rfl rfl ?_
          refine gSkip (eS rfl eZ) rfl rfl ?_
          refine gSkip (eS rfl (eS rfl eZ)) rfl rfl ?_
          refine gSkip (eS rfl (eS rfl (eS rfl eZ))) rfl rfl ?_
          refine oPickT (eS rfl (eS rfl (eS rfl (eS rfl eZ)))) rfl eC ?_
          refine xNil ?_
          exact TQ.qn ⟨true, H, (wk_mk [256] (SL.cons (eS rfl (eS rfl (eS rfl (eS rfl (eS rfl (eS rfl (eS rfl (eS rfl (eS rfl (eS rfl (eS rfl (eS rfl (eS rfl (eS rfl (eS rfl (eS rfl (eS rfl (eS rfl (eS rfl (eS rfl (eS rfl (eS rfl (eS rfl (eS rfl (eS rfl (eS rfl (eS rfl (eS rfl (eS rfl (eS rfl (eS rfl (eS rfl (eS rfl (eS rfl (eS rfl (eS rfl (eS rfl (eS rfl (eS rfl (eS rfl (eS rfl (eS rfl (eS rfl eZ))))))))))))))))))))))))))))))))))))))))))) rfl VWk.rfl (SL.cons (eS rfl (eS rfl (eS rfl (eS rfl (eS rfl (eS rfl (eS rfl (eS rfl (eS rfl (eS rfl (eS rfl (eS rfl (eS rfl (eS rfl (eS rfl (eS rfl (eS rfl (eS rfl (eS rfl (eS rfl (eS rfl (eS rfl (eS rfl (eS rfl (eS rfl (eS rfl (eS rfl (eS rfl (eS rfl (eS rfl (eS rfl (eS rfl (eS rfl (eS rfl (eS rfl (eS rfl (eS rfl (eS rfl (eS rfl (eS rfl (eS rfl (eS rfl (eS rfl (eS rfl eZ)))))))))))))))))))))))))))))))))))))))))))) rfl VWk.rfl (SL.cons (eS rfl (eS rfl (eS rfl (eS rfl (eS rfl (eS rfl (eS rfl (eS rfl (eS rfl (eS rfl (eS rfl (eS rfl (eS rfl (eS rfl (eS rfl (eS rfl (eS rfl (eS rfl (eS rfl (eS rfl (eS rfl (eS rfl (eS rfl (eS rfl (eS rfl (eS rfl (eS rfl (eS rfl (eS rfl (eS rfl (eS rfl (eS rfl (eS rfl (eS rfl (eS rfl (eS rfl (eS rfl (eS rfl (eS rfl (eS rfl (eS rfl (eS rfl (eS rfl (eS rfl (eS rfl eZ))))))))))))))))))))))))))))))))))))))))))))) rfl VWk.rfl (SL.cons (eS rfl (eS rfl (eS rfl (eS rfl (eS rfl (eS rfl (eS rfl (eS rfl (eS rfl (eS rfl (eS rfl (eS rfl (eS rfl (eS rfl (eS rfl (eS rfl (eS rfl (eS rfl (eS rfl (eS rfl (eS rfl (eS rfl (eS rfl (eS rfl (eS rfl (eS rfl (eS rfl (eS rfl (eS rfl (eS rfl (eS rfl (eS rfl (eS rfl (eS rfl (eS rfl (eS rfl (eS rfl (eS rfl (eS rfl (eS rfl (eS rfl (eS rfl (eS rfl (eS rfl (eS rfl (eS rfl eZ)))))))))))))))))))))))))))))))))))))))))))))) rfl VWk.rfl (SL.cons eZ rfl VWk.rfl SL.nil))))) (BL.drop rfl (BL.drop rfl BL.nil)) BK.nil)⟩
    · refine AW.condF eZ (decide_eq_false h6) ?_
      refine AW.exit ?_
      refine TQ.qe ?_
      refine TQ.qe ?_
      refine BQ.qe ?_
      exact TQ.qn ⟨(), H, (wk_mk [] (SL.cons (eS rfl eZ) rfl VWk.rfl SL.nil) BL.nil BK.nil)⟩

theorem c_laws_eqRange {a1 : TRange} {a2 : TRange} {r : Bool} (H : m_laws_eqRange a1 a2 = some r) : Fn Try.prog k_laws_eqRange (lent [(.agg (d_TRange a1)), (.agg (d_TRange a2))]) true [(.bool r)] := by
  refine i_laws_eqRange_fn (Nat.le_of_ble_eq_true rfl) ?_
  rw [init_mk]
  refine AW.weaken (wk_mk [] (SL.cons (v := (.agg [(.d (.int .i64 a1.Lo)), (.d (.int .i64 a1.Hi))])) eZ rfl VWk.rfl (SL.cons (v := (.agg [(.d (.int .i64 a2.Lo)), (.d (.int .i64 a2.Hi))])) (eS rfl eZ) rfl VWk.rfl SL.nil)) BL.nil BK.nil) ?_
  unfold m_laws_eqRange at H
  unfold i_laws_eqRange
  refine AW.seq ?_
  refine AW.regs ?_
  refine oBox (n := 128) (m := 2) (cs := [(.d (.int .i64 a1.Lo)), (.d (.int .i64 a1.Hi))]) rfl eZ rfl rfl nZ ?_
  refine oBox (n := 192) (m := 2) (cs := [(.d (.int .i64 a2.Lo)), (.d (.int .i64 a2.Hi))]) rfl (eS rfl (eS rfl eZ)) rfl rfl (nS rfl nZ) ?_
  refine oMov eC ?_
  refine xNil ?_
  refine TQ.qn ?_
  refine AW.seq ?_
  refine AW.seq ?_
  refine AW.regs ?_
  refine oFaddrN (m := 0) (eS rfl (eS rfl eZ)) rfl ?_
  refine oLoadV (q := 0) (c := (.d (.int .i64 a1.Lo))) eZ (bS rfl bZ) rfl rfl ?_
  refine oFaddrN (m := 0) (eS rfl (eS rfl (eS rfl eZ))) rfl ?_
  refine oLoadV (q := 0) (c := (.d (.int .i64 a2.Lo))) eZ bZ rfl rfl ?_
  refine oNeq (eS rfl (eS rfl eZ)) eZ ?_
  refine xNil ?_
  refine TQ.qn ?_
  rcases oite H with ⟨h3, H⟩ | ⟨h3, H⟩
  · refine AW.condT eZ (decide_eq_true h3) ?_
    refine AW.seq ?_
    refine AW.regs ?_
    refine oMov eC ?_
    refine xNil ?_
    refine TQ.qn ?_
    refine AW.ret ?_
    refine TQ.qr ?_
    obtain rfl := Option.some.inj H
    exact endsR (RL.cons (RV.tmp eZ) (VO.flat rfl) RL.nil) List.nodup_nil
  · refine AW.condF eZ (decide_eq_false h3) ?_
    refine AW.skip ?_
    refine TQ.qn ?_
    refine AW.seq ?_
    refine AW.seq ?_
    refine AW.regs ?_
    refine oFaddrN (m := 1) (eS rfl (eS rfl (eS rfl (eS rfl (eS rfl (eS rfl (eS rfl eZ))))))) rfl ?_
    refine oLoadV (q := 1) (c := (.d (.int .i64 a1.Hi))) eZ (bS rfl bZ) rfl rfl ?_
    refine oFaddrN (m := 1) (eS rfl (eS rfl (eS rfl (eS rfl (eS rfl (eS rfl (eS rfl (eS rfl eZ)))))))) rfl ?_
    refine oLoadV (q := 1) (c := (.d (.int .i64 a2.Hi))) eZ bZ rfl rfl ?_
    refine oNeq (eS rfl (eS rfl eZ)) eZ ?_
    refine xNil ?_
    refine TQ.qn ?_
    rcases oite H with ⟨h4, H⟩ | ⟨h4, H⟩
    · refine AW.condT eZ (decide_eq_true h4) ?_
      refine AW.seq ?_
      refine AW.regs ?_
      refine oMov eC ?_
      refine xNil ?_
      refine TQ.qn ?_
      refine AW.weaken (wk_mk [192, 128] (SL.cons (k := 4) eZ rfl VWk.rfl SL.nil) (BL.drop rfl (BL.drop rfl BL.nil)) BK.nil) ?_
      refine AW.ret ?_
      refine TQ.qr ?_
      obtain rfl := Option.some.inj H
      exact endsR (RL.cons (RV.tmp eZ) (VO.flat rfl) RL.nil) List.nodup_nil
    · refine AW.condF eZ (decide_eq_false h4) ?_
      refine AW.skip ?_
      refine TQ.qn ?_
      refine AW.seq ?_
      refine AW.regs ?_
      refine oMov eC ?_
      refine xNil ?_
      refine TQ.qn ?_
      refine AW.weaken (wk_mk [192, 128] (SL.cons (k := 4) eZ rfl VWk.rfl SL.nil) (BL.drop rfl (BL.drop rfl BL.nil)) BK.nil) ?_
      refine AW.ret ?_
      obtain rfl := Option.some.inj H
      exact endsR (RL.cons (RV.tmp eZ) (VO.flat rfl) RL.nil) List.nodup_nil

theorem c_laws_eqRangeS {a1 : (List TRange)} {a2 : (List TRange)} {r : Bool} (H : m_laws_eqRangeS a1 a2 = some r) : Fn Try.prog k_laws_eqRangeS (lent [(.sl 2 (List.map d_TRange a1)), (.sl 2 (List.map d_TRange a2))]) true [(.bool r)] := by
  refine i_laws_eqRangeS_fn (Nat.le_of_ble_eq_true rfl) ?_
  rw [init_mk]
  refine AW.weaken (wk_mk [] (SL.cons (v := (.one (.d (.sl 2 (List.map d_TRange a1))))) eZ rfl VWk.rfl (SL.cons (v := (.one (.d (.sl 2 (List.map d_TRange a2))))) (eS rfl eZ) rfl VWk.rfl SL.nil)) BL.nil BK.nil) ?_
  unfold m_laws_eqRangeS at H
  unfold i_laws_eqRangeS
  refine AW.seq ?_
  refine AW.regs ?_
  refine oMov eC ?_
  refine xNil ?_
  refine TQ.qn ?_
  refine AW.seq ?_
  refine AW.seq ?_
  refine AW.regs ?_
  refine oMov (eS rfl eZ) ?_
  refine oLenD eZ (n := a1.length) (List.length_map _) ?_
  refine oMov (eS rfl (eS rfl (eS rfl (eS rfl eZ)))) ?_
  refine oLenD eZ (n := a2.length) (List.length_map _) ?_
  refine oNeq (eS rfl (eS rfl eZ)) eZ ?_
  refine xNil ?_
  refine TQ.qn ?_
  rcases oite H with ⟨h3, H⟩ | ⟨h3, H⟩
  · refine AW.condT eZ (decide_eq_true h3) ?_
    refine AW.seq ?_
    refine AW.regs ?_
    refine oMov eC ?_
    refine xNil ?_
    refine TQ.qn ?_
    refine AW.ret ?_
    refine TQ.qr ?_
    obtain rfl := Option.some.inj H
    exact endsR (RL.cons (RV.tmp eZ) (VO.flat rfl) RL.nil) List.nodup_nil
  · refine AW.condF eZ (decide_eq_false h3) ?_
    refine AW.skip ?_
    refine TQ.qn ?_
    refine AW.seqJ (fun t4 : Unit => laws_eqRangeS_j4 t4 = some r) (fun t4 => mk [] [] noG) ?_ ?_
    · intro t4 H
      unfold laws_eqRangeS_j4 at H
      refine AW.seq ?_
      refine AW.regs ?_
      refine oMov eC ?_
      refine xNil ?_
      refine TQ.qn ?_
      refine AW.ret ?_
      obtain rfl := Option.some.inj H
      exact endsR (RL.cons (RV.tmp eZ) (VO.flat rfl) RL.nil) List.nodup_nil
    · refine AW.seq ?_
      refine AW.regs ?_
      refine oMov eC ?_
      refine xNil ?_
      refine TQ.qn ?_
      refine AW.block ?_
      refine AW.iter (fun s6 : Int => mk [(0, (.one (.d (.sl 2 (List.map d_TRange a1))))), (1, (.one (.d (.sl 2 (List.map d_TRange a2))))), (5, (.one (.d (.int .i64 s6))))] [] noG) H (wk_mk [] (SL.cons (eS rfl (eS rfl (eS rfl (eS rfl (eS rfl (eS rfl (eS rfl eZ))))))) rfl VWk.rfl (SL.cons (eS rfl (eS rfl (eS rfl (eS rfl (eS rfl (eS rfl (eS rfl (eS rfl eZ)))))))) rfl VWk.rfl (SL.cons eZ rfl VWk.rfl SL.nil))) BL.nil BK.nil) ?_
      intro kb7 s6 H
      unfold laws_eqRangeS_b6 at H
      refine AW.seq ?_
      refine AW.seq ?_
      refine AW.regs ?_
      refine oMov (eS rfl (eS rfl eZ)) ?_
      refine oMov (eS rfl eZ) ?_
      refine oLenD eZ (n := a1.length) (List.length_map _) ?_
      refine oLss (eS rfl (eS rfl eZ)) eZ ?_
      refine xNil ?_
      refine TQ.qn ?_
      rcases oite H with ⟨h8, H⟩ | ⟨h8, H⟩
      · refine AW.condT eZ (decide_eq_true h8) ?_
        refine AW.skip ?_
        refine TQ.qn ?_
        refine AW.seq ?_
        refine AW.block ?_
        refine AW.seq ?_
        refine AW.regd ?_
        refine oMov (eS rfl (eS rfl (eS rfl (eS rfl eZ)))) ?_
        refine oMov (eS rfl (eS rfl (eS rfl (eS rfl (eS rfl (eS rfl (eS rfl eZ))))))) ?_
        obtain ⟨v9, h10, H⟩ := obind H
        refine oAtD (eS rfl eZ) eZ h10 ?_
        refine oLoadBA (es := [(.d (.int .i64 v9.Lo)), (.d (.int .i64 v9.Hi))]) eZ rfl ?_
        refine oMov (eS rfl (eS rfl (eS rfl (eS rfl (eS rfl (eS rfl (eS rfl (eS rfl (eS rfl eZ))))))))) ?_
        refine oMov (eS rfl (eS rfl (eS rfl (eS rfl (eS rfl (eS rfl (eS rfl (eS rfl (eS rfl (eS rfl (eS rfl eZ))))))))))) ?_
        obtain ⟨v11, h12, H⟩ := obind H
        refine oAtD (eS rfl eZ) eZ h12 ?_
        refine oLoadBA (es := [(.d (.int .i64 v11.Lo)), (.d (.int .i64 v11.Hi))]) eZ rfl ?_
        obtain ⟨v13, h14, H⟩ := obind H
        refine oCall (u := (.one (.d (.bool v13)))) eC Cl.fn (c_laws_eqRange h14) (Evs.cons (eS rfl (eS rfl (eS rfl (eS rfl eZ)))) (Evs.cons eZ Evs.nil)) (VDs.cons (VD.agg rfl) (VDs.cons (VD.agg rfl) VDs.nil)) rfl ?_
        refine oInv eZ ?_
        refine xNil ?_
        refine TQ.qn ?_
        refine AW.weaken (wk_mk [] (SL.cons (k := 26) eZ rfl VWk.rfl (SL.cons (k := 0) (eS rfl (eS rfl (eS rfl (eS rfl (eS rfl (eS rfl (eS rfl (eS rfl (eS rfl (eS rfl (eS rfl (eS rfl (eS rfl (eS rfl eZ)))))))))))))) rfl VWk.rfl (SL.cons (k := 1) (eS rfl (eS rfl (eS rfl (eS rfl (eS rfl (eS rfl (eS rfl (eS rfl (eS rfl (eS rfl (eS rfl (eS rfl (eS rfl (eS rfl (eS rfl eZ))))))))))))))) rfl VWk.rfl (SL.cons (k := 5) (eS rfl (eS rfl (eS rfl (eS rfl (eS rfl (eS rfl (eS rfl (eS rfl (eS rfl (eS rfl (eS rfl (eS rfl (eS rfl (eS rfl (eS rfl (eS rfl eZ)))))))))))))))) rfl VWk.rfl SL.nil)))) BL.nil BK.nil) ?_
        rcases oite H with ⟨h15, H⟩ | ⟨h15, H⟩
        · refine AW.condF eZ (congrArg Bool.not h15) ?_
          refine AW.skip ?_
          refine BQ.qn ?_
          refine TQ.qn ?_
          refine AW.regs ?_
          refine oMov (eS rfl (eS rfl (eS rfl eZ))) ?_
          refine oAdd eZ eC ?_
          refine oMov eZ ?_
          refine xNil ?_
          exact TQ.qn ⟨(IntKind.wrap .i64 (s6 + 1)), H, (wk_mk [] (SL.cons (eS rfl (eS rfl (eS rfl (eS rfl eZ)))) rfl VWk.rfl (SL.cons (eS rfl (eS rfl (eS rfl (eS rfl (eS rfl eZ))))) rfl VWk.rfl (SL.cons eZ rfl VWk.rfl SL.nil))) BL.nil BK.nil)⟩
        · refine AW.condT eZ (congrArg Bool.not (nt h15)) ?_
          refine AW.seq ?_
          refine AW.regs ?_
          refine oMov eC ?_
          refine xNil ?_
          refine TQ.qn ?_
          refine AW.ret ?_
          refine BQ.qr ?_
          refine TQ.qr ?_
          refine TQ.qr ?_
          refine BQ.qr ?_
          refine TQ.qr ?_
          obtain rfl := Option.some.inj H
          exact endsR (RL.cons (RV.tmp eZ) (VO.flat rfl) RL.nil) List.nodup_nil
      · refine AW.condF eZ (decide_eq_false h8) ?_
        refine AW.exit ?_
        refine TQ.qe ?_
        refine TQ.qe ?_
        refine BQ.qe ?_
        exact TQ.qn ⟨(), H, (wk_mk [] SL.nil BL.nil BK.nil)⟩

theorem c_laws_eqWrite {a1 : TCell} {a2 : TCell} {r : Bool} (H : m_laws_eqWrite a1 a2 = some r) : Fn Try.prog k_laws_eqWrite (lent [(.agg (d_TCell a1)), (.agg (d_TCell a2))]) true [(.bool r)] := by
  refine i_laws_eqWrite_fn (Nat.le_of_ble_eq_true rfl) ?_
  rw [init_mk]
  refine AW.weaken (wk_mk [] (SL.cons (v := (.agg [(.d (.int .i64 a1.Key)), (.d (.int .i64 a1.Value))])) eZ rfl VWk.rfl (SL.cons (v := (.agg [(.d (.int .i64 a2.Key)), (.d (.int .i64 a2.Value))])) (eS rfl eZ) rfl VWk.rfl SL.nil)) BL.nil BK.nil) ?_
  unfold m_laws_eqWrite at H
  unfold i_laws_eqWrite
  refine AW.seq ?_
  refine AW.regs ?_
  refine oBox (n := 128) (m := 2) (cs := [(.d (.int .i64 a1.Key)), (.d (.int .i64 a1.Value))]) rfl eZ rfl rfl nZ ?_
  refine oBox (n := 192) (m := 2) (cs := [(.d (.int .i64 a2.Key)), (.d (.int .i64 a2.Value))]) rfl (eS rfl (eS rfl eZ)) rfl rfl (nS rfl nZ) ?_
  refine oMov eC ?_
  refine xNil ?_
  refine TQ.qn ?_
  refine AW.seq ?_
  refine AW.seq ?_
  refine AW.regs ?_
  refine oFaddrN (m := 0) (eS rfl (eS rfl eZ)) rfl ?_
  refine oLoadV (q := 0) (c := (.d (.int .i64 a1.Key))) eZ (bS rfl bZ) rfl rfl ?_
  refine oFaddrN (m := 0) (eS rfl (eS rfl (eS rfl eZ))) rfl ?_
  refine oLoadV (q := 0) (c := (.d (.int .i64 a2.Key))) eZ bZ rfl rfl ?_
  refine oNeq (eS rfl (eS rfl eZ)) eZ ?_
  refine xNil ?_
  refine TQ.qn ?_
  rcases oite H with ⟨h3, H⟩ | ⟨h3, H⟩
  · refine AW.condT eZ (decide_eq_true h3) ?_
    refine AW.seq ?_
    refine AW.regs ?_
    refine oMov eC ?_
    refine xNil ?_
    refine TQ.qn ?_
    refine AW.ret ?_
    refine TQ.qr ?_
    obtain rfl := Option.some.inj H
    exact endsR (RL.cons (RV.tmp eZ) (VO.flat rfl) RL.nil) List.nodup_nil
  · refine AW.condF eZ (decide_eq_false h3) ?_
    refine AW.skip ?_
    refine TQ.qn ?_
    refine AW.seq ?_
    refine AW.seq ?_
    refine AW.regs ?_
    refine oFaddrN (m := 1) (eS rfl (eS rfl (eS rfl (eS rfl (eS rfl (eS rfl (eS rfl eZ))))))) rfl ?_
    refine oLoadV (q := 1) (c := (.d (.int .i64 a1.Value))) eZ (bS rfl bZ) rfl rfl ?_
    refine oFaddrN (m := 1) (eS rfl (eS rfl (eS rfl (eS rfl (eS rfl (eS rfl (eS rfl (eS rfl eZ)))))))) rfl ?_
    refine oLoadV (q := 1) (c := (.d (.int .i64 a2.Value))) eZ bZ rfl rfl ?_
    refine oNeq (eS rfl (eS rfl eZ)) eZ ?_
    refine xNil ?_
    refine TQ.qn ?_
    rcases oite H with ⟨h4, H⟩ | ⟨h4, H⟩
    · refine AW.condT eZ (decide_eq_true h4) ?_
      refine AW.seq ?_
      refine AW.regs ?_
      refine oMov eC ?_
      refine xNil ?_
      refine TQ.qn ?_
      refine AW.weaken (wk_mk [192, 128] (SL.cons (k := 4) eZ rfl VWk.rfl SL.nil) (BL.drop rfl (BL.drop rfl BL.nil)) BK.nil) ?_
      refine AW.ret ?_
      refine TQ.qr ?_
      obtain rfl := Option.some.inj H
      exact endsR (RL.cons (RV.tmp eZ) (VO.flat rfl) RL.nil) List.nodup_nil
    · refine AW.condF eZ (decide_eq_false h4) ?_
      refine AW.skip ?_
      refine TQ.qn ?_
      refine AW.seq ?_
      refine AW.regs ?_
      refine oMov eC ?_
      refine xNil ?_
      refine TQ.qn ?_
      refine AW.weaken (wk_mk [192, 128] (SL.cons (k := 4) eZ rfl VWk.rfl SL.nil) (BL.drop rfl (BL.drop rfl BL.nil)) BK.nil) ?_
      refine AW.ret ?_
      obtain rfl := Option.some.inj H
      exact endsR (RL.cons (RV.tmp eZ) (VO.flat rfl) RL.nil) List.nodup_nil

theorem c_laws_eqWriteS {a1 : (List TCell)} {a2 : (List TCell)} {r : Bool} (H : m_laws_eqWriteS a1 a2 = some r) : Fn Try.prog k_laws_eqWriteS (lent [(.sl 2 (List.map d_TCell a1)), (.sl 2 (List.map d_TCell a2))]) true [(.bool r)] := by
  refine i_laws_eqWriteS_fn (Nat.le_of_ble_eq_true rfl) ?_
  rw [init_mk]
  refine AW.weaken (wk_mk [] (SL.cons (v := (.one (.d (.sl 2 (List.map d_TCell a1))))) eZ rfl VWk.rfl (SL.cons (v := (.one (.d (.sl 2 (List.map d_TCell a2))))) (eS rfl eZ) rfl VWk.rfl SL.nil)) BL.nil BK.nil) ?_
  unfold m_laws_eqWriteS at H
  unfold i_laws_eqWriteS
  refine AW.seq ?_
  refine AW.regs ?_
  refine oMov eC ?_
  refine xNil ?_
  refine TQ.qn ?_
  refine AW.seq ?_
  refine AW.seq ?_
  refine AW.regs ?_
  refine oMov (eS rfl eZ) ?_
  refine oLenD eZ (n := a1.length) (List.length_map _) ?_
  refine oMov (eS rfl (eS rfl (eS rfl (eS rfl eZ)))) ?_
  refine oLenD eZ (n := a2.length) (List.length_map _) ?_
  refine oNeq (eS rfl (eS rfl eZ)) eZ ?_
  refine xNil ?_
  refine TQ.qn ?_
  rcases oite H with ⟨h3, H⟩ | ⟨h3, H⟩
  · refine AW.condT eZ (decide_eq_true h3) ?_
    refine AW.seq ?_
    refine AW.regs ?_
    refine oMov eC ?_
    refine xNil ?_
    refine TQ.qn ?_
    refine AW.ret ?_
    refine TQ.qr ?_
    obtain rfl := Option.some.inj H
    exact endsR (RL.cons (RV.tmp eZ) (VO.flat rfl) RL.nil) List.nodup_nil
  · refine AW.condF eZ (decide_eq_false h3) ?_
    refine AW.skip ?_
    refine TQ.qn ?_
    refine AW.seqJ (fun t4 : Unit => laws_eqWriteS_j4 t4 = some r) (fun t4 => mk [] [] noG) ?_ ?_
    · intro t4 H
      unfold laws_eqWriteS_j4 at H
      refine AW.seq ?_
      refine AW.regs ?_
      refine oMov eC ?_
      refine xNil ?_
      refine TQ.qn ?_
      refine AW.ret ?_
      obtain rfl := Option.some.inj H
      exact endsR (RL.cons (RV.tmp eZ) (VO.flat rfl) RL.nil) List.nodup_nil
    · refine AW.seq ?_
      refine AW.regs ?_
      refine oMov eC ?_
      refine xNil ?_
      refine TQ.qn ?_
      refine AW.block ?_
      refine AW.iter (fun s6 : Int => mk [(0, (.one (.d (.sl 2 (List.map d_TCell a1))))), (1, (.one (.d (.sl 2 (List.map d_TCell a2))))), (5, (.one (.d (.int .i64 s6))))] [] noG) H (wk_mk [] (SL.cons (eS rfl (eS rfl (eS rfl (eS rfl (eS rfl (eS rfl (eS rfl eZ))))))) rfl VWk.rfl (SL.cons (eS rfl (eS rfl (eS rfl (eS rfl (eS rfl (eS rfl (eS rfl (eS rfl eZ)))))))) rfl VWk.rfl (SL.cons eZ rfl VWk.rfl SL.nil))) BL.nil BK.nil) ?_
      intro kb7 s6 H
      unfold laws_eqWriteS_b6 at H
      refine AW.seq ?_
      refine AW.seq ?_
      refine AW.regs ?_
      refine oMov (eS rfl (eS rfl eZ)) ?_
      refine oMov (eS rfl eZ) ?_
      refine oLenD eZ (n := a1.length) (List.length_map _) ?_
      refine oLss (eS rfl (eS rfl eZ)) eZ ?_
      refine xNil ?_
      refine TQ.qn ?_
      rcases oite H with ⟨h8, H⟩ | ⟨h8, H⟩
      · refine AW.condT eZ (decide_eq_true h8) ?_
        refine AW.skip ?_
        refine TQ.qn ?_
        refine AW.seq ?_
        refine AW.block ?_
        refine AW.seq ?_
        refine AW.regd ?_
        refine oMov (eS rfl (eS rfl (eS rfl (eS rfl eZ)))) ?_
        refine oMov (eS rfl (eS rfl (eS rfl (eS rfl (eS rfl (eS rfl (eS rfl eZ))))))) ?_
        obtain ⟨v9, h10, H⟩ := obind H
        refine oAtD (eS rfl eZ) eZ h10 ?_
        refine oLoadBA (es := [(.d (.int .i64 v9.Key)), (.d (.int .i64 v9.Value))]) eZ rfl ?_
        refine oMov (eS rfl (eS rfl (eS rfl (eS rfl (eS rfl (eS rfl (eS rfl (eS rfl (eS rfl eZ))))))))) ?_
        refine oMov (eS rfl (eS rfl (eS rfl (eS rfl (eS rfl (eS rfl (eS rfl (eS rfl (eS rfl (eS rfl (eS rfl eZ))))))))))) ?_
        obtain ⟨v11, h12, H⟩ := obind H
        refine oAtD (eS rfl eZ) eZ h12 ?_
        refine oLoadBA (es := [(.d (.int .i64 v11.Key)), (.d (.int .i64 v11.Value))]) eZ rfl ?_
        obtain ⟨v13, h14, H⟩ := obind H
        refine oCall (u := (.one (.d (.bool v13)))) eC Cl.fn (c_laws_eqWrite h14) (Evs.cons (eS rfl (eS rfl (eS rfl (eS rfl eZ)))) (Evs.cons eZ Evs.nil)) (VDs.cons (VD.agg rfl) (VDs.cons (VD.agg rfl) VDs.nil)) rfl ?_
        refine oInv eZ ?_
        refine xNil ?_
        refine TQ.qn ?_
        refine AW.weaken (wk_mk [] (SL.cons (k := 26) eZ rfl VWk.rfl (SL.cons (k := 0) (eS rfl (eS rfl (eS rfl (eS rfl (eS rfl (eS rfl (eS rfl (eS rfl (eS rfl (eS rfl (eS rfl (eS rfl (eS rfl (eS rfl eZ)))))))))))))) rfl VWk.rfl (SL.cons (k := 1) (eS rfl (eS rfl (eS rfl (eS rfl (eS rfl (eS rfl (eS rfl (eS rfl (eS rfl (eS rfl (eS rfl (eS rfl (eS rfl (eS rfl (eS rfl eZ))))))))))))))) rfl VWk.rfl (SL.cons (k := 5) (eS rfl (eS rfl (eS rfl (eS rfl (eS rfl (eS rfl (eS rfl (eS rfl (eS rfl (eS rfl (eS rfl (eS rfl (eS rfl (eS rfl (eS rfl (eS rfl eZ)))))))))))))))) rfl VWk.rfl SL.nil)))) BL.nil BK.nil) ?_
        rcases oite H with ⟨h15, H⟩ | ⟨h15, H⟩
        · refine AW.condF eZ (congrArg Bool.not h15) ?_
          refine AW.skip ?_
          refine BQ.qn ?_
          refine TQ.qn ?_
          refine AW.regs ?_
          refine oMov (eS rfl (eS rfl (eS rfl eZ))) ?_
          refine oAdd eZ eC ?_
          refine oMov eZ ?_
          refine xNil ?_
          exact TQ.qn ⟨(IntKind.wrap .i64 (s6 + 1)), H, (wk_mk [] (SL.cons (eS rfl (eS rfl (eS rfl (eS rfl eZ)))) rfl VWk.rfl (SL.cons (eS rfl (eS rfl (eS rfl (eS rfl (eS rfl eZ))))) rfl VWk.rfl (SL.cons eZ rfl VWk.rfl SL.nil))) BL.nil BK.nil)⟩
        · refine AW.condT eZ (congrArg Bool.not (nt h15)) ?_
          refine AW.seq ?_
          refine AW.regs ?_
          refine oMov eC ?_
          refine xNil ?_
          refine TQ.qn ?_
          refine AW.ret ?_
          refine BQ.qr ?_
          refine TQ.qr ?_
          refine TQ.qr ?_
          refine BQ.qr ?_
          refine TQ.qr ?_
          obtain rfl := Option.some.inj H
          exact endsR (RL.cons (RV.tmp eZ) (VO.flat rfl) RL.nil) List.nodup_nil
      · refine AW.condF eZ (decide_eq_false h8) ?_
        refine AW.exit ?_
        refine TQ.qe ?_
        refine TQ.qe ?_
        refine BQ.qe ?_
        exact TQ.qn ⟨(), H, (wk_mk [] SL.nil BL.nil BK.nil)⟩

theorem c_laws_eqShare {a1 : TShare} {a2 : TShare} {r : Bool} (H : m_laws_eqShare a1 a2 = some r) : Fn Try.prog k_laws_eqShare (lent [(.agg (d_TShare a1)), (.agg (d_TShare a2))]) true [(.bool r)] := by
  refine i_laws_eqShare_fn (Nat.le_of_ble_eq_true rfl) ?_
  rw [init_mk]
  refine AW.weaken (wk_mk [] (SL.cons (v := (.agg [(.d (.int .i64 a1.Group)), (.d (.sl 2 (List.map d_TRange a1.Reads))), (.d (.sl 2 (List.map d_TCell a1.Writes))), (.d (.int .i64 a1.Vote))])) eZ rfl VWk.rfl (SL.cons (v := (.agg [(.d (.int .i64 a2.Group)), (.d (.sl 2 (List.map d_TRange a2.Reads))), (.d (.sl 2 (List.map d_TCell a2.Writes))), (.d (.int .i64 a2.Vote))])) (eS rfl eZ) rfl VWk.rfl SL.nil)) BL.nil BK.nil) ?_
  unfold m_laws_eqShare at H
  unfold i_laws_eqShare
  refine AW.seq ?_
  refine AW.regs ?_
  refine oBox (n := 128) (m := 4) (cs := [(.d (.int .i64 a1.Group)), (.d (.sl 2 (List.map d_TRange a1.Reads))), (.d (.sl 2 (List.map d_TCell a1.Writes))), (.d (.int .i64 a1.Vote))]) rfl eZ rfl rfl nZ ?_
  refine oBox (n := 192) (m := 4) (cs := [(.d (.int .i64 a2.Group)), (.d (.sl 2 (List.map d_TRange a2.Reads))), (.d (.sl 2 (List.map d_TCell a2.Writes))), (.d (.int .i64 a2.Vote))]) rfl (eS rfl (eS rfl eZ)) rfl rfl (nS rfl nZ) ?_
  refine oMov eC ?_
  refine xNil ?_
  refine TQ.qn ?_
  refine AW.seq ?_
  refine AW.seq ?_
  refine AW.regs ?_
  refine oFaddrN (m := 0) (eS rfl (eS rfl eZ)) rfl ?_
  refine oLoadV (q := 0) (c := (.d (.int .i64 a1.Group))) eZ (bS rfl bZ) rfl rfl ?_
  refine oFaddrN (m := 0) (eS rfl (eS rfl (eS rfl eZ))) rfl ?_
  refine oLoadV (q := 0) (c := (.d (.int .i64 a2.Group))) eZ bZ rfl rfl ?_
  refine oNeq (eS rfl (eS rfl eZ)) eZ ?_
  refine xNil ?_
  refine TQ.qn ?_
  rcases oite H with ⟨h3, H⟩ | ⟨h3, H⟩
  · refine AW.condT eZ (decide_eq_true h3) ?_
    refine AW.seq ?_
    refine AW.regs ?_
    refine oMov eC ?_
    refine xNil ?_
    refine TQ.qn ?_
    refine AW.ret ?_
    refine TQ.qr ?_
    obtain rfl := Option.some.inj H
    exact endsR (RL.cons (RV.tmp eZ) (VO.flat rfl) RL.nil) List.nodup_nil
  · refine AW.condF eZ (decide_eq_false h3) ?_
    refine AW.skip ?_
    refine TQ.qn ?_
    refine AW.seq ?_
    refine AW.seq ?_
    refine AW.regs ?_
    refine oFaddrN (m := 1) (eS rfl (eS rfl (eS rfl (eS rfl (eS rfl (eS rfl (eS rfl eZ))))))) rfl ?_
    refine oLoadV (q := 1) (c := (.d (.sl 2 (List.map d_TRange a1.Reads)))) eZ (bS rfl bZ) rfl rfl ?_
    refine oFaddrN (m := 1) (eS rfl (eS rfl (eS rfl (eS rfl (eS rfl (eS rfl (eS rfl (eS rfl eZ)))))))) rfl ?_
    refine oLoadV (q := 1) (c := (.d (.sl 2 (List.map d_TRange a2.Reads)))) eZ bZ rfl rfl ?_
    obtain ⟨v4, h5, H⟩ := obind H
    refine oCall (u := (.one (.d (.bool v4)))) eC Cl.fn (c_laws_eqRangeS h5) (Evs.cons (eS rfl (eS rfl eZ)) (Evs.cons eZ Evs.nil)) (VDs.cons VD.plain (VDs.cons VD.plain VDs.nil)) rfl ?_
    refine oInv eZ ?_
    refine xNil ?_
    refine TQ.qn ?_
    refine AW.weaken (wk_mk [] (SL.cons (k := 15) eZ rfl VWk.rfl (SL.cons (k := 3) (eS rfl (eS rfl (eS rfl (eS rfl (eS rfl (eS rfl (eS rfl (eS rfl (eS rfl (eS rfl (eS rfl (eS rfl eZ)))))))))))) rfl VWk.rfl (SL.cons (k := 2) (eS rfl (eS rfl (eS rfl (eS rfl (eS rfl (eS rfl (eS rfl (eS rfl (eS rfl (eS rfl (eS rfl (eS rfl (eS rfl eZ))))))))))))) rfl VWk.rfl SL.nil))) (BL.keep rfl (BL.keep rfl BL.nil)) (BK.cons (n := 192) rfl bZ rfl rfl (BK.cons (n := 128) rfl (bS rfl bZ) rfl rfl BK.nil))) ?_
    rcases oite H with ⟨h6, H⟩ | ⟨h6, H⟩
    · refine AW.condF eZ (congrArg Bool.not h6) ?_
      refine AW.skip ?_
      refine TQ.qn ?_
      refine AW.seq ?_
      refine AW.seq ?_
      refine AW.regs ?_
      refine oFaddrN (m := 2) (eS rfl (eS rfl eZ)) rfl ?_
      refine oLoadV (q := 2) (c := (.d (.sl 2 (List.map d_TCell a1.Writes)))) eZ (bS rfl bZ) rfl rfl ?_
      refine oFaddrN (m := 2) (eS rfl (eS rfl (eS rfl eZ))) rfl ?_
      refine oLoadV (q := 2) (c := (.d (.sl 2 (List.map d_TCell a2.Writes)))) eZ bZ rfl rfl ?_
      obtain ⟨v7, h8, H⟩ := obind H
      refine oCall (u := (.one (.d (.bool v7)))) eC Cl.fn (c_laws_eqWriteS h8) (Evs.cons (eS rfl (eS rfl eZ)) (Evs.cons eZ Evs.nil)) (VDs.cons VD.plain (VDs.cons VD.plain VDs.nil)) rfl ?_
      refine oInv eZ ?_
      refine xNil ?_
      refine TQ.qn ?_
      rcases oite H with ⟨h9, H⟩ | ⟨h9, H⟩
      · refine AW.condF eZ (congrArg Bool.not h9) ?_
        refine AW.skip ?_
        refine TQ.qn ?_
        refine AW.seq ?_
        refine AW.seq ?_
        refine AW.regs ?_
        refine oFaddrN (m := 3) (eS rfl (eS rfl (eS rfl (eS rfl (eS rfl (eS rfl (eS rfl (eS rfl eZ)))))))) rfl ?_
        refine oLoadV (q := 3) (c := (.d (.int .i64 a1.Vote))) eZ (bS rfl bZ) rfl rfl ?_
        refine oFaddrN (m := 3) (eS rfl (eS rfl (eS rfl (eS rfl (eS rfl (eS rfl (eS rfl (eS rfl (eS rfl eZ))))))))) rfl ?_
        refine oLoadV (q := 3) (c := (.d (.int .i64 a2.Vote))) eZ bZ rfl rfl ?_
        refine oNeq (eS rfl (eS rfl eZ)) eZ ?_
        refine xNil ?_
        refine TQ.qn ?_
        rcases oite H with ⟨h10, H⟩ | ⟨h10, H⟩
        · refine AW.condT eZ (decide_eq_true h10) ?_
          refine AW.seq ?_
          refine AW.regs ?_
          refine oMov eC ?_
          refine xNil ?_
          refine TQ.qn ?_
          refine AW.ret ?_
          refine TQ.qr ?_
          obtain rfl := Option.some.inj H
          exact endsR (RL.cons (RV.tmp eZ) (VO.flat rfl) RL.nil) List.nodup_nil
        · refine AW.condF eZ (decide_eq_false h10) ?_
          refine AW.skip ?_
          refine TQ.qn ?_
          refine AW.seq ?_
          refine AW.regs ?_
          refine oMov eC ?_
          refine xNil ?_
          refine TQ.qn ?_
          refine AW.ret ?_
          obtain rfl := Option.some.inj H
          exact endsR (RL.cons (RV.tmp eZ) (VO.flat rfl) RL.nil) List.nodup_nil
      · refine AW.condT eZ (congrArg Bool.not (nt h9)) ?_
        refine AW.seq ?_
        refine AW.regs ?_
        refine oMov eC ?_
        refine xNil ?_
        refine TQ.qn ?_
        refine AW.ret ?_
        refine TQ.qr ?_
        obtain rfl := Option.some.inj H
        exact endsR (RL.cons (RV.tmp eZ) (VO.flat rfl) RL.nil) List.nodup_nil
    · refine AW.condT eZ (congrArg Bool.not (nt h6)) ?_
      refine AW.seq ?_
      refine AW.regs ?_
      refine oMov eC ?_
      refine xNil ?_
      refine TQ.qn ?_
      refine AW.ret ?_
      refine TQ.qr ?_
      obtain rfl := Option.some.inj H
      exact endsR (RL.cons (RV.tmp eZ) (VO.flat rfl) RL.nil) List.nodup_nil

theorem c_laws_eqShareS {a1 : (List TShare)} {a2 : (List TShare)} {r : Bool} (H : m_laws_eqShareS a1 a2 = some r) : Fn Try.prog k_laws_eqShareS (lent [(.sl 4 (List.map d_TShare a1)), (.sl 4 (List.map d_TShare a2))]) true [(.bool r)] := by
  refine i_laws_eqShareS_fn (Nat.le_of_ble_eq_true rfl) ?_
  rw [init_mk]
  refine AW.weaken (wk_mk [] (SL.cons (v := (.one (.d (.sl 4 (List.map d_TShare a1))))) eZ rfl VWk.rfl (SL.cons (v := (.one (.d (.sl 4 (List.map d_TShare a2))))) (eS rfl eZ) rfl VWk.rfl SL.nil)) BL.nil BK.nil) ?_
  unfold m_laws_eqShareS at H
  unfold i_laws_eqShareS
  refine AW.seq ?_
  refine AW.regs ?_
  refine oMov eC ?_
  refine xNil ?_
  refine TQ.qn ?_
  refine AW.seq ?_
  refine AW.seq ?_
  refine AW.regs ?_
  refine oMov (eS rfl eZ) ?_
  refine oLenD eZ (n := a1.length) (List.length_map _) ?_
  refine oMov (eS rfl (eS rfl (eS rfl (eS rfl eZ)))) ?_
  refine oLenD eZ (n := a2.length) (List.length_map _) ?_
  refine oNeq (eS rfl (eS rfl eZ)) eZ ?_
  refine xNil ?_
  refine TQ.qn ?_
  rcases oite H with ⟨h3, H⟩ | ⟨h3, H⟩
  · refine AW.condT eZ (decide_eq_true h3) ?_
    refine AW.seq ?_
    refine AW.regs ?_
    refine oMov eC ?_
    refine xNil ?_
    refine TQ.qn ?_
    refine AW.ret ?_
    refine TQ.qr ?_
    obtain rfl := Option.some.inj H
    exact endsR (RL.cons (RV.tmp eZ) (VO.flat rfl) RL.nil) List.nodup_nil
  · refine AW.condF eZ (decide_eq_false h3) ?_
    refine AW.skip ?_
    refine TQ.qn ?_
    refine AW.seqJ (fun t4 : Unit => laws_eqShareS_j4 t4 = some r) (fun t4 => mk [] [] noG) ?_ ?_
    · intro t4 H
      unfold laws_eqShareS_j4 at H
      refine AW.seq ?_
      refine AW.regs ?_
      refine oMov eC ?_
      refine xNil ?_
      refine TQ.qn ?_
      refine AW.ret ?_
      obtain rfl := Option.some.inj H
      exact endsR (RL.cons (RV.tmp eZ) (VO.flat rfl) RL.nil) List.nodup_nil
    · refine AW.seq ?_
      refine AW.regs ?_
      refine oMov eC ?_
      refine xNil ?_
      refine TQ.qn ?_
      refine AW.block ?_
      refine AW.iter (fun s6 : Int => mk [(0, (.one (.d (.sl 4 (List.map d_TShare a1))))), (1, (.one (.d (.sl 4 (List.map d_TShare a2))))), (5, (.one (.d (.int .i64 s6))))] [] noG) H (wk_mk [] (SL.cons (eS rfl (eS rfl (eS rfl (eS rfl (eS rfl (eS rfl (eS rfl eZ))))))) rfl VWk.rfl (SL.cons (eS rfl (eS rfl (eS rfl (eS rfl (eS rfl (eS rfl (eS rfl (eS rfl eZ)))))))) rfl VWk.rfl (SL.cons eZ rfl VWk.rfl SL.nil))) BL.nil BK.nil) ?_
      intro kb7 s6 H
      unfold laws_eqShareS_b6 at H
      refine AW.seq ?_
      refine AW.seq ?_
      refine AW.regs ?_
      refine oMov (eS rfl (eS rfl eZ)) ?_
      refine oMov (eS rfl eZ) ?_
      refine oLenD eZ (n := a1.length) (List.length_map _) ?_
      refine oLss (eS rfl (eS rfl eZ)) eZ ?_
      refine xNil ?_
      refine TQ.qn ?_
      rcases oite H with ⟨h8, H⟩ | ⟨h8, H⟩
      · refine AW.condT eZ (decide_eq_true h8) ?_
        refine AW.skip ?_
        refine TQ.qn ?_
        refine AW.seq ?_
        refine AW.block ?_
        refine AW.seq ?_
        refine AW.regd ?_
        refine oMov (eS rfl (eS rfl (eS rfl (eS rfl eZ)))) ?_
        refine oMov (eS rfl (eS rfl (eS rfl (eS rfl (eS rfl (eS rfl (eS rfl eZ))))))) ?_
        obtain ⟨v9, h10, H⟩ := obind H
        refine oAtD (eS rfl eZ) eZ h10 ?_
        refine oLoadBA (es := [(.d (.int .i64 v9.Group)), (.d (.sl 2 (List.map d_TRange v9.Reads))), (.d (.sl 2 (List.map d_TCell v9.Writes))), (.d (.int .i64 v9.Vote))]) eZ rfl ?_
        refine oMov (eS rfl (eS rfl (eS rfl (eS rfl (eS rfl (eS rfl (eS rfl (eS rfl (eS rfl eZ))))))))) ?_
        refine oMov (eS rfl (eS rfl (eS rfl (eS rfl (eS rfl (eS rfl (eS rfl (eS rfl (eS rfl (eS rfl (eS rfl eZ))))))))))) ?_
        obtain ⟨v11, h12, H⟩ := obind H
        refine oAtD (eS rfl eZ) eZ h12 ?_
        refine oLoadBA (es := [(.d (.int .i64 v11.Group)), (.d (.sl 2 (List.map d_TRange v11.Reads))), (.d (.sl 2 (List.map d_TCell v11.Writes))), (.d (.int .i64 v11.Vote))]) eZ rfl ?_
        obtain ⟨v13, h14, H⟩ := obind H
        refine oCall (u := (.one (.d (.bool v13)))) eC Cl.fn (c_laws_eqShare h14) (Evs.cons (eS rfl (eS rfl (eS rfl (eS rfl eZ)))) (Evs.cons eZ Evs.nil)) (VDs.cons (VD.agg rfl) (VDs.cons (VD.agg rfl) VDs.nil)) rfl ?_
        refine oInv eZ ?_
        refine xNil ?_
        refine TQ.qn ?_
        refine AW.weaken (wk_mk [] (SL.cons (k := 26) eZ rfl VWk.rfl (SL.cons (k := 0) (eS rfl (eS rfl (eS rfl (eS rfl (eS rfl (eS rfl (eS rfl (eS rfl (eS rfl (eS rfl (eS rfl (eS rfl (eS rfl (eS rfl eZ)))))))))))))) rfl VWk.rfl (SL.cons (k := 1) (eS rfl (eS rfl (eS rfl (eS rfl (eS rfl (eS rfl (eS rfl (eS rfl (eS rfl (eS rfl (eS rfl (eS rfl (eS rfl (eS rfl (eS rfl eZ))))))))))))))) rfl VWk.rfl (SL.cons (k := 5) (eS rfl (eS rfl (eS rfl (eS rfl (eS rfl (eS rfl (eS rfl (eS rfl (eS rfl (eS rfl (eS rfl (eS rfl (eS rfl (eS rfl (eS rfl (eS rfl eZ)))))))))))))))) rfl VWk.rfl SL.nil)))) BL.nil BK.nil) ?_
        rcases oite H with ⟨h15, H⟩ | ⟨h15, H⟩
        · refine AW.condF eZ (congrArg Bool.not h15) ?_
          refine AW.skip ?_
          refine BQ.qn ?_
          refine TQ.qn ?_
          refine AW.regs ?_
          refine oMov (eS rfl (eS rfl (eS rfl eZ))) ?_
          refine oAdd eZ eC ?_
          refine oMov eZ ?_
          refine xNil ?_
          exact TQ.qn ⟨(IntKind.wrap .i64 (s6 + 1)), H, (wk_mk [] (SL.cons (eS rfl (eS rfl (eS rfl (eS rfl eZ)))) rfl VWk.rfl (SL.cons (eS rfl (eS rfl (eS rfl (eS rfl (eS rfl eZ))))) rfl VWk.rfl (SL.cons eZ rfl VWk.rfl SL.nil))) BL.nil BK.nil)⟩
        · refine AW.condT eZ (congrArg Bool.not (nt h15)) ?_
          refine AW.seq ?_
          refine AW.regs ?_
          refine oMov eC ?_
          refine xNil ?_
          refine TQ.qn ?_
          refine AW.ret ?_
          refine BQ.qr ?_
          refine TQ.qr ?_
          refine TQ.qr ?_
          refine BQ.qr ?_
          refine TQ.qr ?_
          obtain rfl := Option.some.inj H
          exact endsR (RL.cons (RV.tmp eZ) (VO.flat rfl) RL.nil) List.nodup_nil
      · refine AW.condF eZ (decide_eq_false h8) ?_
        refine AW.exit ?_
        refine TQ.qe ?_
        refine TQ.qe ?_
        refine BQ.qe ?_
        exact TQ.qn ⟨(), H, (wk_mk [] SL.nil BL.nil BK.nil)⟩

theorem c_laws_FnExactSharesOk {a1 : (List TShare)} {r : Bool} (H : m_laws_FnExactSharesOk a1 = some r) : Fn Try.prog k_laws_FnExactSharesOk (lent [(.sl 4 (List.map d_TShare a1))]) true [(.bool r)] := by
  refine i_laws_FnExactSharesOk_fn (Nat.le_of_ble_eq_true rfl) ?_
  rw [init_mk]
  refine AW.weaken (wk_mk [] (SL.cons (v := (.one (.d (.sl 4 (List.map d_TShare a1))))) eZ rfl VWk.rfl SL.nil) BL.nil BK.nil) ?_
  unfold m_laws_FnExactSharesOk at H
  unfold i_laws_FnExactSharesOk
  refine AW.seq ?_
  refine AW.regs ?_
  refine oMov eC ?_
  refine xNil ?_
  refine TQ.qn ?_
  refine AW.seq ?_
  refine AW.regs ?_
  refine oMov eC ?_
  refine xNil ?_
  refine TQ.qn ?_
  refine AW.seq ?_
  refine AW.regs ?_
  refine oMov (eS rfl (eS rfl eZ)) ?_
  refine oMov (eS rfl eZ) ?_
  obtain ⟨v2, h3, H⟩ := obind H
  refine oCall (u := (.one (.d (.int .i64 v2)))) eC Cl.fn (c_laws_szShareS h3) (Evs.cons (eS rfl eZ) (Evs.cons eZ Evs.nil)) (VDs.cons VD.plain (VDs.cons VD.plain VDs.nil)) rfl ?_
  refine oMov eZ ?_
  refine xNil ?_
  refine TQ.qn ?_
  refine AW.seq ?_
  refine AW.seq ?_
  refine AW.regs ?_
  refine oMov eZ ?_
  refine oLss eZ eC ?_
  refine xNil ?_
  refine TQ.qn ?_
  rcases oite H with ⟨h4, H⟩ | ⟨h4, H⟩
  · refine AW.condT eZ (decide_eq_true h4) ?_
    refine AW.seq ?_
    refine AW.regs ?_
    refine oMov eC ?_
    refine xNil ?_
    refine TQ.qn ?_
    refine AW.ret ?_
    refine TQ.qr ?_
    obtain rfl := Option.some.inj H
    exact endsR (RL.cons (RV.tmp eZ) (VO.flat rfl) RL.nil) List.nodup_nil
  · refine AW.condF eZ (decide_eq_false h4) ?_
    refine AW.skip ?_
    refine TQ.qn ?_
    refine AW.seq ?_
    refine AW.regs ?_
    refine oMov (eS rfl (eS rfl (eS rfl (eS rfl (eS rfl (eS rfl (eS rfl (eS rfl eZ)))))))) ?_
    obtain ⟨v5, h6, H⟩ := obind H
    refine oCallB (u := (.one (.d (.sl 4 (List.map d_TShare v5))))) eC Cl.fn (c_laws_toShareS h6) (Evs.cons eZ Evs.nil) (VDs.cons VD.plain VDs.nil) rfl rfl ?_
    obtain ⟨v7, h8, H⟩ := obind H
    refine oCall (u := (.one (.d (.bool v7)))) eC Cl.fn (c_spec_SharesOk h8) (Evs.cons eZ Evs.nil) (VDs.cons VD.plain VDs.nil) rfl ?_
    refine oMov eZ ?_
    refine xNil ?_
    refine TQ.qn ?_
    refine AW.seq ?_
    refine AW.regs ?_
    refine oMov (eS rfl (eS rfl (eS rfl (eS rfl (eS rfl (eS rfl (eS rfl (eS rfl (eS rfl (eS rfl (eS rfl (eS rfl eZ)))))))))))) ?_
    obtain ⟨v9, h10, H⟩ := obind H
    refine oCallB (u := (.one (.d (.sl 4 (List.map d_TShare v9))))) eC Cl.fn (c_laws_toShareS h10) (Evs.cons eZ Evs.nil) (VDs.cons VD.plain VDs.nil) rfl rfl ?_
    refine oMov eZ ?_
    refine xNil ?_
    refine TQ.qn ?_
    refine AW.weaken (wk_mk [] (SL.cons (k := 5) eZ rfl VWk.rfl (SL.cons (k := 4) (eS rfl (eS rfl (eS rfl eZ))) rfl VWk.rfl (SL.cons (k := 0) (eS rfl (eS rfl (eS rfl (eS rfl (eS rfl (eS rfl (eS rfl (eS rfl (eS rfl (eS rfl (eS rfl (eS rfl (eS rfl (eS rfl (eS rfl eZ))))))))))))))) rfl VWk.rfl SL.nil))) BL.nil BK.nil) ?_
    refine AW.seq ?_
    refine AW.regs ?_
    refine oMov eZ ?_
    obtain ⟨v11, h12, H⟩ := obind H
    refine oCall (u := (.one (.d (.bool v11)))) eC Cl.fn (c_impl_SharesOk h12) (Evs.cons eZ Evs.nil) (VDs.cons VD.plain VDs.nil) rfl ?_
    refine oMov eZ ?_
    refine xNil ?_
    refine TQ.qn ?_
    refine AW.seq ?_
    refine AW.seq ?_
    refine AW.regs ?_
    refine oMov eZ ?_
    refine oMov (eS rfl (eS rfl (eS rfl (eS rfl (eS rfl eZ))))) ?_
    refine oBne (eS rfl eZ) eZ ?_
    refine xNil ?_
    refine TQ.qn ?_
    rcases oite H with ⟨h13, H⟩ | ⟨h13, H⟩
    · refine AW.condT eZ h13 ?_
      refine AW.seq ?_
      refine AW.regs ?_
      refine oMov eC ?_
      refine xNil ?_
      refine TQ.qn ?_
      refine AW.ret ?_
      refine TQ.qr ?_
      obtain rfl := Option.some.inj H
      exact endsR (RL.cons (RV.tmp eZ) (VO.flat rfl) RL.nil) List.nodup_nil
    · refine AW.condF eZ (nt h13) ?_
      refine AW.skip ?_
      refine TQ.qn ?_
      refine AW.seq ?_
      refine AW.seq ?_
      refine AW.regs ?_
      refine oMov (eS rfl (eS rfl (eS rfl (eS rfl (eS rfl (eS rfl eZ)))))) ?_
      refine oMov (eS rfl (eS rfl (eS rfl (eS rfl (eS rfl (eS rfl (eS rfl (eS rfl (eS rfl eZ))))))))) ?_
      obtain ⟨v14, h15, H⟩ := obind H
      refine oCallB (u := (.one (.d (.sl 4 (List.map d_TShare v14))))) eC Cl.fn (c_laws_toShareS h15) (Evs.cons eZ Evs.nil) (VDs.cons VD.plain VDs.nil) rfl rfl ?_
      obtain ⟨v16, h17, H⟩ := obind H
      refine oCall (u := (.one (.d (.bool v16)))) eC Cl.fn (c_laws_eqShareS h17) (Evs.cons (eS rfl (eS rfl eZ)) (Evs.cons eZ Evs.nil)) (VDs.cons VD.plain (VDs.cons VD.plain VDs.nil)) rfl ?_
      refine oInv eZ ?_
      refine xNil ?_
      refine TQ.qn ?_
      rcases oite H with ⟨h18, H⟩ | ⟨h18, H⟩
      · refine AW.condF eZ (congrArg Bool.not h18) ?_
        refine AW.skip ?_
        refine TQ.qn ?_
        refine AW.seq ?_
        refine AW.regs ?_
        refine oMov eC ?_
        refine xNil ?_
        refine TQ.qn ?_
        refine AW.ret ?_
        obtain rfl := Option.some.inj H
        exact endsR (RL.cons (RV.tmp eZ) (VO.flat rfl) RL.nil) List.nodup_nil
      · refine AW.condT eZ (congrArg Bool.not (nt h18)) ?_
        refine AW.seq ?_
        refine AW.regs ?_
        refine oMov eC ?_
        refine xNil ?_
        refine TQ.qn ?_
        refine AW.ret ?_
        refine TQ.qr ?_
        obtain rfl := Option.some.inj H
        exact endsR (RL.cons (RV.tmp eZ) (VO.flat rfl) RL.nil) List.nodup_nil

end Go.AW
