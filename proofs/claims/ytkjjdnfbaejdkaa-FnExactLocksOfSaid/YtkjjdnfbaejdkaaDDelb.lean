/- That functions of the program compute what the plain functions say: printed by a program of the prover's own (tool/dec.py). Conditions: each theorem's own. -/
import Derived.Test.YtkjjdnfbaejdkaaMDel
import Derived.Test.YtkjjdnfbaejdkaaGDel
import Derived.Test.YtkjjdnfbaejdkaaDDela
set_option linter.unusedVariables false
set_option maxRecDepth 100000
namespace Go.AW
open Go.Proofs

theorem c_spec_LocksOk {a1 : (List TLock)} {r : Bool} (H : m_spec_LocksOk a1 = some r) : Fn Try.prog k_spec_LocksOk (lent [(.sl 4 (List.map d_TLock a1))]) true [(.bool r)] := by
  refine i_spec_LocksOk_fn (Nat.le_of_ble_eq_true rfl) ?_
  rw [init_mk]
  refine AW.weaken (wk_mk [] (SL.cons (v := (.one (.d (.sl 4 (List.map d_TLock a1))))) eZ rfl VWk.rfl SL.nil) BL.nil BK.nil) ?_
  unfold m_spec_LocksOk at H
  unfold i_spec_LocksOk
  refine AW.seq ?_
  refine AW.regs ?_
  refine oMov eC ?_
  refine xNil ?_
  refine TQ.qn ?_
  refine AW.seq ?_
  refine AW.seq ?_
  refine AW.regs ?_
  refine oMov (eS rfl eZ) ?_
  refine oLenD eZ (n := a1.length) (List.length_map _) ?_
  refine oGtr eZ eC ?_
  refine xNil ?_
  refine TQ.qn ?_
  rcases oite H with ⟨h2, H⟩ | ⟨h2, H⟩
  · refine AW.condT eZ (decide_eq_true h2) ?_
    refine AW.seq ?_
    refine AW.regs ?_
    refine oMov eC ?_
    refine xNil ?_
    refine TQ.qn ?_
    refine AW.ret ?_
    refine TQ.qr ?_
    obtain rfl := Option.some.inj H
    exact endsR (RL.cons (RV.tmp eZ) (VO.flat rfl) RL.nil) List.nodup_nil
  · refine AW.condF eZ (decide_eq_false h2) ?_
    refine AW.skip ?_
    refine TQ.qn ?_
    refine AW.seqJ (fun t3 : Unit => spec_LocksOk_j3 t3 = some r) (fun t3 => mk [] [] noG) ?_ ?_
    · intro t3 H
      unfold spec_LocksOk_j3 at H
      refine AW.seq ?_
      refine AW.regs ?_
      refine oMov eC ?_
      refine xNil ?_
      refine TQ.qn ?_
      refine AW.ret ?_
      obtain rfl := Option.some.inj H
      exact endsR (RL.cons (RV.tmp eZ) (VO.flat rfl) RL.nil) List.nodup_nil
    · refine AW.seq ?_
      refine AW.regs ?_
      refine oMov eC ?_
      refine xNil ?_
      refine TQ.qn ?_
      refine AW.block ?_
      refine AW.iter (fun s5 : Int => mk [(0, (.one (.d (.sl 4 (List.map d_TLock a1))))), (3, (.one (.d (.int .i64 s5))))] [] noG) H (wk_mk [] (SL.cons (eS rfl (eS rfl (eS rfl (eS rfl (eS rfl eZ))))) rfl VWk.rfl (SL.cons eZ rfl VWk.rfl SL.nil)) BL.nil BK.nil) ?_
      intro kb6 s5 H
      unfold spec_LocksOk_b5 at H
      refine AW.seq ?_
      refine AW.seq ?_
      refine AW.regs ?_
      refine oMov (eS rfl eZ) ?_
      refine oMov (eS rfl eZ) ?_
      refine oLenD eZ (n := a1.length) (List.length_map _) ?_
      refine oLss (eS rfl (eS rfl eZ)) eZ ?_
      refine xNil ?_
      refine TQ.qn ?_
      rcases oite H with ⟨h7, H⟩ | ⟨h7, H⟩
      · refine AW.condT eZ (decide_eq_true h7) ?_
        refine AW.skip ?_
        refine TQ.qn ?_
        refine AW.seqJ (fun t8 : Unit => (spec_LocksOk_j8 kb6 s5) t8 = some r) (fun t8 => mk [(0, (.one (.d (.sl 4 (List.map d_TLock a1))))), (3, (.one (.d (.int .i64 s5))))] [] noG) ?_ ?_
        · intro t8 H
          unfold spec_LocksOk_j8 at H
          refine AW.regs ?_
          refine oMov (eS rfl eZ) ?_
          refine oAdd eZ eC ?_
          refine oMov eZ ?_
          refine xNil ?_
          exact TQ.qn ⟨(IntKind.wrap .i64 (s5 + 1)), H, (wk_mk [] (SL.cons (eS rfl (eS rfl (eS rfl eZ))) rfl VWk.rfl (SL.cons eZ rfl VWk.rfl SL.nil)) BL.nil BK.nil)⟩
        · refine AW.block ?_
          refine AW.seq ?_
          refine AW.seqJ (fun t10 : Bool => (spec_LocksOk_j10 s5 a1 (spec_LocksOk_j8 kb6 s5)) t10 = some r) (fun t10 => mk [(0, (.one (.d (.sl 4 (List.map d_TLock a1))))), (3, (.one (.d (.int .i64 s5)))), (38, (.one (.d (.bool t10))))] [] noG) ?_ ?_
          · intro t10 H
            unfold spec_LocksOk_j10 at H
            rcases oite H with ⟨h12, H⟩ | ⟨h12, H⟩
            · refine AW.condT (eS rfl (eS rfl eZ)) h12 ?_
              refine AW.seq ?_
              refine AW.regs ?_
              refine oMov eC ?_
              refine xNil ?_
              refine TQ.qn ?_
              refine AW.ret ?_
              refine TQ.qr ?_
              refine BQ.qr ?_
              refine TQ.qr ?_
              refine TQ.qr ?_
              refine BQ.qr ?_
              refine TQ.qr ?_
              obtain rfl := Option.some.inj H
              exact endsR (RL.cons (RV.tmp eZ) (VO.flat rfl) RL.nil) List.nodup_nil
            · refine AW.condF (eS rfl (eS rfl eZ)) (nt h12) ?_
              refine AW.skip ?_
              refine TQ.qn ?_
              refine AW.seq ?_
              refine AW.regs ?_
              refine oMov eC ?_
              refine xNil ?_
              refine TQ.qn ?_
              refine AW.block ?_
              refine AW.iter (fun s13 : Int => mk [(0, (.one (.d (.sl 4 (List.map d_TLock a1))))), (3, (.one (.d (.int .i64 s5)))), (4, (.one (.d (.int .i64 s13))))] [] noG) H (wk_mk [] (SL.cons (eS rfl eZ) rfl VWk.rfl (SL.cons (eS rfl (eS rfl eZ)) rfl VWk.rfl (SL.cons eZ rfl VWk.rfl SL.nil))) BL.nil BK.nil) ?_
              intro kb14 s13 H
              unfold spec_LocksOk_b13 at H
              refine AW.seq ?_
              refine AW.seq ?_
              refine AW.regs ?_
              refine oMov (eS rfl (eS rfl eZ)) ?_
              refine oMov (eS rfl (eS rfl eZ)) ?_
              refine oLss (eS rfl eZ) eZ ?_
              refine xNil ?_
              refine TQ.qn ?_
              rcases oite H with ⟨h15, H⟩ | ⟨h15, H⟩
              · refine AW.condT eZ (decide_eq_true h15) ?_
                refine AW.skip ?_
                refine TQ.qn ?_
                refine AW.seq ?_
                refine AW.block ?_
                refine AW.seq ?_
                refine AW.regd ?_
                refine oMov (eS rfl (eS rfl (eS rfl eZ))) ?_
                refine oMov (eS rfl (eS rfl (eS rfl (eS rfl (eS rfl eZ))))) ?_
                obtain ⟨v16, h17, H⟩ := obind H
                refine oAtD (eS rfl eZ) eZ h17 ?_
                refine oLoadBA (es := [(.d (.int .i64 v16.Tx)), (.d (.int .i64 v16.Lo)), (.d (.int .i64 v16.Hi)), (.d (.int .i64 v16.Mode))]) eZ rfl ?_
                refine oMov (eS rfl (eS rfl (eS rfl (eS rfl (eS rfl (eS rfl (eS rfl eZ))))))) ?_
                refine oMov (eS rfl (eS rfl (eS rfl (eS rfl (eS rfl (eS rfl (eS rfl (eS rfl (eS rfl (eS rfl eZ)))))))))) ?_
                obtain ⟨v18, h19, H⟩ := obind H
                refine oAtD (eS rfl eZ) eZ h19 ?_
                refine oLoadBA (es := [(.d (.int .i64 v18.Tx)), (.d (.int .i64 v18.Lo)), (.d (.int .i64 v18.Hi)), (.d (.int .i64 v18.Mode))]) eZ rfl ?_
                obtain ⟨v20, h21, H⟩ := obind H
                refine oCall (u := (.one (.d (.bool v20)))) eC Cl.fn (c_spec_l12Clash h21) (Evs.cons (eS rfl (eS rfl (eS rfl (eS rfl eZ)))) (Evs.cons eZ Evs.nil)) (VDs.cons (VD.agg rfl) (VDs.cons (VD.agg rfl) VDs.nil)) rfl ?_
                refine xNil ?_
                refine TQ.qn ?_
                rcases oite H with ⟨h22, H⟩ | ⟨h22, H⟩
                · refine AW.condT eZ h22 ?_
                  refine AW.seq ?_
                  refine AW.regs ?_
                  refine oMov eC ?_
                  refine xNil ?_
                  refine TQ.qn ?_
                  refine AW.weaken (wk_mk [] (SL.cons (k := 2) eZ rfl VWk.rfl SL.nil) BL.nil BK.nil) ?_
                  refine AW.ret ?_
                  refine BQ.qr ?_
                  refine TQ.qr ?_
                  refine TQ.qr ?_
                  refine BQ.qr ?_
                  refine BQ.qr ?_
                  refine TQ.qr ?_
                  refine TQ.qr ?_
                  refine BQ.qr ?_
                  refine TQ.qr ?_
                  obtain rfl := Option.some.inj H
                  exact endsR (RL.cons (RV.tmp eZ) (VO.flat rfl) RL.nil) List.nodup_nil
                · refine AW.condF eZ (nt h22) ?_
                  refine AW.skip ?_
                  refine BQ.qn ?_
                  refine TQ.qn ?_
                  refine AW.regs ?_
                  refine oMov (eS rfl (eS rfl (eS rfl (eS rfl (eS rfl (eS rfl (eS rfl (eS rfl (eS rfl (eS rfl (eS rfl (eS rfl (eS rfl (eS rfl eZ)))))))))))))) ?_
                  refine oAdd eZ eC ?_
                  refine oMov eZ ?_
                  refine xNil ?_
                  exact TQ.qn ⟨(IntKind.wrap .i64 (s13 + 1)), H, (wk_mk [] (SL.cons (eS rfl (eS rfl (eS rfl (eS rfl (eS rfl (eS rfl (eS rfl (eS rfl (eS rfl (eS rfl (eS rfl (eS rfl (eS rfl (eS rfl (eS rfl eZ))))))))))))))) rfl VWk.rfl (SL.cons (eS rfl (eS rfl (eS rfl (eS rfl (eS rfl (eS rfl (eS rfl (eS rfl (eS rfl (eS rfl (eS rfl (eS rfl (eS rfl (eS rfl (eS rfl (eS rfl eZ)))))))))))))))) rfl VWk.rfl (SL.cons eZ rfl VWk.rfl SL.nil))) BL.nil BK.nil)⟩
              · refine AW.condF eZ (decide_eq_false h15) ?_
                refine AW.exit ?_
                refine TQ.qe ?_
                refine TQ.qe ?_
                refine BQ.qe ?_
                refine BQ.qn ?_
                exact TQ.qn ⟨(), H, (wk_mk [] (SL.cons (eS rfl (eS rfl (eS rfl eZ))) rfl VWk.rfl (SL.cons (eS rfl (eS rfl (eS rfl (eS rfl eZ)))) rfl VWk.rfl SL.nil)) BL.nil BK.nil)⟩
          · refine AW.regs ?_
            refine oMov (eS rfl (eS rfl (eS rfl (eS rfl eZ)))) ?_
            refine oMov (eS rfl (eS rfl (eS rfl (eS rfl (eS rfl (eS rfl eZ)))))) ?_
            obtain ⟨v23, h24, H⟩ := obind H
            refine oAtD (eS rfl eZ) eZ h24 ?_
            refine oFaddrB (m := 0) eZ rfl ?_
            refine oLoadB (e := (.int .i64 v23.Tx)) eZ rfl ?_
            obtain ⟨v25, h26, H⟩ := obind H
            refine oCall (u := (.one (.d (.bool v25)))) eC Cl.fn (c_spec_l12Tx h26) (Evs.cons eZ Evs.nil) (VDs.cons VD.plain VDs.nil) rfl ?_
            refine oInv eZ ?_
            refine oMov eZ ?_
            rcases oite H with ⟨h27, H⟩ | ⟨h27, H⟩
            · refine gDo eZ (congrArg Bool.not h27) ?_
              refine oMov (eS rfl (eS rfl (eS rfl (eS rfl (eS rfl (eS rfl (eS rfl (eS rfl (eS rfl (eS rfl (eS rfl (eS rfl eZ)))))))))))) ?_
              refine gDo (eS rfl eZ) (congrArg Bool.not h27) ?_
              refine oMov (eS rfl (eS rfl (eS rfl (eS rfl (eS rfl (eS rfl (eS rfl (eS rfl (eS rfl (eS rfl (eS rfl (eS rfl (eS rfl (eS rfl eZ)))))))))))))) ?_
              refine gDo (eS rfl (eS rfl eZ)) (congrArg Bool.not h27) ?_
              obtain ⟨v28, h29, H⟩ := obind H
              refine oAtD (eS rfl eZ) eZ h29 ?_
              refine gDo (eS rfl (eS rfl (eS rfl eZ))) (congrArg Bool.not h27) ?_
              refine oLoadBA (es := [(.d (.int .i64 v28.Tx)), (.d (.int .i64 v28.Lo)), (.d (.int .i64 v28.Hi)), (.d (.int .i64 v28.Mode))]) eZ rfl ?_
              refine gDo (eS rfl (eS rfl (eS rfl (eS rfl eZ)))) (congrArg Bool.not h27) ?_
              obtain ⟨v30, h31, H⟩ := obind H
              refine oCall (u := (.agg [(.d (.int .i64 v30.Lo)), (.d (.int .i64 v30.Hi))])) eC Cl.fn (c_spec_l12Range h31) (Evs.cons eZ Evs.nil) (VDs.cons (VD.agg rfl) VDs.nil) rfl ?_
              refine gDo (eS rfl (eS rfl (eS rfl (eS rfl (eS rfl eZ))))) (congrArg Bool.not h27) ?_
              obtain ⟨v32, h33, H⟩ := obind H
              refine oCall (u := (.one (.d (.bool v32)))) eC Cl.fn (c_spec_RangeOk h33) (Evs.cons eZ Evs.nil) (VDs.cons (VD.agg rfl) VDs.nil) rfl ?_
              refine gDo (eS rfl (eS rfl (eS rfl (eS rfl (eS rfl (eS rfl eZ)))))) (congrArg Bool.not h27) ?_
              refine oInv eZ ?_
              refine oPickF (eS rfl (eS rfl (eS rfl (eS rfl (eS rfl (eS rfl (eS rfl eZ))))))) (congrArg Bool.not h27) eZ ?_
              refine oMov eZ ?_
              rcases oite H with ⟨h34, H⟩ | ⟨h34, H⟩
              · refine gDo eZ (congrArg Bool.not h34) ?_
                refine oMov (eS rfl (eS rfl (eS rfl (eS rfl (eS rfl (eS rfl (eS rfl (eS rfl (eS rfl (eS rfl (eS rfl (eS rfl (eS rfl (eS rfl (eS rfl (eS rfl (eS rfl (eS rfl (eS rfl (eS rfl (eS rfl eZ))))))))))))))))))))) ?_
                refine gDo (eS rfl eZ) (congrArg Bool.not h34) ?_
                refine oMov (eS rfl (eS rfl (eS rfl (eS rfl (eS rfl (eS rfl (eS rfl (eS rfl (eS rfl (eS rfl (eS rfl (eS rfl (eS rfl (eS rfl (eS rfl (eS rfl (eS rfl (eS rfl (eS rfl (eS rfl (eS rfl (eS rfl (eS rfl eZ))))))))))))))))))))))) ?_
                refine gDo (eS rfl (eS rfl eZ)) (congrArg Bool.not h34) ?_
                obtain ⟨v35, h36, H⟩ := obind H
                refine oAtD (eS rfl eZ) eZ h36 ?_
                refine gDo (eS rfl (eS rfl (eS rfl eZ))) (congrArg Bool.not h34) ?_
                refine oFaddrB (m := 3) eZ rfl ?_
                refine gDo (eS rfl (eS rfl (eS rfl (eS rfl eZ)))) (congrArg Bool.not h34) ?_
                refine oLoadB (e := (.int .i64 v35.Mode)) eZ rfl ?_
                refine gDo (eS rfl (eS rfl (eS rfl (eS rfl (eS rfl eZ))))) (congrArg Bool.not h34) ?_
                obtain ⟨v37, h38, H⟩ := obind H
                refine oCall (u := (.one (.d (.bool v37)))) eC Cl.fn (c_spec_l12Mode h38) (Evs.cons eZ Evs.nil) (VDs.cons VD.plain VDs.nil) rfl ?_
                refine gDo (eS rfl (eS rfl (eS rfl (eS rfl (eS rfl (eS rfl eZ)))))) (congrArg Bool.not h34) ?_
                refine oInv eZ ?_
                refine oPickF (eS rfl (eS rfl (eS rfl (eS rfl (eS rfl (eS rfl (eS rfl eZ))))))) (congrArg Bool.not h34) eZ ?_
                refine xNil ?_
                exact TQ.qn ⟨(!v37), H, (wk_mk [] (SL.cons (eS rfl (eS rfl (eS rfl (eS rfl (eS rfl (eS rfl (eS rfl (eS rfl (eS rfl (eS rfl (eS rfl (eS rfl (eS rfl (eS rfl (eS rfl (eS rfl (eS rfl (eS rfl (eS rfl (eS rfl (eS rfl (eS rfl (eS rfl (eS rfl (eS rfl (eS rfl (eS rfl (eS rfl (eS rfl eZ))))))))))))))))))))))))))))) rfl VWk.rfl (SL.cons (eS rfl (eS rfl (eS rfl (eS rfl (eS rfl (eS rfl (eS rfl (eS rfl (eS rfl (eS rfl (eS rfl (eS rfl (eS rfl (eS rfl (eS rfl (eS rfl (eS rfl (eS rfl (eS rfl (eS rfl (eS rfl (eS rfl (eS rfl (eS rfl (eS rfl (eS rfl (eS rfl (eS rfl (eS rfl (eS rfl eZ)))))))))))))))))))))))))))))) rfl VWk.rfl (SL.cons eZ rfl VWk.rfl SL.nil))) BL.nil BK.nil)⟩
              · refine gSkip eZ (congrArg Bool.not (nt h34)) rfl ?_
                refine gSkip (eS rfl eZ) (congrArg Bool.not (nt h34)) rfl ?_
                refine gSkip (eS rfl (eS rfl eZ)) (congrArg Bool.not (nt h34)) rfl ?_
                refine gSkip (eS rfl (eS rfl (eS rfl eZ))) (congrArg Bool.not (nt h34)) rfl ?_
                refine gSkip (eS rfl (eS rfl (eS rfl (eS rfl eZ)))) (congrArg Bool.not (nt h34)) rfl ?_
                refine gSkip (eS rfl (eS rfl (eS rfl (eS rfl (eS rfl eZ))))) (congrArg Bool.not (nt h34)) rfl ?_
                refine gSkip (eS rfl (eS rfl (eS rfl (eS rfl (eS rfl (eS rfl eZ)))))) (congrArg Bool.not (nt h34)) rfl ?_
                refine oPickT (eS rfl (eS rfl (eS rfl (eS rfl (eS rfl (eS rfl (eS rfl eZ))))))) (congrArg Bool.not (nt h34)) eC ?_
                refine xNil ?_
                exact TQ.qn ⟨true, H, (wk_mk [] (SL.cons (eS rfl (eS rfl (eS rfl (eS rfl (eS rfl (eS rfl (eS rfl (eS rfl (eS rfl (eS rfl (eS rfl (eS rfl (eS rfl (eS rfl (eS rfl (eS rfl (eS rfl (eS rfl (eS rfl (eS rfl (eS rfl (eS rfl (eS rfl (eS rfl (eS rfl (eS rfl (eS rfl (eS rfl (eS rfl eZ))))))))))))))))))))))))))))) rfl VWk.rfl (SL.cons (eS rfl (eS rfl (eS rfl (eS rfl (eS rfl (eS rfl (eS rfl (eS rfl (eS rfl (eS rfl (eS rfl (eS rfl (eS rfl (eS rfl (eS rfl (eS rfl (eS rfl (eS rfl (eS rfl (eS rfl (eS rfl (eS rfl (eS rfl (eS rfl (eS rfl (eS rfl (eS rfl (eS rfl (eS rfl (eS rfl eZ)))))))))))))))))))))))))))))) rfl VWk.rfl (SL.cons eZ rfl VWk.rfl SL.nil))) BL.nil BK.nil)⟩
            · refine gSkip eZ (congrArg Bool.not (nt h27)) rfl ?_
              refine gSkip (eS rfl eZ) (congrArg Bool.not (nt h27)) rfl ?_
              refine gSkip (eS rfl (eS rfl eZ)) (congrArg Bool.not (nt h27)) rfl ?_
              refine gSkip (eS rfl (eS rfl (eS rfl eZ))) (congrArg Bool.not (nt h27)) rfl ?_
              refine gSkip (eS rfl (eS rfl (eS rfl (eS rfl eZ)))) (congrArg Bool.not (nt h27)) rfl ?_
              refine gSkip (eS rfl (eS rfl (eS rfl (eS rfl (eS rfl eZ))))) (congrArg Bool.not (nt h27)) rfl ?_
              refine gSkip (eS rfl (eS rfl (eS rfl (eS rfl (eS rfl (eS rfl eZ)))))) (congrArg Bool.not (nt h27)) rfl ?_
              refine oPickT (eS rfl (eS rfl (eS rfl (eS rfl (eS rfl (eS rfl (eS rfl eZ))))))) (congrArg Bool.not (nt h27)) eC ?_
              refine oMov eZ ?_
              refine gSkip eZ rfl rfl ?_
              refine gSkip (eS rfl eZ) rfl rfl ?_
              refine gSkip (eS rfl (eS rfl eZ)) rfl rfl ?_
              refine gSkip (eS rfl (eS rfl (eS rfl eZ))) rfl rfl ?_
              refine gSkip (eS rfl (eS rfl (eS rfl (eS rfl eZ)))) rfl rfl ?_
              refine gSkip (eS rfl (eS rfl (eS rfl (eS rfl (eS rfl eZ))))) rfl rfl ?_
              refine gSkip (eS rfl (eS rfl (eS rfl (eS rfl (eS rfl (eS rfl eZ)))))) rfl rfl ?_
              refine oPickT (eS rfl (eS rfl (eS rfl (eS rfl (eS rfl (eS rfl (eS rfl eZ))))))) rfl eC ?_
              refine xNil ?_
              exact TQ.qn ⟨true, H, (wk_mk [] (SL.cons (eS rfl (eS rfl (eS rfl (eS rfl (eS rfl (eS rfl (eS rfl (eS rfl (eS rfl (eS rfl (eS rfl (eS rfl (eS rfl (eS rfl (eS rfl (eS rfl (eS rfl (eS rfl (eS rfl (eS rfl (eS rfl (eS rfl (eS rfl (eS rfl (eS rfl (eS rfl (eS rfl (eS rfl (eS rfl eZ))))))))))))))))))))))))))))) rfl VWk.rfl (SL.cons (eS rfl (eS rfl (eS rfl (eS rfl (eS rfl (eS rfl (eS rfl (eS rfl (eS rfl (eS rfl (eS rfl (eS rfl (eS rfl (eS rfl (eS rfl (eS rfl (eS rfl (eS rfl (eS rfl (eS rfl (eS rfl (eS rfl (eS rfl (eS rfl (eS rfl (eS rfl (eS rfl (eS rfl (eS rfl (eS rfl eZ)))))))))))))))))))))))))))))) rfl VWk.rfl (SL.cons eZ rfl VWk.rfl SL.nil))) BL.nil BK.nil)⟩
      · refine AW.condF eZ (decide_eq_false h7) ?_
        refine AW.exit ?_
        refine TQ.qe ?_
        refine TQ.qe ?_
        refine BQ.qe ?_
        exact TQ.qn ⟨(), H, (wk_mk [] SL.nil BL.nil BK.nil)⟩

theorem c_spec_l12Keep {a1 : (List TLock)} {a2 : Int} {a3 : Bool} {r : (List TLock)} (H : m_spec_l12Keep a1 a2 a3 = some r) : Fn Try.prog k_spec_l12Keep (lent [(.sl 4 (List.map d_TLock a1)), (.int .i64 a2), (.bool a3)]) true [(.sl 4 (List.map d_TLock r))] := by
  refine i_spec_l12Keep_fn (Nat.le_of_ble_eq_true rfl) ?_
  rw [init_mk]
  refine AW.weaken (wk_mk [] (SL.cons (v := (.one (.d (.sl 4 (List.map d_TLock a1))))) eZ rfl VWk.rfl (SL.cons (v := (.one (.d (.int .i64 a2)))) (eS rfl eZ) rfl VWk.rfl (SL.cons (v := (.one (.d (.bool a3)))) (eS rfl (eS rfl eZ)) rfl VWk.rfl SL.nil))) BL.nil BK.nil) ?_
  unfold m_spec_l12Keep at H
  unfold i_spec_l12Keep
  refine AW.seq ?_
  refine AW.regs ?_
  refine oMov eC ?_
  refine xNil ?_
  refine TQ.qn ?_
  refine AW.seq ?_
  refine AW.regs ?_
  refine oBsliceZ (m := 576) rfl nZ ?_
  refine oMov eZ ?_
  refine xNil ?_
  refine TQ.qn ?_
  refine AW.seqJ (fun t4 : (List TLock) => spec_l12Keep_j4 t4 = some r) (fun t4 => mk [(7, (.one (.sl 320128 0 t4.length)))] [(320128, (.data 4 (List.map d_TLock t4) true none))] noG) ?_ ?_
  · intro t4 H
    unfold spec_l12Keep_j4 at H
    refine AW.seq ?_
    refine AW.regs ?_
    refine oMov eZ ?_
    refine oMov eZ ?_
    refine xNil ?_
    refine TQ.qn ?_
    refine AW.ret ?_
    obtain rfl := Option.some.inj H
    exact endsR (RL.cons (RV.tmp eZ) (VO.sl bZ (List.length_map _) (allFlat fun _ => rfl)) RL.nil) (by decide)
  · refine AW.seq ?_
    refine AW.regs ?_
    refine oMov eC ?_
    refine xNil ?_
    refine TQ.qn ?_
    refine AW.block ?_
    refine AW.iter (fun s6 : ((List TLock) × Int) => mk [(0, (.one (.d (.sl 4 (List.map d_TLock a1))))), (1, (.one (.d (.int .i64 a2)))), (2, (.one (.d (.bool a3)))), (7, (.one (.sl 320192 0 s6.1.length))), (8, (.one (.d (.int .i64 s6.2))))] [(320192, (.data 4 (List.map d_TLock s6.1) true none))] noG) H ((wk_mk [] (SL.cons (eS rfl (eS rfl (eS rfl (eS rfl (eS rfl eZ))))) rfl VWk.rfl (SL.cons (eS rfl (eS rfl (eS rfl (eS rfl (eS rfl (eS rfl eZ)))))) rfl VWk.rfl (SL.cons (eS rfl (eS rfl (eS rfl (eS rfl (eS rfl (eS rfl (eS rfl eZ))))))) rfl VWk.rfl (SL.cons eZ rfl (VWk.one (CWk.len (by first | (simp; done) | (simp; omega) | omega))) (SL.cons (eS rfl eZ) rfl VWk.rfl SL.nil))))) (BL.keep rfl BL.nil) (BK.cons rfl bZ rfl rfl BK.nil)).trans (wk_zs 320192 4 7 true (eS rfl eZ) nZ)) ?_
    intro kb7 s6 H
    unfold spec_l12Keep_b6 at H
    refine AW.seq ?_
    refine AW.seq ?_
    refine AW.regs ?_
    refine oMov (eS rfl (eS rfl (eS rfl (eS rfl eZ)))) ?_
    refine oMov (eS rfl eZ) ?_
    refine oLenD eZ (n := a1.length) (List.length_map _) ?_
    refine oLss (eS rfl (eS rfl eZ)) eZ ?_
    refine xNil ?_
    refine TQ.qn ?_
    rcases oite H with ⟨h8, H⟩ | ⟨h8, H⟩
    · refine AW.condT eZ (decide_eq_true h8) ?_
      refine AW.skip ?_
      refine TQ.qn ?_
      refine AW.seq ?_
      refine AW.block ?_
      refine AW.seq ?_
      refine AW.regs ?_
      refine oMov (eS rfl (eS rfl (eS rfl (eS rfl eZ)))) ?_
      refine oMov (eS rfl (eS rfl (eS rfl (eS rfl (eS rfl (eS rfl (eS rfl (eS rfl (eS rfl eZ))))))))) ?_
      obtain ⟨v9, h10, H⟩ := obind H
      refine oAtD (eS rfl eZ) eZ h10 ?_
      refine oFaddrB (m := 0) eZ rfl ?_
      refine oLoadB (e := (.int .i64 v9.Tx)) eZ rfl ?_
      refine oMov (eS rfl (eS rfl (eS rfl (eS rfl (eS rfl (eS rfl (eS rfl (eS rfl (eS rfl (eS rfl eZ)))))))))) ?_
      refine oEql (eS rfl eZ) eZ ?_
      refine oMov (eS rfl (eS rfl (eS rfl (eS rfl (eS rfl (eS rfl (eS rfl (eS rfl (eS rfl (eS rfl (eS rfl (eS rfl (eS rfl eZ))))))))))))) ?_
      refine oBeq (eS rfl eZ) eZ ?_
      refine xNil ?_
      refine TQ.qn ?_
      refine AW.weaken (wk_mk [] (SL.cons (k := 24) eZ rfl VWk.rfl (SL.cons (k := 0) (eS rfl (eS rfl (eS rfl (eS rfl (eS rfl (eS rfl (eS rfl (eS rfl (eS rfl (eS rfl (eS rfl (eS rfl (eS rfl eZ))))))))))))) rfl VWk.rfl (SL.cons (k := 1) (eS rfl (eS rfl (eS rfl (eS rfl (eS rfl (eS rfl (eS rfl (eS rfl (eS rfl (eS rfl (eS rfl (eS rfl (eS rfl (eS rfl eZ)))))))))))))) rfl VWk.rfl (SL.cons (k := 2) (eS rfl (eS rfl (eS rfl (eS rfl (eS rfl (eS rfl (eS rfl (eS rfl (eS rfl (eS rfl (eS rfl (eS rfl (eS rfl (eS rfl (eS rfl eZ))))))))))))))) rfl VWk.rfl (SL.cons (k := 7) (eS rfl (eS rfl (eS rfl (eS rfl (eS rfl (eS rfl (eS rfl (eS rfl (eS rfl (eS rfl (eS rfl (eS rfl (eS rfl (eS rfl (eS rfl (eS rfl eZ)))))))))))))))) rfl VWk.rfl (SL.cons (k := 8) (eS rfl (eS rfl (eS rfl (eS rfl (eS rfl (eS rfl (eS rfl (eS rfl (eS rfl (eS rfl (eS rfl (eS rfl (eS rfl (eS rfl (eS rfl (eS rfl (eS rfl eZ))))))))))))))))) rfl VWk.rfl SL.nil)))))) (BL.keep rfl BL.nil) (BK.cons (n := 320192) rfl bZ rfl rfl BK.nil)) ?_
      rcases oite H with ⟨h11, H⟩ | ⟨h11, H⟩
      · refine AW.condT eZ h11 ?_
        refine AW.regs ?_
        refine oMov (eS rfl (eS rfl (eS rfl (eS rfl eZ)))) ?_
        refine oMov (eS rfl (eS rfl eZ)) ?_
        refine oMov (eS rfl (eS rfl (eS rfl (eS rfl (eS rfl (eS rfl (eS rfl eZ))))))) ?_
        obtain ⟨v12, h13, H⟩ := obind H
        refine oAtD (eS rfl eZ) eZ h13 ?_
        refine oLoadBA (es := [(.d (.int .i64 v12.Tx)), (.d (.int .i64 v12.Lo)), (.d (.int .i64 v12.Hi)), (.d (.int .i64 v12.Mode))]) eZ rfl ?_
        refine oBslice (m := 1920) (q := 1) (cs := [(.d (.int .i64 v12.Tx)), (.d (.int .i64 v12.Lo)), (.d (.int .i64 v12.Hi)), (.d (.int .i64 v12.Mode))]) rfl (PsCons eZ PsNil) rfl (List.cons_ne_nil _ _) (by simp) (nS rfl nZ) ?_
        obtain ⟨h14, H⟩ := oguard H
        refine oAppN (f := d_TLock) (xs := s6.1) (ys := [v12]) (q := (s6.1 ++ ([v12])).length) (eS rfl (eS rfl (eS rfl (eS rfl (eS rfl eZ))))) eZ (bS rfl bZ) rfl (El.one (f := d_TLock) (t := v12) (es := [(.int .i64 v12.Tx), (.int .i64 v12.Lo), (.int .i64 v12.Hi), (.int .i64 v12.Mode)]) bZ rfl rfl rfl) rfl h14 (by decide) (by decide) (erL.cons (v' := (.one (.sl 1920 0 1))) rfl (erL.cons (v' := (.agg [(.d (.int .i64 v12.Tx)), (.d (.int .i64 v12.Lo)), (.d (.int .i64 v12.Hi)), (.d (.int .i64 v12.Mode))])) rfl (erL.cons (v' := (.one (.ptr (.bd (d_TLock v12) 0)))) rfl (erL.cons (v' := (.one (.d (.int .i64 s6.2)))) rfl (erL.cons (v' := (.one (.d (.sl 4 (List.map d_TLock a1))))) rfl (erL.cons (v' := (.one .any)) rfl (erL.cons (v' := (.one (.d (.bool ((decide (v9.Tx = a2)) == a3))))) rfl (erL.cons (v' := (.one (.d (.sl 4 (List.map d_TLock a1))))) rfl (erL.cons (v' := (.one (.d (.int .i64 a2)))) rfl (erL.cons (v' := (.one (.d (.bool a3)))) rfl (erL.cons (v' := (.one .any)) rfl (erL.cons (v' := (.one (.d (.int .i64 s6.2)))) rfl erL.nil)))))))))))) (erH.cons (v' := (.vars 4 [(.d (.int .i64 v12.Tx)), (.d (.int .i64 v12.Lo)), (.d (.int .i64 v12.Hi)), (.d (.int .i64 v12.Mode))])) rfl rfl (erH.drop rfl erH.nil)) ?_
        refine oMov eZ ?_
        refine xNil ?_
        refine BQ.qn ?_
        refine TQ.qn ?_
        refine AW.regs ?_
        refine oMov (eS rfl (eS rfl (eS rfl (eS rfl (eS rfl (eS rfl (eS rfl (eS rfl (eS rfl (eS rfl (eS rfl (eS rfl (eS rfl eZ))))))))))))) ?_
        refine oAdd eZ eC ?_
        refine oMov eZ ?_
        refine xNil ?_
        exact TQ.qn ⟨((s6.1 ++ ([v12])), (IntKind.wrap .i64 (s6.2 + 1))), H, (wk_mk [1920] (SL.cons (eS rfl (eS rfl (eS rfl (eS rfl (eS rfl (eS rfl (eS rfl (eS rfl (eS rfl (eS rfl (eS rfl (eS rfl eZ)))))))))))) rfl VWk.rfl (SL.cons (eS rfl (eS rfl (eS rfl (eS rfl (eS rfl (eS rfl (eS rfl (eS rfl (eS rfl (eS rfl (eS rfl (eS rfl (eS rfl eZ))))))))))))) rfl VWk.rfl (SL.cons (eS rfl (eS rfl (eS rfl (eS rfl (eS rfl (eS rfl (eS rfl (eS rfl (eS rfl (eS rfl (eS rfl (eS rfl (eS rfl (eS rfl eZ)))))))))))))) rfl VWk.rfl (SL.cons (eS rfl (eS rfl (eS rfl eZ))) rfl VWk.rfl (SL.cons eZ rfl VWk.rfl SL.nil))))) (BL.keep rfl (BL.drop rfl BL.nil)) (BK.cons rfl bZ rfl rfl BK.nil))⟩
      · refine AW.condF eZ (nt h11) ?_
        refine AW.skip ?_
        refine BQ.qn ?_
        refine TQ.qn ?_
        refine AW.regs ?_
        refine oMov (eS rfl (eS rfl (eS rfl (eS rfl (eS rfl eZ))))) ?_
        refine oAdd eZ eC ?_
        refine oMov eZ ?_
        refine xNil ?_
        exact TQ.qn ⟨(s6.1, (IntKind.wrap .i64 (s6.2 + 1))), H, (wk_mk [] (SL.cons (eS rfl (eS rfl (eS rfl (eS rfl eZ)))) rfl VWk.rfl (SL.cons (eS rfl (eS rfl (eS rfl (eS rfl (eS rfl eZ))))) rfl VWk.rfl (SL.cons (eS rfl (eS rfl (eS rfl (eS rfl (eS rfl (eS rfl eZ)))))) rfl VWk.rfl (SL.cons (eS rfl (eS rfl (eS rfl (eS rfl (eS rfl (eS rfl (eS rfl eZ))))))) rfl VWk.rfl (SL.cons eZ rfl VWk.rfl SL.nil))))) (BL.keep rfl BL.nil) (BK.cons rfl bZ rfl rfl BK.nil))⟩
    · refine AW.condF eZ (decide_eq_false h8) ?_
      refine AW.exit ?_
      refine TQ.qe ?_
      refine TQ.qe ?_
      refine BQ.qe ?_
      exact TQ.qn ⟨s6.1, H, ((wk_mk [] (SL.cons (eS rfl (eS rfl (eS rfl (eS rfl (eS rfl (eS rfl (eS rfl eZ))))))) rfl VWk.rfl SL.nil) (BL.keep rfl BL.nil) (BK.cons rfl bZ rfl rfl BK.nil)).trans (wk_ren 320192 320128 rfl rfl (nS rfl nZ)))⟩

theorem c_spec_LocksDrop {a1 : (List TLock)} {a2 : Int} {r : (List TLock)} (H : m_spec_LocksDrop a1 a2 = some r) : Fn Try.prog k_spec_LocksDrop (lent [(.sl 4 (List.map d_TLock a1)), (.int .i64 a2)]) true [(.sl 4 (List.map d_TLock r))] := by
  refine i_spec_LocksDrop_fn (Nat.le_of_ble_eq_true rfl) ?_
  rw [init_mk]
  refine AW.weaken (wk_mk [] (SL.cons (v := (.one (.d (.sl 4 (List.map d_TLock a1))))) eZ rfl VWk.rfl (SL.cons (v := (.one (.d (.int .i64 a2)))) (eS rfl eZ) rfl VWk.rfl SL.nil)) BL.nil BK.nil) ?_
  unfold m_spec_LocksDrop at H
  unfold i_spec_LocksDrop
  refine AW.seq ?_
  refine AW.regs ?_
  refine oMov eC ?_
  refine xNil ?_
  refine TQ.qn ?_
  refine AW.seq ?_
  refine AW.seq ?_
  refine AW.regs ?_
  refine oMov (eS rfl eZ) ?_
  obtain ⟨v3, h4, H⟩ := obind H
  refine oCall (u := (.one (.d (.bool v3)))) eC Cl.fn (c_spec_LocksOk h4) (Evs.cons eZ Evs.nil) (VDs.cons VD.plain VDs.nil) rfl ?_
  refine oInv eZ ?_
  refine xNil ?_
  refine TQ.qn ?_
  rcases oite H with ⟨h5, H⟩ | ⟨h5, H⟩
  · refine AW.condF eZ (congrArg Bool.not h5) ?_
    refine AW.skip ?_
    refine TQ.qn ?_
    refine AW.seq ?_
    refine AW.regs ?_
    refine oMov (eS rfl (eS rfl (eS rfl (eS rfl eZ)))) ?_
    refine oMov (eS rfl (eS rfl (eS rfl (eS rfl (eS rfl (eS rfl eZ)))))) ?_
    obtain ⟨v6, h7, H⟩ := obind H
    refine oCallN (u := (.one (.sl 704 0 ((List.map d_TLock v6).length)))) (bs := [(704, (.data 4 (List.map d_TLock v6) true none))]) eC Cl.fn (c_spec_l12Keep h7) (Evs.cons (eS rfl eZ) (Evs.cons eZ (Evs.cons eC Evs.nil))) (VDs.cons VD.plain (VDs.cons VD.plain (VDs.cons VD.plain VDs.nil))) rfl rfl (fC nZ rfl (fC nZ rfl fN)) ?_
    refine oMov eZ ?_
    refine xNil ?_
    refine TQ.qn ?_
    refine AW.ret ?_
    obtain rfl := Option.some.inj H
    exact endsR (RL.cons (RV.tmp eZ) (VO.sl bZ (by first | (simp; done) | (simp; omega) | omega) (allFlat fun _ => rfl)) RL.nil) (by decide)
  · refine AW.condT eZ (congrArg Bool.not (nt h5)) ?_
    refine AW.seq ?_
    refine AW.regs ?_
    refine oBsliceZ (m := 512) rfl nZ ?_
    refine oMov eZ ?_
    refine xNil ?_
    refine TQ.qn ?_
    refine AW.ret ?_
    refine TQ.qr ?_
    obtain rfl := Option.some.inj H
    exact endsR (RL.cons (RV.tmp eZ) VO.zs RL.nil) List.nodup_nil

theorem c_impl_isTx {a1 : Int} {r : Bool} (H : m_impl_isTx a1 = some r) : Fn Try.prog k_impl_isTx (lent [(.int .i64 a1)]) true [(.bool r)] := by
  refine i_impl_isTx_fn (Nat.le_of_ble_eq_true rfl) ?_
  rw [init_mk]
  refine AW.weaken (wk_mk [] (SL.cons (v := (.one (.d (.int .i64 a1)))) eZ rfl VWk.rfl SL.nil) BL.nil BK.nil) ?_
  unfold m_impl_isTx at H
  unfold i_impl_isTx
  refine AW.seq ?_
  refine AW.regs ?_
  refine oMov eC ?_
  refine xNil ?_
  refine TQ.qn ?_
  refine AW.seq ?_
  refine AW.regs ?_
  refine oMov (eS rfl eZ) ?_
  obtain ⟨v2, h3, H⟩ := obind H
  refine oCall (u := (.one (.d (.bool v2)))) eC Cl.fn (c_impl_from h3) (Evs.cons eZ (Evs.cons eC (Evs.cons eC Evs.nil))) (VDs.cons VD.plain (VDs.cons VD.plain (VDs.cons VD.plain VDs.nil))) rfl ?_
  refine oMov eZ ?_
  refine xNil ?_
  refine TQ.qn ?_
  refine AW.ret ?_
  obtain rfl := Option.some.inj H
  exact endsR (RL.cons (RV.tmp eZ) (VO.flat rfl) RL.nil) List.nodup_nil

theorem c_impl_Lock_keys {a1 : TLock} {r : TRange} (H : m_impl_Lock_keys a1 = some r) : Fn Try.prog k__impl_Lock_keys (lent [(.agg (d_TLock a1))]) true [(.agg (d_TRange r))] := by
  refine i__impl_Lock_keys_fn (Nat.le_of_ble_eq_true rfl) ?_
  rw [init_mk]
  refine AW.weaken (wk_mk [] (SL.cons (v := (.agg [(.d (.int .i64 a1.Tx)), (.d (.int .i64 a1.Lo)), (.d (.int .i64 a1.Hi)), (.d (.int .i64 a1.Mode))])) eZ rfl VWk.rfl SL.nil) BL.nil BK.nil) ?_
  unfold m_impl_Lock_keys at H
  unfold i__impl_Lock_keys
  refine AW.seq ?_
  refine AW.regs ?_
  refine oBox (n := 64) (m := 4) (cs := [(.d (.int .i64 a1.Tx)), (.d (.int .i64 a1.Lo)), (.d (.int .i64 a1.Hi)), (.d (.int .i64 a1.Mode))]) rfl eZ rfl rfl nZ ?_
  refine oVar (n := 128) (m := 2) rfl rfl (nS rfl nZ) ?_
  refine xNil ?_
  refine TQ.qn ?_
  refine AW.seq ?_
  refine AW.regs ?_
  refine oFaddrN (m := 1) (eS rfl eZ) rfl ?_
  refine oLoadV (q := 1) (c := (.d (.int .i64 a1.Lo))) eZ (bS rfl bZ) rfl rfl ?_
  refine oFaddrN (m := 2) (eS rfl (eS rfl (eS rfl eZ))) rfl ?_
  refine oLoadV (q := 2) (c := (.d (.int .i64 a1.Hi))) eZ (bS rfl bZ) rfl rfl ?_
  refine oBuild (cs := [(.d (.int .i64 a1.Lo)), (.d (.int .i64 a1.Hi))]) (PsCons (eS rfl (eS rfl eZ)) (PsCons eZ PsNil)) rfl ?_
  refine oStoreV (es := [(.d (.int .i64 a1.Lo)), (.d (.int .i64 a1.Hi))]) (eS rfl (eS rfl (eS rfl (eS rfl (eS rfl eZ))))) eZ rfl rfl bZ rfl ?_
  refine xNil ?_
  refine TQ.qn ?_
  refine AW.ret ?_
  obtain rfl := Option.some.inj H
  exact endsR (RL.cons (RV.cellA (es := [(.d (.int .i64 a1.Lo)), (.d (.int .i64 a1.Hi))]) (eS rfl (eS rfl (eS rfl (eS rfl (eS rfl eZ))))) bZ rfl) (VO.agg (ds := [(.int .i64 a1.Lo), (.int .i64 a1.Hi)]) rfl rfl) RL.nil) List.nodup_nil

theorem c_impl_isMode {a1 : Int} {r : Bool} (H : m_impl_isMode a1 = some r) : Fn Try.prog k_impl_isMode (lent [(.int .i64 a1)]) true [(.bool r)] := by
  refine i_impl_isMode_fn (Nat.le_of_ble_eq_true rfl) ?_
  rw [init_mk]
  refine AW.weaken (wk_mk [] (SL.cons (v := (.one (.d (.int .i64 a1)))) eZ rfl VWk.rfl SL.nil) BL.nil BK.nil) ?_
  unfold m_impl_isMode at H
  unfold i_impl_isMode
  refine AW.seq ?_
  refine AW.regs ?_
  refine oMov eC ?_
  refine xNil ?_
  refine TQ.qn ?_
  refine AW.seq ?_
  refine AW.regs ?_
  refine oMov (eS rfl eZ) ?_
  refine oEql eZ eC ?_
  refine oMov eZ ?_
  rcases oite H with ⟨h2, H⟩ | ⟨h2, H⟩
  · refine gSkip eZ (decide_eq_true h2) rfl ?_
    refine gSkip (eS rfl eZ) (decide_eq_true h2) rfl ?_
    refine oPickT (eS rfl (eS rfl eZ)) (decide_eq_true h2) eC ?_
    refine oMov eZ ?_
    refine xNil ?_
    refine TQ.qn ?_
    refine AW.ret ?_
    obtain rfl := Option.some.inj H
    exact endsR (RL.cons (RV.tmp eZ) (VO.flat rfl) RL.nil) List.nodup_nil
  · refine gDo eZ (decide_eq_false h2) ?_
    refine oMov (eS rfl (eS rfl (eS rfl (eS rfl eZ)))) ?_
    refine gDo (eS rfl eZ) (decide_eq_false h2) ?_
    refine oEql eZ eC ?_
    refine oPickF (eS rfl (eS rfl eZ)) (decide_eq_false h2) eZ ?_
    refine oMov eZ ?_
    refine xNil ?_
    refine TQ.qn ?_
    refine AW.ret ?_
    obtain rfl := Option.some.inj H
    exact endsR (RL.cons (RV.tmp eZ) (VO.flat rfl) RL.nil) List.nodup_nil

theorem c_impl_meets {a1 : TRange} {a2 : TRange} {r : Bool} (H : m_impl_meets a1 a2 = some r) : Fn Try.prog k_impl_meets (lent [(.agg (d_TRange a1)), (.agg (d_TRange a2))]) true [(.bool r)] := by
  refine i_impl_meets_fn (Nat.le_of_ble_eq_true rfl) ?_
  rw [init_mk]
  refine AW.weaken (wk_mk [] (SL.cons (v := (.agg [(.d (.int .i64 a1.Lo)), (.d (.int .i64 a1.Hi))])) eZ rfl VWk.rfl (SL.cons (v := (.agg [(.d (.int .i64 a2.Lo)), (.d (.int .i64 a2.Hi))])) (eS rfl eZ) rfl VWk.rfl SL.nil)) BL.nil BK.nil) ?_
  unfold m_impl_meets at H
  unfold i_impl_meets
  refine AW.seq ?_
  refine AW.regs ?_
  refine oBox (n := 128) (m := 2) (cs := [(.d (.int .i64 a1.Lo)), (.d (.int .i64 a1.Hi))]) rfl eZ rfl rfl nZ ?_
  refine oBox (n := 192) (m := 2) (cs := [(.d (.int .i64 a2.Lo)), (.d (.int .i64 a2.Hi))]) rfl (eS rfl (eS rfl eZ)) rfl rfl (nS rfl nZ) ?_
  refine oMov eC ?_
  refine xNil ?_
  refine TQ.qn ?_
  refine AW.seq ?_
  refine AW.regs ?_
  refine oFaddrN (m := 0) (eS rfl (eS rfl eZ)) rfl ?_
  refine oLoadV (q := 0) (c := (.d (.int .i64 a1.Lo))) eZ (bS rfl bZ) rfl rfl ?_
  refine oFaddrN (m := 1) (eS rfl (eS rfl (eS rfl eZ))) rfl ?_
  refine oLoadV (q := 1) (c := (.d (.int .i64 a2.Hi))) eZ bZ rfl rfl ?_
  refine oLss (eS rfl (eS rfl eZ)) eZ ?_
  refine oMov eZ ?_
  rcases oite H with ⟨h3, H⟩ | ⟨h3, H⟩
  · refine gDo eZ (decide_eq_true h3) ?_
    refine oFaddrN (m := 0) (eS rfl (eS rfl (eS rfl (eS rfl (eS rfl (eS rfl (eS rfl eZ))))))) rfl ?_
    refine gDo (eS rfl eZ) (decide_eq_true h3) ?_
    refine oLoadV (q := 0) (c := (.d (.int .i64 a2.Lo))) eZ bZ rfl rfl ?_
    refine gDo (eS rfl (eS rfl eZ)) (decide_eq_true h3) ?_
    refine oFaddrN (m := 1) (eS rfl (eS rfl (eS rfl (eS rfl (eS rfl (eS rfl (eS rfl (eS rfl (eS rfl (eS rfl eZ)))))))))) rfl ?_
    refine gDo (eS rfl (eS rfl (eS rfl eZ))) (decide_eq_true h3) ?_
    refine oLoadV (q := 1) (c := (.d (.int .i64 a1.Hi))) eZ (bS rfl bZ) rfl rfl ?_
    refine gDo (eS rfl (eS rfl (eS rfl (eS rfl eZ)))) (decide_eq_true h3) ?_
    refine oLss (eS rfl (eS rfl eZ)) eZ ?_
    refine oPickT (eS rfl (eS rfl (eS rfl (eS rfl (eS rfl eZ))))) (decide_eq_true h3) eZ ?_
    refine oMov eZ ?_
    refine xNil ?_
    refine TQ.qn ?_
    refine AW.weaken (wk_mk [192, 128] (SL.cons (k := 4) eZ rfl VWk.rfl SL.nil) (BL.drop rfl (BL.drop rfl BL.nil)) BK.nil) ?_
    refine AW.ret ?_
    obtain rfl := Option.some.inj H
    exact endsR (RL.cons (RV.tmp eZ) (VO.flat rfl) RL.nil) List.nodup_nil
  · refine gSkip eZ (decide_eq_false h3) rfl ?_
    refine gSkip (eS rfl eZ) (decide_eq_false h3) rfl ?_
    refine gSkip (eS rfl (eS rfl eZ)) (decide_eq_false h3) rfl ?_
    refine gSkip (eS rfl (eS rfl (eS rfl eZ))) (decide_eq_false h3) rfl ?_
    refine gSkip (eS rfl (eS rfl (eS rfl (eS rfl eZ)))) (decide_eq_false h3) rfl ?_
    refine oPickF (eS rfl (eS rfl (eS rfl (eS rfl (eS rfl eZ))))) (decide_eq_false h3) eC ?_
    refine oMov eZ ?_
    refine xNil ?_
    refine TQ.qn ?_
    refine AW.weaken (wk_mk [192, 128] (SL.cons (k := 4) eZ rfl VWk.rfl SL.nil) (BL.drop rfl (BL.drop rfl BL.nil)) BK.nil) ?_
    refine AW.ret ?_
    obtain rfl := Option.some.inj H
    exact endsR (RL.cons (RV.tmp eZ) (VO.flat rfl) RL.nil) List.nodup_nil

theorem c_impl_clash {a1 : TLock} {a2 : TLock} {r : Bool} (H : m_impl_clash a1 a2 = some r) : Fn Try.prog k_impl_clash (lent [(.agg (d_TLock a1)), (.agg (d_TLock a2))]) true [(.bool r)] := by
  refine i_impl_clash_fn (Nat.le_of_ble_eq_true rfl) ?_
  rw [init_mk]
  refine AW.weaken (wk_mk [] (SL.cons (v := (.agg [(.d (.int .i64 a1.Tx)), (.d (.int .i64 a1.Lo)), (.d (.int .i64 a1.Hi)), (.d (.int .i64 a1.Mode))])) eZ rfl VWk.rfl (SL.cons (v := (.agg [(.d (.int .i64 a2.Tx)), (.d (.int .i64 a2.Lo)), (.d (.int .i64 a2.Hi)), (.d (.int .i64 a2.Mode))])) (eS rfl eZ) rfl VWk.rfl SL.nil)) BL.nil BK.nil) ?_
  unfold m_impl_clash at H
  unfold i_impl_clash
  refine AW.seq ?_
  refine AW.regs ?_
  refine oBox (n := 128) (m := 4) (cs := [(.d (.int .i64 a1.Tx)), (.d (.int .i64 a1.Lo)), (.d (.int .i64 a1.Hi)), (.d (.int .i64 a1.Mode))]) rfl eZ rfl rfl nZ ?_
  refine oBox (n := 192) (m := 4) (cs := [(.d (.int .i64 a2.Tx)), (.d (.int .i64 a2.Lo)), (.d (.int .i64 a2.Hi)), (.d (.int .i64 a2.Mode))]) rfl (eS rfl (eS rfl eZ)) rfl rfl (nS rfl nZ) ?_
  refine oMov eC ?_
  refine xNil ?_
  refine TQ.qn ?_
  refine AW.seq ?_
  refine AW.regd ?_
  refine oFaddrN (m := 0) (eS rfl (eS rfl eZ)) rfl ?_
  refine oLoadV (q := 0) (c := (.d (.int .i64 a1.Tx))) eZ (bS rfl bZ) rfl rfl ?_
  refine oFaddrN (m := 0) (eS rfl (eS rfl (eS rfl eZ))) rfl ?_
  refine oLoadV (q := 0) (c := (.d (.int .i64 a2.Tx))) eZ bZ rfl rfl ?_
  refine oNeq (eS rfl (eS rfl eZ)) eZ ?_
  refine oMov eZ ?_
  rcases oite H with ⟨h3, H⟩ | ⟨h3, H⟩
  · refine gDo eZ (decide_eq_true h3) ?_
    refine oFaddrN (m := 3) (eS rfl (eS rfl (eS rfl (eS rfl (eS rfl (eS rfl (eS rfl (eS rfl eZ)))))))) rfl ?_
    refine gDo (eS rfl eZ) (decide_eq_true h3) ?_
    refine oLoadV (q := 3) (c := (.d (.int .i64 a1.Mode))) eZ (bS rfl bZ) rfl rfl ?_
    refine gDo (eS rfl (eS rfl eZ)) (decide_eq_true h3) ?_
    refine oEql eZ eC ?_
    refine gDo (eS rfl (eS rfl (eS rfl eZ))) (decide_eq_true h3) ?_
    refine oMov eZ ?_
    rcases oite H with ⟨h4, H⟩ | ⟨h4, H⟩
    · refine gSkip eZ (decide_eq_true h4) rfl ?_
      refine gSkip (eS rfl eZ) (decide_eq_true h4) rfl ?_
      refine gSkip (eS rfl (eS rfl eZ)) (decide_eq_true h4) rfl ?_
      refine gDo (eS rfl (eS rfl (eS rfl (eS rfl (eS rfl (eS rfl (eS rfl eZ))))))) (decide_eq_true h3) ?_
      refine oPickT (eS rfl (eS rfl (eS rfl eZ))) (decide_eq_true h4) eC ?_
      refine oPickT (eS rfl (eS rfl (eS rfl (eS rfl (eS rfl (eS rfl (eS rfl (eS rfl eZ)))))))) (decide_eq_true h3) eZ ?_
      refine oMov eZ ?_
      refine gDo eZ rfl ?_
      refine oLoadVA (es := [(.d (.int .i64 a1.Tx)), (.d (.int .i64 a1.Lo)), (.d (.int .i64 a1.Hi)), (.d (.int .i64 a1.Mode))]) (eS rfl (eS rfl (eS rfl (eS rfl (eS rfl (eS rfl (eS rfl (eS rfl (eS rfl (eS rfl (eS rfl (eS rfl (eS rfl (eS rfl (eS rfl (eS rfl (eS rfl (eS rfl eZ)))))))))))))))))) (bS rfl bZ) rfl ?_
      refine gDo (eS rfl eZ) rfl ?_
      obtain ⟨v5, h6, H⟩ := obind H
      refine oCall (u := (.agg [(.d (.int .i64 v5.Lo)), (.d (.int .i64 v5.Hi))])) eC Cl.fn (c_impl_Lock_keys h6) (Evs.cons eZ Evs.nil) (VDs.cons (VD.agg rfl) VDs.nil) rfl ?_
      refine gDo (eS rfl (eS rfl eZ)) rfl ?_
      refine oLoadVA (es := [(.d (.int .i64 a2.Tx)), (.d (.int .i64 a2.Lo)), (.d (.int .i64 a2.Hi)), (.d (.int .i64 a2.Mode))]) (eS rfl (eS rfl (eS rfl (eS rfl (eS rfl (eS rfl (eS rfl (eS rfl (eS rfl (eS rfl (eS rfl (eS rfl (eS rfl (eS rfl (eS rfl (eS rfl (eS rfl (eS rfl (eS rfl eZ))))))))))))))))))) (hB rfl bZ) rfl ?_
      refine gDo (eS rfl (eS rfl (eS rfl eZ))) rfl ?_
      obtain ⟨v7, h8, H⟩ := obind H
      refine oCall (u := (.agg [(.d (.int .i64 v7.Lo)), (.d (.int .i64 v7.Hi))])) eC Cl.fn (c_impl_Lock_keys h8) (Evs.cons eZ Evs.nil) (VDs.cons (VD.agg rfl) VDs.nil) rfl ?_
      refine gDo (eS rfl (eS rfl (eS rfl (eS rfl eZ)))) rfl ?_
      obtain ⟨v9, h10, H⟩ := obind H
      refine oCall (u := (.one (.d (.bool v9)))) eC Cl.fn (c_impl_meets h10) (Evs.cons (eS rfl (eS rfl eZ)) (Evs.cons eZ Evs.nil)) (VDs.cons (VD.agg rfl) (VDs.cons (VD.agg rfl) VDs.nil)) rfl ?_
      refine oPickT (eS rfl (eS rfl (eS rfl (eS rfl (eS rfl eZ))))) rfl eZ ?_
      refine oMov eZ ?_
      refine xNil ?_
      refine TQ.qn ?_
      refine AW.weaken (wk_mk [192, 128] (SL.cons (k := 4) eZ rfl VWk.rfl SL.nil) (BL.drop rfl (BL.drop rfl BL.nil)) BK.nil) ?_
      refine AW.ret ?_
      obtain rfl := Option.some.inj H
      exact endsR (RL.cons (RV.tmp eZ) (VO.flat rfl) RL.nil) List.nodup_nil
    · refine gDo eZ (decide_eq_false h4) ?_
      refine oFaddrN (m := 3) (eS rfl (eS rfl (eS rfl (eS rfl (eS rfl (eS rfl (eS rfl (eS rfl (eS rfl (eS rfl (eS rfl eZ))))))))))) rfl ?_
      refine gDo (eS rfl eZ) (decide_eq_false h4) ?_
      refine oLoadV (q := 3) (c := (.d (.int .i64 a2.Mode))) eZ bZ rfl rfl ?_
      refine gDo (eS rfl (eS rfl eZ)) (decide_eq_false h4) ?_
      refine oEql eZ eC ?_
      refine gDo (eS rfl (eS rfl (eS rfl (eS rfl (eS rfl (eS rfl (eS rfl eZ))))))) (decide_eq_true h3) ?_
      refine oPickF (eS rfl (eS rfl (eS rfl eZ))) (decide_eq_false h4) eZ ?_
      refine oPickT (eS rfl (eS rfl (eS rfl (eS rfl (eS rfl (eS rfl (eS rfl (eS rfl eZ)))))))) (decide_eq_true h3) eZ ?_
      refine oMov eZ ?_
      rcases oite H with ⟨h11, H⟩ | ⟨h11, H⟩
      · refine gDo eZ (decide_eq_true h11) ?_
        refine oLoadVA (es := [(.d (.int .i64 a1.Tx)), (.d (.int .i64 a1.Lo)), (.d (.int .i64 a1.Hi)), (.d (.int .i64 a1.Mode))]) (eS rfl (eS rfl (eS rfl (eS rfl (eS rfl (eS rfl (eS rfl (eS rfl (eS rfl (eS rfl (eS rfl (eS rfl (eS rfl (eS rfl (eS rfl (eS rfl (eS rfl (eS rfl eZ)))))))))))))))))) (bS rfl bZ) rfl ?_
        refine gDo (eS rfl eZ) (decide_eq_true h11) ?_
        obtain ⟨v12, h13, H⟩ := obind H
        refine oCall (u := (.agg [(.d (.int .i64 v12.Lo)), (.d (.int .i64 v12.Hi))])) eC Cl.fn (c_impl_Lock_keys h13) (Evs.cons eZ Evs.nil) (VDs.cons (VD.agg rfl) VDs.nil) rfl ?_
        refine gDo (eS rfl (eS rfl eZ)) (decide_eq_true h11) ?_
        refine oLoadVA (es := [(.d (.int .i64 a2.Tx)), (.d (.int .i64 a2.Lo)), (.d (.int .i64 a2.Hi)), (.d (.int .i64 a2.Mode))]) (eS rfl (eS rfl (eS rfl (eS rfl (eS rfl (eS rfl (eS rfl (eS rfl (eS rfl (eS rfl (eS rfl (eS rfl (eS rfl (eS rfl (eS rfl (eS rfl (eS rfl (eS rfl (eS rfl eZ))))))))))))))))))) (hB rfl bZ) rfl ?_
        refine gDo (eS rfl (eS rfl (eS rfl eZ))) (decide_eq_true h11) ?_
        obtain ⟨v14, h15, H⟩ := obind H
        refine oCall (u := (.agg [(.d (.int .i64 v14.Lo)), (.d (.int .i64 v14.Hi))])) eC Cl.fn (c_impl_Lock_keys h15) (Evs.cons eZ Evs.nil) (VDs.cons (VD.agg rfl) VDs.nil) rfl ?_
        refine gDo (eS rfl (eS rfl (eS rfl (eS rfl eZ)))) (decide_eq_true h11) ?_
        obtain ⟨v16, h17, H⟩ := obind H
        refine oCall (u := (.one (.d (.bool v16)))) eC Cl.fn (c_impl_meets h17) (Evs.cons (eS rfl (eS rfl eZ)) (Evs.cons eZ Evs.nil)) (VDs.cons (VD.agg rfl) (VDs.cons (VD.agg rfl) VDs.nil)) rfl ?_
        refine oPickT (eS rfl (eS rfl (eS rfl (eS rfl (eS rfl eZ))))) (decide_eq_true h11) eZ ?_
        refine oMov eZ ?_
        refine xNil ?_
        refine TQ.qn ?_
        refine AW.weaken (wk_mk [192, 128] (SL.cons (k := 4) eZ rfl VWk.rfl SL.nil) (BL.drop rfl (BL.drop rfl BL.nil)) BK.nil) ?_
        refine AW.ret ?_
        obtain rfl := Option.some.inj H
        exact endsR (RL.cons (RV.tmp eZ) (VO.flat rfl) RL.nil) List.nodup_nil
      · refine gSkip eZ (decide_eq_false h11) rfl ?_
        refine gSkip (eS rfl eZ) (decide_eq_false h11) rfl ?_
        refine gSkip (eS rfl (eS rfl eZ)) (decide_eq_false h11) rfl ?_
        refine gSkip (eS rfl (eS rfl (eS rfl eZ))) (decide_eq_false h11) rfl ?_
        refine gSkip (eS rfl (eS rfl (eS rfl (eS rfl eZ)))) (decide_eq_false h11) rfl ?_
        refine oPickF (eS rfl (eS rfl (eS rfl (eS rfl (eS rfl eZ))))) (decide_eq_false h11) eC ?_
        refine oMov eZ ?_
        refine xNil ?_
        refine TQ.qn ?_
        refine AW.weaken (wk_mk [192, 128] (SL.cons (k := 4) eZ rfl VWk.rfl SL.nil) (BL.drop rfl (BL.drop rfl BL.nil)) BK.nil) ?_
        refine AW.ret ?_
        obtain rfl := Option.some.inj H
        exact endsR (RL.cons (RV.tmp eZ) (VO.flat rfl) RL.nil) List.nodup_nil
  · refine gSkip eZ (decide_eq_false h3) rfl ?_
    refine gSkip (eS rfl eZ) (decide_eq_false h3) rfl ?_
    refine gSkip (eS rfl (eS rfl eZ)) (decide_eq_false h3) rfl ?_
    refine gSkip (eS rfl (eS rfl (eS rfl eZ))) (decide_eq_false h3) rfl ?_
    refine gSkipU eZ rfl ?_
    refine gSkipU (eS rfl eZ) rfl ?_
    refine gSkipU (eS rfl (eS rfl eZ)) rfl ?_
    refine gSkip (eS rfl (eS rfl (eS rfl (eS rfl (eS rfl (eS rfl (eS rfl eZ))))))) (decide_eq_false h3) rfl ?_
    refine oPickF (eS rfl (eS rfl (eS rfl (eS rfl (eS rfl (eS rfl (eS rfl (eS rfl eZ)))))))) (decide_eq_false h3) eC ?_
    refine oMov eZ ?_
    refine gSkip eZ rfl rfl ?_
    refine gSkip (eS rfl eZ) rfl rfl ?_
    refine gSkip (eS rfl (eS rfl eZ)) rfl rfl ?_
    refine gSkip (eS rfl (eS rfl (eS rfl eZ))) rfl rfl ?_
    refine gSkip (eS rfl (eS rfl (eS rfl (eS rfl eZ)))) rfl rfl ?_
    refine oPickF (eS rfl (eS rfl (eS rfl (eS rfl (eS rfl eZ))))) rfl eC ?_
    refine oMov eZ ?_
    refine xNil ?_
    refine TQ.qn ?_
    refine AW.weaken (wk_mk [192, 128] (SL.cons (k := 4) eZ rfl VWk.rfl SL.nil) (BL.drop rfl (BL.drop rfl BL.nil)) BK.nil) ?_
    refine AW.ret ?_
    obtain rfl := Option.some.inj H
    exact endsR (RL.cons (RV.tmp eZ) (VO.flat rfl) RL.nil) List.nodup_nil

theorem c_impl_LocksOk_1 {a1 : TLock} {a2 : TLock} {r : Bool} (H : m_impl_LocksOk_1 a1 a2 = some r) : Fn Try.prog k_impl_LocksOk_1 (lent [(.agg (d_TLock a1)), (.ptr (d_TLock a2))]) true [(.bool r)] := by
  refine i_impl_LocksOk_1_fn (Nat.le_of_ble_eq_true rfl) ?_
  rw [init_mk]
  refine AW.weaken (wk_mk [] (SL.cons (v := (.agg [(.d (.int .i64 a1.Tx)), (.d (.int .i64 a1.Lo)), (.d (.int .i64 a1.Hi)), (.d (.int .i64 a1.Mode))])) eZ rfl VWk.rfl (SL.cons (v := (.one (.ptr (.bd (d_TLock a2) 0)))) (eS rfl eZ) rfl (VWk.one CWk.ptr) SL.nil)) BL.nil BK.nil) ?_
  unfold m_impl_LocksOk_1 at H
  unfold i_impl_LocksOk_1
  refine AW.seq ?_
  refine AW.regs ?_
  refine oBox (n := 128) (m := 4) (cs := [(.d (.int .i64 a1.Tx)), (.d (.int .i64 a1.Lo)), (.d (.int .i64 a1.Hi)), (.d (.int .i64 a1.Mode))]) rfl eZ rfl rfl nZ ?_
  refine oMov eC ?_
  refine xNil ?_
  refine TQ.qn ?_
  refine AW.seq ?_
  refine AW.regs ?_
  refine oLoadBA (es := [(.d (.int .i64 a2.Tx)), (.d (.int .i64 a2.Lo)), (.d (.int .i64 a2.Hi)), (.d (.int .i64 a2.Mode))]) (eS rfl (eS rfl (eS rfl eZ))) rfl ?_
  refine oLoadVA (es := [(.d (.int .i64 a1.Tx)), (.d (.int .i64 a1.Lo)), (.d (.int .i64 a1.Hi)), (.d (.int .i64 a1.Mode))]) (eS rfl (eS rfl eZ)) bZ rfl ?_
  obtain ⟨v3, h4, H⟩ := obind H
  refine oCall (u := (.one (.d (.bool v3)))) eC Cl.fn (c_impl_clash h4) (Evs.cons (eS rfl eZ) (Evs.cons eZ Evs.nil)) (VDs.cons (VD.agg rfl) (VDs.cons (VD.agg rfl) VDs.nil)) rfl ?_
  refine oMov eZ ?_
  refine xNil ?_
  refine TQ.qn ?_
  refine AW.ret ?_
  obtain rfl := Option.some.inj H
  exact endsR (RL.cons (RV.tmp eZ) (VO.flat rfl) RL.nil) List.nodup_nil

theorem c_slices_IndexFunc_Lock__LocksOk_1 {a1 : (List TLock)} {a2 : TLock} {r : Int} (H : m_slices_IndexFunc_Lock__LocksOk_1 a1 a2 = some r) : Fn Try.prog k_slices_IndexFunc___impl_Lock_impl_Lock_ (lent [(.sl 4 (List.map d_TLock a1)), (.fn k_impl_LocksOk_1 [.ptr (d_TLock a2)])]) true [(.int .i64 r)] := by
  refine i_slices_IndexFunc___impl_Lock_impl_Lock__fn (Nat.le_of_ble_eq_true rfl) ?_
  rw [init_mk]
  refine AW.weaken (wk_mk [] (SL.cons (v := (.one (.d (.sl 4 (List.map d_TLock a1))))) eZ rfl VWk.rfl (SL.cons (v := (.one (.fn k_impl_LocksOk_1 [(.bd (d_TLock a2) 0)]))) (eS rfl eZ) rfl (VWk.one (CWk.fn (css := [d_TLock a2]))) SL.nil)) BL.nil BK.nil) ?_
  unfold m_slices_IndexFunc_Lock__LocksOk_1 at H
  unfold i_slices_IndexFunc___impl_Lock_impl_Lock_
  refine AW.seq ?_
  refine AW.regs ?_
  refine oMov eC ?_
  refine xNil ?_
  refine TQ.qn ?_
  refine AW.seqJ (fun t3 : Unit => slices_IndexFunc_Lock__LocksOk_1_j3 t3 = some r) (fun t3 => mk [] [] noG) ?_ ?_
  · intro t3 H
    unfold slices_IndexFunc_Lock__LocksOk_1_j3 at H
    refine AW.seq ?_
    refine AW.regs ?_
    refine oMov eC ?_
    refine xNil ?_
    refine TQ.qn ?_
    refine AW.ret ?_
    obtain rfl := Option.some.inj H
    exact endsR (RL.cons (RV.tmp eZ) (VO.flat rfl) RL.nil) List.nodup_nil
  · refine AW.seq ?_
    refine AW.regs ?_
    refine oMov (eS rfl eZ) ?_
    refine oLenD eZ (n := a1.length) (List.length_map _) ?_
    refine oMov eC ?_
    refine xNil ?_
    refine TQ.qn ?_
    refine AW.block ?_
    refine AW.iter (fun s5 : Int => mk [(0, (.one (.d (.sl 4 (List.map d_TLock a1))))), (1, (.one (.fn k_impl_LocksOk_1 [(.bd (d_TLock a2) 0)]))), (7, (.one (.d (.int .i64 (a1.length : Int))))), (8, (.one (.d (.int .i64 s5))))] [] noG) H (wk_mk [] (SL.cons (eS rfl (eS rfl (eS rfl (eS rfl eZ)))) rfl VWk.rfl (SL.cons (eS rfl (eS rfl (eS rfl (eS rfl (eS rfl eZ))))) rfl VWk.rfl (SL.cons (eS rfl eZ) rfl VWk.rfl (SL.cons eZ rfl VWk.rfl SL.nil)))) BL.nil BK.nil) ?_
    intro kb6 s5 H
    unfold slices_IndexFunc_Lock__LocksOk_1_b5 at H
    refine AW.seq ?_
    refine AW.regs ?_
    refine oLss (eS rfl (eS rfl (eS rfl eZ))) (eS rfl (eS rfl eZ)) ?_
    refine xNil ?_
    refine TQ.qn ?_
    refine AW.seq ?_
    rcases oite H with ⟨h7, H⟩ | ⟨h7, H⟩
    · refine AW.condT eZ (decide_eq_true h7) ?_
      refine AW.skip ?_
      refine TQ.qn ?_
      refine AW.seq ?_
      refine AW.block ?_
      refine AW.seq ?_
      refine AW.regs ?_
      refine oMov (eS rfl (eS rfl (eS rfl (eS rfl eZ)))) ?_
      refine oMov eZ ?_
      refine xNil ?_
      refine TQ.qn ?_
      refine AW.seq ?_
      refine AW.regs ?_
      refine oMov (eS rfl (eS rfl (eS rfl (eS rfl eZ)))) ?_
      refine oMov (eS rfl (eS rfl (eS rfl (eS rfl eZ)))) ?_
      refine oMov (eS rfl (eS rfl eZ)) ?_
      obtain ⟨v8, h9, H⟩ := obind H
      refine oAtD (eS rfl eZ) eZ h9 ?_
      refine oLoadBA (es := [(.d (.int .i64 v8.Tx)), (.d (.int .i64 v8.Lo)), (.d (.int .i64 v8.Hi)), (.d (.int .i64 v8.Mode))]) eZ rfl ?_
      obtain ⟨v10, h11, H⟩ := obind H
      refine oCall (u := (.one (.d (.bool v10)))) (eS rfl (eS rfl (eS rfl (eS rfl eZ)))) Cl.fn (c_impl_LocksOk_1 h11) (Evs.cons eZ Evs.nil) (VDs.cons (VD.agg rfl) (VDs.cons VD.ptrB VDs.nil)) rfl ?_
      refine xNil ?_
      refine TQ.qn ?_
      rcases oite H with ⟨h12, H⟩ | ⟨h12, H⟩
      · refine AW.condT eZ h12 ?_
        refine AW.seq ?_
        refine AW.regs ?_
        refine oMov (eS rfl (eS rfl (eS rfl (eS rfl (eS rfl (eS rfl eZ)))))) ?_
        refine oMov eZ ?_
        refine xNil ?_
        refine TQ.qn ?_
        refine AW.ret ?_
        refine BQ.qr ?_
        refine TQ.qr ?_
        refine TQ.qr ?_
        refine BQ.qr ?_
        refine TQ.qr ?_
        obtain rfl := Option.some.inj H
        exact endsR (RL.cons (RV.tmp eZ) (VO.flat rfl) RL.nil) List.nodup_nil
      · refine AW.condF eZ (nt h12) ?_
        refine AW.skip ?_
        refine BQ.qn ?_
        refine TQ.qn ?_
        refine AW.regs ?_
        refine oAdd (eS rfl (eS rfl (eS rfl (eS rfl (eS rfl (eS rfl (eS rfl (eS rfl (eS rfl (eS rfl (eS rfl (eS rfl eZ)))))))))))) eC ?_
        refine oMov eZ ?_
        refine xNil ?_
        exact TQ.qn ⟨(IntKind.wrap .i64 (s5 + 1)), H, (wk_mk [] (SL.cons (eS rfl (eS rfl (eS rfl (eS rfl (eS rfl (eS rfl (eS rfl (eS rfl (eS rfl (eS rfl (eS rfl eZ))))))))))) rfl VWk.rfl (SL.cons (eS rfl (eS rfl (eS rfl (eS rfl (eS rfl (eS rfl (eS rfl (eS rfl (eS rfl (eS rfl (eS rfl (eS rfl eZ)))))))))))) rfl VWk.rfl (SL.cons (eS rfl (eS rfl (eS rfl (eS rfl (eS rfl (eS rfl (eS rfl (eS rfl (eS rfl (eS rfl (eS rfl (eS rfl (eS rfl eZ))))))))))))) rfl VWk.rfl (SL.cons eZ rfl VWk.rfl SL.nil)))) BL.nil BK.nil)⟩
    · refine AW.condF eZ (decide_eq_false h7) ?_
      refine AW.exit ?_
      refine TQ.qe ?_
      refine TQ.qe ?_
      refine BQ.qe ?_
      exact TQ.qn ⟨(), H, (wk_mk [] SL.nil BL.nil BK.nil)⟩

theorem c_slices_ContainsFunc_Lock__LocksOk_1 {a1 : (List TLock)} {a2 : TLock} {r : Bool} (H : m_slices_ContainsFunc_Lock__LocksOk_1 a1 a2 = some r) : Fn Try.prog k_slices_ContainsFunc___impl_Lock_impl_Lock_ (lent [(.sl 4 (List.map d_TLock a1)), (.fn k_impl_LocksOk_1 [.ptr (d_TLock a2)])]) true [(.bool r)] := by
  refine i_slices_ContainsFunc___impl_Lock_impl_Lock__fn (Nat.le_of_ble_eq_true rfl) ?_
  rw [init_mk]
  refine AW.weaken (wk_mk [] (SL.cons (v := (.one (.d (.sl 4 (List.map d_TLock a1))))) eZ rfl VWk.rfl (SL.cons (v := (.one (.fn k_impl_LocksOk_1 [(.bd (d_TLock a2) 0)]))) (eS rfl eZ) rfl (VWk.one (CWk.fn (css := [d_TLock a2]))) SL.nil)) BL.nil BK.nil) ?_
  unfold m_slices_ContainsFunc_Lock__LocksOk_1 at H
  unfold i_slices_ContainsFunc___impl_Lock_impl_Lock_
  refine AW.seq ?_
  refine AW.regs ?_
  refine oMov eC ?_
  refine xNil ?_
  refine TQ.qn ?_
  refine AW.seq ?_
  refine AW.regs ?_
  refine oMov (eS rfl eZ) ?_
  refine oMov (eS rfl (eS rfl (eS rfl eZ))) ?_
  obtain ⟨v3, h4, H⟩ := obind H
  refine oCall (u := (.one (.d (.int .i64 v3)))) eC Cl.fn (c_slices_IndexFunc_Lock__LocksOk_1 h4) (Evs.cons (eS rfl eZ) (Evs.cons eZ Evs.nil)) (VDs.cons VD.plain (VDs.cons (VD.fn (PDs.cons VD.ptrB PDs.nil)) VDs.nil)) rfl ?_
  refine oGeq eZ eC ?_
  refine oMov eZ ?_
  refine xNil ?_
  refine TQ.qn ?_
  refine AW.ret ?_
  obtain rfl := Option.some.inj H
  exact endsR (RL.cons (RV.tmp eZ) (VO.flat rfl) RL.nil) List.nodup_nil

theorem c_impl_LocksOk {a1 : (List TLock)} {r : Bool} (H : m_impl_LocksOk a1 = some r) : Fn Try.prog k_impl_LocksOk (lent [(.sl 4 (List.map d_TLock a1))]) true [(.bool r)] := by
  refine i_impl_LocksOk_fn (Nat.le_of_ble_eq_true rfl) ?_
  rw [init_mk]
  refine AW.weaken (wk_mk [] (SL.cons (v := (.one (.d (.sl 4 (List.map d_TLock a1))))) eZ rfl VWk.rfl SL.nil) BL.nil BK.nil) ?_
  unfold m_impl_LocksOk at H
  unfold i_impl_LocksOk
  refine AW.seq ?_
  refine AW.regs ?_
  refine oMov eC ?_
  refine xNil ?_
  refine TQ.qn ?_
  refine AW.seqJ (fun t2 : Unit => (impl_LocksOk_j2 a1) t2 = some r) (fun t2 => mk [(0, (.one (.d (.sl 4 (List.map d_TLock a1)))))] [] noG) ?_ ?_
  · intro t2 H
    unfold impl_LocksOk_j2 at H
    refine AW.seq ?_
    refine AW.regs ?_
    refine oMov eZ ?_
    refine oLenD eZ (n := a1.length) (List.length_map _) ?_
    refine oLeq eZ eC ?_
    refine oMov eZ ?_
    refine xNil ?_
    refine TQ.qn ?_
    refine AW.ret ?_
    obtain rfl := Option.some.inj H
    exact endsR (RL.cons (RV.tmp eZ) (VO.flat rfl) RL.nil) List.nodup_nil
  · refine AW.seq ?_
    refine AW.regs ?_
    refine oMov (eS rfl eZ) ?_
    refine oLenD eZ (n := a1.length) (List.length_map _) ?_
    refine oMov eC ?_
    refine xNil ?_
    refine TQ.qn ?_
    refine AW.block ?_
    refine AW.iter (fun s4 : Int => mk [(0, (.one (.d (.sl 4 (List.map d_TLock a1))))), (5, (.one (.d (.sl 4 (List.map d_TLock a1))))), (6, (.one (.d (.int .i64 (a1.length : Int))))), (7, (.one (.d (.int .i64 s4))))] [] noG) H (wk_mk [] (SL.cons (eS rfl (eS rfl (eS rfl (eS rfl eZ)))) rfl VWk.rfl (SL.cons (eS rfl (eS rfl eZ)) rfl VWk.rfl (SL.cons (eS rfl eZ) rfl VWk.rfl (SL.cons eZ rfl VWk.rfl SL.nil)))) BL.nil BK.nil) ?_
    intro kb5 s4 H
    unfold impl_LocksOk_b4 at H
    refine AW.seq ?_
    refine AW.regs ?_
    refine oLss (eS rfl (eS rfl (eS rfl eZ))) (eS rfl (eS rfl eZ)) ?_
    refine xNil ?_
    refine TQ.qn ?_
    refine AW.seq ?_
    rcases oite H with ⟨h6, H⟩ | ⟨h6, H⟩
    · refine AW.condT eZ (decide_eq_true h6) ?_
      refine AW.skip ?_
      refine TQ.qn ?_
      refine AW.seq ?_
      refine AW.block ?_
      refine AW.seq ?_
      refine AW.regs ?_
      refine oMov (eS rfl (eS rfl (eS rfl (eS rfl eZ)))) ?_
      obtain ⟨v7, h8, H⟩ := obind H
      refine oAtD (eS rfl (eS rfl (eS rfl eZ))) (eS rfl (eS rfl (eS rfl (eS rfl (eS rfl eZ))))) h8 ?_
      refine oLoadBA (es := [(.d (.int .i64 v7.Tx)), (.d (.int .i64 v7.Lo)), (.d (.int .i64 v7.Hi)), (.d (.int .i64 v7.Mode))]) eZ rfl ?_
      refine oVar (n := 256) (m := 4) rfl rfl nZ ?_
      refine oMov (eS rfl (eS rfl (eS rfl eZ))) ?_
      refine oStoreV (es := [(.d (.int .i64 v7.Tx)), (.d (.int .i64 v7.Lo)), (.d (.int .i64 v7.Hi)), (.d (.int .i64 v7.Mode))]) (eS rfl eZ) (eS rfl (eS rfl eZ)) rfl rfl bZ rfl ?_
      refine xNil ?_
      refine TQ.qn ?_
      refine AW.seqJ (fun t9 : Bool => (impl_LocksOk_j9 kb5 s4) t9 = some r) (fun t9 => mk [(0, (.one (.d (.sl 4 (List.map d_TLock a1))))), (5, (.one (.d (.sl 4 (List.map d_TLock a1))))), (6, (.one (.d (.int .i64 (a1.length : Int))))), (7, (.one (.d (.int .i64 s4)))), (34, (.one (.d (.bool t9))))] [] noG) ?_ ?_
      · intro t9 H
        unfold impl_LocksOk_j9 at H
        rcases oite H with ⟨h11, H⟩ | ⟨h11, H⟩
        · refine AW.condT (eS rfl (eS rfl (eS rfl (eS rfl eZ)))) h11 ?_
          refine AW.seq ?_
          refine AW.regs ?_
          refine oMov eC ?_
          refine xNil ?_
          refine TQ.qn ?_
          refine AW.ret ?_
          refine BQ.qr ?_
          refine TQ.qr ?_
          refine TQ.qr ?_
          refine BQ.qr ?_
          refine TQ.qr ?_
          obtain rfl := Option.some.inj H
          exact endsR (RL.cons (RV.tmp eZ) (VO.flat rfl) RL.nil) List.nodup_nil
        · refine AW.condF (eS rfl (eS rfl (eS rfl (eS rfl eZ)))) (nt h11) ?_
          refine AW.skip ?_
          refine BQ.qn ?_
          refine TQ.qn ?_
          refine AW.regs ?_
          refine oAdd (eS rfl (eS rfl (eS rfl eZ))) eC ?_
          refine oMov eZ ?_
          refine xNil ?_
          exact TQ.qn ⟨(IntKind.wrap .i64 (s4 + 1)), H, (wk_mk [] (SL.cons (eS rfl (eS rfl eZ)) rfl VWk.rfl (SL.cons (eS rfl (eS rfl (eS rfl eZ))) rfl VWk.rfl (SL.cons (eS rfl (eS rfl (eS rfl (eS rfl eZ)))) rfl VWk.rfl (SL.cons eZ rfl VWk.rfl SL.nil)))) BL.nil BK.nil)⟩
      · refine AW.regs ?_
        refine oFaddrN (m := 0) (eS rfl eZ) rfl ?_
        refine oLoadV (q := 0) (c := (.d (.int .i64 v7.Tx))) eZ bZ rfl rfl ?_
        obtain ⟨v12, h13, H⟩ := obind H
        refine oCall (u := (.one (.d (.bool v12)))) eC Cl.fn (c_impl_isTx h13) (Evs.cons eZ Evs.nil) (VDs.cons VD.plain VDs.nil) rfl ?_
        refine oInv eZ ?_
        refine oMov eZ ?_
        rcases oite H with ⟨h14, H⟩ | ⟨h14, H⟩
        · refine gDo eZ (congrArg Bool.not h14) ?_
          refine oLoadVA (es := [(.d (.int .i64 v7.Tx)), (.d (.int .i64 v7.Lo)), (.d (.int .i64 v7.Hi)), (.d (.int .i64 v7.Mode))]) (eS rfl (eS rfl (eS rfl (eS rfl (eS rfl (eS rfl eZ)))))) bZ rfl ?_
          refine gDo (eS rfl eZ) (congrArg Bool.not h14) ?_
          obtain ⟨v15, h16, H⟩ := obind H
          refine oCall (u := (.agg [(.d (.int .i64 v15.Lo)), (.d (.int .i64 v15.Hi))])) eC Cl.fn (c_impl_Lock_keys h16) (Evs.cons eZ Evs.nil) (VDs.cons (VD.agg rfl) VDs.nil) rfl ?_
          refine gDo (eS rfl (eS rfl eZ)) (congrArg Bool.not h14) ?_
          obtain ⟨v17, h18, H⟩ := obind H
          refine oCall (u := (.one (.d (.bool v17)))) eC Cl.fn (c_impl_RangeOk h18) (Evs.cons eZ Evs.nil) (VDs.cons (VD.agg rfl) VDs.nil) rfl ?_
          refine gDo (eS rfl (eS rfl (eS rfl eZ))) (congrArg Bool.not h14) ?_
          refine oInv eZ ?_
          refine oPickF (eS rfl (eS rfl (eS rfl (eS rfl eZ)))) (congrArg Bool.not h14) eZ ?_
          refine oMov eZ ?_
          rcases oite H with ⟨h19, H⟩ | ⟨h19, H⟩
          · refine gDo eZ (congrArg Bool.not h19) ?_
            refine oFaddrN (m := 3) (eS rfl (eS rfl (eS rfl (eS rfl (eS rfl (eS rfl (eS rfl (eS rfl (eS rfl (eS rfl (eS rfl (eS rfl eZ)))))))))))) rfl ?_
            refine gDo (eS rfl eZ) (congrArg Bool.not h19) ?_
            refine oLoadV (q := 3) (c := (.d (.int .i64 v7.Mode))) eZ bZ rfl rfl ?_
            refine gDo (eS rfl (eS rfl eZ)) (congrArg Bool.not h19) ?_
            obtain ⟨v20, h21, H⟩ := obind H
            refine oCall (u := (.one (.d (.bool v20)))) eC Cl.fn (c_impl_isMode h21) (Evs.cons eZ Evs.nil) (VDs.cons VD.plain VDs.nil) rfl ?_
            refine gDo (eS rfl (eS rfl (eS rfl eZ))) (congrArg Bool.not h19) ?_
            refine oInv eZ ?_
            refine oPickF (eS rfl (eS rfl (eS rfl (eS rfl eZ)))) (congrArg Bool.not h19) eZ ?_
            refine oMov eZ ?_
            rcases oite H with ⟨h22, H⟩ | ⟨h22, H⟩
            · refine gDo eZ (congrArg Bool.not h22) ?_
              refine oMov (eS rfl (eS rfl (eS rfl (eS rfl (eS rfl (eS rfl (eS rfl (eS rfl (eS rfl (eS rfl (eS rfl (eS rfl (eS rfl (eS rfl (eS rfl (eS rfl (eS rfl (eS rfl (eS rfl (eS rfl (eS rfl (eS rfl (eS rfl eZ))))))))))))))))))))))) ?_
              refine gDo (eS rfl eZ) (congrArg Bool.not h22) ?_
              refine oMov (eS rfl (eS rfl (eS rfl (eS rfl (eS rfl (eS rfl (eS rfl (eS rfl (eS rfl (eS rfl (eS rfl (eS rfl (eS rfl (eS rfl (eS rfl (eS rfl (eS rfl (eS rfl eZ)))))))))))))))))) ?_
              refine gDo (eS rfl (eS rfl eZ)) (congrArg Bool.not h22) ?_
              obtain ⟨v23, h24, H⟩ := obind H
              refine oCutD (eS rfl eZ) Bd.no (n := (a1.length : Int)) rfl (Bd.at eZ) h24 ?_
              refine gDo (eS rfl (eS rfl (eS rfl eZ))) (congrArg Bool.not h22) ?_
              refine oMkfn (ps := [(.nm 256 0 0)]) (Evs.cons (eS rfl (eS rfl (eS rfl (eS rfl (eS rfl (eS rfl (eS rfl (eS rfl (eS rfl (eS rfl (eS rfl (eS rfl (eS rfl (eS rfl (eS rfl (eS rfl (eS rfl (eS rfl (eS rfl (eS rfl (eS rfl eZ))))))))))))))))))))) Evs.nil) ?_
              refine gDo (eS rfl (eS rfl (eS rfl (eS rfl eZ)))) (congrArg Bool.not h22) ?_
              obtain ⟨v25, h26, H⟩ := obind H
              refine oCall (u := (.one (.d (.bool v25)))) eC Cl.fn (c_slices_ContainsFunc_Lock__LocksOk_1 h26) (Evs.cons (eS rfl eZ) (Evs.cons eZ Evs.nil)) (VDs.cons VD.plain (VDs.cons (VD.fn (PDs.cons (VD.ptrN bZ (CDs.plain (CDs.plain (CDs.plain (CDs.plain CDs.nil))))) PDs.nil)) VDs.nil)) rfl ?_
              refine oPickF (eS rfl (eS rfl (eS rfl (eS rfl (eS rfl eZ))))) (congrArg Bool.not h22) eZ ?_
              refine xNil ?_
              exact TQ.qn ⟨v25, H, (wk_mk [256] (SL.cons (eS rfl (eS rfl (eS rfl (eS rfl (eS rfl (eS rfl (eS rfl (eS rfl (eS rfl (eS rfl (eS rfl (eS rfl (eS rfl (eS rfl (eS rfl (eS rfl (eS rfl (eS rfl (eS rfl (eS rfl (eS rfl (eS rfl (eS rfl (eS rfl (eS rfl (eS rfl (eS rfl (eS rfl (eS rfl eZ))))))))))))))))))))))))))))) rfl VWk.rfl (SL.cons (eS rfl (eS rfl (eS rfl (eS rfl (eS rfl (eS rfl (eS rfl (eS rfl (eS rfl (eS rfl (eS rfl (eS rfl (eS rfl (eS rfl (eS rfl (eS rfl (eS rfl (eS rfl (eS rfl (eS rfl (eS rfl (eS rfl (eS rfl (eS rfl (eS rfl (eS rfl (eS rfl (eS rfl (eS rfl (eS rfl eZ)))))))))))))))))))))))))))))) rfl VWk.rfl (SL.cons (eS rfl (eS rfl (eS rfl (eS rfl (eS rfl (eS rfl (eS rfl (eS rfl (eS rfl (eS rfl (eS rfl (eS rfl (eS rfl (eS rfl (eS rfl (eS rfl (eS rfl (eS rfl (eS rfl (eS rfl (eS rfl (eS rfl (eS rfl (eS rfl (eS rfl (eS rfl (eS rfl (eS rfl (eS rfl (eS rfl (eS rfl eZ))))))))))))))))))))))))))))))) rfl VWk.rfl (SL.cons (eS rfl (eS rfl (eS rfl (eS rfl (eS rfl (eS rfl (eS rfl (eS rfl (eS rfl (eS rfl (eS rfl (eS rfl (eS rfl (eS rfl (eS rfl (eS rfl (eS rfl (eS rfl (eS rfl (eS rfl (eS rfl (eS rfl (eS rfl (eS rfl (eS rfl (eS rfl (eS rfl (eS rfl (eS rfl (eS rfl (eS rfl (eS rfl eZ)))))))))))))))))))))))))))))))) rfl VWk.rfl (SL.cons eZ rfl VWk.rfl SL.nil))))) (BL.drop rfl (BL.drop rfl BL.nil)) BK.nil)⟩
            · refine gSkip eZ (congrArg Bool.not (nt h22)) rfl ?_
              refine gSkip (eS rfl eZ) (congrArg Bool.not (nt h22)) rfl ?_
              refine gSkip (eS rfl (eS rfl eZ)) (congrArg Bool.not (nt h22)) rfl ?_
              refine gSkip (eS rfl (eS rfl (eS rfl eZ))) (congrArg Bool.not (nt h22)) rfl ?_
              refine gSkip (eS rfl (eS rfl (eS rfl (eS rfl eZ)))) (congrArg Bool.not (nt h22)) rfl ?_
              refine oPickT (eS rfl (eS rfl (eS rfl (eS rfl (eS rfl eZ))))) (congrArg Bool.not (nt h22)) eC ?_
              refine xNil ?_
              exact TQ.qn ⟨true, H, (wk_mk [256] (SL.cons (eS rfl (eS rfl (eS rfl (eS rfl (eS rfl (eS rfl (eS rfl (eS rfl (eS rfl (eS rfl (eS rfl (eS rfl (eS rfl (eS rfl (eS rfl (eS rfl (eS rfl (eS rfl (eS rfl (eS rfl (eS rfl (eS rfl (eS rfl (eS rfl (eS rfl (eS rfl (eS rfl (eS rfl (eS rfl eZ))))))))))))))))))))))))))))) rfl VWk.rfl (SL.cons (eS rfl (eS rfl (eS rfl (eS rfl (eS rfl (eS rfl (eS rfl (eS rfl (eS rfl (eS rfl (eS rfl (eS rfl (eS rfl (eS rfl (eS rfl (eS rfl (eS rfl (eS rfl (eS rfl (eS rfl (eS rfl (eS rfl (eS rfl (eS rfl (eS rfl (eS rfl (eS rfl (eS rfl (eS rfl (eS rfl eZ)))))))))))))))))))))))))))))) rfl VWk.rfl (SL.cons (eS rfl (eS rfl (eS rfl (eS rfl (eS rfl (eS rfl (eS rfl (eS rfl (eS rfl (eS rfl (eS rfl (eS rfl (eS rfl (eS rfl (eS rfl (eS rfl (eS rfl (eS rfl (eS rfl (eS rfl (eS rfl (eS rfl (eS rfl (eS rfl (eS rfl (eS rfl (eS rfl (eS rfl (eS rfl (eS rfl (eS rfl eZ))))))))))))))))))))))))))))))) rfl VWk.rfl (SL.cons (eS rfl (eS rfl (eS rfl (eS rfl (eS rfl (eS rfl (eS rfl (eS rfl (eS rfl (eS rfl (eS rfl (eS rfl (eS rfl (eS rfl (eS rfl (eS rfl (eS rfl (eS rfl (eS rfl (eS rfl (eS rfl (eS rfl (eS rfl (eS rfl (eS rfl (eS rfl (eS rfl (eS rfl (eS rfl (eS rfl (eS rfl (eS rfl eZ)))))))))))))))))))))))))))))))) rfl VWk.rfl (SL.cons eZ rfl VWk.rfl SL.nil))))) (BL.drop rfl (BL.drop rfl BL.nil)) BK.nil)⟩
          · refine gSkip eZ (congrArg Bool.not (nt h19)) rfl ?_
            refine gSkip (eS rfl eZ) (congrArg Bool.not (nt h19)) rfl ?_
            refine gSkip (eS rfl (eS rfl eZ)) (congrArg Bool.not (nt h19)) rfl ?_
            refine gSkip (eS rfl (eS rfl (eS rfl eZ))) (congrArg Bool.not (nt h19)) rfl ?_
            refine oPickT (eS rfl (eS rfl (eS rfl (eS rfl eZ)))) (congrArg Bool.not (nt h19)) eC ?_
            refine oMov eZ ?_
            refine gSkip eZ rfl rfl ?_
            refine gSkip (eS rfl eZ) rfl rfl ?_
            refine gSkip (eS rfl (eS rfl eZ)) rfl rfl ?_
            refine gSkip (eS rfl (eS rfl (eS rfl eZ))) rfl rfl ?_
            refine gSkip (eS rfl (eS rfl (eS rfl (eS rfl eZ)))) rfl rfl ?_
            refine oPickT (eS rfl (eS rfl (eS rfl (eS rfl (eS rfl eZ))))) rfl eC ?_
            refine xNil ?_
            exact TQ.qn ⟨true, H, (wk_mk [256] (SL.cons (eS rfl (eS rfl (eS rfl (eS rfl (eS rfl (eS rfl (eS rfl (eS rfl (eS rfl (eS rfl (eS rfl (eS rfl (eS rfl (eS rfl (eS rfl (eS rfl (eS rfl (eS rfl (eS rfl (eS rfl (eS rfl (eS rfl (eS rfl (eS rfl (eS rfl (eS rfl (eS rfl (eS rfl (eS rfl eZ))))))))))))))))))))))))))))) rfl VWk.rfl (SL.cons (eS rfl (eS rfl (eS rfl (eS rfl (eS rfl (eS rfl (eS rfl (eS rfl (eS rfl (eS rfl (eS rfl (eS rfl (eS rfl (eS rfl (eS rfl (eS rfl (eS rfl (eS rfl (eS rfl (eS rfl (eS rfl (eS rfl (eS rfl (eS rfl (eS rfl (eS rfl (eS rfl (eS rfl (eS rfl (eS rfl eZ)))))))))))))))))))))))))))))) rfl VWk.rfl (SL.cons (eS rfl (eS rfl (eS rfl (eS rfl (eS rfl (eS rfl (eS rfl (eS rfl (eS rfl (eS rfl (eS rfl (eS rfl (eS rfl (eS rfl (eS rfl (eS rfl (eS rfl (eS rfl (eS rfl (eS rfl (eS rfl (eS rfl (eS rfl (eS rfl (eS rfl (eS rfl (eS rfl (eS rfl (eS rfl (eS rfl (eS rfl eZ))))))))))))))))))))))))))))))) rfl VWk.rfl (SL.cons (eS rfl (eS rfl (eS rfl (eS rfl (eS rfl (eS rfl (eS rfl (eS rfl (eS rfl (eS rfl (eS rfl (eS rfl (eS rfl (eS rfl (eS rfl (eS rfl (eS rfl (eS rfl (eS rfl (eS rfl (eS rfl (eS rfl (eS rfl (eS rfl (eS rfl (eS rfl (eS rfl (eS rfl (eS rfl (eS rfl (eS rfl (eS rfl eZ)))))))))))))))))))))))))))))))) rfl VWk.rfl (SL.cons eZ rfl VWk.rfl SL.nil))))) (BL.drop rfl (BL.drop rfl BL.nil)) BK.nil)⟩
        · refine gSkip eZ (congrArg Bool.not (nt h14)) rfl ?_
          refine gSkip (eS rfl eZ) (congrArg Bool.not (nt h14)) rfl ?_
          refine gSkip (eS rfl (eS rfl eZ)) (congrArg Bool.not (nt h14)) rfl ?_
          refine gSkip (eS rfl (eS rfl (eS rfl eZ))) (congrArg Bool.not (nt h14)) rfl ?_
          refine oPickT (eS rfl (eS rfl (eS rfl (eS rfl eZ)))) (congrArg Bool.not (nt h14)) eC ?_
          refine oMov eZ ?_
          refine gSkip eZ rfl rfl ?_
          refine gSkip (eS rfl eZ) rfl rfl ?_
          refine gSkip (eS rfl (eS rfl eZ)) rfl rfl ?_
          refine gSkip (eS rfl (eS rfl (eS rfl eZ))) rfl rfl ?_
          refine oPickT (eS rfl (eS rfl (eS rfl (eS rfl eZ)))) rfl eC ?_
          refine oMov eZ ?_
          refine gSkip eZ rfl rfl ?_
          refine gSkip (eS rfl eZ) rfl rfl ?_
          refine gSkip (eS rfl (eS rfl eZ)) rfl rfl ?_
          refine gSkip (eS rfl (eS rfl (eS rfl eZ))) rfl rfl ?_
          refine gSkip (eS rfl (eS rfl (eS rfl (eS rfl eZ)))) rfl rfl ?_
          refine oPickT (eS rfl (eS rfl (eS rfl (eS rfl (eS rfl eZ))))) rfl eC ?_
          refine xNil ?_
          exact TQ.qn ⟨true, H, (wk_mk [256] (SL.cons (eS rfl (eS rfl (eS rfl (eS rfl (eS rfl (eS rfl (eS rfl (eS rfl (eS rfl (eS rfl (eS rfl (eS rfl (eS rfl (eS rfl (eS rfl (eS rfl (eS rfl (eS rfl (eS rfl (eS rfl (eS rfl (eS rfl (eS rfl (eS rfl (eS rfl (eS rfl (eS rfl (eS rfl (eS rfl eZ))))))))))))))))))))))))))))) rfl VWk.rfl (SL.cons (eS rfl (eS rfl (eS rfl (eS rfl (eS rfl (eS rfl (eS rfl (eS rfl (eS rfl (eS rfl (eS rfl (eS rfl (eS rfl (eS rfl (eS rfl (eS rfl (eS rfl (eS rfl (eS rfl (eS rfl (eS rfl (eS rfl (eS rfl (eS rfl (eS rfl (eS rfl (eS rfl (eS rfl (eS rfl (eS rfl eZ)))))))))))))))))))))))))))))) rfl VWk.rfl (SL.cons (eS rfl (eS rfl (eS rfl (eS rfl (eS rfl (eS rfl (eS rfl (eS rfl (eS rfl (eS rfl (eS rfl (eS rfl (eS rfl (eS rfl (eS rfl (eS rfl (eS rfl (eS rfl (eS rfl (eS rfl (eS rfl (eS rfl (eS rfl (eS rfl (eS rfl (eS rfl (eS rfl (eS rfl (eS rfl (eS rfl (eS rfl eZ))))))))))))))))))))))))))))))) rfl VWk.rfl (SL.cons (eS rfl (eS rfl (eS rfl (eS rfl (eS rfl (eS rfl (eS rfl (eS rfl (eS rfl (eS rfl (eS rfl (eS rfl (eS rfl (eS rfl (eS rfl (eS rfl (eS rfl (eS rfl (eS rfl (eS rfl (eS rfl (eS rfl (eS rfl (eS rfl (eS rfl (eS rfl (eS rfl (eS rfl (eS rfl (eS rfl (eS rfl (eS rfl eZ)))))))))))))))))))))))))))))))) rfl VWk.rfl (SL.cons eZ rfl VWk.rfl SL.nil))))) (BL.drop rfl (BL.drop rfl BL.nil)) BK.nil)⟩
    · refine AW.condF eZ (decide_eq_false h6) ?_
      refine AW.exit ?_
      refine TQ.qe ?_
      refine TQ.qe ?_
      refine BQ.qe ?_
      exact TQ.qn ⟨(), H, (wk_mk [] (SL.cons (eS rfl eZ) rfl VWk.rfl SL.nil) BL.nil BK.nil)⟩

theorem c_slices_Clone_Lock {a1 : (List TLock)} {r : (List TLock)} (H : m_slices_Clone_Lock a1 = some r) : Fn Try.prog k_slices_Clone___impl_Lock_impl_Lock_ (lent [(.sl 4 (List.map d_TLock a1))]) true [(.sl 4 (List.map d_TLock r))] := by
  refine i_slices_Clone___impl_Lock_impl_Lock__fn (Nat.le_of_ble_eq_true rfl) ?_
  rw [init_mk]
  refine AW.weaken (wk_mk [] (SL.cons (v := (.one (.d (.sl 4 (List.map d_TLock a1))))) eZ rfl VWk.rfl SL.nil) BL.nil BK.nil) ?_
  unfold m_slices_Clone_Lock at H
  unfold i_slices_Clone___impl_Lock_impl_Lock_
  refine AW.seq ?_
  refine AW.regs ?_
  refine oMov eC ?_
  refine xNil ?_
  refine TQ.qn ?_
  refine AW.seqJ (fun t2 : Unit => (slices_Clone_Lock_j2 a1) t2 = some r) (fun t2 => mk [(0, (.one (.d (.sl 4 (List.map d_TLock a1)))))] [] noG) ?_ ?_
  · intro t2 H
    unfold slices_Clone_Lock_j2 at H
    refine AW.seq ?_
    refine AW.regs ?_
    refine oBsliceZ (m := 320) rfl nZ ?_
    refine oMov (eS rfl eZ) ?_
    obtain ⟨h4, H⟩ := oguard H
    refine oAppZ (f := d_TLock) (m := 448) (own := true) (ys := a1) (q := a1.length) rfl rfl (eS rfl eZ) eZ (El.lent fun _ _ => rfl) rfl h4 (by decide) nZ ?_
    refine oMov eZ ?_
    refine xNil ?_
    refine TQ.qn ?_
    refine AW.ret ?_
    obtain rfl := Option.some.inj H
    exact endsR (RL.cons (RV.tmp eZ) (VO.sl bZ (List.length_map _) (allFlat fun _ => rfl)) RL.nil) (by decide)
  · refine AW.seq ?_
    refine AW.regs ?_
    refine oMov (eS rfl eZ) ?_
    rcases oite H with ⟨h5, H⟩ | ⟨h5, H⟩
    · refine oNilD0 eZ h5 ?_
      refine xNil ?_
      refine TQ.qn ?_
      refine AW.condU eZ ?_ ?_
      · have H : (some ([] : (List TLock))) = some r := by rw [← H]; simp [List.eq_nil_of_length_eq_zero h5, slices_Clone_Lock_j2]
        refine AW.seq ?_
        refine AW.regs ?_
        refine oMov eC ?_
        refine xNil ?_
        refine TQ.qn ?_
        refine AW.ret ?_
        refine TQ.qr ?_
        obtain rfl := Option.some.inj H
        exact endsR (RL.cons (RV.tmp eZ) VO.zs RL.nil) List.nodup_nil
      · refine AW.skip ?_
        exact TQ.qn ⟨(), H, (wk_mk [] (SL.cons (eS rfl (eS rfl (eS rfl eZ))) rfl VWk.rfl SL.nil) BL.nil BK.nil)⟩
    · refine oNilD eZ h5 ?_
      refine xNil ?_
      refine TQ.qn ?_
      refine AW.condF eZ rfl ?_
      refine AW.skip ?_
      exact TQ.qn ⟨(), H, (wk_mk [] (SL.cons (eS rfl (eS rfl (eS rfl eZ))) rfl VWk.rfl SL.nil) BL.nil BK.nil)⟩

theorem c_impl_LocksDrop_1 {a1 : TLock} {a2 : Int} {r : Bool} (H : m_impl_LocksDrop_1 a1 a2 = some r) : Fn Try.prog k_impl_LocksDrop_1 (lent [(.agg (d_TLock a1)), (.ptr (d_i64 a2))]) true [(.bool r)] := by
  refine i_impl_LocksDrop_1_fn (Nat.le_of_ble_eq_true rfl) ?_
  rw [init_mk]
  refine AW.weaken (wk_mk [] (SL.cons (v := (.agg [(.d (.int .i64 a1.Tx)), (.d (.int .i64 a1.Lo)), (.d (.int .i64 a1.Hi)), (.d (.int .i64 a1.Mode))])) eZ rfl VWk.rfl (SL.cons (v := (.one (.ptr (.bd (d_i64 a2) 0)))) (eS rfl eZ) rfl (VWk.one CWk.ptr) SL.nil)) BL.nil BK.nil) ?_
  unfold m_impl_LocksDrop_1 at H
  unfold i_impl_LocksDrop_1
  refine AW.seq ?_
  refine AW.regs ?_
  refine oBox (n := 128) (m := 4) (cs := [(.d (.int .i64 a1.Tx)), (.d (.int .i64 a1.Lo)), (.d (.int .i64 a1.Hi)), (.d (.int .i64 a1.Mode))]) rfl eZ rfl rfl nZ ?_
  refine oMov eC ?_
  refine xNil ?_
  refine TQ.qn ?_
  refine AW.seq ?_
  refine AW.regs ?_
  refine oFaddrN (m := 0) (eS rfl eZ) rfl ?_
  refine oLoadV (q := 0) (c := (.d (.int .i64 a1.Tx))) eZ bZ rfl rfl ?_
  refine oLoadB (e := (.int .i64 a2)) (eS rfl (eS rfl (eS rfl (eS rfl (eS rfl eZ))))) rfl ?_
  refine oEql (eS rfl eZ) eZ ?_
  refine oMov eZ ?_
  refine xNil ?_
  refine TQ.qn ?_
  refine AW.ret ?_
  obtain rfl := Option.some.inj H
  exact endsR (RL.cons (RV.tmp eZ) (VO.flat rfl) RL.nil) List.nodup_nil

theorem c_slices_IndexFunc_Lock__LocksDrop_1 {a1 : (List TLock)} {a2 : Int} {r : Int} (H : m_slices_IndexFunc_Lock__LocksDrop_1 a1 a2 = some r) : Fn Try.prog k_slices_IndexFunc___impl_Lock_impl_Lock_ (lent [(.sl 4 (List.map d_TLock a1)), (.fn k_impl_LocksDrop_1 [.ptr (d_i64 a2)])]) true [(.int .i64 r)] := by
  refine i_slices_IndexFunc___impl_Lock_impl_Lock__fn (Nat.le_of_ble_eq_true rfl) ?_
  rw [init_mk]
  refine AW.weaken (wk_mk [] (SL.cons (v := (.one (.d (.sl 4 (List.map d_TLock a1))))) eZ rfl VWk.rfl (SL.cons (v := (.one (.fn k_impl_LocksDrop_1 [(.bd (d_i64 a2) 0)]))) (eS rfl eZ) rfl (VWk.one (CWk.fn (css := [d_i64 a2]))) SL.nil)) BL.nil BK.nil) ?_
  unfold m_slices_IndexFunc_Lock__LocksDrop_1 at H
  unfold i_slices_IndexFunc___impl_Lock_impl_Lock_
  refine AW.seq ?_
  refine AW.regs ?_
  refine oMov eC ?_
  refine xNil ?_
  refine TQ.qn ?_
  refine AW.seqJ (fun t3 : Unit => slices_IndexFunc_Lock__LocksDrop_1_j3 t3 = some r) (fun t3 => mk [] [] noG) ?_ ?_
  · intro t3 H
    unfold slices_IndexFunc_Lock__LocksDrop_1_j3 at H
    refine AW.seq ?_
    refine AW.regs ?_
    refine oMov eC ?_
    refine xNil ?_
    refine TQ.qn ?_
    refine AW.ret ?_
    obtain rfl := Option.some.inj H
    exact endsR (RL.cons (RV.tmp eZ) (VO.flat rfl) RL.nil) List.nodup_nil
  · refine AW.seq ?_
    refine AW.regs ?_
    refine oMov (eS rfl eZ) ?_
    refine oLenD eZ (n := a1.length) (List.length_map _) ?_
    refine oMov eC ?_
    refine xNil ?_
    refine TQ.qn ?_
    refine AW.block ?_
    refine AW.iter (fun s5 : Int => mk [(0, (.one (.d (.sl 4 (List.map d_TLock a1))))), (1, (.one (.fn k_impl_LocksDrop_1 [(.bd (d_i64 a2) 0)]))), (7, (.one (.d (.int .i64 (a1.length : Int))))), (8, (.one (.d (.int .i64 s5))))] [] noG) H (wk_mk [] (SL.cons (eS rfl (eS rfl (eS rfl (eS rfl eZ)))) rfl VWk.rfl (SL.cons (eS rfl (eS rfl (eS rfl (eS rfl (eS rfl eZ))))) rfl VWk.rfl (SL.cons (eS rfl eZ) rfl VWk.rfl (SL.cons eZ rfl VWk.rfl SL.nil)))) BL.nil BK.nil) ?_
    intro kb6 s5 H
    unfold slices_IndexFunc_Lock__LocksDrop_1_b5 at H
    refine AW.seq ?_
    refine AW.regs ?_
    refine oLss (eS rfl (eS rfl (eS rfl eZ))) (eS rfl (eS rfl eZ)) ?_
    refine xNil ?_
    refine TQ.qn ?_
    refine AW.seq ?_
    rcases oite H with ⟨h7, H⟩ | ⟨h7, H⟩
    · refine AW.condT eZ (decide_eq_true h7) ?_
      refine AW.skip ?_
      refine TQ.qn ?_
      refine AW.seq ?_
      refine AW.block ?_
      refine AW.seq ?_
      refine AW.regs ?_
      refine oMov (eS rfl (eS rfl (eS rfl (eS rfl eZ)))) ?_
      refine oMov eZ ?_
      refine xNil ?_
      refine TQ.qn ?_
      refine AW.seq ?_
      refine AW.regs ?_
      refine oMov (eS rfl (eS rfl (eS rfl (eS rfl eZ)))) ?_
      refine oMov (eS rfl (eS rfl (eS rfl (eS rfl eZ)))) ?_
      refine oMov (eS rfl (eS rfl eZ)) ?_
      obtain ⟨v8, h9, H⟩ := obind H
      refine oAtD (eS rfl eZ) eZ h9 ?_
      refine oLoadBA (es := [(.d (.int .i64 v8.Tx)), (.d (.int .i64 v8.Lo)), (.d (.int .i64 v8.Hi)), (.d (.int .i64 v8.Mode))]) eZ rfl ?_
      obtain ⟨v10, h11, H⟩ := obind H
      refine oCall (u := (.one (.d (.bool v10)))) (eS rfl (eS rfl (eS rfl (eS rfl eZ)))) Cl.fn (c_impl_LocksDrop_1 h11) (Evs.cons eZ Evs.nil) (VDs.cons (VD.agg rfl) (VDs.cons VD.ptrB VDs.nil)) rfl ?_
      refine xNil ?_
      refine TQ.qn ?_
      rcases oite H with ⟨h12, H⟩ | ⟨h12, H⟩
      · refine AW.condT eZ h12 ?_
        refine AW.seq ?_
        refine AW.regs ?_
        refine oMov (eS rfl (eS rfl (eS rfl (eS rfl (eS rfl (eS rfl eZ)))))) ?_
        refine oMov eZ ?_
        refine xNil ?_
        refine TQ.qn ?_
        refine AW.ret ?_
        refine BQ.qr ?_
        refine TQ.qr ?_
        refine TQ.qr ?_
        refine BQ.qr ?_
        refine TQ.qr ?_
        obtain rfl := Option.some.inj H
        exact endsR (RL.cons (RV.tmp eZ) (VO.flat rfl) RL.nil) List.nodup_nil
      · refine AW.condF eZ (nt h12) ?_
        refine AW.skip ?_
        refine BQ.qn ?_
        refine TQ.qn ?_
        refine AW.regs ?_
        refine oAdd (eS rfl (eS rfl (eS rfl (eS rfl (eS rfl (eS rfl (eS rfl (eS rfl (eS rfl (eS rfl (eS rfl (eS rfl eZ)))))))))))) eC ?_
        refine oMov eZ ?_
        refine xNil ?_
        exact TQ.qn ⟨(IntKind.wrap .i64 (s5 + 1)), H, (wk_mk [] (SL.cons (eS rfl (eS rfl (eS rfl (eS rfl (eS rfl (eS rfl (eS rfl (eS rfl (eS rfl (eS rfl (eS rfl eZ))))))))))) rfl VWk.rfl (SL.cons (eS rfl (eS rfl (eS rfl (eS rfl (eS rfl (eS rfl (eS rfl (eS rfl (eS rfl (eS rfl (eS rfl (eS rfl eZ)))))))))))) rfl VWk.rfl (SL.cons (eS rfl (eS rfl (eS rfl (eS rfl (eS rfl (eS rfl (eS rfl (eS rfl (eS rfl (eS rfl (eS rfl (eS rfl (eS rfl eZ))))))))))))) rfl VWk.rfl (SL.cons eZ rfl VWk.rfl SL.nil)))) BL.nil BK.nil)⟩
    · refine AW.condF eZ (decide_eq_false h7) ?_
      refine AW.exit ?_
      refine TQ.qe ?_
      refine TQ.qe ?_
      refine BQ.qe ?_
      exact TQ.qn ⟨(), H, (wk_mk [] SL.nil BL.nil BK.nil)⟩

theorem c_slices_DeleteFunc_Lock__LocksDrop_1 {a1 : (List TLock)} {a2 : Int} {r : (List TLock)} (H : m_slices_DeleteFunc_Lock__LocksDrop_1 a1 a2 = some r) : Fn Try.prog k_slices_DeleteFunc___impl_Lock_impl_Lock_ [⟨(.sl 4 (List.map d_TLock a1)), .g⟩, ⟨(.fn k_impl_LocksDrop_1 [.ptr (d_i64 a2)]), .b⟩] true [(.sl 4 (List.map d_TLock r))] := by
  refine i_slices_DeleteFunc___impl_Lock_impl_Lock__fnM (Nat.le_of_ble_eq_true rfl) (fC nZ rfl fN) rfl ?_
  rw [initM_mk]
  refine AW.weaken (t := mk [(0, (.one (.sl 0 0 a1.length))), (1, (.one (.fn k_impl_LocksDrop_1 [(.bd (d_i64 a2) 0)])))] [(0, (.data 4 (List.map d_TLock a1) true none))] (lk [])) (wk_mkG (gl := []) [] (SL.cons (v := (.one (.sl 0 0 a1.length))) eZ rfl (VWk.one (CWk.len (List.length_map _))) (SL.cons (v := (.one (.fn k_impl_LocksDrop_1 [(.bd (d_i64 a2) 0)]))) (eS rfl eZ) rfl (VWk.one (CWk.fn (css := [d_i64 a2]))) SL.nil)) (BL.keep rfl BL.nil) (BK.cons (n := 0) rfl bZ rfl rfl BK.nil) GK.nil) ?_
  unfold m_slices_DeleteFunc_Lock__LocksDrop_1 at H
  unfold i_slices_DeleteFunc___impl_Lock_impl_Lock_
  refine AW.seq ?_
  refine AW.regs ?_
  refine oMov eC ?_
  refine xNil ?_
  refine TQ.qn ?_
  refine AW.seq ?_
  refine AW.regs ?_
  refine oMov (eS rfl eZ) ?_
  refine oMov (eS rfl (eS rfl (eS rfl eZ))) ?_
  obtain ⟨v3, h4, H⟩ := obind H
  refine oCall (u := (.one (.d (.int .i64 v3)))) eC Cl.fn (c_slices_IndexFunc_Lock__LocksDrop_1 h4) (Evs.cons (eS rfl eZ) (Evs.cons eZ Evs.nil)) (VDs.cons (VD.sl bZ (List.length_map _)) (VDs.cons (VD.fn (PDs.cons VD.ptrB PDs.nil)) VDs.nil)) rfl ?_
  refine oMov eZ ?_
  refine xNil ?_
  refine TQ.qn ?_
  refine AW.seq ?_
  refine AW.seq ?_
  refine AW.regs ?_
  refine oMov eZ ?_
  refine oEql eZ eC ?_
  refine xNil ?_
  refine TQ.qn ?_
  rcases oite H with ⟨h5, H⟩ | ⟨h5, H⟩
  · refine AW.condT eZ (decide_eq_true h5) ?_
    refine AW.seq ?_
    refine AW.regs ?_
    refine oMov (eS rfl (eS rfl (eS rfl (eS rfl (eS rfl (eS rfl (eS rfl eZ))))))) ?_
    refine oMov eZ ?_
    refine xNil ?_
    refine TQ.qn ?_
    refine AW.ret ?_
    refine TQ.qr ?_
    obtain rfl := Option.some.inj H
    exact endsRM (RL.cons (RV.tmp eZ) (VO.sl bZ (List.length_map _) (allFlat fun _ => rfl)) RL.nil) (ML.give (ML.lent ML.nil)) (by decide)
  · refine AW.condF eZ (decide_eq_false h5) ?_
    refine AW.skip ?_
    refine TQ.qn ?_
    refine AW.seqJ (fun t6 : ((List TLock) × Int) => slices_DeleteFunc_Lock__LocksDrop_1_j6 t6 = some r) (fun t6 => mk [(0, (.one (.sl 320128 0 t6.1.length))), (5, (.one (.d (.int .i64 t6.2))))] [(320128, (.data 4 (List.map d_TLock t6.1) true none))] (lk [])) ?_ ?_
    · intro t6 H
      unfold slices_DeleteFunc_Lock__LocksDrop_1_j6 at H
      refine AW.seq ?_
      refine AW.regs ?_
      refine oMov eZ ?_
      refine oMov (eS rfl (eS rfl eZ)) ?_
      obtain ⟨h8, H⟩ := oguard H
      refine oCutN (r := (Int.toNat t6.2)) (s := (Int.toNat ((t6.1.length : Nat) : Int) - Int.toNat t6.2)) (eS rfl eZ) bZ rfl (Bd.at eZ) Bd.no rfl rfl h8 ?_
      obtain ⟨h9, H⟩ := oguard H
      refine oClear (zv := (TLock.mk 0 0 0 0)) eZ bZ rfl rfl h9 ?_
      refine xNil ?_
      refine TQ.qn ?_
      refine AW.seq ?_
      refine AW.regs ?_
      refine oMov (eS rfl (eS rfl (eS rfl eZ))) ?_
      refine oMov (eS rfl (eS rfl (eS rfl (eS rfl (eS rfl eZ))))) ?_
      obtain ⟨h10, H⟩ := oguard H
      refine oCutN (r := 0) (s := (Int.toNat t6.2)) (eS rfl eZ) bZ rfl Bd.no (Bd.at eZ) rfl rfl h10 ?_
      refine oMov eZ ?_
      refine xNil ?_
      refine TQ.qn ?_
      refine AW.weaken (wk_take 320128 (Int.toNat t6.2) bZ) ?_
      refine AW.ret ?_
      obtain rfl := Option.some.inj H
      exact endsRM (RL.cons (RV.tmp eZ) (VO.sl bZ (by first | (simp; done) | (simp; omega) | omega) (allFlat fun _ => rfl)) RL.nil) (ML.give (ML.lent ML.nil)) (by decide)
    · refine AW.seq ?_
      refine AW.regs ?_
      refine oMov (eS rfl (eS rfl eZ)) ?_
      refine oAdd eZ eC ?_
      refine oMov eZ ?_
      refine xNil ?_
      refine TQ.qn ?_
      refine AW.block ?_
      refine AW.iter (fun s11 : ((List TLock) × Int × Int) => mk [(0, (.one (.sl 320192 0 s11.1.length))), (1, (.one (.fn k_impl_LocksDrop_1 [(.bd (d_i64 a2) 0)]))), (5, (.one (.d (.int .i64 s11.2.1)))), (6, (.one (.d (.int .i64 s11.2.2))))] [(320192, (.data 4 (List.map d_TLock s11.1) true none))] (lk [])) H ((wk_mkG [] (SL.cons (eS rfl (eS rfl (eS rfl (eS rfl (eS rfl (eS rfl (eS rfl (eS rfl (eS rfl (eS rfl eZ)))))))))) rfl VWk.rfl (SL.cons (eS rfl (eS rfl (eS rfl (eS rfl (eS rfl (eS rfl (eS rfl (eS rfl (eS rfl (eS rfl (eS rfl eZ))))))))))) rfl VWk.rfl (SL.cons (eS rfl (eS rfl (eS rfl (eS rfl (eS rfl eZ))))) rfl VWk.rfl (SL.cons eZ rfl VWk.rfl SL.nil)))) (BL.keep rfl BL.nil) (BK.cons rfl bZ rfl rfl BK.nil) GK.nil).trans (wk_renG 0 320192 rfl rfl (nS rfl nZ) GR.nil)) ?_
      intro kb12 s11 H
      unfold slices_DeleteFunc_Lock__LocksDrop_1_b11 at H
      refine AW.seq ?_
      refine AW.seq ?_
      refine AW.regs ?_
      refine oMov (eS rfl (eS rfl (eS rfl eZ))) ?_
      refine oMov (eS rfl eZ) ?_
      refine oLenN eZ ?_
      refine oLss (eS rfl (eS rfl eZ)) eZ ?_
      refine xNil ?_
      refine TQ.qn ?_
      rcases oite H with ⟨h13, H⟩ | ⟨h13, H⟩
      · refine AW.condT eZ (decide_eq_true h13) ?_
        refine AW.skip ?_
        refine TQ.qn ?_
        refine AW.seq ?_
        refine AW.block ?_
        refine AW.seq ?_
        refine AW.regs ?_
        refine oMov (eS rfl (eS rfl (eS rfl (eS rfl eZ)))) ?_
        refine oMov (eS rfl (eS rfl (eS rfl (eS rfl (eS rfl (eS rfl (eS rfl (eS rfl eZ)))))))) ?_
        obtain ⟨v14, h15, H⟩ := obind H
        refine oAtN (eS rfl eZ) eZ bZ rfl h15 ?_
        refine oLoadDA (t := v14) (es := [(.int .i64 v14.Tx), (.int .i64 v14.Lo), (.int .i64 v14.Hi), (.int .i64 v14.Mode)]) (cs := [(.d (.int .i64 v14.Tx)), (.d (.int .i64 v14.Lo)), (.d (.int .i64 v14.Hi)), (.d (.int .i64 v14.Mode))]) eZ bZ (idx_at h15) rfl rfl rfl ?_
        refine oVar (n := 448) (m := 4) rfl rfl (nS rfl nZ) ?_
        refine oStoreV (es := [(.d (.int .i64 v14.Tx)), (.d (.int .i64 v14.Lo)), (.d (.int .i64 v14.Hi)), (.d (.int .i64 v14.Mode))]) eZ (eS rfl eZ) rfl rfl bZ rfl ?_
        refine xNil ?_
        refine TQ.qn ?_
        refine AW.seq ?_
        refine AW.regs ?_
        refine oMov (eS rfl (eS rfl (eS rfl (eS rfl (eS rfl (eS rfl (eS rfl (eS rfl (eS rfl (eS rfl eZ)))))))))) ?_
        refine oLoadVA (es := [(.d (.int .i64 v14.Tx)), (.d (.int .i64 v14.Lo)), (.d (.int .i64 v14.Hi)), (.d (.int .i64 v14.Mode))]) (eS rfl eZ) bZ rfl ?_
        obtain ⟨v16, h17, H⟩ := obind H
        refine oCall (u := (.one (.d (.bool v16)))) (eS rfl eZ) Cl.fn (c_impl_LocksDrop_1 h17) (Evs.cons eZ Evs.nil) (VDs.cons (VD.agg rfl) (VDs.cons VD.ptrB VDs.nil)) rfl ?_
        refine oInv eZ ?_
        refine xNil ?_
        refine TQ.qn ?_
        refine AW.weaken (wk_mkG [] (SL.cons (k := 29) eZ rfl VWk.rfl (SL.cons (k := 7) (eS rfl (eS rfl (eS rfl (eS rfl eZ)))) rfl VWk.rfl (SL.cons (k := 0) (eS rfl (eS rfl (eS rfl (eS rfl (eS rfl (eS rfl (eS rfl (eS rfl (eS rfl (eS rfl (eS rfl (eS rfl (eS rfl eZ))))))))))))) rfl VWk.rfl (SL.cons (k := 1) (eS rfl (eS rfl (eS rfl (eS rfl (eS rfl (eS rfl (eS rfl (eS rfl (eS rfl (eS rfl (eS rfl (eS rfl (eS rfl (eS rfl eZ)))))))))))))) rfl VWk.rfl (SL.cons (k := 5) (eS rfl (eS rfl (eS rfl (eS rfl (eS rfl (eS rfl (eS rfl (eS rfl (eS rfl (eS rfl (eS rfl (eS rfl (eS rfl (eS rfl (eS rfl eZ))))))))))))))) rfl VWk.rfl (SL.cons (k := 6) (eS rfl (eS rfl (eS rfl (eS rfl (eS rfl (eS rfl (eS rfl (eS rfl (eS rfl (eS rfl (eS rfl (eS rfl (eS rfl (eS rfl (eS rfl (eS rfl eZ)))))))))))))))) rfl VWk.rfl SL.nil)))))) (BL.keep rfl (BL.keep rfl (BL.keep rfl BL.nil))) (BK.cons (n := 448) rfl bZ rfl rfl (BK.cons (n := 320192) rfl (bS rfl (bS rfl bZ)) rfl rfl BK.nil)) GK.nil) ?_
        rcases oite H with ⟨h18, H⟩ | ⟨h18, H⟩
        · refine AW.condF eZ (congrArg Bool.not h18) ?_
          refine AW.skip ?_
          refine BQ.qn ?_
          refine TQ.qn ?_
          refine AW.regs ?_
          refine oMov (eS rfl (eS rfl (eS rfl (eS rfl (eS rfl eZ))))) ?_
          refine oAdd eZ eC ?_
          refine oMov eZ ?_
          refine xNil ?_
          exact TQ.qn ⟨(s11.1, s11.2.1, (IntKind.wrap .i64 (s11.2.2 + 1))), H, (wk_mkG [448] (SL.cons (eS rfl (eS rfl (eS rfl (eS rfl (eS rfl eZ))))) rfl VWk.rfl (SL.cons (eS rfl (eS rfl (eS rfl (eS rfl (eS rfl (eS rfl eZ)))))) rfl VWk.rfl (SL.cons (eS rfl (eS rfl (eS rfl (eS rfl (eS rfl (eS rfl (eS rfl eZ))))))) rfl VWk.rfl (SL.cons eZ rfl VWk.rfl SL.nil)))) (BL.drop rfl (BL.keep rfl BL.nil)) (BK.cons rfl (bS rfl bZ) rfl rfl BK.nil) GK.nil)⟩
        · refine AW.condT eZ (congrArg Bool.not (nt h18)) ?_
          refine AW.seq ?_
          refine AW.regs ?_
          refine oMov (eS rfl (eS rfl eZ)) ?_
          refine oMov (eS rfl (eS rfl (eS rfl (eS rfl (eS rfl eZ))))) ?_
          refine oLoadVA (es := [(.d (.int .i64 v14.Tx)), (.d (.int .i64 v14.Lo)), (.d (.int .i64 v14.Hi)), (.d (.int .i64 v14.Mode))]) (eS rfl (eS rfl (eS rfl eZ))) bZ rfl ?_
          obtain ⟨v19, h20, H⟩ := obind H
          refine oAtN (eS rfl (eS rfl eZ)) (eS rfl eZ) (bS rfl bZ) rfl h20 ?_
          refine oStoreD (t := v19) (t' := v14) (es := [(.int .i64 v14.Tx), (.int .i64 v14.Lo), (.int .i64 v14.Hi), (.int .i64 v14.Mode)]) eZ (eS rfl eZ) rfl rfl (bS rfl bZ) (idx_at h20) rfl rfl ?_
          refine xNil ?_
          refine TQ.qn ?_
          refine AW.regs ?_
          refine oMov (eS rfl (eS rfl (eS rfl (eS rfl (eS rfl (eS rfl (eS rfl (eS rfl eZ)))))))) ?_
          refine oAdd eZ eC ?_
          refine oMov eZ ?_
          refine xNil ?_
          refine BQ.qn ?_
          refine TQ.qn ?_
          refine AW.regs ?_
          refine oMov (eS rfl (eS rfl (eS rfl (eS rfl (eS rfl (eS rfl (eS rfl (eS rfl (eS rfl (eS rfl (eS rfl (eS rfl eZ)))))))))))) ?_
          refine oAdd eZ eC ?_
          refine oMov eZ ?_
          refine xNil ?_
          exact TQ.qn ⟨(s11.1.set (Int.toNat s11.2.1) v14, (IntKind.wrap .i64 (s11.2.1 + 1)), (IntKind.wrap .i64 (s11.2.2 + 1))), H, (wk_mkG [448] (SL.cons (eS rfl (eS rfl (eS rfl (eS rfl (eS rfl (eS rfl (eS rfl (eS rfl (eS rfl (eS rfl (eS rfl (eS rfl eZ)))))))))))) rfl (VWk.one (CWk.len (by first | (simp; done) | (simp; omega) | omega))) (SL.cons (eS rfl (eS rfl (eS rfl (eS rfl (eS rfl (eS rfl (eS rfl (eS rfl (eS rfl (eS rfl (eS rfl (eS rfl (eS rfl eZ))))))))))))) rfl VWk.rfl (SL.cons (eS rfl (eS rfl (eS rfl eZ))) rfl VWk.rfl (SL.cons eZ rfl VWk.rfl SL.nil)))) (BL.keep rfl (BL.drop rfl (BL.keep rfl BL.nil))) (BK.cons rfl bZ rfl rfl BK.nil) GK.nil)⟩
      · refine AW.condF eZ (decide_eq_false h13) ?_
        refine AW.exit ?_
        refine TQ.qe ?_
        refine TQ.qe ?_
        refine BQ.qe ?_
        exact TQ.qn ⟨(s11.1, s11.2.1), H, ((wk_mkG [] (SL.cons (eS rfl (eS rfl (eS rfl (eS rfl eZ)))) rfl VWk.rfl (SL.cons (eS rfl (eS rfl (eS rfl (eS rfl (eS rfl (eS rfl eZ)))))) rfl VWk.rfl SL.nil)) (BL.keep rfl BL.nil) (BK.cons rfl bZ rfl rfl BK.nil) GK.nil).trans (wk_renG 320192 320128 rfl rfl (nS rfl nZ) GR.nil))⟩

theorem c_impl_LocksDrop {a1 : (List TLock)} {a2 : Int} {r : (List TLock)} (H : m_impl_LocksDrop a1 a2 = some r) : Fn Try.prog k_impl_LocksDrop (lent [(.sl 4 (List.map d_TLock a1)), (.int .i64 a2)]) true [(.sl 4 (List.map d_TLock r))] := by
  refine i_impl_LocksDrop_fn (Nat.le_of_ble_eq_true rfl) ?_
  rw [init_mk]
  refine AW.weaken (t := mk [(0, (.one (.d (.sl 4 (List.map d_TLock a1))))), (1, (.one (.d (.int .i64 a2))))] [] (lk [])) (wk_mk [] (SL.cons (v := (.one (.d (.sl 4 (List.map d_TLock a1))))) eZ rfl VWk.rfl (SL.cons (v := (.one (.d (.int .i64 a2)))) (eS rfl eZ) rfl VWk.rfl SL.nil)) BL.nil BK.nil) ?_
  unfold m_impl_LocksDrop at H
  unfold i_impl_LocksDrop
  refine AW.seq ?_
  refine AW.regs ?_
  refine oBox (n := 192) (m := 1) (cs := [(.d (.int .i64 a2))]) rfl (eS rfl eZ) rfl rfl nZ ?_
  refine oMov eC ?_
  refine xNil ?_
  refine TQ.qn ?_
  refine AW.seq ?_
  refine AW.seq ?_
  refine AW.regs ?_
  refine oMov (eS rfl (eS rfl eZ)) ?_
  obtain ⟨v3, h4, H⟩ := obind H
  refine oCall (u := (.one (.d (.bool v3)))) eC Cl.fn (c_impl_LocksOk h4) (Evs.cons eZ Evs.nil) (VDs.cons VD.plain VDs.nil) rfl ?_
  refine oInv eZ ?_
  refine xNil ?_
  refine TQ.qn ?_
  rcases oite H with ⟨h5, H⟩ | ⟨h5, H⟩
  · refine AW.condF eZ (congrArg Bool.not h5) ?_
    refine AW.skip ?_
    refine TQ.qn ?_
    refine AW.seq ?_
    refine AW.regm ?_
    refine rmOne ?_
    refine oMov (eS rfl (eS rfl (eS rfl (eS rfl (eS rfl eZ))))) ?_
    refine xNil ?_
    refine rmOne ?_
    obtain ⟨v6, h7, H⟩ := obind H
    refine oCallN (u := (.one (.sl 576 0 ((List.map d_TLock v6).length)))) (bs := [(576, (.data 4 (List.map d_TLock v6) true none))]) eC Cl.fn (c_slices_Clone_Lock h7) (Evs.cons eZ Evs.nil) (VDs.cons VD.plain VDs.nil) rfl rfl (fC (nS rfl nZ) rfl (fC (nS rfl nZ) rfl fN)) ?_
    refine xNil ?_
    refine rmOne ?_
    refine oMkfn (ps := [(.nm 192 0 0)]) (Evs.cons (eS rfl (eS rfl (eS rfl (eS rfl (eS rfl (eS rfl eZ)))))) Evs.nil) ?_
    refine xNil ?_
    obtain ⟨v8, h9, H⟩ := obind H
    refine rmCall (ON := [576]) (ls := [192]) (G := [576]) (E := [576]) (MB := []) (u := (.one (.sl 704 0 ((List.map d_TLock v8).length)))) (bs := [(704, (.data 4 (List.map d_TLock v8) true none))]) eC Cl.fn (c_slices_DeleteFunc_Lock__LocksDrop_1 h9) (Evs.cons (eS rfl eZ) (Evs.cons eZ Evs.nil)) (AO.give (VO.sl bZ (by first | (simp; done) | (simp; omega) | omega) (allFlat fun _ => rfl)) (AO.lent (VD.fn (PDs.cons (VD.ptrN (bS rfl bZ) (CDs.plain CDs.nil)) PDs.nil)) rfl AO.nil)) rfl rfl rfl SZ.nil (erL.cons (v' := (.one (.fn k_impl_LocksDrop_1 [(.nm 192 0 0)]))) rfl (erL.cons (v' := (.one .any)) rfl (erL.cons (v' := (.one (.d (.sl 4 (List.map d_TLock a1))))) rfl (erL.cons (v' := (.one (.d (.bool (!v3))))) rfl (erL.cons (v' := (.one (.d (.bool v3)))) rfl (erL.cons (v' := (.one (.d (.sl 4 (List.map d_TLock a1))))) rfl (erL.cons (v' := (.one .zs)) rfl (erL.cons (v' := (.one (.ptr (.nm 192 0 0)))) rfl (erL.cons (v' := (.one (.d (.sl 4 (List.map d_TLock a1))))) rfl (erL.cons (v' := (.one (.d (.int .i64 a2)))) rfl erL.nil)))))))))) (erH.drop rfl (erH.cons (v' := (.vars 1 [(.d (.int .i64 a2))])) rfl rfl erH.nil)) erL.nil rfl rfl (fC (nS rfl nZ) rfl (fC (nS rfl nZ) rfl fN)) ?_
    refine rmRest ?_
    refine oMov eZ ?_
    refine xNil ?_
    refine TQ.qn ?_
    refine AW.ret ?_
    obtain rfl := Option.some.inj H
    exact endsR (RL.cons (RV.tmp eZ) (VO.sl bZ (by first | (simp; done) | (simp; omega) | omega) (allFlat fun _ => rfl)) RL.nil) (by decide)
  · refine AW.condT eZ (congrArg Bool.not (nt h5)) ?_
    refine AW.seq ?_
    refine AW.regs ?_
    refine oMov eC ?_
    refine xNil ?_
    refine TQ.qn ?_
    refine AW.ret ?_
    refine TQ.qr ?_
    obtain rfl := Option.some.inj H
    exact endsR (RL.cons (RV.tmp eZ) VO.zs RL.nil) List.nodup_nil

theorem c_laws_eqLock {a1 : TLock} {a2 : TLock} {r : Bool} (H : m_laws_eqLock a1 a2 = some r) : Fn Try.prog k_laws_eqLock (lent [(.agg (d_TLock a1)), (.agg (d_TLock a2))]) true [(.bool r)] := by
  refine i_laws_eqLock_fn (Nat.le_of_ble_eq_true rfl) ?_
  rw [init_mk]
  refine AW.weaken (wk_mk [] (SL.cons (v := (.agg [(.d (.int .i64 a1.Tx)), (.d (.int .i64 a1.Lo)), (.d (.int .i64 a1.Hi)), (.d (.int .i64 a1.Mode))])) eZ rfl VWk.rfl (SL.cons (v := (.agg [(.d (.int .i64 a2.Tx)), (.d (.int .i64 a2.Lo)), (.d (.int .i64 a2.Hi)), (.d (.int .i64 a2.Mode))])) (eS rfl eZ) rfl VWk.rfl SL.nil)) BL.nil BK.nil) ?_
  unfold m_laws_eqLock at H
  unfold i_laws_eqLock
  refine AW.seq ?_
  refine AW.regs ?_
  refine oBox (n := 128) (m := 4) (cs := [(.d (.int .i64 a1.Tx)), (.d (.int .i64 a1.Lo)), (.d (.int .i64 a1.Hi)), (.d (.int .i64 a1.Mode))]) rfl eZ rfl rfl nZ ?_
  refine oBox (n := 192) (m := 4) (cs := [(.d (.int .i64 a2.Tx)), (.d (.int .i64 a2.Lo)), (.d (.int .i64 a2.Hi)), (.d (.int .i64 a2.Mode))]) rfl (eS rfl (eS rfl eZ)) rfl rfl (nS rfl nZ) ?_
  refine oMov eC ?_
  refine xNil ?_
  refine TQ.qn ?_
  refine AW.seq ?_
  refine AW.seq ?_
  refine AW.regs ?_
  refine oFaddrN (m := 0) (eS rfl (eS rfl eZ)) rfl ?_
  refine oLoadV (q := 0) (c := (.d (.int .i64 a1.Tx))) eZ (bS rfl bZ) rfl rfl ?_
  refine oFaddrN (m := 0) (eS rfl (eS rfl (eS rfl eZ))) rfl ?_
  refine oLoadV (q := 0) (c := (.d (.int .i64 a2.Tx))) eZ bZ rfl rfl ?_
  refine oNeq (eS rfl (eS rfl eZ)) eZ ?_
  refine xNil ?_
  refine TQ.qn ?_
  rcases oite H with ⟨h3, H⟩ | ⟨h3, H⟩
  · refine AW.condT eZ (decide_eq_true h3) ?_
    refine AW.seq ?_
    refine AW.regs ?_
    refine oMov eC ?_
    refine xNil ?_
    refine TQ.qn ?_
    refine AW.ret ?_
    refine TQ.qr ?_
    obtain rfl := Option.some.inj H
    exact endsR (RL.cons (RV.tmp eZ) (VO.flat rfl) RL.nil) List.nodup_nil
  · refine AW.condF eZ (decide_eq_false h3) ?_
    refine AW.skip ?_
    refine TQ.qn ?_
    refine AW.seq ?_
    refine AW.seq ?_
    refine AW.regs ?_
    refine oFaddrN (m := 1) (eS rfl (eS rfl (eS rfl (eS rfl (eS rfl (eS rfl (eS rfl eZ))))))) rfl ?_
    refine oLoadV (q := 1) (c := (.d (.int .i64 a1.Lo))) eZ (bS rfl bZ) rfl rfl ?_
    refine oFaddrN (m := 1) (eS rfl (eS rfl (eS rfl (eS rfl (eS rfl (eS rfl (eS rfl (eS rfl eZ)))))))) rfl ?_
    refine oLoadV (q := 1) (c := (.d (.int .i64 a2.Lo))) eZ bZ rfl rfl ?_
    refine oNeq (eS rfl (eS rfl eZ)) eZ ?_
    refine xNil ?_
    refine TQ.qn ?_
    rcases oite H with ⟨h4, H⟩ | ⟨h4, H⟩
    · refine AW.condT eZ (decide_eq_true h4) ?_
      refine AW.seq ?_
      refine AW.regs ?_
      refine oMov eC ?_
      refine xNil ?_
      refine TQ.qn ?_
      refine AW.weaken (wk_mk [192, 128] (SL.cons (k := 4) eZ rfl VWk.rfl SL.nil) (BL.drop rfl (BL.drop rfl BL.nil)) BK.nil) ?_
      refine AW.ret ?_
      refine TQ.qr ?_
      obtain rfl := Option.some.inj H
      exact endsR (RL.cons (RV.tmp eZ) (VO.flat rfl) RL.nil) List.nodup_nil
    · refine AW.condF eZ (decide_eq_false h4) ?_
      refine AW.skip ?_
      refine TQ.qn ?_
      refine AW.seq ?_
      refine AW.seq ?_
      refine AW.regs ?_
      refine oFaddrN (m := 2) (eS rfl (eS rfl (eS rfl (eS rfl (eS rfl (eS rfl (eS rfl (eS rfl (eS rfl (eS rfl (eS rfl (eS rfl eZ)))))))))))) rfl ?_
      refine oLoadV (q := 2) (c := (.d (.int .i64 a1.Hi))) eZ (bS rfl bZ) rfl rfl ?_
      refine oFaddrN (m := 2) (eS rfl (eS rfl (eS rfl (eS rfl (eS rfl (eS rfl (eS rfl (eS rfl (eS rfl (eS rfl (eS rfl (eS rfl (eS rfl eZ))))))))))))) rfl ?_
      refine oLoadV (q := 2) (c := (.d (.int .i64 a2.Hi))) eZ bZ rfl rfl ?_
      refine oNeq (eS rfl (eS rfl eZ)) eZ ?_
      refine xNil ?_
      refine TQ.qn ?_
      refine AW.weaken (wk_mk [] (SL.cons (k := 19) eZ rfl VWk.rfl (SL.cons (k := 3) (eS rfl (eS rfl (eS rfl (eS rfl (eS rfl (eS rfl (eS rfl (eS rfl (eS rfl (eS rfl (eS rfl (eS rfl (eS rfl (eS rfl (eS rfl (eS rfl eZ)))))))))))))))) rfl VWk.rfl (SL.cons (k := 2) (eS rfl (eS rfl (eS rfl (eS rfl (eS rfl (eS rfl (eS rfl (eS rfl (eS rfl (eS rfl (eS rfl (eS rfl (eS rfl (eS rfl (eS rfl (eS rfl (eS rfl eZ))))))))))))))))) rfl VWk.rfl SL.nil))) (BL.keep rfl (BL.keep rfl BL.nil)) (BK.cons (n := 192) rfl bZ rfl rfl (BK.cons (n := 128) rfl (bS rfl bZ) rfl rfl BK.nil))) ?_
      rcases oite H with ⟨h5, H⟩ | ⟨h5, H⟩
      · refine AW.condT eZ (decide_eq_true h5) ?_
        refine AW.seq ?_
        refine AW.regs ?_
        refine oMov eC ?_
        refine xNil ?_
        refine TQ.qn ?_
        refine AW.ret ?_
        refine TQ.qr ?_
        obtain rfl := Option.some.inj H
        exact endsR (RL.cons (RV.tmp eZ) (VO.flat rfl) RL.nil) List.nodup_nil
      · refine AW.condF eZ (decide_eq_false h5) ?_
        refine AW.skip ?_
        refine TQ.qn ?_
        refine AW.seq ?_
        refine AW.seq ?_
        refine AW.regs ?_
        refine oFaddrN (m := 3) (eS rfl (eS rfl eZ)) rfl ?_
        refine oLoadV (q := 3) (c := (.d (.int .i64 a1.Mode))) eZ (bS rfl bZ) rfl rfl ?_
        refine oFaddrN (m := 3) (eS rfl (eS rfl (eS rfl eZ))) rfl ?_
        refine oLoadV (q := 3) (c := (.d (.int .i64 a2.Mode))) eZ bZ rfl rfl ?_
        refine oNeq (eS rfl (eS rfl eZ)) eZ ?_
        refine xNil ?_
        refine TQ.qn ?_
        rcases oite H with ⟨h6, H⟩ | ⟨h6, H⟩
        · refine AW.condT eZ (decide_eq_true h6) ?_
          refine AW.seq ?_
          refine AW.regs ?_
          refine oMov eC ?_
          refine xNil ?_
          refine TQ.qn ?_
          refine AW.ret ?_
          refine TQ.qr ?_
          obtain rfl := Option.some.inj H
          exact endsR (RL.cons (RV.tmp eZ) (VO.flat rfl) RL.nil) List.nodup_nil
        · refine AW.condF eZ (decide_eq_false h6) ?_
          refine AW.skip ?_
          refine TQ.qn ?_
          refine AW.seq ?_
          refine AW.regs ?_
          refine oMov eC ?_
          refine xNil ?_
          refine TQ.qn ?_
          refine AW.ret ?_
          obtain rfl := Option.some.inj H
          exact endsR (RL.cons (RV.tmp eZ) (VO.flat rfl) RL.nil) List.nodup_nil

theorem c_laws_eqLockS {a1 : (List TLock)} {a2 : (List TLock)} {r : Bool} (H : m_laws_eqLockS a1 a2 = some r) : Fn Try.prog k_laws_eqLockS (lent [(.sl 4 (List.map d_TLock a1)), (.sl 4 (List.map d_TLock a2))]) true [(.bool r)] := by
  refine i_laws_eqLockS_fn (Nat.le_of_ble_eq_true rfl) ?_
  rw [init_mk]
  refine AW.weaken (wk_mk [] (SL.cons (v := (.one (.d (.sl 4 (List.map d_TLock a1))))) eZ rfl VWk.rfl (SL.cons (v := (.one (.d (.sl 4 (List.map d_TLock a2))))) (eS rfl eZ) rfl VWk.rfl SL.nil)) BL.nil BK.nil) ?_
  unfold m_laws_eqLockS at H
  unfold i_laws_eqLockS
  refine AW.seq ?_
  refine AW.regs ?_
  refine oMov eC ?_
  refine xNil ?_
  refine TQ.qn ?_
  refine AW.seq ?_
  refine AW.seq ?_
  refine AW.regs ?_
  refine oMov (eS rfl eZ) ?_
  refine oLenD eZ (n := a1.length) (List.length_map _) ?_
  refine oMov (eS rfl (eS rfl (eS rfl (eS rfl eZ)))) ?_
  refine oLenD eZ (n := a2.length) (List.length_map _) ?_
  refine oNeq (eS rfl (eS rfl eZ)) eZ ?_
  refine xNil ?_
  refine TQ.qn ?_
  rcases oite H with ⟨h3, H⟩ | ⟨h3, H⟩
  · refine AW.condT eZ (decide_eq_true h3) ?_
    refine AW.seq ?_
    refine AW.regs ?_
    refine oMov eC ?_
    refine xNil ?_
    refine TQ.qn ?_
    refine AW.ret ?_
    refine TQ.qr ?_
    obtain rfl := Option.some.inj H
    exact endsR (RL.cons (RV.tmp eZ) (VO.flat rfl) RL.nil) List.nodup_nil
  · refine AW.condF eZ (decide_eq_false h3) ?_
    refine AW.skip ?_
    refine TQ.qn ?_
    refine AW.seqJ (fun t4 : Unit => laws_eqLockS_j4 t4 = some r) (fun t4 => mk [] [] noG) ?_ ?_
    · intro t4 H
      unfold laws_eqLockS_j4 at H
      refine AW.seq ?_
      refine AW.regs ?_
      refine oMov eC ?_
      refine xNil ?_
      refine TQ.qn ?_
      refine AW.ret ?_
      obtain rfl := Option.some.inj H
      exact endsR (RL.cons (RV.tmp eZ) (VO.flat rfl) RL.nil) List.nodup_nil
    · refine AW.seq ?_
      refine AW.regs ?_
      refine oMov eC ?_
      refine xNil ?_
      refine TQ.qn ?_
      refine AW.block ?_
      refine AW.iter (fun s6 : Int => mk [(0, (.one (.d (.sl 4 (List.map d_TLock a1))))), (1, (.one (.d (.sl 4 (List.map d_TLock a2))))), (5, (.one (.d (.int .i64 s6))))] [] noG) H (wk_mk [] (SL.cons (eS rfl (eS rfl (eS rfl (eS rfl (eS rfl (eS rfl (eS rfl eZ))))))) rfl VWk.rfl (SL.cons (eS rfl (eS rfl (eS rfl (eS rfl (eS rfl (eS rfl (eS rfl (eS rfl eZ)))))))) rfl VWk.rfl (SL.cons eZ rfl VWk.rfl SL.nil))) BL.nil BK.nil) ?_
      intro kb7 s6 H
      unfold laws_eqLockS_b6 at H
      refine AW.seq ?_
      refine AW.seq ?_
      refine AW.regs ?_
      refine oMov (eS rfl (eS rfl eZ)) ?_
      refine oMov (eS rfl eZ) ?_
      refine oLenD eZ (n := a1.length) (List.length_map _) ?_
      refine oLss (eS rfl (eS rfl eZ)) eZ ?_
      refine xNil ?_
      refine TQ.qn ?_
      rcases oite H with ⟨h8, H⟩ | ⟨h8, H⟩
      · refine AW.condT eZ (decide_eq_true h8) ?_
        refine AW.skip ?_
        refine TQ.qn ?_
        refine AW.seq ?_
        refine AW.block ?_
        refine AW.seq ?_
        refine AW.regd ?_
        refine oMov (eS rfl (eS rfl (eS rfl (eS rfl eZ)))) ?_
        refine oMov (eS rfl (eS rfl (eS rfl (eS rfl (eS rfl (eS rfl (eS rfl eZ))))))) ?_
        obtain ⟨v9, h10, H⟩ := obind H
        refine oAtD (eS rfl eZ) eZ h10 ?_
        refine oLoadBA (es := [(.d (.int .i64 v9.Tx)), (.d (.int .i64 v9.Lo)), (.d (.int .i64 v9.Hi)), (.d (.int .i64 v9.Mode))]) eZ rfl ?_
        refine oMov (eS rfl (eS rfl (eS rfl (eS rfl (eS rfl (eS rfl (eS rfl (eS rfl (eS rfl eZ))))))))) ?_
        refine oMov (eS rfl (eS rfl (eS rfl (eS rfl (eS rfl (eS rfl (eS rfl (eS rfl (eS rfl (eS rfl (eS rfl eZ))))))))))) ?_
        obtain ⟨v11, h12, H⟩ := obind H
        refine oAtD (eS rfl eZ) eZ h12 ?_
        refine oLoadBA (es := [(.d (.int .i64 v11.Tx)), (.d (.int .i64 v11.Lo)), (.d (.int .i64 v11.Hi)), (.d (.int .i64 v11.Mode))]) eZ rfl ?_
        obtain ⟨v13, h14, H⟩ := obind H
        refine oCall (u := (.one (.d (.bool v13)))) eC Cl.fn (c_laws_eqLock h14) (Evs.cons (eS rfl (eS rfl (eS rfl (eS rfl eZ)))) (Evs.cons eZ Evs.nil)) (VDs.cons (VD.agg rfl) (VDs.cons (VD.agg rfl) VDs.nil)) rfl ?_
        refine oInv eZ ?_
        refine xNil ?_
        refine TQ.qn ?_
        refine AW.weaken (wk_mk [] (SL.cons (k := 26) eZ rfl VWk.rfl (SL.cons (k := 0) (eS rfl (eS rfl (eS rfl (eS rfl (eS rfl (eS rfl (eS rfl (eS rfl (eS rfl (eS rfl (eS rfl (eS rfl (eS rfl (eS rfl eZ)))))))))))))) rfl VWk.rfl (SL.cons (k := 1) (eS rfl (eS rfl (eS rfl (eS rfl (eS rfl (eS rfl (eS rfl (eS rfl (eS rfl (eS rfl (eS rfl (eS rfl (eS rfl (eS rfl (eS rfl eZ))))))))))))))) rfl VWk.rfl (SL.cons (k := 5) (eS rfl (eS rfl (eS rfl (eS rfl (eS rfl (eS rfl (eS rfl (eS rfl (eS rfl (eS rfl (eS rfl (eS rfl (eS rfl (eS rfl (eS rfl (eS rfl eZ)))))))))))))))) rfl VWk.rfl SL.nil)))) BL.nil BK.nil) ?_
        rcases oite H with ⟨h15, H⟩ | ⟨h15, H⟩
        · refine AW.condF eZ (congrArg Bool.not h15) ?_
          refine AW.skip ?_
          refine BQ.qn ?_
          refine TQ.qn ?_
          refine AW.regs ?_
          refine oMov (eS rfl (eS rfl (eS rfl eZ))) ?_
          refine oAdd eZ eC ?_
          refine oMov eZ ?_
          refine xNil ?_
          exact TQ.qn ⟨(IntKind.wrap .i64 (s6 + 1)), H, (wk_mk [] (SL.cons (eS rfl (eS rfl (eS rfl (eS rfl eZ)))) rfl VWk.rfl (SL.cons (eS rfl (eS rfl (eS rfl (eS rfl (eS rfl eZ))))) rfl VWk.rfl (SL.cons eZ rfl VWk.rfl SL.nil))) BL.nil BK.nil)⟩
        · refine AW.condT eZ (congrArg Bool.not (nt h15)) ?_
          refine AW.seq ?_
          refine AW.regs ?_
          refine oMov eC ?_
          refine xNil ?_
          refine TQ.qn ?_
          refine AW.ret ?_
          refine BQ.qr ?_
          refine TQ.qr ?_
          refine TQ.qr ?_
          refine BQ.qr ?_
          refine TQ.qr ?_
          obtain rfl := Option.some.inj H
          exact endsR (RL.cons (RV.tmp eZ) (VO.flat rfl) RL.nil) List.nodup_nil
      · refine AW.condF eZ (decide_eq_false h8) ?_
        refine AW.exit ?_
        refine TQ.qe ?_
        refine TQ.qe ?_
        refine BQ.qe ?_
        exact TQ.qn ⟨(), H, (wk_mk [] SL.nil BL.nil BK.nil)⟩

theorem c_laws_markLockS {a1 : (List TLock)} {a2 : Int} {r : (Int × (List TLock))} (H : m_laws_markLockS a1 a2 = some r) : Fn Try.prog k_laws_markLockS [⟨(.sl 4 (List.map d_TLock a1)), .m (.sl 4 (List.map d_TLock r.2))⟩, ⟨(.int .i64 a2), .b⟩] true [(.int .i64 r.1)] := by
  refine i_laws_markLockS_fnM (Nat.le_of_ble_eq_true rfl) (fC nZ rfl fN) rfl ?_
  rw [initM_mk]
  refine AW.weaken (t := mk [(0, (.one (.sl 0 0 a1.length))), (1, (.one (.d (.int .i64 a2))))] [(0, (.data 4 (List.map d_TLock a1) true none))] (lk [(0, (.one (.sl 0 0 ((List.map d_TLock a1).length))))])) (wk_mkG (gl := [(0, (.one (.sl 0 0 ((List.map d_TLock a1).length))))]) [] (SL.cons (v := (.one (.sl 0 0 a1.length))) eZ rfl (VWk.one (CWk.len (List.length_map _))) (SL.cons (v := (.one (.d (.int .i64 a2)))) (eS rfl eZ) rfl VWk.rfl SL.nil)) (BL.keep rfl BL.nil) (BK.cons (n := 0) rfl bZ rfl rfl BK.nil) (GK.cons rfl GK.nil)) ?_
  unfold m_laws_markLockS at H
  unfold i_laws_markLockS
  refine AW.seq ?_
  refine AW.regs ?_
  refine oMov eC ?_
  refine xNil ?_
  refine TQ.qn ?_
  refine AW.seqJ (fun t3 : ((List TLock) × Int) => (laws_markLockS_j3 a1) t3 = some r) (fun t3 => mk [(1, (.one (.d (.int .i64 t3.2))))] [(0, (.data 4 (List.map d_TLock t3.1) true none))] (lk [(0, (.one (.sl 0 0 ((List.map d_TLock a1).length))))])) ?_ ?_
  · intro t3 H
    unfold laws_markLockS_j3 at H
    refine AW.seq ?_
    refine AW.regs ?_
    refine oMov eZ ?_
    refine oMov eZ ?_
    refine xNil ?_
    refine TQ.qn ?_
    refine AW.ret ?_
    obtain ⟨h5, H⟩ := oguard H
    obtain rfl := Option.some.inj H
    exact endsRM (RL.cons (RV.tmp eZ) (VO.flat rfl) RL.nil) (ML.mut eZ (VO.sl bZ (by first | (simp; done) | (simp; omega) | omega) (allFlat fun _ => rfl)) (ML.lent ML.nil)) (by decide)
  · refine AW.seq ?_
    refine AW.regs ?_
    refine oMov eC ?_
    refine xNil ?_
    refine TQ.qn ?_
    refine AW.block ?_
    refine AW.iter (fun s6 : ((List TLock) × Int × Int) => mk [(0, (.one (.sl 0 0 s6.1.length))), (1, (.one (.d (.int .i64 s6.2.1)))), (5, (.one (.d (.int .i64 s6.2.2))))] [(0, (.data 4 (List.map d_TLock s6.1) true none))] (lk [(0, (.one (.sl 0 0 ((List.map d_TLock a1).length))))])) H (wk_mkG [] (SL.cons (eS rfl (eS rfl eZ)) rfl VWk.rfl (SL.cons (eS rfl (eS rfl (eS rfl eZ))) rfl VWk.rfl (SL.cons eZ rfl VWk.rfl SL.nil))) (BL.keep rfl BL.nil) (BK.cons rfl bZ rfl rfl BK.nil) (GK.cons rfl GK.nil)) ?_
    intro kb7 s6 H
    unfold laws_markLockS_b6 at H
    refine AW.seq ?_
    refine AW.seq ?_
    refine AW.regs ?_
    refine oMov (eS rfl (eS rfl eZ)) ?_
    refine oMov (eS rfl eZ) ?_
    refine oLenN eZ ?_
    refine oLss (eS rfl (eS rfl eZ)) eZ ?_
    refine xNil ?_
    refine TQ.qn ?_
    rcases oite H with ⟨h8, H⟩ | ⟨h8, H⟩
    · refine AW.condT eZ (decide_eq_true h8) ?_
      refine AW.skip ?_
      refine TQ.qn ?_
      refine AW.seq ?_
      refine AW.block ?_
      refine AW.seq ?_
      refine AW.regs ?_
      refine oMov (eS rfl (eS rfl (eS rfl (eS rfl eZ)))) ?_
      refine oMov (eS rfl (eS rfl (eS rfl (eS rfl (eS rfl (eS rfl (eS rfl eZ))))))) ?_
      refine oMov (eS rfl (eS rfl (eS rfl (eS rfl (eS rfl (eS rfl (eS rfl eZ))))))) ?_
      obtain ⟨v9, h10, H⟩ := obind H
      refine oAtN (eS rfl (eS rfl eZ)) (eS rfl eZ) bZ rfl h10 ?_
      refine oFaddrN (m := 0) eZ rfl ?_
      refine oStoreD (t := v9) (t' := (TLock.mk s6.2.1 v9.Lo v9.Hi v9.Mode)) (es := [(.int .i64 s6.2.1)]) eZ (eS rfl (eS rfl eZ)) rfl rfl bZ (idx_at h10) rfl rfl ?_
      refine xNil ?_
      refine TQ.qn ?_
      refine AW.seq ?_
      refine AW.regs ?_
      refine oMov (eS rfl (eS rfl (eS rfl (eS rfl (eS rfl (eS rfl (eS rfl (eS rfl (eS rfl (eS rfl eZ)))))))))) ?_
      refine oAdd eZ eC ?_
      refine oMov eZ ?_
      refine xNil ?_
      refine TQ.qn ?_
      refine AW.seq ?_
      refine AW.regs ?_
      refine oMov (eS rfl (eS rfl (eS rfl (eS rfl (eS rfl (eS rfl (eS rfl (eS rfl (eS rfl (eS rfl (eS rfl (eS rfl eZ)))))))))))) ?_
      refine oMov (eS rfl (eS rfl (eS rfl (eS rfl (eS rfl (eS rfl (eS rfl (eS rfl (eS rfl (eS rfl (eS rfl (eS rfl (eS rfl (eS rfl (eS rfl eZ))))))))))))))) ?_
      refine oMov (eS rfl (eS rfl eZ)) ?_
      obtain ⟨v11, h12, H⟩ := obind H
      refine oAtN (eS rfl (eS rfl eZ)) (eS rfl eZ) bZ (by first | (simp; done) | (simp; omega) | omega) h12 ?_
      refine oFaddrN (m := 1) eZ rfl ?_
      refine oStoreD (t := v11) (t' := (TLock.mk v11.Tx (IntKind.wrap .i64 (s6.2.1 + 1)) v11.Hi v11.Mode)) (es := [(.int .i64 (IntKind.wrap .i64 (s6.2.1 + 1)))]) eZ (eS rfl (eS rfl eZ)) rfl rfl bZ (idx_at h12) rfl rfl ?_
      refine xNil ?_
      refine TQ.qn ?_
      refine AW.weaken (wk_mkG [] (SL.cons (k := 1) (eS rfl (eS rfl (eS rfl (eS rfl (eS rfl eZ))))) rfl VWk.rfl (SL.cons (k := 0) (eS rfl (eS rfl (eS rfl (eS rfl (eS rfl (eS rfl (eS rfl (eS rfl (eS rfl (eS rfl (eS rfl (eS rfl (eS rfl (eS rfl (eS rfl (eS rfl (eS rfl eZ))))))))))))))))) rfl VWk.rfl (SL.cons (k := 5) (eS rfl (eS rfl (eS rfl (eS rfl (eS rfl (eS rfl (eS rfl (eS rfl (eS rfl (eS rfl (eS rfl (eS rfl (eS rfl (eS rfl (eS rfl (eS rfl (eS rfl (eS rfl (eS rfl eZ))))))))))))))))))) rfl VWk.rfl SL.nil))) (BL.keep rfl (BL.keep rfl (BL.keep rfl BL.nil))) (BK.cons (n := 0) rfl bZ rfl rfl BK.nil) (GK.cons rfl GK.nil)) ?_
      refine AW.seq ?_
      refine AW.regs ?_
      refine oMov eZ ?_
      refine oAdd eZ eC ?_
      refine oMov eZ ?_
      refine xNil ?_
      refine TQ.qn ?_
      refine AW.seq ?_
      refine AW.regs ?_
      refine oMov (eS rfl (eS rfl (eS rfl (eS rfl eZ)))) ?_
      refine oMov (eS rfl (eS rfl (eS rfl (eS rfl (eS rfl (eS rfl eZ)))))) ?_
      refine oMov (eS rfl (eS rfl eZ)) ?_
      obtain ⟨v13, h14, H⟩ := obind H
      refine oAtN (eS rfl (eS rfl eZ)) (eS rfl eZ) bZ (by first | (simp; done) | (simp; omega) | omega) h14 ?_
      refine oFaddrN (m := 2) eZ rfl ?_
      refine oStoreD (t := v13) (t' := (TLock.mk v13.Tx v13.Lo (IntKind.wrap .i64 ((IntKind.wrap .i64 (s6.2.1 + 1)) + 1)) v13.Mode)) (es := [(.int .i64 (IntKind.wrap .i64 ((IntKind.wrap .i64 (s6.2.1 + 1)) + 1)))]) eZ (eS rfl (eS rfl eZ)) rfl rfl bZ (idx_at h14) rfl rfl ?_
      refine xNil ?_
      refine TQ.qn ?_
      refine AW.seq ?_
      refine AW.regs ?_
      refine oMov (eS rfl (eS rfl (eS rfl (eS rfl (eS rfl eZ))))) ?_
      refine oAdd eZ eC ?_
      refine oMov eZ ?_
      refine xNil ?_
      refine TQ.qn ?_
      refine AW.seq ?_
      refine AW.regs ?_
      refine oMov (eS rfl (eS rfl (eS rfl (eS rfl (eS rfl (eS rfl (eS rfl (eS rfl (eS rfl (eS rfl (eS rfl (eS rfl eZ)))))))))))) ?_
      refine oMov (eS rfl (eS rfl (eS rfl (eS rfl (eS rfl (eS rfl (eS rfl (eS rfl (eS rfl (eS rfl (eS rfl (eS rfl (eS rfl (eS rfl eZ)))))))))))))) ?_
      refine oMov (eS rfl (eS rfl eZ)) ?_
      obtain ⟨v15, h16, H⟩ := obind H
      refine oAtN (eS rfl (eS rfl eZ)) (eS rfl eZ) bZ (by first | (simp; done) | (simp; omega) | omega) h16 ?_
      refine oFaddrN (m := 3) eZ rfl ?_
      refine oStoreD (t := v15) (t' := (TLock.mk v15.Tx v15.Lo v15.Hi (IntKind.wrap .i64 ((IntKind.wrap .i64 ((IntKind.wrap .i64 (s6.2.1 + 1)) + 1)) + 1)))) (es := [(.int .i64 (IntKind.wrap .i64 ((IntKind.wrap .i64 ((IntKind.wrap .i64 (s6.2.1 + 1)) + 1)) + 1)))]) eZ (eS rfl (eS rfl eZ)) rfl rfl bZ (idx_at h16) rfl rfl ?_
      refine xNil ?_
      refine TQ.qn ?_
      refine AW.weaken (wk_mkG [] (SL.cons (k := 1) (eS rfl (eS rfl (eS rfl (eS rfl (eS rfl eZ))))) rfl VWk.rfl (SL.cons (k := 0) (eS rfl (eS rfl (eS rfl (eS rfl (eS rfl (eS rfl (eS rfl (eS rfl (eS rfl (eS rfl (eS rfl (eS rfl (eS rfl (eS rfl (eS rfl (eS rfl (eS rfl eZ))))))))))))))))) rfl VWk.rfl (SL.cons (k := 5) (eS rfl (eS rfl (eS rfl (eS rfl (eS rfl (eS rfl (eS rfl (eS rfl (eS rfl (eS rfl (eS rfl (eS rfl (eS rfl (eS rfl (eS rfl (eS rfl (eS rfl (eS rfl eZ)))))))))))))))))) rfl VWk.rfl SL.nil))) (BL.keep rfl (BL.keep rfl (BL.keep rfl BL.nil))) (BK.cons (n := 0) rfl bZ rfl rfl BK.nil) (GK.cons rfl GK.nil)) ?_
      refine AW.regs ?_
      refine oMov eZ ?_
      refine oAdd eZ eC ?_
      refine oMov eZ ?_
      refine xNil ?_
      refine BQ.qn ?_
      refine TQ.qn ?_
      refine AW.regs ?_
      refine oMov (eS rfl (eS rfl (eS rfl (eS rfl (eS rfl eZ))))) ?_
      refine oAdd eZ eC ?_
      refine oMov eZ ?_
      refine xNil ?_
      exact TQ.qn ⟨((((s6.1.set (Int.toNat s6.2.2) (TLock.mk s6.2.1 v9.Lo v9.Hi v9.Mode)).set (Int.toNat s6.2.2) (TLock.mk v11.Tx (IntKind.wrap .i64 (s6.2.1 + 1)) v11.Hi v11.Mode)).set (Int.toNat s6.2.2) (TLock.mk v13.Tx v13.Lo (IntKind.wrap .i64 ((IntKind.wrap .i64 (s6.2.1 + 1)) + 1)) v13.Mode)).set (Int.toNat s6.2.2) (TLock.mk v15.Tx v15.Lo v15.Hi (IntKind.wrap .i64 ((IntKind.wrap .i64 ((IntKind.wrap .i64 (s6.2.1 + 1)) + 1)) + 1))), (IntKind.wrap .i64 ((IntKind.wrap .i64 ((IntKind.wrap .i64 ((IntKind.wrap .i64 (s6.2.1 + 1)) + 1)) + 1)) + 1)), (IntKind.wrap .i64 (s6.2.2 + 1))), H, (wk_mkG [] (SL.cons (eS rfl (eS rfl (eS rfl (eS rfl (eS rfl (eS rfl (eS rfl eZ))))))) rfl (VWk.one (CWk.len (by first | (simp; done) | (simp; omega) | omega))) (SL.cons (eS rfl (eS rfl (eS rfl eZ))) rfl VWk.rfl (SL.cons eZ rfl VWk.rfl SL.nil))) (BL.keep rfl BL.nil) (BK.cons rfl bZ rfl rfl BK.nil) (GK.cons rfl GK.nil))⟩
    · refine AW.condF eZ (decide_eq_false h8) ?_
      refine AW.exit ?_
      refine TQ.qe ?_
      refine TQ.qe ?_
      refine BQ.qe ?_
      exact TQ.qn ⟨(s6.1, s6.2.1), H, (wk_mkG [] (SL.cons (eS rfl (eS rfl (eS rfl (eS rfl (eS rfl eZ))))) rfl VWk.rfl SL.nil) (BL.keep rfl BL.nil) (BK.cons rfl bZ rfl rfl BK.nil) (GK.cons rfl GK.nil))⟩

theorem c_laws_heldLockS {a1 : (List TLock)} {a2 : Int} {r : Int} (H : m_laws_heldLockS a1 a2 = some r) : Fn Try.prog k_laws_heldLockS (lent [(.sl 4 (List.map d_TLock a1)), (.int .i64 a2)]) true [(.int .i64 r)] := by
  refine i_laws_heldLockS_fn (Nat.le_of_ble_eq_true rfl) ?_
  rw [init_mk]
  refine AW.weaken (wk_mk [] (SL.cons (v := (.one (.d (.sl 4 (List.map d_TLock a1))))) eZ rfl VWk.rfl (SL.cons (v := (.one (.d (.int .i64 a2)))) (eS rfl eZ) rfl VWk.rfl SL.nil)) BL.nil BK.nil) ?_
  unfold m_laws_heldLockS at H
  unfold i_laws_heldLockS
  refine AW.seq ?_
  refine AW.regs ?_
  refine oMov eC ?_
  refine xNil ?_
  refine TQ.qn ?_
  refine AW.seqJ (fun t3 : Int => laws_heldLockS_j3 t3 = some r) (fun t3 => mk [(1, (.one (.d (.int .i64 t3))))] [] noG) ?_ ?_
  · intro t3 H
    unfold laws_heldLockS_j3 at H
    refine AW.seq ?_
    refine AW.regs ?_
    refine oMov eZ ?_
    refine oMov eZ ?_
    refine xNil ?_
    refine TQ.qn ?_
    refine AW.ret ?_
    obtain rfl := Option.some.inj H
    exact endsR (RL.cons (RV.tmp eZ) (VO.flat rfl) RL.nil) List.nodup_nil
  · refine AW.seq ?_
    refine AW.regs ?_
    refine oMov eC ?_
    refine xNil ?_
    refine TQ.qn ?_
    refine AW.block ?_
    refine AW.iter (fun s5 : (Int × Int) => mk [(0, (.one (.d (.sl 4 (List.map d_TLock a1))))), (1, (.one (.d (.int .i64 s5.1)))), (5, (.one (.d (.int .i64 s5.2))))] [] noG) H (wk_mk [] (SL.cons (eS rfl (eS rfl eZ)) rfl VWk.rfl (SL.cons (eS rfl (eS rfl (eS rfl eZ))) rfl VWk.rfl (SL.cons eZ rfl VWk.rfl SL.nil))) BL.nil BK.nil) ?_
    intro kb6 s5 H
    unfold laws_heldLockS_b5 at H
    refine AW.seq ?_
    refine AW.seq ?_
    refine AW.regs ?_
    refine oMov (eS rfl (eS rfl eZ)) ?_
    refine oMov (eS rfl eZ) ?_
    refine oLenD eZ (n := a1.length) (List.length_map _) ?_
    refine oLss (eS rfl (eS rfl eZ)) eZ ?_
    refine xNil ?_
    refine TQ.qn ?_
    rcases oite H with ⟨h7, H⟩ | ⟨h7, H⟩
    · refine AW.condT eZ (decide_eq_true h7) ?_
      refine AW.skip ?_
      refine TQ.qn ?_
      refine AW.seq ?_
      refine AW.block ?_
      refine AW.seq ?_
      refine AW.seq ?_
      refine AW.regs ?_
      refine oMov (eS rfl (eS rfl (eS rfl (eS rfl eZ)))) ?_
      refine oMov (eS rfl (eS rfl (eS rfl (eS rfl (eS rfl (eS rfl (eS rfl eZ))))))) ?_
      obtain ⟨v8, h9, H⟩ := obind H
      refine oAtD (eS rfl eZ) eZ h9 ?_
      refine oFaddrB (m := 0) eZ rfl ?_
      refine oLoadB (e := (.int .i64 v8.Tx)) eZ rfl ?_
      refine oMov (eS rfl (eS rfl (eS rfl (eS rfl (eS rfl (eS rfl (eS rfl (eS rfl (eS rfl (eS rfl eZ)))))))))) ?_
      refine oNeq (eS rfl eZ) eZ ?_
      refine xNil ?_
      refine TQ.qn ?_
      rcases oite H with ⟨h10, H⟩ | ⟨h10, H⟩
      · refine AW.condT eZ (decide_eq_true h10) ?_
        refine AW.seq ?_
        refine AW.regs ?_
        refine oMov eC ?_
        refine xNil ?_
        refine TQ.qn ?_
        refine AW.ret ?_
        refine TQ.qr ?_
        refine BQ.qr ?_
        refine TQ.qr ?_
        refine TQ.qr ?_
        refine BQ.qr ?_
        refine TQ.qr ?_
        obtain rfl := Option.some.inj H
        exact endsR (RL.cons (RV.tmp eZ) (VO.flat rfl) RL.nil) List.nodup_nil
      · refine AW.condF eZ (decide_eq_false h10) ?_
        refine AW.skip ?_
        refine TQ.qn ?_
        refine AW.seq ?_
        refine AW.regs ?_
        refine oMov (eS rfl (eS rfl (eS rfl (eS rfl (eS rfl (eS rfl (eS rfl (eS rfl (eS rfl (eS rfl (eS rfl (eS rfl eZ)))))))))))) ?_
        refine oAdd eZ eC ?_
        refine oMov eZ ?_
        refine xNil ?_
        refine TQ.qn ?_
        refine AW.weaken (wk_mk [] (SL.cons (k := 1) eZ rfl VWk.rfl (SL.cons (k := 0) (eS rfl (eS rfl (eS rfl (eS rfl (eS rfl (eS rfl (eS rfl (eS rfl (eS rfl (eS rfl (eS rfl (eS rfl (eS rfl (eS rfl eZ)))))))))))))) rfl VWk.rfl (SL.cons (k := 5) (eS rfl (eS rfl (eS rfl (eS rfl (eS rfl (eS rfl (eS rfl (eS rfl (eS rfl (eS rfl (eS rfl (eS rfl (eS rfl (eS rfl (eS rfl (eS rfl eZ)))))))))))))))) rfl VWk.rfl SL.nil))) BL.nil BK.nil) ?_
        refine AW.seq ?_
        refine AW.seq ?_
        refine AW.regs ?_
        refine oMov (eS rfl eZ) ?_
        refine oMov (eS rfl (eS rfl (eS rfl eZ))) ?_
        obtain ⟨v11, h12, H⟩ := obind H
        refine oAtD (eS rfl eZ) eZ h12 ?_
        refine oFaddrB (m := 1) eZ rfl ?_
        refine oLoadB (e := (.int .i64 v11.Lo)) eZ rfl ?_
        refine oMov (eS rfl (eS rfl (eS rfl (eS rfl (eS rfl eZ))))) ?_
        refine oNeq (eS rfl eZ) eZ ?_
        refine xNil ?_
        refine TQ.qn ?_
        rcases oite H with ⟨h13, H⟩ | ⟨h13, H⟩
        · refine AW.condT eZ (decide_eq_true h13) ?_
          refine AW.seq ?_
          refine AW.regs ?_
          refine oMov eC ?_
          refine xNil ?_
          refine TQ.qn ?_
          refine AW.ret ?_
          refine TQ.qr ?_
          refine BQ.qr ?_
          refine TQ.qr ?_
          refine TQ.qr ?_
          refine BQ.qr ?_
          refine TQ.qr ?_
          obtain rfl := Option.some.inj H
          exact endsR (RL.cons (RV.tmp eZ) (VO.flat rfl) RL.nil) List.nodup_nil
        · refine AW.condF eZ (decide_eq_false h13) ?_
          refine AW.skip ?_
          refine TQ.qn ?_
          refine AW.seq ?_
          refine AW.regs ?_
          refine oMov (eS rfl (eS rfl (eS rfl (eS rfl (eS rfl (eS rfl (eS rfl eZ))))))) ?_
          refine oAdd eZ eC ?_
          refine oMov eZ ?_
          refine xNil ?_
          refine TQ.qn ?_
          refine AW.seq ?_
          refine AW.seq ?_
          refine AW.regs ?_
          refine oMov (eS rfl (eS rfl (eS rfl (eS rfl (eS rfl (eS rfl (eS rfl (eS rfl (eS rfl (eS rfl (eS rfl eZ))))))))))) ?_
          refine oMov (eS rfl (eS rfl (eS rfl (eS rfl (eS rfl (eS rfl (eS rfl (eS rfl (eS rfl (eS rfl (eS rfl (eS rfl (eS rfl eZ))))))))))))) ?_
          obtain ⟨v14, h15, H⟩ := obind H
          refine oAtD (eS rfl eZ) eZ h15 ?_
          refine oFaddrB (m := 2) eZ rfl ?_
          refine oLoadB (e := (.int .i64 v14.Hi)) eZ rfl ?_
          refine oMov (eS rfl (eS rfl (eS rfl (eS rfl (eS rfl eZ))))) ?_
          refine oNeq (eS rfl eZ) eZ ?_
          refine xNil ?_
          refine TQ.qn ?_
          refine AW.weaken (wk_mk [] (SL.cons (k := 36) eZ rfl VWk.rfl (SL.cons (k := 1) (eS rfl (eS rfl (eS rfl (eS rfl (eS rfl (eS rfl (eS rfl eZ))))))) rfl VWk.rfl (SL.cons (k := 0) (eS rfl (eS rfl (eS rfl (eS rfl (eS rfl (eS rfl (eS rfl (eS rfl (eS rfl (eS rfl (eS rfl (eS rfl (eS rfl (eS rfl (eS rfl (eS rfl (eS rfl (eS rfl eZ)))))))))))))))))) rfl VWk.rfl (SL.cons (k := 5) (eS rfl (eS rfl (eS rfl (eS rfl (eS rfl (eS rfl (eS rfl (eS rfl (eS rfl (eS rfl (eS rfl (eS rfl (eS rfl (eS rfl (eS rfl (eS rfl (eS rfl (eS rfl (eS rfl eZ))))))))))))))))))) rfl VWk.rfl SL.nil)))) BL.nil BK.nil) ?_
          rcases oite H with ⟨h16, H⟩ | ⟨h16, H⟩
          · refine AW.condT eZ (decide_eq_true h16) ?_
            refine AW.seq ?_
            refine AW.regs ?_
            refine oMov eC ?_
            refine xNil ?_
            refine TQ.qn ?_
            refine AW.ret ?_
            refine TQ.qr ?_
            refine BQ.qr ?_
            refine TQ.qr ?_
            refine TQ.qr ?_
            refine BQ.qr ?_
            refine TQ.qr ?_
            obtain rfl := Option.some.inj H
            exact endsR (RL.cons (RV.tmp eZ) (VO.flat rfl) RL.nil) List.nodup_nil
          · refine AW.condF eZ (decide_eq_false h16) ?_
            refine AW.skip ?_
            refine TQ.qn ?_
            refine AW.seq ?_
            refine AW.regs ?_
            refine oMov (eS rfl eZ) ?_
            refine oAdd eZ eC ?_
            refine oMov eZ ?_
            refine xNil ?_
            refine TQ.qn ?_
            refine AW.seq ?_
            refine AW.seq ?_
            refine AW.regs ?_
            refine oMov (eS rfl (eS rfl (eS rfl (eS rfl (eS rfl eZ))))) ?_
            refine oMov (eS rfl (eS rfl (eS rfl (eS rfl (eS rfl (eS rfl (eS rfl eZ))))))) ?_
            obtain ⟨v17, h18, H⟩ := obind H
            refine oAtD (eS rfl eZ) eZ h18 ?_
            refine oFaddrB (m := 3) eZ rfl ?_
            refine oLoadB (e := (.int .i64 v17.Mode)) eZ rfl ?_
            refine oMov (eS rfl (eS rfl (eS rfl (eS rfl (eS rfl eZ))))) ?_
            refine oNeq (eS rfl eZ) eZ ?_
            refine xNil ?_
            refine TQ.qn ?_
            rcases oite H with ⟨h19, H⟩ | ⟨h19, H⟩
            · refine AW.condT eZ (decide_eq_true h19) ?_
              refine AW.seq ?_
              refine AW.regs ?_
              refine oMov eC ?_
              refine xNil ?_
              refine TQ.qn ?_
              refine AW.ret ?_
              refine TQ.qr ?_
              refine BQ.qr ?_
              refine TQ.qr ?_
              refine TQ.qr ?_
              refine BQ.qr ?_
              refine TQ.qr ?_
              obtain rfl := Option.some.inj H
              exact endsR (RL.cons (RV.tmp eZ) (VO.flat rfl) RL.nil) List.nodup_nil
            · refine AW.condF eZ (decide_eq_false h19) ?_
              refine AW.skip ?_
              refine TQ.qn ?_
              refine AW.regs ?_
              refine oMov (eS rfl (eS rfl (eS rfl (eS rfl (eS rfl (eS rfl (eS rfl eZ))))))) ?_
              refine oAdd eZ eC ?_
              refine oMov eZ ?_
              refine xNil ?_
              refine BQ.qn ?_
              refine TQ.qn ?_
              refine AW.weaken (wk_mk [] (SL.cons (k := 1) eZ rfl VWk.rfl (SL.cons (k := 0) (eS rfl (eS rfl (eS rfl (eS rfl (eS rfl (eS rfl (eS rfl (eS rfl (eS rfl (eS rfl (eS rfl (eS rfl (eS rfl (eS rfl (eS rfl eZ))))))))))))))) rfl VWk.rfl (SL.cons (k := 5) (eS rfl (eS rfl (eS rfl (eS rfl (eS rfl (eS rfl (eS rfl (eS rfl (eS rfl (eS rfl (eS rfl (eS rfl (eS rfl (eS rfl (eS rfl (eS rfl eZ)))))))))))))))) rfl VWk.rfl SL.nil))) BL.nil BK.nil) ?_
              refine AW.regs ?_
              refine oMov (eS rfl (eS rfl eZ)) ?_
              refine oAdd eZ eC ?_
              refine oMov eZ ?_
              refine xNil ?_
              exact TQ.qn ⟨((IntKind.wrap .i64 ((IntKind.wrap .i64 ((IntKind.wrap .i64 ((IntKind.wrap .i64 (s5.1 + 1)) + 1)) + 1)) + 1)), (IntKind.wrap .i64 (s5.2 + 1))), H, (wk_mk [] (SL.cons (eS rfl (eS rfl (eS rfl (eS rfl eZ)))) rfl VWk.rfl (SL.cons (eS rfl (eS rfl (eS rfl eZ))) rfl VWk.rfl (SL.cons eZ rfl VWk.rfl SL.nil))) BL.nil BK.nil)⟩
    · refine AW.condF eZ (decide_eq_false h7) ?_
      refine AW.exit ?_
      refine TQ.qe ?_
      refine TQ.qe ?_
      refine BQ.qe ?_
      exact TQ.qn ⟨s5.1, H, (wk_mk [] (SL.cons (eS rfl (eS rfl (eS rfl (eS rfl (eS rfl eZ))))) rfl VWk.rfl SL.nil) BL.nil BK.nil)⟩

theorem c_laws_FnExactLocksDrop {a1 : (List TLock)} {a2 : Int} {r : Bool} (H : m_laws_FnExactLocksDrop a1 a2 = some r) : Fn Try.prog k_laws_FnExactLocksDrop (lent [(.sl 4 (List.map d_TLock a1)), (.int .i64 a2)]) true [(.bool r)] := by
  refine i_laws_FnExactLocksDrop_fn (Nat.le_of_ble_eq_true rfl) ?_
  rw [init_mk]
  refine AW.weaken (t := mk [(0, (.one (.d (.sl 4 (List.map d_TLock a1))))), (1, (.one (.d (.int .i64 a2))))] [] (lk [])) (wk_mk [] (SL.cons (v := (.one (.d (.sl 4 (List.map d_TLock a1))))) eZ rfl VWk.rfl (SL.cons (v := (.one (.d (.int .i64 a2)))) (eS rfl eZ) rfl VWk.rfl SL.nil)) BL.nil BK.nil) ?_
  unfold m_laws_FnExactLocksDrop at H
  unfold i_laws_FnExactLocksDrop
  refine AW.seq ?_
  refine AW.regs ?_
  refine oMov eC ?_
  refine xNil ?_
  refine TQ.qn ?_
  refine AW.seq ?_
  refine AW.regs ?_
  refine oMov eC ?_
  refine xNil ?_
  refine TQ.qn ?_
  refine AW.seq ?_
  refine AW.regs ?_
  refine oMov (eS rfl (eS rfl eZ)) ?_
  refine oMov (eS rfl eZ) ?_
  obtain ⟨v3, h4, H⟩ := obind H
  refine oCall (u := (.one (.d (.int .i64 v3)))) eC Cl.fn (c_laws_szLockS h4) (Evs.cons (eS rfl eZ) (Evs.cons eZ Evs.nil)) (VDs.cons VD.plain (VDs.cons VD.plain VDs.nil)) rfl ?_
  refine oMov eZ ?_
  refine xNil ?_
  refine TQ.qn ?_
  refine AW.seq ?_
  refine AW.seq ?_
  refine AW.regs ?_
  refine oMov eZ ?_
  refine oLss eZ eC ?_
  refine xNil ?_
  refine TQ.qn ?_
  rcases oite H with ⟨h5, H⟩ | ⟨h5, H⟩
  · refine AW.condT eZ (decide_eq_true h5) ?_
    refine AW.seq ?_
    refine AW.regs ?_
    refine oMov eC ?_
    refine xNil ?_
    refine TQ.qn ?_
    refine AW.ret ?_
    refine TQ.qr ?_
    obtain rfl := Option.some.inj H
    exact endsR (RL.cons (RV.tmp eZ) (VO.flat rfl) RL.nil) List.nodup_nil
  · refine AW.condF eZ (decide_eq_false h5) ?_
    refine AW.skip ?_
    refine TQ.qn ?_
    refine AW.seq ?_
    refine AW.regs ?_
    refine oMov (eS rfl (eS rfl (eS rfl (eS rfl (eS rfl (eS rfl (eS rfl (eS rfl eZ)))))))) ?_
    obtain ⟨v6, h7, H⟩ := obind H
    refine oCall (u := (.one (.d (.sl 4 (List.map d_TLock v6))))) eC Cl.fn (c_laws_toLockS h7) (Evs.cons eZ Evs.nil) (VDs.cons VD.plain VDs.nil) rfl ?_
    refine oMov (eS rfl (eS rfl (eS rfl (eS rfl (eS rfl (eS rfl (eS rfl (eS rfl (eS rfl (eS rfl (eS rfl eZ))))))))))) ?_
    obtain ⟨v8, h9, H⟩ := obind H
    refine oCall (u := (.one (.d (.sl 4 (List.map d_TLock v8))))) eC Cl.fn (c_spec_LocksDrop h9) (Evs.cons (eS rfl eZ) (Evs.cons eZ Evs.nil)) (VDs.cons VD.plain (VDs.cons VD.plain VDs.nil)) rfl ?_
    refine oMov eZ ?_
    refine xNil ?_
    refine TQ.qn ?_
    refine AW.seq ?_
    refine AW.regs ?_
    refine oMov (eS rfl (eS rfl (eS rfl (eS rfl (eS rfl (eS rfl (eS rfl (eS rfl (eS rfl (eS rfl (eS rfl (eS rfl (eS rfl eZ))))))))))))) ?_
    obtain ⟨v10, h11, H⟩ := obind H
    refine oCallN (u := (.one (.sl 1472 0 ((List.map d_TLock v10).length)))) (bs := [(1472, (.data 4 (List.map d_TLock v10) true none))]) eC Cl.fn (c_laws_toLockS h11) (Evs.cons eZ Evs.nil) (VDs.cons VD.plain VDs.nil) rfl rfl (fC nZ rfl (fC nZ rfl fN)) ?_
    refine oMov eZ ?_
    refine xNil ?_
    refine TQ.qn ?_
    refine AW.weaken (wk_mkG [] (SL.cons (k := 7) eZ rfl VWk.rfl (SL.cons (k := 6) (eS rfl (eS rfl (eS rfl eZ))) rfl VWk.rfl (SL.cons (k := 0) (eS rfl (eS rfl (eS rfl (eS rfl (eS rfl (eS rfl (eS rfl (eS rfl (eS rfl (eS rfl (eS rfl (eS rfl (eS rfl (eS rfl (eS rfl (eS rfl eZ)))))))))))))))) rfl VWk.rfl (SL.cons (k := 1) (eS rfl (eS rfl (eS rfl (eS rfl (eS rfl (eS rfl (eS rfl (eS rfl (eS rfl (eS rfl (eS rfl (eS rfl (eS rfl (eS rfl (eS rfl (eS rfl (eS rfl eZ))))))))))))))))) rfl VWk.rfl SL.nil)))) (BL.keep rfl BL.nil) (BK.cons (n := 1472) rfl bZ rfl rfl BK.nil) GK.nil) ?_
    refine AW.seq ?_
    refine AW.regs ?_
    refine oMov eZ ?_
    refine oMov (eS rfl (eS rfl (eS rfl (eS rfl eZ)))) ?_
    obtain ⟨v12, h13, H⟩ := obind H
    refine oCallN (u := (.one (.sl 1664 0 ((List.map d_TLock v12).length)))) (bs := [(1664, (.data 4 (List.map d_TLock v12) true none))]) eC Cl.fn (c_impl_LocksDrop h13) (Evs.cons (eS rfl eZ) (Evs.cons eZ Evs.nil)) (VDs.cons (VD.sl bZ (by first | (simp; done) | (simp; omega) | omega)) (VDs.cons VD.plain VDs.nil)) rfl rfl (fC (nS rfl nZ) rfl (fC (nS rfl nZ) rfl fN)) ?_
    refine oMov eZ ?_
    refine xNil ?_
    refine TQ.qn ?_
    refine AW.seq ?_
    refine AW.seq ?_
    refine AW.regs ?_
    refine oMov eZ ?_
    refine oMov (eS rfl (eS rfl (eS rfl (eS rfl (eS rfl (eS rfl eZ)))))) ?_
    obtain ⟨v14, h15, H⟩ := obind H
    refine oCall (u := (.one (.d (.bool v14)))) eC Cl.fn (c_laws_eqLockS h15) (Evs.cons (eS rfl eZ) (Evs.cons eZ Evs.nil)) (VDs.cons (VD.sl bZ (by first | (simp; done) | (simp; omega) | omega)) (VDs.cons VD.plain VDs.nil)) rfl ?_
    refine oInv eZ ?_
    refine xNil ?_
    refine TQ.qn ?_
    rcases oite H with ⟨h16, H⟩ | ⟨h16, H⟩
    · refine AW.condF eZ (congrArg Bool.not h16) ?_
      refine AW.skip ?_
      refine TQ.qn ?_
      refine AW.seq ?_
      refine AW.seq ?_
      refine AW.regs ?_
      refine oMov (eS rfl (eS rfl (eS rfl (eS rfl (eS rfl (eS rfl (eS rfl (eS rfl eZ)))))))) ?_
      refine oMov (eS rfl (eS rfl (eS rfl (eS rfl (eS rfl (eS rfl (eS rfl (eS rfl (eS rfl (eS rfl (eS rfl eZ))))))))))) ?_
      obtain ⟨v17, h18, H⟩ := obind H
      refine oCall (u := (.one (.d (.sl 4 (List.map d_TLock v17))))) eC Cl.fn (c_laws_toLockS h18) (Evs.cons eZ Evs.nil) (VDs.cons VD.plain VDs.nil) rfl ?_
      obtain ⟨v19, h20, H⟩ := obind H
      refine oCall (u := (.one (.d (.bool v19)))) eC Cl.fn (c_laws_eqLockS h20) (Evs.cons (eS rfl (eS rfl eZ)) (Evs.cons eZ Evs.nil)) (VDs.cons (VD.sl (bS rfl bZ) (by first | (simp; done) | (simp; omega) | omega)) (VDs.cons VD.plain VDs.nil)) rfl ?_
      refine oInv eZ ?_
      refine xNil ?_
      refine TQ.qn ?_
      refine AW.weaken (wk_mkG [] (SL.cons (k := 35) eZ rfl VWk.rfl (SL.cons (k := 8) (eS rfl (eS rfl (eS rfl (eS rfl (eS rfl (eS rfl (eS rfl (eS rfl (eS rfl eZ))))))))) rfl VWk.rfl (SL.cons (k := 7) (eS rfl (eS rfl (eS rfl (eS rfl (eS rfl (eS rfl (eS rfl (eS rfl (eS rfl (eS rfl (eS rfl (eS rfl (eS rfl eZ))))))))))))) rfl VWk.rfl (SL.cons (k := 6) (eS rfl (eS rfl (eS rfl (eS rfl (eS rfl (eS rfl (eS rfl (eS rfl (eS rfl (eS rfl (eS rfl (eS rfl (eS rfl (eS rfl eZ)))))))))))))) rfl VWk.rfl (SL.cons (k := 0) (eS rfl (eS rfl (eS rfl (eS rfl (eS rfl (eS rfl (eS rfl (eS rfl (eS rfl (eS rfl (eS rfl (eS rfl (eS rfl (eS rfl (eS rfl eZ))))))))))))))) rfl VWk.rfl (SL.cons (k := 1) (eS rfl (eS rfl (eS rfl (eS rfl (eS rfl (eS rfl (eS rfl (eS rfl (eS rfl (eS rfl (eS rfl (eS rfl (eS rfl (eS rfl (eS rfl (eS rfl eZ)))))))))))))))) rfl VWk.rfl SL.nil)))))) (BL.keep rfl (BL.keep rfl BL.nil)) (BK.cons (n := 1664) rfl bZ rfl rfl (BK.cons (n := 1472) rfl (bS rfl bZ) rfl rfl BK.nil)) GK.nil) ?_
      rcases oite H with ⟨h21, H⟩ | ⟨h21, H⟩
      · refine AW.condF eZ (congrArg Bool.not h21) ?_
        refine AW.skip ?_
        refine TQ.qn ?_
        refine AW.seq ?_
        refine AW.regs ?_
        refine oMov eC ?_
        refine xNil ?_
        refine TQ.qn ?_
        refine AW.seq ?_
        refine AW.regm ?_
        refine rmOne ?_
        refine oMov (eS rfl (eS rfl (eS rfl eZ))) ?_
        refine xNil ?_
        refine rmOne ?_
        refine oMov (eS rfl eZ) ?_
        refine xNil ?_
        obtain ⟨v22, h23, H⟩ := obind H
        obtain ⟨h24, H⟩ := oguard H
        refine rmCallI (ON := [1472]) (ls := []) (G := []) (E := [subKey 1472]) (MB := [(1472, (.data 4 (List.map d_TLock v22.2) true none))]) (u := (.one (.d (.int .i64 v22.1)))) eC Cl.fn (c_laws_markLockS h23) (Evs.cons (eS rfl eZ) (Evs.cons eZ Evs.nil)) (AO.mut (VO.sl (bS rfl bZ) (by first | (simp; done) | (simp; omega) | omega) (allFlat fun _ => rfl)) (AO.lent VD.plain rfl AO.nil)) rfl rfl rfl (SZ.cons (bS rfl bZ) (allFlat fun _ => rfl) SZ.nil) (erL.cons (v' := (.one (.d (.int .i64 1)))) rfl (erL.cons (v' := (.one (.sl 1472 0 ((List.map d_TLock v10).length)))) rfl (erL.cons (v' := (.one (.d (.int .i64 1)))) rfl (erL.cons (v' := (.one (.d (.bool (!v19))))) rfl (erL.cons (v' := (.one (.sl 1664 0 ((List.map d_TLock v12).length)))) rfl (erL.cons (v' := (.one (.sl 1472 0 ((List.map d_TLock v10).length)))) rfl (erL.cons (v' := (.one (.d (.sl 4 (List.map d_TLock v8))))) rfl (erL.cons (v' := (.one (.d (.sl 4 (List.map d_TLock a1))))) rfl (erL.cons (v' := (.one (.d (.int .i64 a2)))) rfl erL.nil))))))))) (erH.cons (v' := (.data 4 (List.map d_TLock v12) true none)) rfl rfl (erH.cons (v' := (.data 4 (List.map d_TLock v10) true none)) rfl rfl erH.nil)) erL.nil rfl rfl ?_
        refine rmRest ?_
        refine oMov eZ ?_
        refine xNil ?_
        refine TQ.qn ?_
        refine AW.seq ?_
        refine AW.seqJ (fun t25 : Bool => (laws_FnExactLocksDrop_j25 v12 a1 a2 v8) t25 = some r) (fun t25 => mk [(0, (.one (.d (.sl 4 (List.map d_TLock a1))))), (1, (.one (.d (.int .i64 a2)))), (6, (.one (.d (.sl 4 (List.map d_TLock v8))))), (8, (.one (.sl 1664 0 ((List.map d_TLock v12).length)))), (46, (.one (.d (.bool t25))))] [(1664, (.data 4 (List.map d_TLock v12) true none))] (lk [])) ?_ ?_
        · intro t25 H
          unfold laws_FnExactLocksDrop_j25 at H
          rcases oite H with ⟨h27, H⟩ | ⟨h27, H⟩
          · refine AW.condT (eS rfl (eS rfl (eS rfl (eS rfl eZ)))) h27 ?_
            refine AW.seq ?_
            refine AW.regs ?_
            refine oMov eC ?_
            refine xNil ?_
            refine TQ.qn ?_
            refine AW.ret ?_
            refine TQ.qr ?_
            obtain rfl := Option.some.inj H
            exact endsR (RL.cons (RV.tmp eZ) (VO.flat rfl) RL.nil) List.nodup_nil
          · refine AW.condF (eS rfl (eS rfl (eS rfl (eS rfl eZ)))) (nt h27) ?_
            refine AW.skip ?_
            refine TQ.qn ?_
            refine AW.seq ?_
            refine AW.regs ?_
            refine oMov eC ?_
            refine xNil ?_
            refine TQ.qn ?_
            refine AW.seq ?_
            refine AW.regm ?_
            refine rmOne ?_
            refine oMov (eS rfl (eS rfl (eS rfl (eS rfl eZ)))) ?_
            refine xNil ?_
            refine rmOne ?_
            refine oMov (eS rfl eZ) ?_
            refine xNil ?_
            obtain ⟨v28, h29, H⟩ := obind H
            obtain ⟨h30, H⟩ := oguard H
            refine rmCallI (ON := [1664]) (ls := []) (G := []) (E := [subKey 1664]) (MB := [(1664, (.data 4 (List.map d_TLock v28.2) true none))]) (u := (.one (.d (.int .i64 v28.1)))) eC Cl.fn (c_laws_markLockS h29) (Evs.cons (eS rfl eZ) (Evs.cons eZ Evs.nil)) (AO.mut (VO.sl bZ (by first | (simp; done) | (simp; omega) | omega) (allFlat fun _ => rfl)) (AO.lent VD.plain rfl AO.nil)) rfl rfl rfl (SZ.cons bZ (allFlat fun _ => rfl) SZ.nil) (erL.cons (v' := (.one (.d (.int .i64 1)))) rfl (erL.cons (v' := (.one (.sl 1664 0 ((List.map d_TLock v12).length)))) rfl (erL.cons (v' := (.one (.d (.int .i64 1)))) rfl (erL.cons (v' := (.one (.d (.sl 4 (List.map d_TLock a1))))) rfl (erL.cons (v' := (.one (.d (.int .i64 a2)))) rfl (erL.cons (v' := (.one (.d (.sl 4 (List.map d_TLock v8))))) rfl (erL.cons (v' := (.one (.sl 1664 0 ((List.map d_TLock v12).length)))) rfl (erL.cons (v' := (.one (.d (.bool t25)))) rfl erL.nil)))))))) (erH.cons (v' := (.data 4 (List.map d_TLock v12) true none)) rfl rfl erH.nil) erL.nil rfl rfl ?_
            refine rmRest ?_
            refine oMov eZ ?_
            refine xNil ?_
            refine TQ.qn ?_
            refine AW.seq ?_
            refine AW.regs ?_
            refine oMov eC ?_
            refine xNil ?_
            refine TQ.qn ?_
            refine AW.seq ?_
            refine AW.regs ?_
            refine oMov (eS rfl (eS rfl (eS rfl (eS rfl (eS rfl (eS rfl (eS rfl (eS rfl (eS rfl eZ))))))))) ?_
            refine oMov (eS rfl eZ) ?_
            obtain ⟨v31, h32, H⟩ := obind H
            refine oCall (u := (.one (.d (.int .i64 v31)))) eC Cl.fn (c_laws_heldLockS h32) (Evs.cons (eS rfl eZ) (Evs.cons eZ Evs.nil)) (VDs.cons (VD.sl bZ (by first | (simp; done) | (simp; omega) | omega)) (VDs.cons VD.plain VDs.nil)) rfl ?_
            refine oMov eZ ?_
            refine xNil ?_
            refine TQ.qn ?_
            refine AW.seq ?_
            refine AW.seq ?_
            refine AW.regs ?_
            refine oMov eZ ?_
            refine oLss eZ eC ?_
            refine xNil ?_
            refine TQ.qn ?_
            refine AW.weaken (wk_mkG [] (SL.cons (k := 54) eZ rfl VWk.rfl (SL.cons (k := 11) (eS rfl (eS rfl eZ)) rfl VWk.rfl (SL.cons (k := 10) (eS rfl (eS rfl (eS rfl (eS rfl (eS rfl (eS rfl (eS rfl eZ))))))) rfl VWk.rfl (SL.cons (k := 0) (eS rfl (eS rfl (eS rfl (eS rfl (eS rfl (eS rfl (eS rfl (eS rfl (eS rfl (eS rfl (eS rfl (eS rfl eZ)))))))))))) rfl VWk.rfl (SL.cons (k := 1) (eS rfl (eS rfl (eS rfl (eS rfl (eS rfl (eS rfl (eS rfl (eS rfl (eS rfl (eS rfl (eS rfl (eS rfl (eS rfl eZ))))))))))))) rfl VWk.rfl (SL.cons (k := 6) (eS rfl (eS rfl (eS rfl (eS rfl (eS rfl (eS rfl (eS rfl (eS rfl (eS rfl (eS rfl (eS rfl (eS rfl (eS rfl (eS rfl eZ)))))))))))))) rfl VWk.rfl (SL.cons (k := 8) (eS rfl (eS rfl (eS rfl (eS rfl (eS rfl (eS rfl (eS rfl (eS rfl (eS rfl (eS rfl (eS rfl (eS rfl (eS rfl (eS rfl (eS rfl eZ))))))))))))))) rfl VWk.rfl SL.nil))))))) (BL.keep rfl (BL.keep rfl BL.nil)) (BK.cons (n := 1664) rfl bZ rfl rfl BK.nil) GK.nil) ?_
            rcases oite H with ⟨h33, H⟩ | ⟨h33, H⟩
            · refine AW.condT eZ (decide_eq_true h33) ?_
              refine AW.seq ?_
              refine AW.regs ?_
              refine oMov eC ?_
              refine xNil ?_
              refine TQ.qn ?_
              refine AW.ret ?_
              refine TQ.qr ?_
              obtain rfl := Option.some.inj H
              exact endsR (RL.cons (RV.tmp eZ) (VO.flat rfl) RL.nil) List.nodup_nil
            · refine AW.condF eZ (decide_eq_false h33) ?_
              refine AW.skip ?_
              refine TQ.qn ?_
              refine AW.seq ?_
              refine AW.seq ?_
              refine AW.regs ?_
              refine oMov (eS rfl eZ) ?_
              refine oMov (eS rfl (eS rfl (eS rfl eZ))) ?_
              refine oNeq (eS rfl eZ) eZ ?_
              refine xNil ?_
              refine TQ.qn ?_
              rcases oite H with ⟨h34, H⟩ | ⟨h34, H⟩
              · refine AW.condT eZ (decide_eq_true h34) ?_
                refine AW.seq ?_
                refine AW.regs ?_
                refine oMov eC ?_
                refine xNil ?_
                refine TQ.qn ?_
                refine AW.ret ?_
                refine TQ.qr ?_
                obtain rfl := Option.some.inj H
                exact endsR (RL.cons (RV.tmp eZ) (VO.flat rfl) RL.nil) List.nodup_nil
              · refine AW.condF eZ (decide_eq_false h34) ?_
                refine AW.skip ?_
                refine TQ.qn ?_
                refine AW.seq ?_
                refine AW.regs ?_
                refine oMov (eS rfl (eS rfl (eS rfl (eS rfl (eS rfl (eS rfl eZ)))))) ?_
                obtain ⟨v35, h36, H⟩ := obind H
                refine oCall (u := (.one (.d (.sl 4 (List.map d_TLock v35))))) eC Cl.fn (c_laws_toLockS h36) (Evs.cons eZ Evs.nil) (VDs.cons VD.plain VDs.nil) rfl ?_
                refine oMov (eS rfl (eS rfl (eS rfl (eS rfl (eS rfl (eS rfl (eS rfl (eS rfl (eS rfl eZ))))))))) ?_
                obtain ⟨v37, h38, H⟩ := obind H
                refine oCall (u := (.one (.d (.sl 4 (List.map d_TLock v37))))) eC Cl.fn (c_impl_LocksDrop h38) (Evs.cons (eS rfl eZ) (Evs.cons eZ Evs.nil)) (VDs.cons VD.plain (VDs.cons VD.plain VDs.nil)) rfl ?_
                refine oMov eZ ?_
                refine xNil ?_
                refine TQ.qn ?_
                refine AW.seq ?_
                refine AW.seq ?_
                refine AW.regs ?_
                refine oMov eZ ?_
                refine oMov (eS rfl (eS rfl (eS rfl (eS rfl (eS rfl (eS rfl (eS rfl (eS rfl (eS rfl (eS rfl (eS rfl (eS rfl (eS rfl (eS rfl eZ)))))))))))))) ?_
                obtain ⟨v39, h40, H⟩ := obind H
                refine oCall (u := (.one (.d (.bool v39)))) eC Cl.fn (c_laws_eqLockS h40) (Evs.cons (eS rfl eZ) (Evs.cons eZ Evs.nil)) (VDs.cons VD.plain (VDs.cons VD.plain VDs.nil)) rfl ?_
                refine oInv eZ ?_
                refine xNil ?_
                refine TQ.qn ?_
                refine AW.weaken (wk_mkG [] (SL.cons (k := 65) eZ rfl VWk.rfl (SL.cons (k := 10) (eS rfl (eS rfl (eS rfl (eS rfl (eS rfl (eS rfl (eS rfl (eS rfl (eS rfl (eS rfl (eS rfl (eS rfl (eS rfl (eS rfl eZ)))))))))))))) rfl VWk.rfl (SL.cons (k := 8) (eS rfl (eS rfl (eS rfl (eS rfl (eS rfl (eS rfl (eS rfl (eS rfl (eS rfl (eS rfl (eS rfl (eS rfl (eS rfl (eS rfl (eS rfl (eS rfl (eS rfl (eS rfl eZ)))))))))))))))))) rfl VWk.rfl SL.nil))) (BL.keep rfl BL.nil) (BK.cons (n := 1664) rfl bZ rfl rfl BK.nil) GK.nil) ?_
                rcases oite H with ⟨h41, H⟩ | ⟨h41, H⟩
                · refine AW.condF eZ (congrArg Bool.not h41) ?_
                  refine AW.skip ?_
                  refine TQ.qn ?_
                  refine AW.seq ?_
                  refine AW.regs ?_
                  refine oMov eC ?_
                  refine xNil ?_
                  refine TQ.qn ?_
                  refine AW.seq ?_
                  refine AW.regs ?_
                  refine oMov (eS rfl (eS rfl (eS rfl eZ))) ?_
                  refine oMov (eS rfl eZ) ?_
                  obtain ⟨v42, h43, H⟩ := obind H
                  refine oCall (u := (.one (.d (.int .i64 v42)))) eC Cl.fn (c_laws_heldLockS h43) (Evs.cons (eS rfl eZ) (Evs.cons eZ Evs.nil)) (VDs.cons (VD.sl bZ (by first | (simp; done) | (simp; omega) | omega)) (VDs.cons VD.plain VDs.nil)) rfl ?_
                  refine oMov eZ ?_
                  refine xNil ?_
                  refine TQ.qn ?_
                  refine AW.seq ?_
                  refine AW.seq ?_
                  refine AW.regs ?_
                  refine oMov eZ ?_
                  refine oLss eZ eC ?_
                  refine xNil ?_
                  refine TQ.qn ?_
                  rcases oite H with ⟨h44, H⟩ | ⟨h44, H⟩
                  · refine AW.condT eZ (decide_eq_true h44) ?_
                    refine AW.seq ?_
                    refine AW.regs ?_
                    refine oMov eC ?_
                    refine xNil ?_
                    refine TQ.qn ?_
                    refine AW.ret ?_
                    refine TQ.qr ?_
                    obtain rfl := Option.some.inj H
                    exact endsR (RL.cons (RV.tmp eZ) (VO.flat rfl) RL.nil) List.nodup_nil
                  · refine AW.condF eZ (decide_eq_false h44) ?_
                    refine AW.skip ?_
                    refine TQ.qn ?_
                    refine AW.seq ?_
                    refine AW.seq ?_
                    refine AW.regs ?_
                    refine oMov (eS rfl (eS rfl eZ)) ?_
                    refine oMov (eS rfl (eS rfl (eS rfl (eS rfl (eS rfl (eS rfl (eS rfl (eS rfl (eS rfl eZ))))))))) ?_
                    refine oNeq (eS rfl eZ) eZ ?_
                    refine xNil ?_
                    refine TQ.qn ?_
                    rcases oite H with ⟨h45, H⟩ | ⟨h45, H⟩
                    · refine AW.condT eZ (decide_eq_true h45) ?_
                      refine AW.seq ?_
                      refine AW.regs ?_
                      refine oMov eC ?_
                      refine xNil ?_
                      refine TQ.qn ?_
                      refine AW.ret ?_
                      refine TQ.qr ?_
                      obtain rfl := Option.some.inj H
                      exact endsR (RL.cons (RV.tmp eZ) (VO.flat rfl) RL.nil) List.nodup_nil
                    · refine AW.condF eZ (decide_eq_false h45) ?_
                      refine AW.skip ?_
                      refine TQ.qn ?_
                      refine AW.seq ?_
                      refine AW.regs ?_
                      refine oMov eC ?_
                      refine xNil ?_
                      refine TQ.qn ?_
                      refine AW.ret ?_
                      obtain rfl := Option.some.inj H
                      exact endsR (RL.cons (RV.tmp eZ) (VO.flat rfl) RL.nil) List.nodup_nil
                · refine AW.condT eZ (congrArg Bool.not (nt h41)) ?_
                  refine AW.seq ?_
                  refine AW.regs ?_
                  refine oMov eC ?_
                  refine xNil ?_
                  refine TQ.qn ?_
                  refine AW.ret ?_
                  refine TQ.qr ?_
                  obtain rfl := Option.some.inj H
                  exact endsR (RL.cons (RV.tmp eZ) (VO.flat rfl) RL.nil) List.nodup_nil
        · refine AW.regs ?_
          refine oMov eZ ?_
          refine oLss eZ eC ?_
          refine oMov eZ ?_
          rcases oite H with ⟨h46, H⟩ | ⟨h46, H⟩
          · refine gSkip eZ (decide_eq_true h46) rfl ?_
            refine gSkip (eS rfl eZ) (decide_eq_true h46) rfl ?_
            refine gSkip (eS rfl (eS rfl eZ)) (decide_eq_true h46) rfl ?_
            refine gSkip (eS rfl (eS rfl (eS rfl eZ))) (decide_eq_true h46) rfl ?_
            refine oPickT (eS rfl (eS rfl (eS rfl (eS rfl eZ)))) (decide_eq_true h46) eC ?_
            refine xNil ?_
            exact TQ.qn ⟨true, H, (wk_mkG [1472] (SL.cons (eS rfl (eS rfl (eS rfl (eS rfl (eS rfl (eS rfl (eS rfl (eS rfl (eS rfl (eS rfl (eS rfl (eS rfl (eS rfl (eS rfl (eS rfl (eS rfl (eS rfl eZ))))))))))))))))) rfl VWk.rfl (SL.cons (eS rfl (eS rfl (eS rfl (eS rfl (eS rfl (eS rfl (eS rfl (eS rfl (eS rfl (eS rfl (eS rfl (eS rfl (eS rfl (eS rfl (eS rfl (eS rfl (eS rfl (eS rfl eZ)))))))))))))))))) rfl VWk.rfl (SL.cons (eS rfl (eS rfl (eS rfl (eS rfl (eS rfl (eS rfl (eS rfl (eS rfl (eS rfl (eS rfl (eS rfl (eS rfl (eS rfl (eS rfl (eS rfl (eS rfl eZ)))))))))))))))) rfl VWk.rfl (SL.cons (eS rfl (eS rfl (eS rfl (eS rfl (eS rfl (eS rfl (eS rfl (eS rfl (eS rfl (eS rfl (eS rfl (eS rfl (eS rfl (eS rfl eZ)))))))))))))) rfl VWk.rfl (SL.cons eZ rfl VWk.rfl SL.nil))))) (BL.drop rfl (BL.keep rfl (BL.drop rfl BL.nil))) (BK.cons rfl (bS rfl bZ) rfl rfl BK.nil) GK.nil)⟩
          · refine gDo eZ (decide_eq_false h46) ?_
            refine oMov (eS rfl (eS rfl (eS rfl (eS rfl (eS rfl (eS rfl (eS rfl (eS rfl (eS rfl eZ))))))))) ?_
            refine gDo (eS rfl eZ) (decide_eq_false h46) ?_
            refine oMov (eS rfl (eS rfl (eS rfl (eS rfl (eS rfl (eS rfl (eS rfl (eS rfl (eS rfl (eS rfl (eS rfl (eS rfl eZ)))))))))))) ?_
            refine gDo (eS rfl (eS rfl eZ)) (decide_eq_false h46) ?_
            obtain ⟨v47, h48, H⟩ := obind H
            refine oCall (u := (.one (.d (.bool v47)))) eC Cl.fn (c_laws_eqLockS h48) (Evs.cons (eS rfl eZ) (Evs.cons eZ Evs.nil)) (VDs.cons (VD.sl (bS rfl bZ) (by first | (simp; done) | (simp; omega) | omega)) (VDs.cons VD.plain VDs.nil)) rfl ?_
            refine gDo (eS rfl (eS rfl (eS rfl eZ))) (decide_eq_false h46) ?_
            refine oInv eZ ?_
            refine oPickF (eS rfl (eS rfl (eS rfl (eS rfl eZ)))) (decide_eq_false h46) eZ ?_
            refine xNil ?_
            exact TQ.qn ⟨(!v47), H, (wk_mkG [1472] (SL.cons (eS rfl (eS rfl (eS rfl (eS rfl (eS rfl (eS rfl (eS rfl (eS rfl (eS rfl (eS rfl (eS rfl (eS rfl (eS rfl (eS rfl (eS rfl (eS rfl (eS rfl eZ))))))))))))))))) rfl VWk.rfl (SL.cons (eS rfl (eS rfl (eS rfl (eS rfl (eS rfl (eS rfl (eS rfl (eS rfl (eS rfl (eS rfl (eS rfl (eS rfl (eS rfl (eS rfl (eS rfl (eS rfl (eS rfl (eS rfl eZ)))))))))))))))))) rfl VWk.rfl (SL.cons (eS rfl (eS rfl (eS rfl (eS rfl (eS rfl (eS rfl (eS rfl (eS rfl (eS rfl (eS rfl (eS rfl (eS rfl (eS rfl (eS rfl (eS rfl (eS rfl eZ)))))))))))))))) rfl VWk.rfl (SL.cons (eS rfl (eS rfl (eS rfl (eS rfl (eS rfl (eS rfl (eS rfl (eS rfl (eS rfl (eS rfl (eS rfl (eS rfl (eS rfl (eS rfl eZ)))))))))))))) rfl VWk.rfl (SL.cons eZ rfl VWk.rfl SL.nil))))) (BL.drop rfl (BL.keep rfl (BL.drop rfl BL.nil))) (BK.cons rfl (bS rfl bZ) rfl rfl BK.nil) GK.nil)⟩
      · refine AW.condT eZ (congrArg Bool.not (nt h21)) ?_
        refine AW.seq ?_
        refine AW.regs ?_
        refine oMov eC ?_
        refine xNil ?_
        refine TQ.qn ?_
        refine AW.ret ?_
        refine TQ.qr ?_
        obtain rfl := Option.some.inj H
        exact endsR (RL.cons (RV.tmp eZ) (VO.flat rfl) RL.nil) List.nodup_nil
    · refine AW.condT eZ (congrArg Bool.not (nt h16)) ?_
      refine AW.seq ?_
      refine AW.regs ?_
      refine oMov eC ?_
      refine xNil ?_
      refine TQ.qn ?_
      refine AW.ret ?_
      refine TQ.qr ?_
      obtain rfl := Option.some.inj H
      exact endsR (RL.cons (RV.tmp eZ) (VO.flat rfl) RL.nil) List.nodup_nil

theorem c_spec_LocksOf {a1 : (List TLock)} {a2 : Int} {r : (List TLock)} (H : m_spec_LocksOf a1 a2 = some r) : Fn Try.prog k_spec_LocksOf (lent [(.sl 4 (List.map d_TLock a1)), (.int .i64 a2)]) true [(.sl 4 (List.map d_TLock r))] := by
  refine i_spec_LocksOf_fn (Nat.le_of_ble_eq_true rfl) ?_
  rw [init_mk]
  refine AW.weaken (wk_mk [] (SL.cons (v := (.one (.d (.sl 4 (List.map d_TLock a1))))) eZ rfl VWk.rfl (SL.cons (v := (.one (.d (.int .i64 a2)))) (eS rfl eZ) rfl VWk.rfl SL.nil)) BL.nil BK.nil) ?_
  unfold m_spec_LocksOf at H
  unfold i_spec_LocksOf
  refine AW.seq ?_
  refine AW.regs ?_
  refine oMov eC ?_
  refine xNil ?_
  refine TQ.qn ?_
  refine AW.seq ?_
  refine AW.seq ?_
  refine AW.regs ?_
  refine oMov (eS rfl eZ) ?_
  obtain ⟨v3, h4, H⟩ := obind H
  refine oCall (u := (.one (.d (.bool v3)))) eC Cl.fn (c_spec_LocksOk h4) (Evs.cons eZ Evs.nil) (VDs.cons VD.plain VDs.nil) rfl ?_
  refine oInv eZ ?_
  refine xNil ?_
  refine TQ.qn ?_
  rcases oite H with ⟨h5, H⟩ | ⟨h5, H⟩
  · refine AW.condF eZ (congrArg Bool.not h5) ?_
    refine AW.skip ?_
    refine TQ.qn ?_
    refine AW.seq ?_
    refine AW.regs ?_
    refine oMov (eS rfl (eS rfl (eS rfl (eS rfl eZ)))) ?_
    refine oMov (eS rfl (eS rfl (eS rfl (eS rfl (eS rfl (eS rfl eZ)))))) ?_
    obtain ⟨v6, h7, H⟩ := obind H
    refine oCallN (u := (.one (.sl 704 0 ((List.map d_TLock v6).length)))) (bs := [(704, (.data 4 (List.map d_TLock v6) true none))]) eC Cl.fn (c_spec_l12Keep h7) (Evs.cons (eS rfl eZ) (Evs.cons eZ (Evs.cons eC Evs.nil))) (VDs.cons VD.plain (VDs.cons VD.plain (VDs.cons VD.plain VDs.nil))) rfl rfl (fC nZ rfl (fC nZ rfl fN)) ?_
    refine oMov eZ ?_
    refine xNil ?_
    refine TQ.qn ?_
    refine AW.ret ?_
    obtain rfl := Option.some.inj H
    exact endsR (RL.cons (RV.tmp eZ) (VO.sl bZ (by first | (simp; done) | (simp; omega) | omega) (allFlat fun _ => rfl)) RL.nil) (by decide)
  · refine AW.condT eZ (congrArg Bool.not (nt h5)) ?_
    refine AW.seq ?_
    refine AW.regs ?_
    refine oBsliceZ (m := 512) rfl nZ ?_
    refine oMov eZ ?_
    refine xNil ?_
    refine TQ.qn ?_
    refine AW.ret ?_
    refine TQ.qr ?_
    obtain rfl := Option.some.inj H
    exact endsR (RL.cons (RV.tmp eZ) VO.zs RL.nil) List.nodup_nil

theorem c_impl_LocksOf_1 {a1 : TLock} {a2 : Int} {r : Bool} (H : m_impl_LocksOf_1 a1 a2 = some r) : Fn Try.prog k_impl_LocksOf_1 (lent [(.agg (d_TLock a1)), (.ptr (d_i64 a2))]) true [(.bool r)] := by
  refine i_impl_LocksOf_1_fn (Nat.le_of_ble_eq_true rfl) ?_
  rw [init_mk]
  refine AW.weaken (wk_mk [] (SL.cons (v := (.agg [(.d (.int .i64 a1.Tx)), (.d (.int .i64 a1.Lo)), (.d (.int .i64 a1.Hi)), (.d (.int .i64 a1.Mode))])) eZ rfl VWk.rfl (SL.cons (v := (.one (.ptr (.bd (d_i64 a2) 0)))) (eS rfl eZ) rfl (VWk.one CWk.ptr) SL.nil)) BL.nil BK.nil) ?_
  unfold m_impl_LocksOf_1 at H
  unfold i_impl_LocksOf_1
  refine AW.seq ?_
  refine AW.regs ?_
  refine oBox (n := 128) (m := 4) (cs := [(.d (.int .i64 a1.Tx)), (.d (.int .i64 a1.Lo)), (.d (.int .i64 a1.Hi)), (.d (.int .i64 a1.Mode))]) rfl eZ rfl rfl nZ ?_
  refine oMov eC ?_
  refine xNil ?_
  refine TQ.qn ?_
  refine AW.seq ?_
  refine AW.regs ?_
  refine oFaddrN (m := 0) (eS rfl eZ) rfl ?_
  refine oLoadV (q := 0) (c := (.d (.int .i64 a1.Tx))) eZ bZ rfl rfl ?_
  refine oLoadB (e := (.int .i64 a2)) (eS rfl (eS rfl (eS rfl (eS rfl (eS rfl eZ))))) rfl ?_
  refine oNeq (eS rfl eZ) eZ ?_
  refine oMov eZ ?_
  refine xNil ?_
  refine TQ.qn ?_
  refine AW.ret ?_
  obtain rfl := Option.some.inj H
  exact endsR (RL.cons (RV.tmp eZ) (VO.flat rfl) RL.nil) List.nodup_nil

theorem c_slices_IndexFunc_Lock__LocksOf_1 {a1 : (List TLock)} {a2 : Int} {r : Int} (H : m_slices_IndexFunc_Lock__LocksOf_1 a1 a2 = some r) : Fn Try.prog k_slices_IndexFunc___impl_Lock_impl_Lock_ (lent [(.sl 4 (List.map d_TLock a1)), (.fn k_impl_LocksOf_1 [.ptr (d_i64 a2)])]) true [(.int .i64 r)] := by
  refine i_slices_IndexFunc___impl_Lock_impl_Lock__fn (Nat.le_of_ble_eq_true rfl) ?_
  rw [init_mk]
  refine AW.weaken (wk_mk [] (SL.cons (v := (.one (.d (.sl 4 (List.map d_TLock a1))))) eZ rfl VWk.rfl (SL.cons (v := (.one (.fn k_impl_LocksOf_1 [(.bd (d_i64 a2) 0)]))) (eS rfl eZ) rfl (VWk.one (CWk.fn (css := [d_i64 a2]))) SL.nil)) BL.nil BK.nil) ?_
  unfold m_slices_IndexFunc_Lock__LocksOf_1 at H
  unfold i_slices_IndexFunc___impl_Lock_impl_Lock_
  refine AW.seq ?_
  refine AW.regs ?_
  refine oMov eC ?_
  refine xNil ?_
  refine TQ.qn ?_
  refine AW.seqJ (fun t3 : Unit => slices_IndexFunc_Lock__LocksOf_1_j3 t3 = some r) (fun t3 => mk [] [] noG) ?_ ?_
  · intro t3 H
    unfold slices_IndexFunc_Lock__LocksOf_1_j3 at H
    refine AW.seq ?_
    refine AW.regs ?_
    refine oMov eC ?_
    refine xNil ?_
    refine TQ.qn ?_
    refine AW.ret ?_
    obtain rfl := Option.some.inj H
    exact endsR (RL.cons (RV.tmp eZ) (VO.flat rfl) RL.nil) List.nodup_nil
  · refine AW.seq ?_
    refine AW.regs ?_
    refine oMov (eS rfl eZ) ?_
    refine oLenD eZ (n := a1.length) (List.length_map _) ?_
    refine oMov eC ?_
    refine xNil ?_
    refine TQ.qn ?_
    refine AW.block ?_
    refine AW.iter (fun s5 : Int => mk [(0, (.one (.d (.sl 4 (List.map d_TLock a1))))), (1, (.one (.fn k_impl_LocksOf_1 [(.bd (d_i64 a2) 0)]))), (7, (.one (.d (.int .i64 (a1.length : Int))))), (8, (.one (.d (.int .i64 s5))))] [] noG) H (wk_mk [] (SL.cons (eS rfl (eS rfl (eS rfl (eS rfl eZ)))) rfl VWk.rfl (SL.cons (eS rfl (eS rfl (eS rfl (eS rfl (eS rfl eZ))))) rfl VWk.rfl (SL.cons (eS rfl eZ) rfl VWk.rfl (SL.cons eZ rfl VWk.rfl SL.nil)))) BL.nil BK.nil) ?_
    intro kb6 s5 H
    unfold slices_IndexFunc_Lock__LocksOf_1_b5 at H
    refine AW.seq ?_
    refine AW.regs ?_
    refine oLss (eS rfl (eS rfl (eS rfl eZ))) (eS rfl (eS rfl eZ)) ?_
    refine xNil ?_
    refine TQ.qn ?_
    refine AW.seq ?_
    rcases oite H with ⟨h7, H⟩ | ⟨h7, H⟩
    · refine AW.condT eZ (decide_eq_true h7) ?_
      refine AW.skip ?_
      refine TQ.qn ?_
      refine AW.seq ?_
      refine AW.block ?_
      refine AW.seq ?_
      refine AW.regs ?_
      refine oMov (eS rfl (eS rfl (eS rfl (eS rfl eZ)))) ?_
      refine oMov eZ ?_
      refine xNil ?_
      refine TQ.qn ?_
      refine AW.seq ?_
      refine AW.regs ?_
      refine oMov (eS rfl (eS rfl (eS rfl (eS rfl eZ)))) ?_
      refine oMov (eS rfl (eS rfl (eS rfl (eS rfl eZ)))) ?_
      refine oMov (eS rfl (eS rfl eZ)) ?_
      obtain ⟨v8, h9, H⟩ := obind H
      refine oAtD (eS rfl eZ) eZ h9 ?_
      refine oLoadBA (es := [(.d (.int .i64 v8.Tx)), (.d (.int .i64 v8.Lo)), (.d (.int .i64 v8.Hi)), (.d (.int .i64 v8.Mode))]) eZ rfl ?_
      obtain ⟨v10, h11, H⟩ := obind H
      refine oCall (u := (.one (.d (.bool v10)))) (eS rfl (eS rfl (eS rfl (eS rfl eZ)))) Cl.fn (c_impl_LocksOf_1 h11) (Evs.cons eZ Evs.nil) (VDs.cons (VD.agg rfl) (VDs.cons VD.ptrB VDs.nil)) rfl ?_
      refine xNil ?_
      refine TQ.qn ?_
      rcases oite H with ⟨h12, H⟩ | ⟨h12, H⟩
      · refine AW.condT eZ h12 ?_
        refine AW.seq ?_
        refine AW.regs ?_
        refine oMov (eS rfl (eS rfl (eS rfl (eS rfl (eS rfl (eS rfl eZ)))))) ?_
        refine oMov eZ ?_
        refine xNil ?_
        refine TQ.qn ?_
        refine AW.ret ?_
        refine BQ.qr ?_
        refine TQ.qr ?_
        refine TQ.qr ?_
        refine BQ.qr ?_
        refine TQ.qr ?_
        obtain rfl := Option.some.inj H
        exact endsR (RL.cons (RV.tmp eZ) (VO.flat rfl) RL.nil) List.nodup_nil
      · refine AW.condF eZ (nt h12) ?_
        refine AW.skip ?_
        refine BQ.qn ?_
        refine TQ.qn ?_
        refine AW.regs ?_
        refine oAdd (eS rfl (eS rfl (eS rfl (eS rfl (eS rfl (eS rfl (eS rfl (eS rfl (eS rfl (eS rfl (eS rfl (eS rfl eZ)))))))))))) eC ?_
        refine oMov eZ ?_
        refine xNil ?_
        exact TQ.qn ⟨(IntKind.wrap .i64 (s5 + 1)), H, (wk_mk [] (SL.cons (eS rfl (eS rfl (eS rfl (eS rfl (eS rfl (eS rfl (eS rfl (eS rfl (eS rfl (eS rfl (eS rfl eZ))))))))))) rfl VWk.rfl (SL.cons (eS rfl (eS rfl (eS rfl (eS rfl (eS rfl (eS rfl (eS rfl (eS rfl (eS rfl (eS rfl (eS rfl (eS rfl eZ)))))))))))) rfl VWk.rfl (SL.cons (eS rfl (eS rfl (eS rfl (eS rfl (eS rfl (eS rfl (eS rfl (eS rfl (eS rfl (eS rfl (eS rfl (eS rfl (eS rfl eZ))))))))))))) rfl VWk.rfl (SL.cons eZ rfl VWk.rfl SL.nil)))) BL.nil BK.nil)⟩
    · refine AW.condF eZ (decide_eq_false h7) ?_
      refine AW.exit ?_
      refine TQ.qe ?_
      refine TQ.qe ?_
      refine BQ.qe ?_
      exact TQ.qn ⟨(), H, (wk_mk [] SL.nil BL.nil BK.nil)⟩

theorem c_slices_DeleteFunc_Lock__LocksOf_1 {a1 : (List TLock)} {a2 : Int} {r : (List TLock)} (H : m_slices_DeleteFunc_Lock__LocksOf_1 a1 a2 = some r) : Fn Try.prog k_slices_DeleteFunc___impl_Lock_impl_Lock_ [⟨(.sl 4 (List.map d_TLock a1)), .g⟩, ⟨(.fn k_impl_LocksOf_1 [.ptr (d_i64 a2)]), .b⟩] true [(.sl 4 (List.map d_TLock r))] := by
  refine i_slices_DeleteFunc___impl_Lock_impl_Lock__fnM (Nat.le_of_ble_eq_true rfl) (fC nZ rfl fN) rfl ?_
  rw [initM_mk]
  refine AW.weaken (t := mk [(0, (.one (.sl 0 0 a1.length))), (1, (.one (.fn k_impl_LocksOf_1 [(.bd (d_i64 a2) 0)])))] [(0, (.data 4 (List.map d_TLock a1) true none))] (lk [])) (wk_mkG (gl := []) [] (SL.cons (v := (.one (.sl 0 0 a1.length))) eZ rfl (VWk.one (CWk.len (List.length_map _))) (SL.cons (v := (.one (.fn k_impl_LocksOf_1 [(.bd (d_i64 a2) 0)]))) (eS rfl eZ) rfl (VWk.one (CWk.fn (css := [d_i64 a2]))) SL.nil)) (BL.keep rfl BL.nil) (BK.cons (n := 0) rfl bZ rfl rfl BK.nil) GK.nil) ?_
  unfold m_slices_DeleteFunc_Lock__LocksOf_1 at H
  unfold i_slices_DeleteFunc___impl_Lock_impl_Lock_
  refine AW.seq ?_
  refine AW.regs ?_
  refine oMov eC ?_
  refine xNil ?_
  refine TQ.qn ?_
  refine AW.seq ?_
  refine AW.regs ?_
  refine oMov (eS rfl eZ) ?_
  refine oMov (eS rfl (eS rfl (eS rfl eZ))) ?_
  obtain ⟨v3, h4, H⟩ := obind H
  refine oCall (u := (.one (.d (.int .i64 v3)))) eC Cl.fn (c_slices_IndexFunc_Lock__LocksOf_1 h4) (Evs.cons (eS rfl eZ) (Evs.cons eZ Evs.nil)) (VDs.cons (VD.sl bZ (List.length_map _)) (VDs.cons (VD.fn (PDs.cons VD.ptrB PDs.nil)) VDs.nil)) rfl ?_
  refine oMov eZ ?_
  refine xNil ?_
  refine TQ.qn ?_
  refine AW.seq ?_
  refine AW.seq ?_
  refine AW.regs ?_
  refine oMov eZ ?_
  refine oEql eZ eC ?_
  refine xNil ?_
  refine TQ.qn ?_
  rcases oite H with ⟨h5, H⟩ | ⟨h5, H⟩
  · refine AW.condT eZ (decide_eq_true h5) ?_
    refine AW.seq ?_
    refine AW.regs ?_
    refine oMov (eS rfl (eS rfl (eS rfl (eS rfl (eS rfl (eS rfl (eS rfl eZ))))))) ?_
    refine oMov eZ ?_
    refine xNil ?_
    refine TQ.qn ?_
    refine AW.ret ?_
    refine TQ.qr ?_
    obtain rfl := Option.some.inj H
    exact endsRM (RL.cons (RV.tmp eZ) (VO.sl bZ (List.length_map _) (allFlat fun _ => rfl)) RL.nil) (ML.give (ML.lent ML.nil)) (by decide)
  · refine AW.condF eZ (decide_eq_false h5) ?_
    refine AW.skip ?_
    refine TQ.qn ?_
    refine AW.seqJ (fun t6 : ((List TLock) × Int) => slices_DeleteFunc_Lock__LocksOf_1_j6 t6 = some r) (fun t6 => mk [(0, (.one (.sl 320128 0 t6.1.length))), (5, (.one (.d (.int .i64 t6.2))))] [(320128, (.data 4 (List.map d_TLock t6.1) true none))] (lk [])) ?_ ?_
    · intro t6 H
      unfold slices_DeleteFunc_Lock__LocksOf_1_j6 at H
      refine AW.seq ?_
      refine AW.regs ?_
      refine oMov eZ ?_
      refine oMov (eS rfl (eS rfl eZ)) ?_
      obtain ⟨h8, H⟩ := oguard H
      refine oCutN (r := (Int.toNat t6.2)) (s := (Int.toNat ((t6.1.length : Nat) : Int) - Int.toNat t6.2)) (eS rfl eZ) bZ rfl (Bd.at eZ) Bd.no rfl rfl h8 ?_
      obtain ⟨h9, H⟩ := oguard H
      refine oClear (zv := (TLock.mk 0 0 0 0)) eZ bZ rfl rfl h9 ?_
      refine xNil ?_
      refine TQ.qn ?_
      refine AW.seq ?_
      refine AW.regs ?_
      refine oMov (eS rfl (eS rfl (eS rfl eZ))) ?_
      refine oMov (eS rfl (eS rfl (eS rfl (eS rfl (eS rfl eZ))))) ?_
      obtain ⟨h10, H⟩ := oguard H
      refine oCutN (r := 0) (s := (Int.toNat t6.2)) (eS rfl eZ) bZ rfl Bd.no (Bd.at eZ) rfl rfl h10 ?_
      refine oMov eZ ?_
      refine xNil ?_
      refine TQ.qn ?_
      refine AW.weaken (wk_take 320128 (Int.toNat t6.2) bZ) ?_
      refine AW.ret ?_
      obtain rfl := Option.some.inj H
      exact endsRM (RL.cons (RV.tmp eZ) (VO.sl bZ (by first | (simp; done) | (simp; omega) | omega) (allFlat fun _ => rfl)) RL.nil) (ML.give (ML.lent ML.nil)) (by decide)
    · refine AW.seq ?_
      refine AW.regs ?_
      refine oMov (eS rfl (eS rfl eZ)) ?_
      refine oAdd eZ eC ?_
      refine oMov eZ ?_
      refine xNil ?_
      refine TQ.qn ?_
      refine AW.block ?_
      refine AW.iter (fun s11 : ((List TLock) × Int × Int) => mk [(0, (.one (.sl 320192 0 s11.1.length))), (1, (.one (.fn k_impl_LocksOf_1 [(.bd (d_i64 a2) 0)]))), (5, (.one (.d (.int .i64 s11.2.1)))), (6, (.one (.d (.int .i64 s11.2.2))))] [(320192, (.data 4 (List.map d_TLock s11.1) true none))] (lk [])) H ((wk_mkG [] (SL.cons (eS rfl (eS rfl (eS rfl (eS rfl (eS rfl (eS rfl (eS rfl (eS rfl (eS rfl (eS rfl eZ)))))))))) rfl VWk.rfl (SL.cons (eS rfl (eS rfl (eS rfl (eS rfl (eS rfl (eS rfl (eS rfl (eS rfl (eS rfl (eS rfl (eS rfl eZ))))))))))) rfl VWk.rfl (SL.cons (eS rfl (eS rfl (eS rfl (eS rfl (eS rfl eZ))))) rfl VWk.rfl (SL.cons eZ rfl VWk.rfl SL.nil)))) (BL.keep rfl BL.nil) (BK.cons rfl bZ rfl rfl BK.nil) GK.nil).trans (wk_renG 0 320192 rfl rfl (nS rfl nZ) GR.nil)) ?_
      intro kb12 s11 H
      unfold slices_DeleteFunc_Lock__LocksOf_1_b11 at H
      refine AW.seq ?_
      refine AW.seq ?_
      refine AW.regs ?_
      refine oMov (eS rfl (eS rfl (eS rfl eZ))) ?_
      refine oMov (eS rfl eZ) ?_
      refine oLenN eZ ?_
      refine oLss (eS rfl (eS rfl eZ)) eZ ?_
      refine xNil ?_
      refine TQ.qn ?_
      rcases oite H with ⟨h13, H⟩ | ⟨h13, H⟩
      · refine AW.condT eZ (decide_eq_true h13) ?_
        refine AW.skip ?_
        refine TQ.qn ?_
        refine AW.seq ?_
        refine AW.block ?_
        refine AW.seq ?_
        refine AW.regs ?_
        refine oMov (eS rfl (eS rfl (eS rfl (eS rfl eZ)))) ?_
        refine oMov (eS rfl (eS rfl (eS rfl (eS rfl (eS rfl (eS rfl (eS rfl (eS rfl eZ)))))))) ?_
        obtain ⟨v14, h15, H⟩ := obind H
        refine oAtN (eS rfl eZ) eZ bZ rfl h15 ?_
        refine oLoadDA (t := v14) (es := [(.int .i64 v14.Tx), (.int .i64 v14.Lo), (.int .i64 v14.Hi), (.int .i64 v14.Mode)]) (cs := [(.d (.int .i64 v14.Tx)), (.d (.int .i64 v14.Lo)), (.d (.int .i64 v14.Hi)), (.d (.int .i64 v14.Mode))]) eZ bZ (idx_at h15) rfl rfl rfl ?_
        refine oVar (n := 448) (m := 4) rfl rfl (nS rfl nZ) ?_
        refine oStoreV (es := [(.d (.int .i64 v14.Tx)), (.d (.int .i64 v14.Lo)), (.d (.int .i64 v14.Hi)), (.d (.int .i64 v14.Mode))]) eZ (eS rfl eZ) rfl rfl bZ rfl ?_
        refine xNil ?_
        refine TQ.qn ?_
        refine AW.seq ?_
        refine AW.regs ?_
        refine oMov (eS rfl (eS rfl (eS rfl (eS rfl (eS rfl (eS rfl (eS rfl (eS rfl (eS rfl (eS rfl eZ)))))))))) ?_
        refine oLoadVA (es := [(.d (.int .i64 v14.Tx)), (.d (.int .i64 v14.Lo)), (.d (.int .i64 v14.Hi)), (.d (.int .i64 v14.Mode))]) (eS rfl eZ) bZ rfl ?_
        obtain ⟨v16, h17, H⟩ := obind H
        refine oCall (u := (.one (.d (.bool v16)))) (eS rfl eZ) Cl.fn (c_impl_LocksOf_1 h17) (Evs.cons eZ Evs.nil) (VDs.cons (VD.agg rfl) (VDs.cons VD.ptrB VDs.nil)) rfl ?_
        refine oInv eZ ?_
        refine xNil ?_
        refine TQ.qn ?_
        refine AW.weaken (wk_mkG [] (SL.cons (k := 29) eZ rfl VWk.rfl (SL.cons (k := 7) (eS rfl (eS rfl (eS rfl (eS rfl eZ)))) rfl VWk.rfl (SL.cons (k := 0) (eS rfl (eS rfl (eS rfl (eS rfl (eS rfl (eS rfl (eS rfl (eS rfl (eS rfl (eS rfl (eS rfl (eS rfl (eS rfl eZ))))))))))))) rfl VWk.rfl (SL.cons (k := 1) (eS rfl (eS rfl (eS rfl (eS rfl (eS rfl (eS rfl (eS rfl (eS rfl (eS rfl (eS rfl (eS rfl (eS rfl (eS rfl (eS rfl eZ)))))))))))))) rfl VWk.rfl (SL.cons (k := 5) (eS rfl (eS rfl (eS rfl (eS rfl (eS rfl (eS rfl (eS rfl (eS rfl (eS rfl (eS rfl (eS rfl (eS rfl (eS rfl (eS rfl (eS rfl eZ))))))))))))))) rfl VWk.rfl (SL.cons (k := 6) (eS rfl (eS rfl (eS rfl (eS rfl (eS rfl (eS rfl (eS rfl (eS rfl (eS rfl (eS rfl (eS rfl (eS rfl (eS rfl (eS rfl (eS rfl (eS rfl eZ)))))))))))))))) rfl VWk.rfl SL.nil)))))) (BL.keep rfl (BL.keep rfl (BL.keep rfl BL.nil))) (BK.cons (n := 448) rfl bZ rfl rfl (BK.cons (n := 320192) rfl (bS rfl (bS rfl bZ)) rfl rfl BK.nil)) GK.nil) ?_
        rcases oite H with ⟨h18, H⟩ | ⟨h18, H⟩
        · refine AW.condF eZ (congrArg Bool.not h18) ?_
          refine AW.skip ?_
          refine BQ.qn ?_
          refine TQ.qn ?_
          refine AW.regs ?_
          refine oMov (eS rfl (eS rfl (eS rfl (eS rfl (eS rfl eZ))))) ?_
          refine oAdd eZ eC ?_
          refine oMov eZ ?_
          refine xNil ?_
          exact TQ.qn ⟨(s11.1, s11.2.1, (IntKind.wrap .i64 (s11.2.2 + 1))), H, (wk_mkG [448] (SL.cons (eS rfl (eS rfl (eS rfl (eS rfl (eS rfl eZ))))) rfl VWk.rfl (SL.cons (eS rfl (eS rfl (eS rfl (eS rfl (eS rfl (eS rfl eZ)))))) rfl VWk.rfl (SL.cons (eS rfl (eS rfl (eS rfl (eS rfl (eS rfl (eS rfl (eS rfl eZ))))))) rfl VWk.rfl (SL.cons eZ rfl VWk.rfl SL.nil)))) (BL.drop rfl (BL.keep rfl BL.nil)) (BK.cons rfl (bS rfl bZ) rfl rfl BK.nil) GK.nil)⟩
        · refine AW.condT eZ (congrArg Bool.not (nt h18)) ?_
          refine AW.seq ?_
          refine AW.regs ?_
          refine oMov (eS rfl (eS rfl eZ)) ?_
          refine oMov (eS rfl (eS rfl (eS rfl (eS rfl (eS rfl eZ))))) ?_
          refine oLoadVA (es := [(.d (.int .i64 v14.Tx)), (.d (.int .i64 v14.Lo)), (.d (.int .i64 v14.Hi)), (.d (.int .i64 v14.Mode))]) (eS rfl (eS rfl (eS rfl eZ))) bZ rfl ?_
          obtain ⟨v19, h20, H⟩ := obind H
          refine oAtN (eS rfl (eS rfl eZ)) (eS rfl eZ) (bS rfl bZ) rfl h20 ?_
          refine oStoreD (t := v19) (t' := v14) (es := [(.int .i64 v14.Tx), (.int .i64 v14.Lo), (.int .i64 v14.Hi), (.int .i64 v14.Mode)]) eZ (eS rfl eZ) rfl rfl (bS rfl bZ) (idx_at h20) rfl rfl ?_
          refine xNil ?_
          refine TQ.qn ?_
          refine AW.regs ?_
          refine oMov (eS rfl (eS rfl (eS rfl (eS rfl (eS rfl (eS rfl (eS rfl (eS rfl eZ)))))))) ?_
          refine oAdd eZ eC ?_
          refine oMov eZ ?_
          refine xNil ?_
          refine BQ.qn ?_
          refine TQ.qn ?_
          refine AW.regs ?_
          refine oMov (eS rfl (eS rfl (eS rfl (eS rfl (eS rfl (eS rfl (eS rfl (eS rfl (eS rfl (eS rfl (eS rfl (eS rfl eZ)))))))))))) ?_
          refine oAdd eZ eC ?_
          refine oMov eZ ?_
          refine xNil ?_
          exact TQ.qn ⟨(s11.1.set (Int.toNat s11.2.1) v14, (IntKind.wrap .i64 (s11.2.1 + 1)), (IntKind.wrap .i64 (s11.2.2 + 1))), H, (wk_mkG [448] (SL.cons (eS rfl (eS rfl (eS rfl (eS rfl (eS rfl (eS rfl (eS rfl (eS rfl (eS rfl (eS rfl (eS rfl (eS rfl eZ)))))))))))) rfl (VWk.one (CWk.len (by first | (simp; done) | (simp; omega) | omega))) (SL.cons (eS rfl (eS rfl (eS rfl (eS rfl (eS rfl (eS rfl (eS rfl (eS rfl (eS rfl (eS rfl (eS rfl (eS rfl (eS rfl eZ))))))))))))) rfl VWk.rfl (SL.cons (eS rfl (eS rfl (eS rfl eZ))) rfl VWk.rfl (SL.cons eZ rfl VWk.rfl SL.nil)))) (BL.keep rfl (BL.drop rfl (BL.keep rfl BL.nil))) (BK.cons rfl bZ rfl rfl BK.nil) GK.nil)⟩
      · refine AW.condF eZ (decide_eq_false h13) ?_
        refine AW.exit ?_
        refine TQ.qe ?_
        refine TQ.qe ?_
        refine BQ.qe ?_
        exact TQ.qn ⟨(s11.1, s11.2.1), H, ((wk_mkG [] (SL.cons (eS rfl (eS rfl (eS rfl (eS rfl eZ)))) rfl VWk.rfl (SL.cons (eS rfl (eS rfl (eS rfl (eS rfl (eS rfl (eS rfl eZ)))))) rfl VWk.rfl SL.nil)) (BL.keep rfl BL.nil) (BK.cons rfl bZ rfl rfl BK.nil) GK.nil).trans (wk_renG 320192 320128 rfl rfl (nS rfl nZ) GR.nil))⟩

theorem c_impl_LocksOf {a1 : (List TLock)} {a2 : Int} {r : (List TLock)} (H : m_impl_LocksOf a1 a2 = some r) : Fn Try.prog k_impl_LocksOf (lent [(.sl 4 (List.map d_TLock a1)), (.int .i64 a2)]) true [(.sl 4 (List.map d_TLock r))] := by
  refine i_impl_LocksOf_fn (Nat.le_of_ble_eq_true rfl) ?_
  rw [init_mk]
  refine AW.weaken (t := mk [(0, (.one (.d (.sl 4 (List.map d_TLock a1))))), (1, (.one (.d (.int .i64 a2))))] [] (lk [])) (wk_mk [] (SL.cons (v := (.one (.d (.sl 4 (List.map d_TLock a1))))) eZ rfl VWk.rfl (SL.cons (v := (.one (.d (.int .i64 a2)))) (eS rfl eZ) rfl VWk.rfl SL.nil)) BL.nil BK.nil) ?_
  unfold m_impl_LocksOf at H
  unfold i_impl_LocksOf
  refine AW.seq ?_
  refine AW.regs ?_
  refine oBox (n := 192) (m := 1) (cs := [(.d (.int .i64 a2))]) rfl (eS rfl eZ) rfl rfl nZ ?_
  refine oMov eC ?_
  refine xNil ?_
  refine TQ.qn ?_
  refine AW.seq ?_
  refine AW.seq ?_
  refine AW.regs ?_
  refine oMov (eS rfl (eS rfl eZ)) ?_
  obtain ⟨v3, h4, H⟩ := obind H
  refine oCall (u := (.one (.d (.bool v3)))) eC Cl.fn (c_impl_LocksOk h4) (Evs.cons eZ Evs.nil) (VDs.cons VD.plain VDs.nil) rfl ?_
  refine oInv eZ ?_
  refine xNil ?_
  refine TQ.qn ?_
  rcases oite H with ⟨h5, H⟩ | ⟨h5, H⟩
  · refine AW.condF eZ (congrArg Bool.not h5) ?_
    refine AW.skip ?_
    refine TQ.qn ?_
    refine AW.seq ?_
    refine AW.regm ?_
    refine rmOne ?_
    refine oMov (eS rfl (eS rfl (eS rfl (eS rfl (eS rfl eZ))))) ?_
    refine xNil ?_
    refine rmOne ?_
    obtain ⟨v6, h7, H⟩ := obind H
    refine oCallN (u := (.one (.sl 576 0 ((List.map d_TLock v6).length)))) (bs := [(576, (.data 4 (List.map d_TLock v6) true none))]) eC Cl.fn (c_slices_Clone_Lock h7) (Evs.cons eZ Evs.nil) (VDs.cons VD.plain VDs.nil) rfl rfl (fC (nS rfl nZ) rfl (fC (nS rfl nZ) rfl fN)) ?_
    refine xNil ?_
    refine rmOne ?_
    refine oMkfn (ps := [(.nm 192 0 0)]) (Evs.cons (eS rfl (eS rfl (eS rfl (eS rfl (eS rfl (eS rfl eZ)))))) Evs.nil) ?_
    refine xNil ?_
    obtain ⟨v8, h9, H⟩ := obind H
    refine rmCall (ON := [576]) (ls := [192]) (G := [576]) (E := [576]) (MB := []) (u := (.one (.sl 704 0 ((List.map d_TLock v8).length)))) (bs := [(704, (.data 4 (List.map d_TLock v8) true none))]) eC Cl.fn (c_slices_DeleteFunc_Lock__LocksOf_1 h9) (Evs.cons (eS rfl eZ) (Evs.cons eZ Evs.nil)) (AO.give (VO.sl bZ (by first | (simp; done) | (simp; omega) | omega) (allFlat fun _ => rfl)) (AO.lent (VD.fn (PDs.cons (VD.ptrN (bS rfl bZ) (CDs.plain CDs.nil)) PDs.nil)) rfl AO.nil)) rfl rfl rfl SZ.nil (erL.cons (v' := (.one (.fn k_impl_LocksOf_1 [(.nm 192 0 0)]))) rfl (erL.cons (v' := (.one .any)) rfl (erL.cons (v' := (.one (.d (.sl 4 (List.map d_TLock a1))))) rfl (erL.cons (v' := (.one (.d (.bool (!v3))))) rfl (erL.cons (v' := (.one (.d (.bool v3)))) rfl (erL.cons (v' := (.one (.d (.sl 4 (List.map d_TLock a1))))) rfl (erL.cons (v' := (.one .zs)) rfl (erL.cons (v' := (.one (.ptr (.nm 192 0 0)))) rfl (erL.cons (v' := (.one (.d (.sl 4 (List.map d_TLock a1))))) rfl (erL.cons (v' := (.one (.d (.int .i64 a2)))) rfl erL.nil)))))))))) (erH.drop rfl (erH.cons (v' := (.vars 1 [(.d (.int .i64 a2))])) rfl rfl erH.nil)) erL.nil rfl rfl (fC (nS rfl nZ) rfl (fC (nS rfl nZ) rfl fN)) ?_
    refine rmRest ?_
    refine oMov eZ ?_
    refine xNil ?_
    refine TQ.qn ?_
    refine AW.ret ?_
    obtain rfl := Option.some.inj H
    exact endsR (RL.cons (RV.tmp eZ) (VO.sl bZ (by first | (simp; done) | (simp; omega) | omega) (allFlat fun _ => rfl)) RL.nil) (by decide)
  · refine AW.condT eZ (congrArg Bool.not (nt h5)) ?_
    refine AW.seq ?_
    refine AW.regs ?_
    refine oMov eC ?_
    refine xNil ?_
    refine TQ.qn ?_
    refine AW.ret ?_
    refine TQ.qr ?_
    obtain rfl := Option.some.inj H
    exact endsR (RL.cons (RV.tmp eZ) VO.zs RL.nil) List.nodup_nil

theorem c_laws_FnExactLocksOf {a1 : (List TLock)} {a2 : Int} {r : Bool} (H : m_laws_FnExactLocksOf a1 a2 = some r) : Fn Try.prog k_laws_FnExactLocksOf (lent [(.sl 4 (List.map d_TLock a1)), (.int .i64 a2)]) true [(.bool r)] := by
  refine i_laws_FnExactLocksOf_fn (Nat.le_of_ble_eq_true rfl) ?_
  rw [init_mk]
  refine AW.weaken (t := mk [(0, (.one (.d (.sl 4 (List.map d_TLock a1))))), (1, (.one (.d (.int .i64 a2))))] [] (lk [])) (wk_mk [] (SL.cons (v := (.one (.d (.sl 4 (List.map d_TLock a1))))) eZ rfl VWk.rfl (SL.cons (v := (.one (.d (.int .i64 a2)))) (eS rfl eZ) rfl VWk.rfl SL.nil)) BL.nil BK.nil) ?_
  unfold m_laws_FnExactLocksOf at H
  unfold i_laws_FnExactLocksOf
  refine AW.seq ?_
  refine AW.regs ?_
  refine oMov eC ?_
  refine xNil ?_
  refine TQ.qn ?_
  refine AW.seq ?_
  refine AW.regs ?_
  refine oMov eC ?_
  refine xNil ?_
  refine TQ.qn ?_
  refine AW.seq ?_
  refine AW.regs ?_
  refine oMov (eS rfl (eS rfl eZ)) ?_
  refine oMov (eS rfl eZ) ?_
  obtain ⟨v3, h4, H⟩ := obind H
  refine oCall (u := (.one (.d (.int .i64 v3)))) eC Cl.fn (c_laws_szLockS h4) (Evs.cons (eS rfl eZ) (Evs.cons eZ Evs.nil)) (VDs.cons VD.plain (VDs.cons VD.plain VDs.nil)) rfl ?_
  refine oMov eZ ?_
  refine xNil ?_
  refine TQ.qn ?_
  refine AW.seq ?_
  refine AW.seq ?_
  refine AW.regs ?_
  refine oMov eZ ?_
  refine oLss eZ eC ?_
  refine xNil ?_
  refine TQ.qn ?_
  rcases oite H with ⟨h5, H⟩ | ⟨h5, H⟩
  · refine AW.condT eZ (decide_eq_true h5) ?_
    refine AW.seq ?_
    refine AW.regs ?_
    refine oMov eC ?_
    refine xNil ?_
    refine TQ.qn ?_
    refine AW.ret ?_
    refine TQ.qr ?_
    obtain rfl := Option.some.inj H
    exact endsR (RL.cons (RV.tmp eZ) (VO.flat rfl) RL.nil) List.nodup_nil
  · refine AW.condF eZ (decide_eq_false h5) ?_
    refine AW.skip ?_
    refine TQ.qn ?_
    refine AW.seq ?_
    refine AW.regs ?_
    refine oMov (eS rfl (eS rfl (eS rfl (eS rfl (eS rfl (eS rfl (eS rfl (eS rfl eZ)))))))) ?_
    obtain ⟨v6, h7, H⟩ := obind H
    refine oCall (u := (.one (.d (.sl 4 (List.map d_TLock v6))))) eC Cl.fn (c_laws_toLockS h7) (Evs.cons eZ Evs.nil) (VDs.cons VD.plain VDs.nil) rfl ?_
    refine oMov (eS rfl (eS rfl (eS rfl (eS rfl (eS rfl (eS rfl (eS rfl (eS rfl (eS rfl (eS rfl (eS rfl eZ))))))))))) ?_
    obtain ⟨v8, h9, H⟩ := obind H
    refine oCall (u := (.one (.d (.sl 4 (List.map d_TLock v8))))) eC Cl.fn (c_spec_LocksOf h9) (Evs.cons (eS rfl eZ) (Evs.cons eZ Evs.nil)) (VDs.cons VD.plain (VDs.cons VD.plain VDs.nil)) rfl ?_
    refine oMov eZ ?_
    refine xNil ?_
    refine TQ.qn ?_
    refine AW.seq ?_
    refine AW.regs ?_
    refine oMov (eS rfl (eS rfl (eS rfl (eS rfl (eS rfl (eS rfl (eS rfl (eS rfl (eS rfl (eS rfl (eS rfl (eS rfl (eS rfl eZ))))))))))))) ?_
    obtain ⟨v10, h11, H⟩ := obind H
    refine oCallN (u := (.one (.sl 1472 0 ((List.map d_TLock v10).length)))) (bs := [(1472, (.data 4 (List.map d_TLock v10) true none))]) eC Cl.fn (c_laws_toLockS h11) (Evs.cons eZ Evs.nil) (VDs.cons VD.plain VDs.nil) rfl rfl (fC nZ rfl (fC nZ rfl fN)) ?_
    refine oMov eZ ?_
    refine xNil ?_
    refine TQ.qn ?_
    refine AW.weaken (wk_mkG [] (SL.cons (k := 7) eZ rfl VWk.rfl (SL.cons (k := 6) (eS rfl (eS rfl (eS rfl eZ))) rfl VWk.rfl (SL.cons (k := 0) (eS rfl (eS rfl (eS rfl (eS rfl (eS rfl (eS rfl (eS rfl (eS rfl (eS rfl (eS rfl (eS rfl (eS rfl (eS rfl (eS rfl (eS rfl (eS rfl eZ)))))))))))))))) rfl VWk.rfl (SL.cons (k := 1) (eS rfl (eS rfl (eS rfl (eS rfl (eS rfl (eS rfl (eS rfl (eS rfl (eS rfl (eS rfl (eS rfl (eS rfl (eS rfl (eS rfl (eS rfl (eS rfl (eS rfl eZ))))))))))))))))) rfl VWk.rfl SL.nil)))) (BL.keep rfl BL.nil) (BK.cons (n := 1472) rfl bZ rfl rfl BK.nil) GK.nil) ?_
    refine AW.seq ?_
    refine AW.regs ?_
    refine oMov eZ ?_
    refine oMov (eS rfl (eS rfl (eS rfl (eS rfl eZ)))) ?_
    obtain ⟨v12, h13, H⟩ := obind H
    refine oCallN (u := (.one (.sl 1664 0 ((List.map d_TLock v12).length)))) (bs := [(1664, (.data 4 (List.map d_TLock v12) true none))]) eC Cl.fn (c_impl_LocksOf h13) (Evs.cons (eS rfl eZ) (Evs.cons eZ Evs.nil)) (VDs.cons (VD.sl bZ (by first | (simp; done) | (simp; omega) | omega)) (VDs.cons VD.plain VDs.nil)) rfl rfl (fC (nS rfl nZ) rfl (fC (nS rfl nZ) rfl fN)) ?_
    refine oMov eZ ?_
    refine xNil ?_
    refine TQ.qn ?_
    refine AW.seq ?_
    refine AW.seq ?_
    refine AW.regs ?_
    refine oMov eZ ?_
    refine oMov (eS rfl (eS rfl (eS rfl (eS rfl (eS rfl (eS rfl eZ)))))) ?_
    obtain ⟨v14, h15, H⟩ := obind H
    refine oCall (u := (.one (.d (.bool v14)))) eC Cl.fn (c_laws_eqLockS h15) (Evs.cons (eS rfl eZ) (Evs.cons eZ Evs.nil)) (VDs.cons (VD.sl bZ (by first | (simp; done) | (simp; omega) | omega)) (VDs.cons VD.plain VDs.nil)) rfl ?_
    refine oInv eZ ?_
    refine xNil ?_
    refine TQ.qn ?_
    rcases oite H with ⟨h16, H⟩ | ⟨h16, H⟩
    · refine AW.condF eZ (congrArg Bool.not h16) ?_
      refine AW.skip ?_
      refine TQ.qn ?_
      refine AW.seq ?_
      refine AW.seq ?_
      refine AW.regs ?_
      refine oMov (eS rfl (eS rfl (eS rfl (eS rfl (eS rfl (eS rfl (eS rfl (eS rfl eZ)))))))) ?_
      refine oMov (eS rfl (eS rfl (eS rfl (eS rfl (eS rfl (eS rfl (eS rfl (eS rfl (eS rfl (eS rfl (eS rfl eZ))))))))))) ?_
      obtain ⟨v17, h18, H⟩ := obind H
      refine oCall (u := (.one (.d (.sl 4 (List.map d_TLock v17))))) eC Cl.fn (c_laws_toLockS h18) (Evs.cons eZ Evs.nil) (VDs.cons VD.plain VDs.nil) rfl ?_
      obtain ⟨v19, h20, H⟩ := obind H
      refine oCall (u := (.one (.d (.bool v19)))) eC Cl.fn (c_laws_eqLockS h20) (Evs.cons (eS rfl (eS rfl eZ)) (Evs.cons eZ Evs.nil)) (VDs.cons (VD.sl (bS rfl bZ) (by first | (simp; done) | (simp; omega) | omega)) (VDs.cons VD.plain VDs.nil)) rfl ?_
      refine oInv eZ ?_
      refine xNil ?_
      refine TQ.qn ?_
      refine AW.weaken (wk_mkG [] (SL.cons (k := 35) eZ rfl VWk.rfl (SL.cons (k := 8) (eS rfl (eS rfl (eS rfl (eS rfl (eS rfl (eS rfl (eS rfl (eS rfl (eS rfl eZ))))))))) rfl VWk.rfl (SL.cons (k := 7) (eS rfl (eS rfl (eS rfl (eS rfl (eS rfl (eS rfl (eS rfl (eS rfl (eS rfl (eS rfl (eS rfl (eS rfl (eS rfl eZ))))))))))))) rfl VWk.rfl (SL.cons (k := 6) (eS rfl (eS rfl (eS rfl (eS rfl (eS rfl (eS rfl (eS rfl (eS rfl (eS rfl (eS rfl (eS rfl (eS rfl (eS rfl (eS rfl eZ)))))))))))))) rfl VWk.rfl (SL.cons (k := 0) (eS rfl (eS rfl (eS rfl (eS rfl (eS rfl (eS rfl (eS rfl (eS rfl (eS rfl (eS rfl (eS rfl (eS rfl (eS rfl (eS rfl (eS rfl eZ))))))))))))))) rfl VWk.rfl (SL.cons (k := 1) (eS rfl (eS rfl (eS rfl (eS rfl (eS rfl (eS rfl (eS rfl (eS rfl (eS rfl (eS rfl (eS rfl (eS rfl (eS rfl (eS rfl (eS rfl (eS rfl eZ)))))))))))))))) rfl VWk.rfl SL.nil)))))) (BL.keep rfl (BL.keep rfl BL.nil)) (BK.cons (n := 1664) rfl bZ rfl rfl (BK.cons (n := 1472) rfl (bS rfl bZ) rfl rfl BK.nil)) GK.nil) ?_
      rcases oite H with ⟨h21, H⟩ | ⟨h21, H⟩
      · refine AW.condF eZ (congrArg Bool.not h21) ?_
        refine AW.skip ?_
        refine TQ.qn ?_
        refine AW.seq ?_
        refine AW.regs ?_
        refine oMov eC ?_
        refine xNil ?_
        refine TQ.qn ?_
        refine AW.seq ?_
        refine AW.regm ?_
        refine rmOne ?_
        refine oMov (eS rfl (eS rfl (eS rfl eZ))) ?_
        refine xNil ?_
        refine rmOne ?_
        refine oMov (eS rfl eZ) ?_
        refine xNil ?_
        obtain ⟨v22, h23, H⟩ := obind H
        obtain ⟨h24, H⟩ := oguard H
        refine rmCallI (ON := [1472]) (ls := []) (G := []) (E := [subKey 1472]) (MB := [(1472, (.data 4 (List.map d_TLock v22.2) true none))]) (u := (.one (.d (.int .i64 v22.1)))) eC Cl.fn (c_laws_markLockS h23) (Evs.cons (eS rfl eZ) (Evs.cons eZ Evs.nil)) (AO.mut (VO.sl (bS rfl bZ) (by first | (simp; done) | (simp; omega) | omega) (allFlat fun _ => rfl)) (AO.lent VD.plain rfl AO.nil)) rfl rfl rfl (SZ.cons (bS rfl bZ) (allFlat fun _ => rfl) SZ.nil) (erL.cons (v' := (.one (.d (.int .i64 1)))) rfl (erL.cons (v' := (.one (.sl 1472 0 ((List.map d_TLock v10).length)))) rfl (erL.cons (v' := (.one (.d (.int .i64 1)))) rfl (erL.cons (v' := (.one (.d (.bool (!v19))))) rfl (erL.cons (v' := (.one (.sl 1664 0 ((List.map d_TLock v12).length)))) rfl (erL.cons (v' := (.one (.sl 1472 0 ((List.map d_TLock v10).length)))) rfl (erL.cons (v' := (.one (.d (.sl 4 (List.map d_TLock v8))))) rfl (erL.cons (v' := (.one (.d (.sl 4 (List.map d_TLock a1))))) rfl (erL.cons (v' := (.one (.d (.int .i64 a2)))) rfl erL.nil))))))))) (erH.cons (v' := (.data 4 (List.map d_TLock v12) true none)) rfl rfl (erH.cons (v' := (.data 4 (List.map d_TLock v10) true none)) rfl rfl erH.nil)) erL.nil rfl rfl ?_
        refine rmRest ?_
        refine oMov eZ ?_
        refine xNil ?_
        refine TQ.qn ?_
        refine AW.seq ?_
        refine AW.seqJ (fun t25 : Bool => (laws_FnExactLocksOf_j25 v12 a1 a2 v8) t25 = some r) (fun t25 => mk [(0, (.one (.d (.sl 4 (List.map d_TLock a1))))), (1, (.one (.d (.int .i64 a2)))), (6, (.one (.d (.sl 4 (List.map d_TLock v8))))), (8, (.one (.sl 1664 0 ((List.map d_TLock v12).length)))), (46, (.one (.d (.bool t25))))] [(1664, (.data 4 (List.map d_TLock v12) true none))] (lk [])) ?_ ?_
        · intro t25 H
          unfold laws_FnExactLocksOf_j25 at H
          rcases oite H with ⟨h27, H⟩ | ⟨h27, H⟩
          · refine AW.condT (eS rfl (eS rfl (eS rfl (eS rfl eZ)))) h27 ?_
            refine AW.seq ?_
            refine AW.regs ?_
            refine oMov eC ?_
            refine xNil ?_
            refine TQ.qn ?_
            refine AW.ret ?_
            refine TQ.qr ?_
            obtain rfl := Option.some.inj H
            exact endsR (RL.cons (RV.tmp eZ) (VO.flat rfl) RL.nil) List.nodup_nil
          · refine AW.condF (eS rfl (eS rfl (eS rfl (eS rfl eZ)))) (nt h27) ?_
            refine AW.skip ?_
            refine TQ.qn ?_
            refine AW.seq ?_
            refine AW.regs ?_
            refine oMov eC ?_
            refine xNil ?_
            refine TQ.qn ?_
            refine AW.seq ?_
            refine AW.regm ?_
            refine rmOne ?_
            refine oMov (eS rfl (eS rfl (eS rfl (eS rfl eZ)))) ?_
            refine xNil ?_
            refine rmOne ?_
            refine oMov (eS rfl eZ) ?_
            refine xNil ?_
            obtain ⟨v28, h29, H⟩ := obind H
            obtain ⟨h30, H⟩ := oguard H
            refine rmCallI (ON := [1664]) (ls := []) (G := []) (E := [subKey 1664]) (MB := [(1664, (.data 4 (List.map d_TLock v28.2) true none))]) (u := (.one (.d (.int .i64 v28.1)))) eC Cl.fn (c_laws_markLockS h29) (Evs.cons (eS rfl eZ) (Evs.cons eZ Evs.nil)) (AO.mut (VO.sl bZ (by first | (simp; done) | (simp; omega) | omega) (allFlat fun _ => rfl)) (AO.lent VD.plain rfl AO.nil)) rfl rfl rfl (SZ.cons bZ (allFlat fun _ => rfl) SZ.nil) (erL.cons (v' := (.one (.d (.int .i64 1)))) rfl (erL.cons (v' := (.one (.sl 1664 0 ((List.map d_TLock v12).length)))) rfl (erL.cons (v' := (.one (.d (.int .i64 1)))) rfl (erL.cons (v' := (.one (.d (.sl 4 (List.map d_TLock a1))))) rfl (erL.cons (v' := (.one (.d (.int .i64 a2)))) rfl (erL.cons (v' := (.one (.d (.sl 4 (List.map d_TLock v8))))) rfl (erL.cons (v' := (.one (.sl 1664 0 ((List.map d_TLock v12).length)))) rfl (erL.cons (v' := (.one (.d (.bool t25)))) rfl erL.nil)))))))) (erH.cons (v' := (.data 4 (List.map d_TLock v12) true none)) rfl rfl erH.nil) erL.nil rfl rfl ?_
            refine rmRest ?_
            refine oMov eZ ?_
            refine xNil ?_
            refine TQ.qn ?_
            refine AW.seq ?_
            refine AW.regs ?_
            refine oMov eC ?_
            refine xNil ?_
            refine TQ.qn ?_
            refine AW.seq ?_
            refine AW.regs ?_
            refine oMov (eS rfl (eS rfl (eS rfl (eS rfl (eS rfl (eS rfl (eS rfl (eS rfl (eS rfl eZ))))))))) ?_
            refine oMov (eS rfl eZ) ?_
            obtain ⟨v31, h32, H⟩ := obind H
            refine oCall (u := (.one (.d (.int .i64 v31)))) eC Cl.fn (c_laws_heldLockS h32) (Evs.cons (eS rfl eZ) (Evs.cons eZ Evs.nil)) (VDs.cons (VD.sl bZ (by first | (simp; done) | (simp; omega) | omega)) (VDs.cons VD.plain VDs.nil)) rfl ?_
            refine oMov eZ ?_
            refine xNil ?_
            refine TQ.qn ?_
            refine AW.seq ?_
            refine AW.seq ?_
            refine AW.regs ?_
            refine oMov eZ ?_
            refine oLss eZ eC ?_
            refine xNil ?_
            refine TQ.qn ?_
            refine AW.weaken (wk_mkG [] (SL.cons (k := 54) eZ rfl VWk.rfl (SL.cons (k := 11) (eS rfl (eS rfl eZ)) rfl VWk.rfl (SL.cons (k := 10) (eS rfl (eS rfl (eS rfl (eS rfl (eS rfl (eS rfl (eS rfl eZ))))))) rfl VWk.rfl (SL.cons (k := 0) (eS rfl (eS rfl (eS rfl (eS rfl (eS rfl (eS rfl (eS rfl (eS rfl (eS rfl (eS rfl (eS rfl (eS rfl eZ)))))))))))) rfl VWk.rfl (SL.cons (k := 1) (eS rfl (eS rfl (eS rfl (eS rfl (eS rfl (eS rfl (eS rfl (eS rfl (eS rfl (eS rfl (eS rfl (eS rfl (eS rfl eZ))))))))))))) rfl VWk.rfl (SL.cons (k := 6) (eS rfl (eS rfl (eS rfl (eS rfl (eS rfl (eS rfl (eS rfl (eS rfl (eS rfl (eS rfl (eS rfl (eS rfl (eS rfl (eS rfl eZ)))))))))))))) rfl VWk.rfl (SL.cons (k := 8) (eS rfl (eS rfl (eS rfl (eS rfl (eS rfl (eS rfl (eS rfl (eS rfl (eS rfl (eS rfl (eS rfl (eS rfl (eS rfl (eS rfl (eS rfl eZ))))))))))))))) rfl VWk.rfl SL.nil))))))) (BL.keep rfl (BL.keep rfl BL.nil)) (BK.cons (n := 1664) rfl bZ rfl rfl BK.nil) GK.nil) ?_
            rcases oite H with ⟨h33, H⟩ | ⟨h33, H⟩
            · refine AW.condT eZ (decide_eq_true h33) ?_
              refine AW.seq ?_
              refine AW.regs ?_
              refine oMov eC ?_
              refine xNil ?_
              refine TQ.qn ?_
              refine AW.ret ?_
              refine TQ.qr ?_
              obtain rfl := Option.some.inj H
              exact endsR (RL.cons (RV.tmp eZ) (VO.flat rfl) RL.nil) List.nodup_nil
            · refine AW.condF eZ (decide_eq_false h33) ?_
              refine AW.skip ?_
              refine TQ.qn ?_
              refine AW.seq ?_
              refine AW.seq ?_
              refine AW.regs ?_
              refine oMov (eS rfl eZ) ?_
              refine oMov (eS rfl (eS rfl (eS rfl eZ))) ?_
              refine oNeq (eS rfl eZ) eZ ?_
              refine xNil ?_
              refine TQ.qn ?_
              rcases oite H with ⟨h34, H⟩ | ⟨h34, H⟩
              · refine AW.condT eZ (decide_eq_true h34) ?_
                refine AW.seq ?_
                refine AW.regs ?_
                refine oMov eC ?_
                refine xNil ?_
                refine TQ.qn ?_
                refine AW.ret ?_
                refine TQ.qr ?_
                obtain rfl := Option.some.inj H
                exact endsR (RL.cons (RV.tmp eZ) (VO.flat rfl) RL.nil) List.nodup_nil
              · refine AW.condF eZ (decide_eq_false h34) ?_
                refine AW.skip ?_
                refine TQ.qn ?_
                refine AW.seq ?_
                refine AW.regs ?_
                refine oMov (eS rfl (eS rfl (eS rfl (eS rfl (eS rfl (eS rfl eZ)))))) ?_
                obtain ⟨v35, h36, H⟩ := obind H
                refine oCall (u := (.one (.d (.sl 4 (List.map d_TLock v35))))) eC Cl.fn (c_laws_toLockS h36) (Evs.cons eZ Evs.nil) (VDs.cons VD.plain VDs.nil) rfl ?_
                refine oMov (eS rfl (eS rfl (eS rfl (eS rfl (eS rfl (eS rfl (eS rfl (eS rfl (eS rfl eZ))))))))) ?_
                obtain ⟨v37, h38, H⟩ := obind H
                refine oCall (u := (.one (.d (.sl 4 (List.map d_TLock v37))))) eC Cl.fn (c_impl_LocksOf h38) (Evs.cons (eS rfl eZ) (Evs.cons eZ Evs.nil)) (VDs.cons VD.plain (VDs.cons VD.plain VDs.nil)) rfl ?_
                refine oMov eZ ?_
                refine xNil ?_
                refine TQ.qn ?_
                refine AW.seq ?_
                refine AW.seq ?_
                refine AW.regs ?_
                refine oMov eZ ?_
                refine oMov (eS rfl (eS rfl (eS rfl (eS rfl (eS rfl (eS rfl (eS rfl (eS rfl (eS rfl (eS rfl (eS rfl (eS rfl (eS rfl (eS rfl eZ)))))))))))))) ?_
                obtain ⟨v39, h40, H⟩ := obind H
                refine oCall (u := (.one (.d (.bool v39)))) eC Cl.fn (c_laws_eqLockS h40) (Evs.cons (eS rfl eZ) (Evs.cons eZ Evs.nil)) (VDs.cons VD.plain (VDs.cons VD.plain VDs.nil)) rfl ?_
                refine oInv eZ ?_
                refine xNil ?_
                refine TQ.qn ?_
                refine AW.weaken (wk_mkG [] (SL.cons (k := 65) eZ rfl VWk.rfl (SL.cons (k := 10) (eS rfl (eS rfl (eS rfl (eS rfl (eS rfl (eS rfl (eS rfl (eS rfl (eS rfl (eS rfl (eS rfl (eS rfl (eS rfl (eS rfl eZ)))))))))))))) rfl VWk.rfl (SL.cons (k := 8) (eS rfl (eS rfl (eS rfl (eS rfl (eS rfl (eS rfl (eS rfl (eS rfl (eS rfl (eS rfl (eS rfl (eS rfl (eS rfl (eS rfl (eS rfl (eS rfl (eS rfl (eS rfl eZ)))))))))))))))))) rfl VWk.rfl SL.nil))) (BL.keep rfl BL.nil) (BK.cons (n := 1664) rfl bZ rfl rfl BK.nil) GK.nil) ?_
                rcases oite H with ⟨h41, H⟩ | ⟨h41, H⟩
                · refine AW.condF eZ (congrArg Bool.not h41) ?_
                  refine AW.skip ?_
                  refine TQ.qn ?_
                  refine AW.seq ?_
                  refine AW.regs ?_
                  refine oMov eC ?_
                  refine xNil ?_
                  refine TQ.qn ?_
                  refine AW.seq ?_
                  refine AW.regs ?_
                  refine oMov (eS rfl (eS rfl (eS rfl eZ))) ?_
                  refine oMov (eS rfl eZ) ?_
                  obtain ⟨v42, h43, H⟩ := obind H
                  refine oCall (u := (.one (.d (.int .i64 v42)))) eC Cl.fn (c_laws_heldLockS h43) (Evs.cons (eS rfl eZ) (Evs.cons eZ Evs.nil)) (VDs.cons (VD.sl bZ (by first | (simp; done) | (simp; omega) | omega)) (VDs.cons VD.plain VDs.nil)) rfl ?_
                  refine oMov eZ ?_
                  refine xNil ?_
                  refine TQ.qn ?_
                  refine AW.seq ?_
                  refine AW.seq ?_
                  refine AW.regs ?_
                  refine oMov eZ ?_
                  refine oLss eZ eC ?_
                  refine xNil ?_
                  refine TQ.qn ?_
                  rcases oite H with ⟨h44, H⟩ | ⟨h44, H⟩
                  · refine AW.condT eZ (decide_eq_true h44) ?_
                    refine AW.seq ?_
                    refine AW.regs ?_
                    refine oMov eC ?_
                    refine xNil ?_
                    refine TQ.qn ?_
                    refine AW.ret ?_
                    refine TQ.qr ?_
                    obtain rfl := Option.some.inj H
                    exact endsR (RL.cons (RV.tmp eZ) (VO.flat rfl) RL.nil) List.nodup_nil
                  · refine AW.condF eZ (decide_eq_false h44) ?_
                    refine AW.skip ?_
                    refine TQ.qn ?_
                    refine AW.seq ?_
                    refine AW.seq ?_
                    refine AW.regs ?_
                    refine oMov (eS rfl (eS rfl eZ)) ?_
                    refine oMov (eS rfl (eS rfl (eS rfl (eS rfl (eS rfl (eS rfl (eS rfl (eS rfl (eS rfl eZ))))))))) ?_
                    refine oNeq (eS rfl eZ) eZ ?_
                    refine xNil ?_
                    refine TQ.qn ?_
                    rcases oite H with ⟨h45, H⟩ | ⟨h45, H⟩
                    · refine AW.condT eZ (decide_eq_true h45) ?_
                      refine AW.seq ?_
                      refine AW.regs ?_
                      refine oMov eC ?_
                      refine xNil ?_
                      refine TQ.qn ?_
                      refine AW.ret ?_
                      refine TQ.qr ?_
                      obtain rfl := Option.some.inj H
                      exact endsR (RL.cons (RV.tmp eZ) (VO.flat rfl) RL.nil) List.nodup_nil
                    · refine AW.condF eZ (decide_eq_false h45) ?_
                      refine AW.skip ?_
                      refine TQ.qn ?_
                      refine AW.seq ?_
                      refine AW.regs ?_
                      refine oMov eC ?_
                      refine xNil ?_
                      refine TQ.qn ?_
                      refine AW.ret ?_
                      obtain rfl := Option.some.inj H
                      exact endsR (RL.cons (RV.tmp eZ) (VO.flat rfl) RL.nil) List.nodup_nil
                · refine AW.condT eZ (congrArg Bool.not (nt h41)) ?_
                  refine AW.seq ?_
                  refine AW.regs ?_
                  refine oMov eC ?_
                  refine xNil ?_
                  refine TQ.qn ?_
                  refine AW.ret ?_
                  refine TQ.qr ?_
                  obtain rfl := Option.some.inj H
                  exact endsR (RL.cons (RV.tmp eZ) (VO.flat rfl) RL.nil) List.nodup_nil
        · refine AW.regs ?_
          refine oMov eZ ?_
          refine oLss eZ eC ?_
          refine oMov eZ ?_
          rcases oite H with ⟨h46, H⟩ | ⟨h46, H⟩
          · refine gSkip eZ (decide_eq_true h46) rfl ?_
            refine gSkip (eS rfl eZ) (decide_eq_true h46) rfl ?_
            refine gSkip (eS rfl (eS rfl eZ)) (decide_eq_true h46) rfl ?_
            refine gSkip (eS rfl (eS rfl (eS rfl eZ))) (decide_eq_true h46) rfl ?_
            refine oPickT (eS rfl (eS rfl (eS rfl (eS rfl eZ)))) (decide_eq_true h46) eC ?_
            refine xNil ?_
            exact TQ.qn ⟨true, H, (wk_mkG [1472] (SL.cons (eS rfl (eS rfl (eS rfl (eS rfl (eS rfl (eS rfl (eS rfl (eS rfl (eS rfl (eS rfl (eS rfl (eS rfl (eS rfl (eS rfl (eS rfl (eS rfl (eS rfl eZ))))))))))))))))) rfl VWk.rfl (SL.cons (eS rfl (eS rfl (eS rfl (eS rfl (eS rfl (eS rfl (eS rfl (eS rfl (eS rfl (eS rfl (eS rfl (eS rfl (eS rfl (eS rfl (eS rfl (eS rfl (eS rfl (eS rfl eZ)))))))))))))))))) rfl VWk.rfl (SL.cons (eS rfl (eS rfl (eS rfl (eS rfl (eS rfl (eS rfl (eS rfl (eS rfl (eS rfl (eS rfl (eS rfl (eS rfl (eS rfl (eS rfl (eS rfl (eS rfl eZ)))))))))))))))) rfl VWk.rfl (SL.cons (eS rfl (eS rfl (eS rfl (eS rfl (eS rfl (eS rfl (eS rfl (eS rfl (eS rfl (eS rfl (eS rfl (eS rfl (eS rfl (eS rfl eZ)))))))))))))) rfl VWk.rfl (SL.cons eZ rfl VWk.rfl SL.nil))))) (BL.drop rfl (BL.keep rfl (BL.drop rfl BL.nil))) (BK.cons rfl (bS rfl bZ) rfl rfl BK.nil) GK.nil)⟩
          · refine gDo eZ (decide_eq_false h46) ?_
            refine oMov (eS rfl (eS rfl (eS rfl (eS rfl (eS rfl (eS rfl (eS rfl (eS rfl (eS rfl eZ))))))))) ?_
            refine gDo (eS rfl eZ) (decide_eq_false h46) ?_
            refine oMov (eS rfl (eS rfl (eS rfl (eS rfl (eS rfl (eS rfl (eS rfl (eS rfl (eS rfl (eS rfl (eS rfl (eS rfl eZ)))))))))))) ?_
            refine gDo (eS rfl (eS rfl eZ)) (decide_eq_false h46) ?_
            obtain ⟨v47, h48, H⟩ := obind H
            refine oCall (u := (.one (.d (.bool v47)))) eC Cl.fn (c_laws_eqLockS h48) (Evs.cons (eS rfl eZ) (Evs.cons eZ Evs.nil)) (VDs.cons (VD.sl (bS rfl bZ) (by first | (simp; done) | (simp; omega) | omega)) (VDs.cons VD.plain VDs.nil)) rfl ?_
            refine gDo (eS rfl (eS rfl (eS rfl eZ))) (decide_eq_false h46) ?_
            refine oInv eZ ?_
            refine oPickF (eS rfl (eS rfl (eS rfl (eS rfl eZ)))) (decide_eq_false h46) eZ ?_
            refine xNil ?_
            exact TQ.qn ⟨(!v47), H, (wk_mkG [1472] (SL.cons (eS rfl (eS rfl (eS rfl (eS rfl (eS rfl (eS rfl (eS rfl (eS rfl (eS rfl (eS rfl (eS rfl (eS rfl (eS rfl (eS rfl (eS rfl (eS rfl (eS rfl eZ))))))))))))))))) rfl VWk.rfl (SL.cons (eS rfl (eS rfl (eS rfl (eS rfl (eS rfl (eS rfl (eS rfl (eS rfl (eS rfl (eS rfl (eS rfl (eS rfl (eS rfl (eS rfl (eS rfl (eS rfl (eS rfl (eS rfl eZ)))))))))))))))))) rfl VWk.rfl (SL.cons (eS rfl (eS rfl (eS rfl (eS rfl (eS rfl (eS rfl (eS rfl (eS rfl (eS rfl (eS rfl (eS rfl (eS rfl (eS rfl (eS rfl (eS rfl (eS rfl eZ)))))))))))))))) rfl VWk.rfl (SL.cons (eS rfl (eS rfl (eS rfl (eS rfl (eS rfl (eS rfl (eS rfl (eS rfl (eS rfl (eS rfl (eS rfl (eS rfl (eS rfl (eS rfl eZ)))))))))))))) rfl VWk.rfl (SL.cons eZ rfl VWk.rfl SL.nil))))) (BL.drop rfl (BL.keep rfl (BL.drop rfl BL.nil))) (BK.cons rfl (bS rfl bZ) rfl rfl BK.nil) GK.nil)⟩
      · refine AW.condT eZ (congrArg Bool.not (nt h21)) ?_
        refine AW.seq ?_
        refine AW.regs ?_
        refine oMov eC ?_
        refine xNil ?_
        refine TQ.qn ?_
        refine AW.ret ?_
        refine TQ.qr ?_
        obtain rfl := Option.some.inj H
        exact endsR (RL.cons (RV.tmp eZ) (VO.flat rfl) RL.nil) List.nodup_nil
    · refine AW.condT eZ (congrArg Bool.not (nt h16)) ?_
      refine AW.seq ?_
      refine AW.regs ?_
      refine oMov eC ?_
      refine xNil ?_
      refine TQ.qn ?_
      refine AW.ret ?_
      refine TQ.qr ?_
      obtain rfl := Option.some.inj H
      exact endsR (RL.cons (RV.tmp eZ) (VO.flat rfl) RL.nil) List.nodup_nil

end Go.AW
