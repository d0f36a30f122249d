/- That functions of the program compute what the plain functions say: printed by a program of the prover's own (tool/dec.py). Conditions: each theorem's own. -/
import Derived.Test.YtkjjdnfbaejdkaaMStoreApply
import Derived.Test.YtkjjdnfbaejdkaaGStoreApply
import Derived.Test.YtkjjdnfbaejdkaaDStoreApplya
set_option linter.unusedVariables false
set_option linter.unusedSimpArgs false
set_option maxRecDepth 100000
namespace Go.AW
open Go.Proofs

theorem c_laws_FnExactStoreApply {a1 : (List TCell)} {a2 : (List TCell)} {r : Bool} (H : m_laws_FnExactStoreApply a1 a2 = some r) : Fn Try.prog k_laws_FnExactStoreApply (lent [(.sl 2 (List.map d_TCell a1)), (.sl 2 (List.map d_TCell a2))]) true [(.bool r)] := by
  refine i_laws_FnExactStoreApply_fn (Nat.le_of_ble_eq_true rfl) ?_
  rw [init_mk]
  refine AW.weaken (t := mk [(0, (.one (.d (.sl 2 (List.map d_TCell a1))))), (1, (.one (.d (.sl 2 (List.map d_TCell a2)))))] [] (lk [])) (wk_mk [] (SL.cons (v := (.one (.d (.sl 2 (List.map d_TCell a1))))) eZ rfl VWk.rfl (SL.cons (v := (.one (.d (.sl 2 (List.map d_TCell a2))))) (eS rfl eZ) rfl VWk.rfl SL.nil)) BL.nil BK.nil) ?_
  unfold m_laws_FnExactStoreApply at H
  unfold i_laws_FnExactStoreApply
  refine AW.seq ?_
  refine AW.regs ?_
  refine oMov eC ?_
  refine xNil ?_
  refine TQ.qn ?_
  refine AW.seq ?_
  refine AW.regs ?_
  refine oMov eC ?_
  refine xNil ?_
  refine TQ.qn ?_
  refine AW.seq ?_
  refine AW.regs ?_
  refine oMov (eS rfl (eS rfl eZ)) ?_
  refine oMov (eS rfl eZ) ?_
  obtain ⟨v3, h4, H⟩ := obind H
  refine oCall (u := (.one (.d (.int .i64 v3)))) eC Cl.fn (c_laws_szCellS h4) (Evs.cons (eS rfl eZ) (Evs.cons eZ Evs.nil)) (VDs.cons VD.plain (VDs.cons VD.plain VDs.nil)) rfl ?_
  refine oMov eZ ?_
  refine xNil ?_
  refine TQ.qn ?_
  refine AW.seq ?_
  refine AW.seq ?_
  refine AW.regs ?_
  refine oMov eZ ?_
  refine oLss eZ eC ?_
  refine xNil ?_
  refine TQ.qn ?_
  rcases oite H with ⟨h5, H⟩ | ⟨h5, H⟩
  · refine AW.condT eZ (decide_eq_true h5) ?_
    refine AW.seq ?_
    refine AW.regs ?_
    refine oMov eC ?_
    refine xNil ?_
    refine TQ.qn ?_
    refine AW.ret ?_
    refine TQ.qr ?_
    obtain rfl := Option.some.inj H
    exact endsR (RL.cons (RV.tmp eZ) (VO.flat rfl) RL.nil) List.nodup_nil
  · refine AW.condF eZ (decide_eq_false h5) ?_
    refine AW.skip ?_
    refine TQ.qn ?_
    refine AW.seq ?_
    refine AW.regs ?_
    refine oMov (eS rfl (eS rfl (eS rfl (eS rfl (eS rfl (eS rfl (eS rfl (eS rfl (eS rfl eZ))))))))) ?_
    refine oMov (eS rfl (eS rfl (eS rfl eZ))) ?_
    obtain ⟨v6, h7, H⟩ := obind H
    refine oCall (u := (.one (.d (.int .i64 v6)))) eC Cl.fn (c_laws_szWriteS h7) (Evs.cons (eS rfl eZ) (Evs.cons eZ Evs.nil)) (VDs.cons VD.plain (VDs.cons VD.plain VDs.nil)) rfl ?_
    refine oMov eZ ?_
    refine xNil ?_
    refine TQ.qn ?_
    refine AW.seq ?_
    refine AW.seq ?_
    refine AW.regs ?_
    refine oMov eZ ?_
    refine oLss eZ eC ?_
    refine xNil ?_
    refine TQ.qn ?_
    refine AW.weaken (wk_mkG [] (SL.cons (k := 26) eZ rfl VWk.rfl (SL.cons (k := 0) (eS rfl (eS rfl (eS rfl (eS rfl (eS rfl (eS rfl (eS rfl (eS rfl (eS rfl (eS rfl (eS rfl (eS rfl (eS rfl (eS rfl eZ)))))))))))))) rfl VWk.rfl (SL.cons (k := 1) (eS rfl (eS rfl (eS rfl (eS rfl (eS rfl (eS rfl (eS rfl (eS rfl (eS rfl (eS rfl (eS rfl (eS rfl (eS rfl (eS rfl (eS rfl eZ))))))))))))))) rfl VWk.rfl SL.nil))) BL.nil BK.nil GK.nil) ?_
    rcases oite H with ⟨h8, H⟩ | ⟨h8, H⟩
    · refine AW.condT eZ (decide_eq_true h8) ?_
      refine AW.seq ?_
      refine AW.regs ?_
      refine oMov eC ?_
      refine xNil ?_
      refine TQ.qn ?_
      refine AW.ret ?_
      refine TQ.qr ?_
      obtain rfl := Option.some.inj H
      exact endsR (RL.cons (RV.tmp eZ) (VO.flat rfl) RL.nil) List.nodup_nil
    · refine AW.condF eZ (decide_eq_false h8) ?_
      refine AW.skip ?_
      refine TQ.qn ?_
      refine AW.seq ?_
      refine AW.regs ?_
      refine oMov (eS rfl eZ) ?_
      obtain ⟨v9, h10, H⟩ := obind H
      refine oCall (u := (.one (.d (.sl 2 (List.map d_TCell v9))))) eC Cl.fn (c_laws_toCellS h10) (Evs.cons eZ Evs.nil) (VDs.cons VD.plain VDs.nil) rfl ?_
      refine oMov (eS rfl (eS rfl (eS rfl (eS rfl eZ)))) ?_
      obtain ⟨v11, h12, H⟩ := obind H
      refine oCall (u := (.one (.d (.sl 2 (List.map d_TCell v11))))) eC Cl.fn (c_laws_toWriteS h12) (Evs.cons eZ Evs.nil) (VDs.cons VD.plain VDs.nil) rfl ?_
      obtain ⟨v13, h14, H⟩ := obind H
      refine oCall (u := (.tup [(.one (.d (.sl 2 (List.map d_TCell v13.1)))), (.one (.d (.bool v13.2)))])) eC Cl.fn (c_spec_StoreApply h14) (Evs.cons (eS rfl (eS rfl eZ)) (Evs.cons eZ Evs.nil)) (VDs.cons VD.plain (VDs.cons VD.plain VDs.nil)) rfl ?_
      refine oMov eZ ?_
      refine oExt (v := (.one (.d (.sl 2 (List.map d_TCell v13.1))))) eZ rfl ?_
      refine oExt (v := (.one (.d (.bool v13.2)))) (eS rfl eZ) rfl ?_
      refine oMov (eS rfl eZ) ?_
      refine oMov (eS rfl eZ) ?_
      refine xNil ?_
      refine TQ.qn ?_
      refine AW.seq ?_
      refine AW.regs ?_
      refine oMov (eS rfl (eS rfl (eS rfl (eS rfl (eS rfl (eS rfl (eS rfl (eS rfl (eS rfl (eS rfl (eS rfl eZ))))))))))) ?_
      obtain ⟨v15, h16, H⟩ := obind H
      refine oCallN (u := (.one (.sl 2304 0 v15.length))) (bs := [(2304, (.data 2 (List.map d_TCell v15) true none))]) eC Cl.fn (c_laws_toCellS h16) (Evs.cons eZ Evs.nil) (VDs.cons VD.plain VDs.nil) (by simp [bindR, bindV, bindVs, bindC, bindCs]) rfl (fC nZ rfl (fC nZ rfl fN)) ?_
      refine oMov eZ ?_
      refine xNil ?_
      refine TQ.qn ?_
      refine AW.weaken (wk_mkG [] (SL.cons (k := 8) eZ rfl VWk.rfl (SL.cons (k := 7) (eS rfl (eS rfl (eS rfl eZ))) rfl VWk.rfl (SL.cons (k := 6) (eS rfl (eS rfl (eS rfl (eS rfl eZ)))) rfl VWk.rfl (SL.cons (k := 0) (eS rfl (eS rfl (eS rfl (eS rfl (eS rfl (eS rfl (eS rfl (eS rfl (eS rfl (eS rfl (eS rfl (eS rfl (eS rfl (eS rfl eZ)))))))))))))) rfl VWk.rfl (SL.cons (k := 1) (eS rfl (eS rfl (eS rfl (eS rfl (eS rfl (eS rfl (eS rfl (eS rfl (eS rfl (eS rfl (eS rfl (eS rfl (eS rfl (eS rfl (eS rfl eZ))))))))))))))) rfl VWk.rfl SL.nil))))) (BL.keep rfl BL.nil) (BK.cons (n := 2304) rfl bZ rfl rfl BK.nil) GK.nil) ?_
      refine AW.seq ?_
      refine AW.regs ?_
      refine oMov (eS rfl (eS rfl (eS rfl (eS rfl eZ)))) ?_
      obtain ⟨v17, h18, H⟩ := obind H
      refine oCallN (u := (.one (.sl 2432 0 v17.length))) (bs := [(2432, (.data 2 (List.map d_TCell v17) true none))]) eC Cl.fn (c_laws_toWriteS h18) (Evs.cons eZ Evs.nil) (VDs.cons VD.plain VDs.nil) (by simp [bindR, bindV, bindVs, bindC, bindCs]) rfl (fC (nS rfl nZ) rfl (fC (nS rfl nZ) rfl fN)) ?_
      refine oMov eZ ?_
      refine xNil ?_
      refine TQ.qn ?_
      refine AW.seq ?_
      refine AW.regs ?_
      refine oMov (eS rfl (eS rfl (eS rfl eZ))) ?_
      refine oMov (eS rfl eZ) ?_
      obtain ⟨v19, h20, H⟩ := obind H
      refine oCallN (u := (.tup [(.one (.sl 2688 0 v19.1.length)), (.one (.d (.bool v19.2)))])) (bs := [(2688, (.data 2 (List.map d_TCell v19.1) true none))]) eC Cl.fn (c_impl_StoreApply h20) (Evs.cons (eS rfl eZ) (Evs.cons eZ Evs.nil)) (VDs.cons (VD.sl (bS rfl bZ) (List.length_map _)) (VDs.cons (VD.sl bZ (List.length_map _)) VDs.nil)) (by simp [bindR, bindV, bindVs, bindC, bindCs]) rfl (fC (nS rfl (nS rfl nZ)) rfl (fC (nS rfl (nS rfl nZ)) rfl fN)) ?_
      refine oMov eZ ?_
      refine oExt (v := (.one (.sl 2688 0 v19.1.length))) eZ rfl ?_
      refine oExt (v := (.one (.d (.bool v19.2)))) (eS rfl eZ) rfl ?_
      refine oMov (eS rfl eZ) ?_
      refine oMov (eS rfl eZ) ?_
      refine xNil ?_
      refine TQ.qn ?_
      refine AW.weaken (wk_mkG [] (SL.cons (k := 11) eZ rfl VWk.rfl (SL.cons (k := 10) (eS rfl eZ) rfl VWk.rfl (SL.cons (k := 9) (eS rfl (eS rfl (eS rfl (eS rfl (eS rfl (eS rfl (eS rfl (eS rfl eZ)))))))) rfl VWk.rfl (SL.cons (k := 8) (eS rfl (eS rfl (eS rfl (eS rfl (eS rfl (eS rfl (eS rfl (eS rfl (eS rfl (eS rfl (eS rfl eZ))))))))))) rfl VWk.rfl (SL.cons (k := 7) (eS rfl (eS rfl (eS rfl (eS rfl (eS rfl (eS rfl (eS rfl (eS rfl (eS rfl (eS rfl (eS rfl (eS rfl eZ)))))))))))) rfl VWk.rfl (SL.cons (k := 6) (eS rfl (eS rfl (eS rfl (eS rfl (eS rfl (eS rfl (eS rfl (eS rfl (eS rfl (eS rfl (eS rfl (eS rfl (eS rfl eZ))))))))))))) rfl VWk.rfl (SL.cons (k := 0) (eS rfl (eS rfl (eS rfl (eS rfl (eS rfl (eS rfl (eS rfl (eS rfl (eS rfl (eS rfl (eS rfl (eS rfl (eS rfl (eS rfl eZ)))))))))))))) rfl VWk.rfl (SL.cons (k := 1) (eS rfl (eS rfl (eS rfl (eS rfl (eS rfl (eS rfl (eS rfl (eS rfl (eS rfl (eS rfl (eS rfl (eS rfl (eS rfl (eS rfl (eS rfl eZ))))))))))))))) rfl VWk.rfl SL.nil)))))))) (BL.keep rfl (BL.keep rfl (BL.keep rfl BL.nil))) (BK.cons (n := 2688) rfl bZ rfl rfl (BK.cons (n := 2432) rfl (bS rfl bZ) rfl rfl (BK.cons (n := 2304) rfl (bS rfl (bS rfl bZ)) rfl rfl BK.nil))) GK.nil) ?_
      refine AW.seq ?_
      refine AW.seqJ (fun t21 : Bool => (laws_FnExactStoreApply_j21 a1 v15 a2 v17 v19 v13) t21 = some r) (fun t21 => mk [(0, (.one (.d (.sl 2 (List.map d_TCell a1))))), (1, (.one (.d (.sl 2 (List.map d_TCell a2))))), (6, (.one (.d (.sl 2 (List.map d_TCell v13.1))))), (7, (.one (.d (.bool v13.2)))), (8, (.one (.sl 2304 0 v15.length))), (9, (.one (.sl 2432 0 v17.length))), (10, (.one (.sl 2688 0 v19.1.length))), (11, (.one (.d (.bool v19.2)))), (53, (.one (.d (.bool t21))))] [(2304, (.data 2 (List.map d_TCell v15) true none)), (2432, (.data 2 (List.map d_TCell v17) true none)), (2688, (.data 2 (List.map d_TCell v19.1) true none))] (lk [])) ?_ ?_
      · intro t21 H
        unfold laws_FnExactStoreApply_j21 at H
        rcases oite H with ⟨h23, H⟩ | ⟨h23, H⟩
        · refine AW.condT (eS rfl (eS rfl (eS rfl (eS rfl (eS rfl (eS rfl (eS rfl (eS rfl eZ)))))))) h23 ?_
          refine AW.seq ?_
          refine AW.regs ?_
          refine oMov eC ?_
          refine xNil ?_
          refine TQ.qn ?_
          refine AW.ret ?_
          refine TQ.qr ?_
          obtain rfl := Option.some.inj H
          exact endsR (RL.cons (RV.tmp eZ) (VO.flat rfl) RL.nil) List.nodup_nil
        · refine AW.condF (eS rfl (eS rfl (eS rfl (eS rfl (eS rfl (eS rfl (eS rfl (eS rfl eZ)))))))) (nt h23) ?_
          refine AW.skip ?_
          refine TQ.qn ?_
          refine AW.seq ?_
          refine AW.seq ?_
          refine AW.regs ?_
          refine oMov (eS rfl (eS rfl (eS rfl (eS rfl eZ)))) ?_
          refine oMov (eS rfl eZ) ?_
          obtain ⟨v24, h25, H⟩ := obind H
          refine oCall (u := (.one (.d (.sl 2 (List.map d_TCell v24))))) eC Cl.fn (c_laws_toCellS h25) (Evs.cons eZ Evs.nil) (VDs.cons VD.plain VDs.nil) rfl ?_
          obtain ⟨v26, h27, H⟩ := obind H
          refine oCall (u := (.one (.d (.bool v26)))) eC Cl.fn (c_laws_eqCellS h27) (Evs.cons (eS rfl (eS rfl eZ)) (Evs.cons eZ Evs.nil)) (VDs.cons (VD.sl bZ (List.length_map _)) (VDs.cons VD.plain VDs.nil)) rfl ?_
          refine oInv eZ ?_
          refine xNil ?_
          refine TQ.qn ?_
          rcases oite H with ⟨h28, H⟩ | ⟨h28, H⟩
          · refine AW.condF eZ (congrArg Bool.not h28) ?_
            refine AW.skip ?_
            refine TQ.qn ?_
            refine AW.seq ?_
            refine AW.seq ?_
            refine AW.regs ?_
            refine oMov (eS rfl (eS rfl (eS rfl (eS rfl (eS rfl (eS rfl (eS rfl (eS rfl (eS rfl (eS rfl eZ)))))))))) ?_
            refine oMov (eS rfl (eS rfl (eS rfl (eS rfl (eS rfl (eS rfl (eS rfl eZ))))))) ?_
            obtain ⟨v29, h30, H⟩ := obind H
            refine oCall (u := (.one (.d (.sl 2 (List.map d_TCell v29))))) eC Cl.fn (c_laws_toWriteS h30) (Evs.cons eZ Evs.nil) (VDs.cons VD.plain VDs.nil) rfl ?_
            obtain ⟨v31, h32, H⟩ := obind H
            refine oCall (u := (.one (.d (.bool v31)))) eC Cl.fn (c_laws_eqWriteS h32) (Evs.cons (eS rfl (eS rfl eZ)) (Evs.cons eZ Evs.nil)) (VDs.cons (VD.sl (bS rfl bZ) (List.length_map _)) (VDs.cons VD.plain VDs.nil)) rfl ?_
            refine oInv eZ ?_
            refine xNil ?_
            refine TQ.qn ?_
            refine AW.weaken (wk_mkG [] (SL.cons (k := 63) eZ rfl VWk.rfl (SL.cons (k := 0) (eS rfl (eS rfl (eS rfl (eS rfl (eS rfl (eS rfl (eS rfl (eS rfl (eS rfl (eS rfl eZ)))))))))) rfl VWk.rfl (SL.cons (k := 1) (eS rfl (eS rfl (eS rfl (eS rfl (eS rfl (eS rfl (eS rfl (eS rfl (eS rfl (eS rfl (eS rfl eZ))))))))))) rfl VWk.rfl (SL.cons (k := 6) (eS rfl (eS rfl (eS rfl (eS rfl (eS rfl (eS rfl (eS rfl (eS rfl (eS rfl (eS rfl (eS rfl (eS rfl eZ)))))))))))) rfl VWk.rfl (SL.cons (k := 7) (eS rfl (eS rfl (eS rfl (eS rfl (eS rfl (eS rfl (eS rfl (eS rfl (eS rfl (eS rfl (eS rfl (eS rfl (eS rfl eZ))))))))))))) rfl VWk.rfl (SL.cons (k := 8) (eS rfl (eS rfl (eS rfl (eS rfl (eS rfl (eS rfl (eS rfl (eS rfl (eS rfl (eS rfl (eS rfl (eS rfl (eS rfl (eS rfl eZ)))))))))))))) rfl VWk.rfl (SL.cons (k := 9) (eS rfl (eS rfl (eS rfl (eS rfl (eS rfl (eS rfl (eS rfl (eS rfl (eS rfl (eS rfl (eS rfl (eS rfl (eS rfl (eS rfl (eS rfl eZ))))))))))))))) rfl VWk.rfl (SL.cons (k := 10) (eS rfl (eS rfl (eS rfl (eS rfl (eS rfl (eS rfl (eS rfl (eS rfl (eS rfl (eS rfl (eS rfl (eS rfl (eS rfl (eS rfl (eS rfl (eS rfl eZ)))))))))))))))) rfl VWk.rfl (SL.cons (k := 11) (eS rfl (eS rfl (eS rfl (eS rfl (eS rfl (eS rfl (eS rfl (eS rfl (eS rfl (eS rfl (eS rfl (eS rfl (eS rfl (eS rfl (eS rfl (eS rfl (eS rfl eZ))))))))))))))))) rfl VWk.rfl SL.nil))))))))) (BL.keep rfl (BL.keep rfl (BL.keep rfl BL.nil))) (BK.cons (n := 2304) rfl bZ rfl rfl (BK.cons (n := 2432) rfl (bS rfl bZ) rfl rfl (BK.cons (n := 2688) rfl (bS rfl (bS rfl bZ)) rfl rfl BK.nil))) GK.nil) ?_
            rcases oite H with ⟨h33, H⟩ | ⟨h33, H⟩
            · refine AW.condF eZ (congrArg Bool.not h33) ?_
              refine AW.skip ?_
              refine TQ.qn ?_
              refine AW.seq ?_
              refine AW.regs ?_
              refine oMov eC ?_
              refine xNil ?_
              refine TQ.qn ?_
              refine AW.seq ?_
              refine AW.regm ?_
              refine rmOne ?_
              refine oMov (eS rfl (eS rfl (eS rfl (eS rfl (eS rfl (eS rfl eZ)))))) ?_
              refine xNil ?_
              refine rmOne ?_
              refine oMov (eS rfl eZ) ?_
              refine xNil ?_
              obtain ⟨v34, h35, H⟩ := obind H
              obtain ⟨h36, H⟩ := oguard H
              refine rmCallI (ON := [2304]) (ls := []) (G := []) (E := [subKey 2304]) (MB := [(2304, (.data 2 (List.map d_TCell v34.2) true none))]) (u := (.one (.d (.int .i64 v34.1)))) eC Cl.fn (c_laws_markCellS h35) (Evs.cons (eS rfl eZ) (Evs.cons eZ Evs.nil)) (AO.mut (VO.sl bZ (List.length_map _) (allFlat fun _ => rfl)) (AO.lent VD.plain rfl AO.nil)) rfl rfl rfl (SZ.cons bZ (allFlat fun _ => rfl) SZ.nil) (erL.cons (v' := (.one (.d (.int .i64 1)))) rfl (erL.cons (v' := (.one (.sl 2304 0 v15.length))) rfl (erL.cons (v' := (.one (.d (.int .i64 1)))) rfl (erL.cons (v' := (.one (.d (.bool (!v31))))) rfl (erL.cons (v' := (.one (.d (.sl 2 (List.map d_TCell a1))))) rfl (erL.cons (v' := (.one (.d (.sl 2 (List.map d_TCell a2))))) rfl (erL.cons (v' := (.one (.d (.sl 2 (List.map d_TCell v13.1))))) rfl (erL.cons (v' := (.one (.d (.bool v13.2)))) rfl (erL.cons (v' := (.one (.sl 2304 0 v15.length))) rfl (erL.cons (v' := (.one (.sl 2432 0 v17.length))) rfl (erL.cons (v' := (.one (.sl 2688 0 v19.1.length))) rfl (erL.cons (v' := (.one (.d (.bool v19.2)))) rfl erL.nil)))))))))))) (erH.cons (v' := (.data 2 (List.map d_TCell v15) true none)) rfl rfl (erH.cons (v' := (.data 2 (List.map d_TCell v17) true none)) rfl rfl (erH.cons (v' := (.data 2 (List.map d_TCell v19.1) true none)) rfl rfl erH.nil))) erL.nil rfl rfl ?_
              refine rmRest ?_
              refine oMov eZ ?_
              refine xNil ?_
              refine TQ.qn ?_
              refine AW.seq ?_
              refine AW.regm ?_
              refine rmOne ?_
              refine oMov (eS rfl (eS rfl (eS rfl (eS rfl (eS rfl (eS rfl (eS rfl (eS rfl (eS rfl (eS rfl (eS rfl eZ))))))))))) ?_
              refine xNil ?_
              refine rmOne ?_
              refine oMov (eS rfl eZ) ?_
              refine xNil ?_
              obtain ⟨v37, h38, H⟩ := obind H
              obtain ⟨h39, H⟩ := oguard H
              refine rmCallI (ON := [2432]) (ls := []) (G := []) (E := [subKey 2432]) (MB := [(2432, (.data 2 (List.map d_TCell v37.2) true none))]) (u := (.one (.d (.int .i64 v37.1)))) eC Cl.fn (c_laws_markWriteS h38) (Evs.cons (eS rfl eZ) (Evs.cons eZ Evs.nil)) (AO.mut (VO.sl (bS rfl (bS rfl bZ)) (List.length_map _) (allFlat fun _ => rfl)) (AO.lent VD.plain rfl AO.nil)) rfl rfl rfl (SZ.cons (bS rfl (bS rfl bZ)) (allFlat fun _ => rfl) SZ.nil) (erL.cons (v' := (.one (.d (.int .i64 v34.1)))) rfl (erL.cons (v' := (.one (.sl 2432 0 v17.length))) rfl (erL.cons (v' := (.one (.d (.int .i64 v34.1)))) rfl (erL.cons (v' := (.one (.d (.int .i64 v34.1)))) rfl (erL.cons (v' := (.one (.d (.int .i64 1)))) rfl (erL.cons (v' := (.one (.sl 2304 0 v15.length))) rfl (erL.cons (v' := (.one (.d (.int .i64 1)))) rfl (erL.cons (v' := (.one (.d (.bool (!v31))))) rfl (erL.cons (v' := (.one (.d (.sl 2 (List.map d_TCell a1))))) rfl (erL.cons (v' := (.one (.d (.sl 2 (List.map d_TCell a2))))) rfl (erL.cons (v' := (.one (.d (.sl 2 (List.map d_TCell v13.1))))) rfl (erL.cons (v' := (.one (.d (.bool v13.2)))) rfl (erL.cons (v' := (.one (.sl 2304 0 v15.length))) rfl (erL.cons (v' := (.one (.sl 2432 0 v17.length))) rfl (erL.cons (v' := (.one (.sl 2688 0 v19.1.length))) rfl (erL.cons (v' := (.one (.d (.bool v19.2)))) rfl erL.nil)))))))))))))))) (erH.cons (v' := (.data 2 (List.map d_TCell v34.2) true none)) rfl rfl (erH.cons (v' := (.data 2 (List.map d_TCell v15) true none)) rfl rfl (erH.cons (v' := (.data 2 (List.map d_TCell v17) true none)) rfl rfl (erH.cons (v' := (.data 2 (List.map d_TCell v19.1) true none)) rfl rfl erH.nil)))) erL.nil rfl rfl ?_
              refine rmRest ?_
              refine oMov eZ ?_
              refine xNil ?_
              refine TQ.qn ?_
              refine AW.weaken (wk_mkG [2432, 2304] (SL.cons (k := 12) eZ rfl VWk.rfl (SL.cons (k := 0) (eS rfl (eS rfl (eS rfl (eS rfl (eS rfl (eS rfl (eS rfl (eS rfl (eS rfl (eS rfl eZ)))))))))) rfl VWk.rfl (SL.cons (k := 1) (eS rfl (eS rfl (eS rfl (eS rfl (eS rfl (eS rfl (eS rfl (eS rfl (eS rfl (eS rfl (eS rfl eZ))))))))))) rfl VWk.rfl (SL.cons (k := 6) (eS rfl (eS rfl (eS rfl (eS rfl (eS rfl (eS rfl (eS rfl (eS rfl (eS rfl (eS rfl (eS rfl (eS rfl eZ)))))))))))) rfl VWk.rfl (SL.cons (k := 7) (eS rfl (eS rfl (eS rfl (eS rfl (eS rfl (eS rfl (eS rfl (eS rfl (eS rfl (eS rfl (eS rfl (eS rfl (eS rfl eZ))))))))))))) rfl VWk.rfl (SL.cons (k := 10) (eS rfl (eS rfl (eS rfl (eS rfl (eS rfl (eS rfl (eS rfl (eS rfl (eS rfl (eS rfl (eS rfl (eS rfl (eS rfl (eS rfl (eS rfl (eS rfl eZ)))))))))))))))) rfl VWk.rfl (SL.cons (k := 11) (eS rfl (eS rfl (eS rfl (eS rfl (eS rfl (eS rfl (eS rfl (eS rfl (eS rfl (eS rfl (eS rfl (eS rfl (eS rfl (eS rfl (eS rfl (eS rfl (eS rfl eZ))))))))))))))))) rfl VWk.rfl SL.nil))))))) (BL.drop rfl (BL.drop rfl (BL.drop rfl (BL.drop rfl (BL.keep rfl BL.nil))))) (BK.cons (n := 2688) rfl (bS rfl (bS rfl (bS rfl (bS rfl bZ)))) rfl rfl BK.nil) GK.nil) ?_
              refine AW.seq ?_
              refine AW.seqJ (fun t40 : Bool => (laws_FnExactStoreApply_j40 v19 a1 a2 v13) t40 = some r) (fun t40 => mk [(0, (.one (.d (.sl 2 (List.map d_TCell a1))))), (1, (.one (.d (.sl 2 (List.map d_TCell a2))))), (6, (.one (.d (.sl 2 (List.map d_TCell v13.1))))), (7, (.one (.d (.bool v13.2)))), (10, (.one (.sl 2688 0 v19.1.length))), (82, (.one (.d (.bool t40))))] [(2688, (.data 2 (List.map d_TCell v19.1) true none))] (lk [])) ?_ ?_
              · intro t40 H
                unfold laws_FnExactStoreApply_j40 at H
                rcases oite H with ⟨h42, H⟩ | ⟨h42, H⟩
                · refine AW.condT (eS rfl (eS rfl (eS rfl (eS rfl (eS rfl eZ))))) h42 ?_
                  refine AW.seq ?_
                  refine AW.regs ?_
                  refine oMov eC ?_
                  refine xNil ?_
                  refine TQ.qn ?_
                  refine AW.ret ?_
                  refine TQ.qr ?_
                  obtain rfl := Option.some.inj H
                  exact endsR (RL.cons (RV.tmp eZ) (VO.flat rfl) RL.nil) List.nodup_nil
                · refine AW.condF (eS rfl (eS rfl (eS rfl (eS rfl (eS rfl eZ))))) (nt h42) ?_
                  refine AW.skip ?_
                  refine TQ.qn ?_
                  refine AW.seq ?_
                  refine AW.regs ?_
                  refine oMov eC ?_
                  refine xNil ?_
                  refine TQ.qn ?_
                  refine AW.seq ?_
                  refine AW.regm ?_
                  refine rmOne ?_
                  refine oMov (eS rfl (eS rfl (eS rfl (eS rfl (eS rfl eZ))))) ?_
                  refine xNil ?_
                  refine rmOne ?_
                  refine oMov (eS rfl eZ) ?_
                  refine xNil ?_
                  obtain ⟨v43, h44, H⟩ := obind H
                  obtain ⟨h45, H⟩ := oguard H
                  refine rmCallI (ON := [2688]) (ls := []) (G := []) (E := [subKey 2688]) (MB := [(2688, (.data 2 (List.map d_TCell v43.2) true none))]) (u := (.one (.d (.int .i64 v43.1)))) eC Cl.fn (c_laws_markCellS h44) (Evs.cons (eS rfl eZ) (Evs.cons eZ Evs.nil)) (AO.mut (VO.sl bZ (List.length_map _) (allFlat fun _ => rfl)) (AO.lent VD.plain rfl AO.nil)) rfl rfl rfl (SZ.cons bZ (allFlat fun _ => rfl) SZ.nil) (erL.cons (v' := (.one (.d (.int .i64 1)))) rfl (erL.cons (v' := (.one (.sl 2688 0 v19.1.length))) rfl (erL.cons (v' := (.one (.d (.int .i64 1)))) rfl (erL.cons (v' := (.one (.d (.sl 2 (List.map d_TCell a1))))) rfl (erL.cons (v' := (.one (.d (.sl 2 (List.map d_TCell a2))))) rfl (erL.cons (v' := (.one (.d (.sl 2 (List.map d_TCell v13.1))))) rfl (erL.cons (v' := (.one (.d (.bool v13.2)))) rfl (erL.cons (v' := (.one (.sl 2688 0 v19.1.length))) rfl (erL.cons (v' := (.one (.d (.bool t40)))) rfl erL.nil))))))))) (erH.cons (v' := (.data 2 (List.map d_TCell v19.1) true none)) rfl rfl erH.nil) erL.nil rfl rfl ?_
                  refine rmRest ?_
                  refine oMov eZ ?_
                  refine xNil ?_
                  refine TQ.qn ?_
                  refine AW.seq ?_
                  refine AW.regs ?_
                  refine oMov eC ?_
                  refine xNil ?_
                  refine TQ.qn ?_
                  refine AW.seq ?_
                  refine AW.regs ?_
                  refine oMov (eS rfl (eS rfl (eS rfl (eS rfl (eS rfl (eS rfl (eS rfl (eS rfl (eS rfl (eS rfl eZ)))))))))) ?_
                  refine oMov (eS rfl eZ) ?_
                  obtain ⟨v46, h47, H⟩ := obind H
                  refine oCall (u := (.one (.d (.int .i64 v46)))) eC Cl.fn (c_laws_heldCellS h47) (Evs.cons (eS rfl eZ) (Evs.cons eZ Evs.nil)) (VDs.cons (VD.sl bZ (by first | (simp; done) | (simp; omega) | omega)) (VDs.cons VD.plain VDs.nil)) rfl ?_
                  refine oMov eZ ?_
                  refine xNil ?_
                  refine TQ.qn ?_
                  refine AW.weaken (wk_mkG [] (SL.cons (k := 14) eZ rfl VWk.rfl (SL.cons (k := 13) (eS rfl (eS rfl (eS rfl (eS rfl (eS rfl eZ))))) rfl VWk.rfl (SL.cons (k := 0) (eS rfl (eS rfl (eS rfl (eS rfl (eS rfl (eS rfl (eS rfl (eS rfl (eS rfl (eS rfl eZ)))))))))) rfl VWk.rfl (SL.cons (k := 1) (eS rfl (eS rfl (eS rfl (eS rfl (eS rfl (eS rfl (eS rfl (eS rfl (eS rfl (eS rfl (eS rfl eZ))))))))))) rfl VWk.rfl (SL.cons (k := 6) (eS rfl (eS rfl (eS rfl (eS rfl (eS rfl (eS rfl (eS rfl (eS rfl (eS rfl (eS rfl (eS rfl (eS rfl eZ)))))))))))) rfl VWk.rfl (SL.cons (k := 7) (eS rfl (eS rfl (eS rfl (eS rfl (eS rfl (eS rfl (eS rfl (eS rfl (eS rfl (eS rfl (eS rfl (eS rfl (eS rfl eZ))))))))))))) rfl VWk.rfl (SL.cons (k := 10) (eS rfl (eS rfl (eS rfl (eS rfl (eS rfl (eS rfl (eS rfl (eS rfl (eS rfl (eS rfl (eS rfl (eS rfl (eS rfl (eS rfl eZ)))))))))))))) rfl VWk.rfl SL.nil))))))) (BL.keep rfl (BL.keep rfl BL.nil)) (BK.cons (n := 2688) rfl bZ rfl rfl BK.nil) GK.nil) ?_
                  refine AW.seq ?_
                  refine AW.seq ?_
                  refine AW.regs ?_
                  refine oMov eZ ?_
                  refine oLss eZ eC ?_
                  refine xNil ?_
                  refine TQ.qn ?_
                  rcases oite H with ⟨h48, H⟩ | ⟨h48, H⟩
                  · refine AW.condT eZ (decide_eq_true h48) ?_
                    refine AW.seq ?_
                    refine AW.regs ?_
                    refine oMov eC ?_
                    refine xNil ?_
                    refine TQ.qn ?_
                    refine AW.ret ?_
                    refine TQ.qr ?_
                    obtain rfl := Option.some.inj H
                    exact endsR (RL.cons (RV.tmp eZ) (VO.flat rfl) RL.nil) List.nodup_nil
                  · refine AW.condF eZ (decide_eq_false h48) ?_
                    refine AW.skip ?_
                    refine TQ.qn ?_
                    refine AW.seq ?_
                    refine AW.seq ?_
                    refine AW.regs ?_
                    refine oMov (eS rfl (eS rfl eZ)) ?_
                    refine oMov (eS rfl (eS rfl (eS rfl (eS rfl eZ)))) ?_
                    refine oNeq (eS rfl eZ) eZ ?_
                    refine xNil ?_
                    refine TQ.qn ?_
                    rcases oite H with ⟨h49, H⟩ | ⟨h49, H⟩
                    · refine AW.condT eZ (decide_eq_true h49) ?_
                      refine AW.seq ?_
                      refine AW.regs ?_
                      refine oMov eC ?_
                      refine xNil ?_
                      refine TQ.qn ?_
                      refine AW.ret ?_
                      refine TQ.qr ?_
                      obtain rfl := Option.some.inj H
                      exact endsR (RL.cons (RV.tmp eZ) (VO.flat rfl) RL.nil) List.nodup_nil
                    · refine AW.condF eZ (decide_eq_false h49) ?_
                      refine AW.skip ?_
                      refine TQ.qn ?_
                      refine AW.seq ?_
                      refine AW.regs ?_
                      refine oMov (eS rfl (eS rfl (eS rfl (eS rfl (eS rfl (eS rfl (eS rfl eZ))))))) ?_
                      obtain ⟨v50, h51, H⟩ := obind H
                      refine oCall (u := (.one (.d (.sl 2 (List.map d_TCell v50))))) eC Cl.fn (c_laws_toCellS h51) (Evs.cons eZ Evs.nil) (VDs.cons VD.plain VDs.nil) rfl ?_
                      refine oMov (eS rfl (eS rfl (eS rfl (eS rfl (eS rfl (eS rfl (eS rfl (eS rfl (eS rfl (eS rfl eZ)))))))))) ?_
                      obtain ⟨v52, h53, H⟩ := obind H
                      refine oCall (u := (.one (.d (.sl 2 (List.map d_TCell v52))))) eC Cl.fn (c_laws_toWriteS h53) (Evs.cons eZ Evs.nil) (VDs.cons VD.plain VDs.nil) rfl ?_
                      obtain ⟨v54, h55, H⟩ := obind H
                      refine oCall (u := (.tup [(.one (.d (.sl 2 (List.map d_TCell v54.1)))), (.one (.d (.bool v54.2)))])) eC Cl.fn (c_impl_StoreApply h55) (Evs.cons (eS rfl (eS rfl eZ)) (Evs.cons eZ Evs.nil)) (VDs.cons VD.plain (VDs.cons VD.plain VDs.nil)) rfl ?_
                      refine oMov eZ ?_
                      refine oExt (v := (.one (.d (.sl 2 (List.map d_TCell v54.1))))) eZ rfl ?_
                      refine oExt (v := (.one (.d (.bool v54.2)))) (eS rfl eZ) rfl ?_
                      refine oMov (eS rfl eZ) ?_
                      refine oMov (eS rfl eZ) ?_
                      refine xNil ?_
                      refine TQ.qn ?_
                      refine AW.weaken (wk_mkG [] (SL.cons (k := 16) eZ rfl VWk.rfl (SL.cons (k := 15) (eS rfl eZ) rfl VWk.rfl (SL.cons (k := 13) (eS rfl (eS rfl (eS rfl (eS rfl (eS rfl (eS rfl (eS rfl (eS rfl (eS rfl (eS rfl (eS rfl (eS rfl (eS rfl (eS rfl (eS rfl (eS rfl eZ)))))))))))))))) rfl VWk.rfl (SL.cons (k := 6) (eS rfl (eS rfl (eS rfl (eS rfl (eS rfl (eS rfl (eS rfl (eS rfl (eS rfl (eS rfl (eS rfl (eS rfl (eS rfl (eS rfl (eS rfl (eS rfl (eS rfl (eS rfl (eS rfl eZ))))))))))))))))))) rfl VWk.rfl (SL.cons (k := 7) (eS rfl (eS rfl (eS rfl (eS rfl (eS rfl (eS rfl (eS rfl (eS rfl (eS rfl (eS rfl (eS rfl (eS rfl (eS rfl (eS rfl (eS rfl (eS rfl (eS rfl (eS rfl (eS rfl (eS rfl eZ)))))))))))))))))))) rfl VWk.rfl (SL.cons (k := 10) (eS rfl (eS rfl (eS rfl (eS rfl (eS rfl (eS rfl (eS rfl (eS rfl (eS rfl (eS rfl (eS rfl (eS rfl (eS rfl (eS rfl (eS rfl (eS rfl (eS rfl (eS rfl (eS rfl (eS rfl (eS rfl eZ))))))))))))))))))))) rfl VWk.rfl SL.nil)))))) (BL.keep rfl BL.nil) (BK.cons (n := 2688) rfl bZ rfl rfl BK.nil) GK.nil) ?_
                      refine AW.seq ?_
                      refine AW.seqJ (fun t56 : Bool => (laws_FnExactStoreApply_j56 v43) t56 = some r) (fun t56 => mk [(10, (.one (.sl 2688 0 v19.1.length))), (13, (.one (.d (.int .i64 v43.1)))), (110, (.one (.d (.bool t56))))] [(2688, (.data 2 (List.map d_TCell v43.2) true none))] (lk [])) ?_ ?_
                      · intro t56 H
                        unfold laws_FnExactStoreApply_j56 at H
                        rcases oite H with ⟨h58, H⟩ | ⟨h58, H⟩
                        · refine AW.condT (eS rfl (eS rfl eZ)) h58 ?_
                          refine AW.seq ?_
                          refine AW.regs ?_
                          refine oMov eC ?_
                          refine xNil ?_
                          refine TQ.qn ?_
                          refine AW.ret ?_
                          refine TQ.qr ?_
                          obtain rfl := Option.some.inj H
                          exact endsR (RL.cons (RV.tmp eZ) (VO.flat rfl) RL.nil) List.nodup_nil
                        · refine AW.condF (eS rfl (eS rfl eZ)) (nt h58) ?_
                          refine AW.skip ?_
                          refine TQ.qn ?_
                          refine AW.seq ?_
                          refine AW.regs ?_
                          refine oMov eC ?_
                          refine xNil ?_
                          refine TQ.qn ?_
                          refine AW.seq ?_
                          refine AW.regs ?_
                          refine oMov (eS rfl eZ) ?_
                          refine oMov (eS rfl eZ) ?_
                          obtain ⟨v59, h60, H⟩ := obind H
                          refine oCall (u := (.one (.d (.int .i64 v59)))) eC Cl.fn (c_laws_heldCellS h60) (Evs.cons (eS rfl eZ) (Evs.cons eZ Evs.nil)) (VDs.cons (VD.sl bZ (by first | (simp; done) | (simp; omega) | omega)) (VDs.cons VD.plain VDs.nil)) rfl ?_
                          refine oMov eZ ?_
                          refine xNil ?_
                          refine TQ.qn ?_
                          refine AW.seq ?_
                          refine AW.seq ?_
                          refine AW.regs ?_
                          refine oMov eZ ?_
                          refine oLss eZ eC ?_
                          refine xNil ?_
                          refine TQ.qn ?_
                          rcases oite H with ⟨h61, H⟩ | ⟨h61, H⟩
                          · refine AW.condT eZ (decide_eq_true h61) ?_
                            refine AW.seq ?_
                            refine AW.regs ?_
                            refine oMov eC ?_
                            refine xNil ?_
                            refine TQ.qn ?_
                            refine AW.ret ?_
                            refine TQ.qr ?_
                            obtain rfl := Option.some.inj H
                            exact endsR (RL.cons (RV.tmp eZ) (VO.flat rfl) RL.nil) List.nodup_nil
                          · refine AW.condF eZ (decide_eq_false h61) ?_
                            refine AW.skip ?_
                            refine TQ.qn ?_
                            refine AW.seq ?_
                            refine AW.seq ?_
                            refine AW.regs ?_
                            refine oMov (eS rfl (eS rfl eZ)) ?_
                            refine oMov (eS rfl (eS rfl (eS rfl (eS rfl (eS rfl (eS rfl (eS rfl (eS rfl (eS rfl eZ))))))))) ?_
                            refine oNeq (eS rfl eZ) eZ ?_
                            refine xNil ?_
                            refine TQ.qn ?_
                            rcases oite H with ⟨h62, H⟩ | ⟨h62, H⟩
                            · refine AW.condT eZ (decide_eq_true h62) ?_
                              refine AW.seq ?_
                              refine AW.regs ?_
                              refine oMov eC ?_
                              refine xNil ?_
                              refine TQ.qn ?_
                              refine AW.ret ?_
                              refine TQ.qr ?_
                              obtain rfl := Option.some.inj H
                              exact endsR (RL.cons (RV.tmp eZ) (VO.flat rfl) RL.nil) List.nodup_nil
                            · refine AW.condF eZ (decide_eq_false h62) ?_
                              refine AW.skip ?_
                              refine TQ.qn ?_
                              refine AW.seq ?_
                              refine AW.regs ?_
                              refine oMov eC ?_
                              refine xNil ?_
                              refine TQ.qn ?_
                              refine AW.ret ?_
                              obtain rfl := Option.some.inj H
                              exact endsR (RL.cons (RV.tmp eZ) (VO.flat rfl) RL.nil) List.nodup_nil
                      · refine AW.regs ?_
                        refine oMov (eS rfl eZ) ?_
                        refine oMov (eS rfl (eS rfl (eS rfl (eS rfl eZ)))) ?_
                        obtain ⟨v63, h64, H⟩ := obind H
                        refine oCall (u := (.one (.d (.bool v63)))) eC Cl.fn (c_laws_eqCellS h64) (Evs.cons (eS rfl eZ) (Evs.cons eZ Evs.nil)) (VDs.cons VD.plain (VDs.cons VD.plain VDs.nil)) rfl ?_
                        refine oInv eZ ?_
                        refine oMov eZ ?_
                        rcases oite H with ⟨h65, H⟩ | ⟨h65, H⟩
                        · refine gDo eZ (congrArg Bool.not h65) ?_
                          refine oMov (eS rfl (eS rfl (eS rfl (eS rfl (eS rfl eZ))))) ?_
                          refine gDo (eS rfl eZ) (congrArg Bool.not h65) ?_
                          refine oMov (eS rfl (eS rfl (eS rfl (eS rfl (eS rfl (eS rfl (eS rfl (eS rfl (eS rfl (eS rfl eZ)))))))))) ?_
                          refine gDo (eS rfl (eS rfl eZ)) (congrArg Bool.not h65) ?_
                          refine oBne (eS rfl eZ) eZ ?_
                          refine oPickF (eS rfl (eS rfl (eS rfl eZ))) (congrArg Bool.not h65) eZ ?_
                          refine xNil ?_
                          exact TQ.qn ⟨(v54.2 != v13.2), H, (wk_mkG [] (SL.cons (eS rfl (eS rfl (eS rfl (eS rfl (eS rfl (eS rfl (eS rfl (eS rfl (eS rfl (eS rfl (eS rfl (eS rfl (eS rfl (eS rfl eZ)))))))))))))) rfl VWk.rfl (SL.cons (eS rfl (eS rfl (eS rfl (eS rfl (eS rfl (eS rfl (eS rfl (eS rfl (eS rfl (eS rfl (eS rfl eZ))))))))))) rfl VWk.rfl (SL.cons eZ rfl VWk.rfl SL.nil))) (BL.keep rfl BL.nil) (BK.cons rfl bZ rfl rfl BK.nil) GK.nil)⟩
                        · refine gSkip eZ (congrArg Bool.not (nt h65)) rfl ?_
                          refine gSkip (eS rfl eZ) (congrArg Bool.not (nt h65)) rfl ?_
                          refine gSkip (eS rfl (eS rfl eZ)) (congrArg Bool.not (nt h65)) rfl ?_
                          refine oPickT (eS rfl (eS rfl (eS rfl eZ))) (congrArg Bool.not (nt h65)) eC ?_
                          refine xNil ?_
                          exact TQ.qn ⟨true, H, (wk_mkG [] (SL.cons (eS rfl (eS rfl (eS rfl (eS rfl (eS rfl (eS rfl (eS rfl (eS rfl (eS rfl (eS rfl (eS rfl (eS rfl (eS rfl (eS rfl eZ)))))))))))))) rfl VWk.rfl (SL.cons (eS rfl (eS rfl (eS rfl (eS rfl (eS rfl (eS rfl (eS rfl (eS rfl (eS rfl (eS rfl (eS rfl eZ))))))))))) rfl VWk.rfl (SL.cons eZ rfl VWk.rfl SL.nil))) (BL.keep rfl BL.nil) (BK.cons rfl bZ rfl rfl BK.nil) GK.nil)⟩
              · refine AW.regs ?_
                refine oMov eZ ?_
                refine oLss eZ eC ?_
                refine oMov eZ ?_
                rcases oite H with ⟨h66, H⟩ | ⟨h66, H⟩
                · refine gSkip eZ (decide_eq_true h66) rfl ?_
                  refine gSkip (eS rfl eZ) (decide_eq_true h66) rfl ?_
                  refine gSkip (eS rfl (eS rfl eZ)) (decide_eq_true h66) rfl ?_
                  refine gSkip (eS rfl (eS rfl (eS rfl eZ))) (decide_eq_true h66) rfl ?_
                  refine oPickT (eS rfl (eS rfl (eS rfl (eS rfl eZ)))) (decide_eq_true h66) eC ?_
                  refine oMov eZ ?_
                  refine gSkip eZ rfl rfl ?_
                  refine gSkip (eS rfl eZ) rfl rfl ?_
                  refine gSkip (eS rfl (eS rfl eZ)) rfl rfl ?_
                  refine oPickT (eS rfl (eS rfl (eS rfl eZ))) rfl eC ?_
                  refine xNil ?_
                  exact TQ.qn ⟨true, H, (wk_mkG [] (SL.cons (eS rfl (eS rfl (eS rfl (eS rfl (eS rfl (eS rfl (eS rfl (eS rfl (eS rfl (eS rfl (eS rfl (eS rfl (eS rfl (eS rfl eZ)))))))))))))) rfl VWk.rfl (SL.cons (eS rfl (eS rfl (eS rfl (eS rfl (eS rfl (eS rfl (eS rfl (eS rfl (eS rfl (eS rfl (eS rfl (eS rfl (eS rfl (eS rfl (eS rfl eZ))))))))))))))) rfl VWk.rfl (SL.cons (eS rfl (eS rfl (eS rfl (eS rfl (eS rfl (eS rfl (eS rfl (eS rfl (eS rfl (eS rfl (eS rfl (eS rfl (eS rfl (eS rfl (eS rfl (eS rfl eZ)))))))))))))))) rfl VWk.rfl (SL.cons (eS rfl (eS rfl (eS rfl (eS rfl (eS rfl (eS rfl (eS rfl (eS rfl (eS rfl (eS rfl (eS rfl (eS rfl (eS rfl (eS rfl (eS rfl (eS rfl (eS rfl eZ))))))))))))))))) rfl VWk.rfl (SL.cons (eS rfl (eS rfl (eS rfl (eS rfl (eS rfl (eS rfl (eS rfl (eS rfl (eS rfl (eS rfl (eS rfl (eS rfl (eS rfl (eS rfl (eS rfl (eS rfl (eS rfl (eS rfl eZ)))))))))))))))))) rfl VWk.rfl (SL.cons eZ rfl VWk.rfl SL.nil)))))) (BL.keep rfl BL.nil) (BK.cons rfl bZ rfl rfl BK.nil) GK.nil)⟩
                · refine gDo eZ (decide_eq_false h66) ?_
                  refine oMov (eS rfl (eS rfl (eS rfl (eS rfl (eS rfl (eS rfl (eS rfl (eS rfl eZ)))))))) ?_
                  refine gDo (eS rfl eZ) (decide_eq_false h66) ?_
                  refine oMov (eS rfl (eS rfl (eS rfl (eS rfl (eS rfl (eS rfl (eS rfl eZ))))))) ?_
                  refine gDo (eS rfl (eS rfl eZ)) (decide_eq_false h66) ?_
                  obtain ⟨v67, h68, H⟩ := obind H
                  refine oCall (u := (.one (.d (.bool v67)))) eC Cl.fn (c_laws_eqCellS h68) (Evs.cons (eS rfl eZ) (Evs.cons eZ Evs.nil)) (VDs.cons (VD.sl bZ (List.length_map _)) (VDs.cons VD.plain VDs.nil)) rfl ?_
                  refine gDo (eS rfl (eS rfl (eS rfl eZ))) (decide_eq_false h66) ?_
                  refine oInv eZ ?_
                  refine oPickF (eS rfl (eS rfl (eS rfl (eS rfl eZ)))) (decide_eq_false h66) eZ ?_
                  refine oMov eZ ?_
                  rcases oite H with ⟨h69, H⟩ | ⟨h69, H⟩
                  · refine gDo eZ (congrArg Bool.not h69) ?_
                    refine oMov (eS rfl (eS rfl (eS rfl (eS rfl (eS rfl (eS rfl (eS rfl (eS rfl (eS rfl (eS rfl (eS rfl (eS rfl (eS rfl (eS rfl (eS rfl eZ))))))))))))))) ?_
                    refine gDo (eS rfl eZ) (congrArg Bool.not h69) ?_
                    refine oMov (eS rfl (eS rfl (eS rfl (eS rfl (eS rfl (eS rfl (eS rfl (eS rfl (eS rfl (eS rfl (eS rfl (eS rfl (eS rfl (eS rfl eZ)))))))))))))) ?_
                    refine gDo (eS rfl (eS rfl eZ)) (congrArg Bool.not h69) ?_
                    refine oBne (eS rfl eZ) eZ ?_
                    refine oPickF (eS rfl (eS rfl (eS rfl eZ))) (congrArg Bool.not h69) eZ ?_
                    refine xNil ?_
                    exact TQ.qn ⟨(v19.2 != v13.2), H, (wk_mkG [] (SL.cons (eS rfl (eS rfl (eS rfl (eS rfl (eS rfl (eS rfl (eS rfl (eS rfl (eS rfl (eS rfl (eS rfl (eS rfl (eS rfl (eS rfl eZ)))))))))))))) rfl VWk.rfl (SL.cons (eS rfl (eS rfl (eS rfl (eS rfl (eS rfl (eS rfl (eS rfl (eS rfl (eS rfl (eS rfl (eS rfl (eS rfl (eS rfl (eS rfl (eS rfl eZ))))))))))))))) rfl VWk.rfl (SL.cons (eS rfl (eS rfl (eS rfl (eS rfl (eS rfl (eS rfl (eS rfl (eS rfl (eS rfl (eS rfl (eS rfl (eS rfl (eS rfl (eS rfl (eS rfl (eS rfl eZ)))))))))))))))) rfl VWk.rfl (SL.cons (eS rfl (eS rfl (eS rfl (eS rfl (eS rfl (eS rfl (eS rfl (eS rfl (eS rfl (eS rfl (eS rfl (eS rfl (eS rfl (eS rfl (eS rfl (eS rfl (eS rfl eZ))))))))))))))))) rfl VWk.rfl (SL.cons (eS rfl (eS rfl (eS rfl (eS rfl (eS rfl (eS rfl (eS rfl (eS rfl (eS rfl (eS rfl (eS rfl (eS rfl (eS rfl (eS rfl (eS rfl (eS rfl (eS rfl (eS rfl eZ)))))))))))))))))) rfl VWk.rfl (SL.cons eZ rfl VWk.rfl SL.nil)))))) (BL.keep rfl BL.nil) (BK.cons rfl bZ rfl rfl BK.nil) GK.nil)⟩
                  · refine gSkip eZ (congrArg Bool.not (nt h69)) rfl ?_
                    refine gSkip (eS rfl eZ) (congrArg Bool.not (nt h69)) rfl ?_
                    refine gSkip (eS rfl (eS rfl eZ)) (congrArg Bool.not (nt h69)) rfl ?_
                    refine oPickT (eS rfl (eS rfl (eS rfl eZ))) (congrArg Bool.not (nt h69)) eC ?_
                    refine xNil ?_
                    exact TQ.qn ⟨true, H, (wk_mkG [] (SL.cons (eS rfl (eS rfl (eS rfl (eS rfl (eS rfl (eS rfl (eS rfl (eS rfl (eS rfl (eS rfl (eS rfl (eS rfl (eS rfl (eS rfl eZ)))))))))))))) rfl VWk.rfl (SL.cons (eS rfl (eS rfl (eS rfl (eS rfl (eS rfl (eS rfl (eS rfl (eS rfl (eS rfl (eS rfl (eS rfl (eS rfl (eS rfl (eS rfl (eS rfl eZ))))))))))))))) rfl VWk.rfl (SL.cons (eS rfl (eS rfl (eS rfl (eS rfl (eS rfl (eS rfl (eS rfl (eS rfl (eS rfl (eS rfl (eS rfl (eS rfl (eS rfl (eS rfl (eS rfl (eS rfl eZ)))))))))))))))) rfl VWk.rfl (SL.cons (eS rfl (eS rfl (eS rfl (eS rfl (eS rfl (eS rfl (eS rfl (eS rfl (eS rfl (eS rfl (eS rfl (eS rfl (eS rfl (eS rfl (eS rfl (eS rfl (eS rfl eZ))))))))))))))))) rfl VWk.rfl (SL.cons (eS rfl (eS rfl (eS rfl (eS rfl (eS rfl (eS rfl (eS rfl (eS rfl (eS rfl (eS rfl (eS rfl (eS rfl (eS rfl (eS rfl (eS rfl (eS rfl (eS rfl (eS rfl eZ)))))))))))))))))) rfl VWk.rfl (SL.cons eZ rfl VWk.rfl SL.nil)))))) (BL.keep rfl BL.nil) (BK.cons rfl bZ rfl rfl BK.nil) GK.nil)⟩
            · refine AW.condT eZ (congrArg Bool.not (nt h33)) ?_
              refine AW.seq ?_
              refine AW.regs ?_
              refine oMov eC ?_
              refine xNil ?_
              refine TQ.qn ?_
              refine AW.ret ?_
              refine TQ.qr ?_
              obtain rfl := Option.some.inj H
              exact endsR (RL.cons (RV.tmp eZ) (VO.flat rfl) RL.nil) List.nodup_nil
          · refine AW.condT eZ (congrArg Bool.not (nt h28)) ?_
            refine AW.seq ?_
            refine AW.regs ?_
            refine oMov eC ?_
            refine xNil ?_
            refine TQ.qn ?_
            refine AW.ret ?_
            refine TQ.qr ?_
            obtain rfl := Option.some.inj H
            exact endsR (RL.cons (RV.tmp eZ) (VO.flat rfl) RL.nil) List.nodup_nil
      · refine AW.regs ?_
        refine oMov (eS rfl eZ) ?_
        refine oMov (eS rfl (eS rfl (eS rfl (eS rfl (eS rfl (eS rfl eZ)))))) ?_
        obtain ⟨v70, h71, H⟩ := obind H
        refine oCall (u := (.one (.d (.bool v70)))) eC Cl.fn (c_laws_eqCellS h71) (Evs.cons (eS rfl eZ) (Evs.cons eZ Evs.nil)) (VDs.cons (VD.sl bZ (List.length_map _)) (VDs.cons VD.plain VDs.nil)) rfl ?_
        refine oInv eZ ?_
        refine oMov eZ ?_
        rcases oite H with ⟨h72, H⟩ | ⟨h72, H⟩
        · refine gDo eZ (congrArg Bool.not h72) ?_
          refine oMov (eS rfl (eS rfl (eS rfl (eS rfl (eS rfl eZ))))) ?_
          refine gDo (eS rfl eZ) (congrArg Bool.not h72) ?_
          refine oMov (eS rfl (eS rfl (eS rfl (eS rfl (eS rfl (eS rfl (eS rfl (eS rfl (eS rfl (eS rfl eZ)))))))))) ?_
          refine gDo (eS rfl (eS rfl eZ)) (congrArg Bool.not h72) ?_
          refine oBne (eS rfl eZ) eZ ?_
          refine oPickF (eS rfl (eS rfl (eS rfl eZ))) (congrArg Bool.not h72) eZ ?_
          refine xNil ?_
          exact TQ.qn ⟨(v19.2 != v13.2), H, (wk_mkG [] (SL.cons (eS rfl (eS rfl (eS rfl (eS rfl (eS rfl (eS rfl (eS rfl (eS rfl (eS rfl (eS rfl (eS rfl (eS rfl (eS rfl (eS rfl (eS rfl eZ))))))))))))))) rfl VWk.rfl (SL.cons (eS rfl (eS rfl (eS rfl (eS rfl (eS rfl (eS rfl (eS rfl (eS rfl (eS rfl (eS rfl (eS rfl (eS rfl (eS rfl (eS rfl (eS rfl (eS rfl eZ)))))))))))))))) rfl VWk.rfl (SL.cons (eS rfl (eS rfl (eS rfl (eS rfl (eS rfl (eS rfl (eS rfl (eS rfl (eS rfl (eS rfl (eS rfl (eS rfl (eS rfl (eS rfl eZ)))))))))))))) rfl VWk.rfl (SL.cons (eS rfl (eS rfl (eS rfl (eS rfl (eS rfl (eS rfl (eS rfl (eS rfl (eS rfl (eS rfl (eS rfl (eS rfl (eS rfl eZ))))))))))))) rfl VWk.rfl (SL.cons (eS rfl (eS rfl (eS rfl (eS rfl (eS rfl (eS rfl (eS rfl (eS rfl (eS rfl (eS rfl (eS rfl (eS rfl eZ)))))))))))) rfl VWk.rfl (SL.cons (eS rfl (eS rfl (eS rfl (eS rfl (eS rfl (eS rfl (eS rfl (eS rfl (eS rfl (eS rfl (eS rfl eZ))))))))))) rfl VWk.rfl (SL.cons (eS rfl (eS rfl (eS rfl (eS rfl (eS rfl (eS rfl (eS rfl (eS rfl (eS rfl (eS rfl eZ)))))))))) rfl VWk.rfl (SL.cons (eS rfl (eS rfl (eS rfl (eS rfl (eS rfl (eS rfl (eS rfl (eS rfl (eS rfl eZ))))))))) rfl VWk.rfl (SL.cons eZ rfl VWk.rfl SL.nil))))))))) (BL.keep rfl (BL.keep rfl (BL.keep rfl BL.nil))) (BK.cons rfl (bS rfl (bS rfl bZ)) rfl rfl (BK.cons rfl (bS rfl bZ) rfl rfl (BK.cons rfl bZ rfl rfl BK.nil))) GK.nil)⟩
        · refine gSkip eZ (congrArg Bool.not (nt h72)) rfl ?_
          refine gSkip (eS rfl eZ) (congrArg Bool.not (nt h72)) rfl ?_
          refine gSkip (eS rfl (eS rfl eZ)) (congrArg Bool.not (nt h72)) rfl ?_
          refine oPickT (eS rfl (eS rfl (eS rfl eZ))) (congrArg Bool.not (nt h72)) eC ?_
          refine xNil ?_
          exact TQ.qn ⟨true, H, (wk_mkG [] (SL.cons (eS rfl (eS rfl (eS rfl (eS rfl (eS rfl (eS rfl (eS rfl (eS rfl (eS rfl (eS rfl (eS rfl (eS rfl (eS rfl (eS rfl (eS rfl eZ))))))))))))))) rfl VWk.rfl (SL.cons (eS rfl (eS rfl (eS rfl (eS rfl (eS rfl (eS rfl (eS rfl (eS rfl (eS rfl (eS rfl (eS rfl (eS rfl (eS rfl (eS rfl (eS rfl (eS rfl eZ)))))))))))))))) rfl VWk.rfl (SL.cons (eS rfl (eS rfl (eS rfl (eS rfl (eS rfl (eS rfl (eS rfl (eS rfl (eS rfl (eS rfl (eS rfl (eS rfl (eS rfl (eS rfl eZ)))))))))))))) rfl VWk.rfl (SL.cons (eS rfl (eS rfl (eS rfl (eS rfl (eS rfl (eS rfl (eS rfl (eS rfl (eS rfl (eS rfl (eS rfl (eS rfl (eS rfl eZ))))))))))))) rfl VWk.rfl (SL.cons (eS rfl (eS rfl (eS rfl (eS rfl (eS rfl (eS rfl (eS rfl (eS rfl (eS rfl (eS rfl (eS rfl (eS rfl eZ)))))))))))) rfl VWk.rfl (SL.cons (eS rfl (eS rfl (eS rfl (eS rfl (eS rfl (eS rfl (eS rfl (eS rfl (eS rfl (eS rfl (eS rfl eZ))))))))))) rfl VWk.rfl (SL.cons (eS rfl (eS rfl (eS rfl (eS rfl (eS rfl (eS rfl (eS rfl (eS rfl (eS rfl (eS rfl eZ)))))))))) rfl VWk.rfl (SL.cons (eS rfl (eS rfl (eS rfl (eS rfl (eS rfl (eS rfl (eS rfl (eS rfl (eS rfl eZ))))))))) rfl VWk.rfl (SL.cons eZ rfl VWk.rfl SL.nil))))))))) (BL.keep rfl (BL.keep rfl (BL.keep rfl BL.nil))) (BK.cons rfl (bS rfl (bS rfl bZ)) rfl rfl (BK.cons rfl (bS rfl bZ) rfl rfl (BK.cons rfl bZ rfl rfl BK.nil))) GK.nil)⟩

end Go.AW
