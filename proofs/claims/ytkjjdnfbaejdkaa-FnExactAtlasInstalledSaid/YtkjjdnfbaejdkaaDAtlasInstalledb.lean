/- That functions of the program compute what the plain functions say: printed by a program of the prover's own (tool/dec.py). Conditions: each theorem's own. -/
import Derived.Test.YtkjjdnfbaejdkaaMAtlasInstalled
import Derived.Test.YtkjjdnfbaejdkaaGAtlasInstalled
import Derived.Test.YtkjjdnfbaejdkaaDAtlasInstalleda
set_option linter.unusedVariables false
set_option linter.unusedSimpArgs false
set_option maxRecDepth 100000
namespace Go.AW
open Go.Proofs

theorem c_impl_StoreOk {a1 : (List TCell)} {r : Bool} (H : m_impl_StoreOk a1 = some r) : Fn Try.prog k_impl_StoreOk (lent [(.sl 2 (List.map d_TCell a1))]) true [(.bool r)] := by
  refine i_impl_StoreOk_fn (Nat.le_of_ble_eq_true rfl) ?_
  rw [init_mk]
  refine AW.weaken (wk_mk [] (SL.cons (v := (.one (.d (.sl 2 (List.map d_TCell a1))))) eZ rfl VWk.rfl SL.nil) BL.nil BK.nil) ?_
  unfold m_impl_StoreOk at H
  unfold i_impl_StoreOk
  refine AW.seq ?_
  refine AW.regs ?_
  refine oMov eC ?_
  refine xNil ?_
  refine TQ.qn ?_
  refine AW.seqJ (fun t2 : Unit => (impl_StoreOk_j2 a1) t2 = some r) (fun t2 => mk [(0, (.one (.d (.sl 2 (List.map d_TCell a1)))))] [] noG) ?_ ?_
  · intro t2 H
    unfold impl_StoreOk_j2 at H
    refine AW.seq ?_
    refine AW.regs ?_
    refine oMov eZ ?_
    refine oLenD eZ (n := a1.length) (List.length_map _) ?_
    refine oLeq eZ eC ?_
    refine oMov eZ ?_
    refine xNil ?_
    refine TQ.qn ?_
    refine AW.ret ?_
    obtain rfl := Option.some.inj H
    exact endsR (RL.cons (RV.tmp eZ) (VO.flat rfl) RL.nil) List.nodup_nil
  · refine AW.seq ?_
    refine AW.regs ?_
    refine oMov (eS rfl eZ) ?_
    refine oLenD eZ (n := a1.length) (List.length_map _) ?_
    refine oMov eC ?_
    refine xNil ?_
    refine TQ.qn ?_
    refine AW.block ?_
    refine AW.iter (fun s4 : Int => mk [(0, (.one (.d (.sl 2 (List.map d_TCell a1))))), (5, (.one (.d (.sl 2 (List.map d_TCell a1))))), (6, (.one (.d (.int .i64 (a1.length : Int))))), (7, (.one (.d (.int .i64 s4))))] [] noG) H (wk_mk [] (SL.cons (eS rfl (eS rfl (eS rfl (eS rfl eZ)))) rfl VWk.rfl (SL.cons (eS rfl (eS rfl eZ)) rfl VWk.rfl (SL.cons (eS rfl eZ) rfl VWk.rfl (SL.cons eZ rfl VWk.rfl SL.nil)))) BL.nil BK.nil) ?_
    intro kb5 s4 H
    unfold impl_StoreOk_b4 at H
    refine AW.seq ?_
    refine AW.regs ?_
    refine oLss (eS rfl (eS rfl (eS rfl eZ))) (eS rfl (eS rfl eZ)) ?_
    refine xNil ?_
    refine TQ.qn ?_
    refine AW.seq ?_
    rcases oite H with ⟨h6, H⟩ | ⟨h6, H⟩
    · refine AW.condT eZ (decide_eq_true h6) ?_
      refine AW.skip ?_
      refine TQ.qn ?_
      refine AW.seq ?_
      refine AW.block ?_
      refine AW.seq ?_
      refine AW.regs ?_
      refine oMov (eS rfl (eS rfl (eS rfl (eS rfl eZ)))) ?_
      obtain ⟨v7, h8, H⟩ := obind H
      refine oAtD (eS rfl (eS rfl (eS rfl eZ))) (eS rfl (eS rfl (eS rfl (eS rfl (eS rfl eZ))))) h8 ?_
      refine oLoadBA (es := [(.d (.int .i64 v7.Key)), (.d (.int .i64 v7.Value))]) eZ rfl ?_
      refine oVar (n := 256) (m := 2) rfl rfl nZ ?_
      refine oMov (eS rfl (eS rfl (eS rfl eZ))) ?_
      refine oStoreV (es := [(.d (.int .i64 v7.Key)), (.d (.int .i64 v7.Value))]) (eS rfl eZ) (eS rfl (eS rfl eZ)) rfl rfl bZ rfl ?_
      refine xNil ?_
      refine TQ.qn ?_
      refine AW.seqJ (fun t9 : Bool => (impl_StoreOk_j9 kb5 s4) t9 = some r) (fun t9 => mk [(0, (.one (.d (.sl 2 (List.map d_TCell a1))))), (5, (.one (.d (.sl 2 (List.map d_TCell a1))))), (6, (.one (.d (.int .i64 (a1.length : Int))))), (7, (.one (.d (.int .i64 s4)))), (36, (.one (.d (.bool t9))))] [] noG) ?_ ?_
      · intro t9 H
        unfold impl_StoreOk_j9 at H
        rcases oite H with ⟨h11, H⟩ | ⟨h11, H⟩
        · refine AW.condT (eS rfl (eS rfl (eS rfl (eS rfl eZ)))) h11 ?_
          refine AW.seq ?_
          refine AW.regs ?_
          refine oMov eC ?_
          refine xNil ?_
          refine TQ.qn ?_
          refine AW.ret ?_
          refine BQ.qr ?_
          refine TQ.qr ?_
          refine TQ.qr ?_
          refine BQ.qr ?_
          refine TQ.qr ?_
          obtain rfl := Option.some.inj H
          exact endsR (RL.cons (RV.tmp eZ) (VO.flat rfl) RL.nil) List.nodup_nil
        · refine AW.condF (eS rfl (eS rfl (eS rfl (eS rfl eZ)))) (nt h11) ?_
          refine AW.skip ?_
          refine BQ.qn ?_
          refine TQ.qn ?_
          refine AW.regs ?_
          refine oAdd (eS rfl (eS rfl (eS rfl eZ))) eC ?_
          refine oMov eZ ?_
          refine xNil ?_
          exact TQ.qn ⟨(IntKind.wrap .i64 (s4 + 1)), H, (wk_mk [] (SL.cons (eS rfl (eS rfl eZ)) rfl VWk.rfl (SL.cons (eS rfl (eS rfl (eS rfl eZ))) rfl VWk.rfl (SL.cons (eS rfl (eS rfl (eS rfl (eS rfl eZ)))) rfl VWk.rfl (SL.cons eZ rfl VWk.rfl SL.nil)))) BL.nil BK.nil)⟩
      · refine AW.regd ?_
        refine oFaddrN (m := 0) (eS rfl eZ) rfl ?_
        refine oLoadV (q := 0) (c := (.d (.int .i64 v7.Key))) eZ bZ rfl rfl ?_
        obtain ⟨v12, h13, H⟩ := obind H
        refine oCall (u := (.one (.d (.bool v12)))) eC Cl.fn (c_impl_isKey h13) (Evs.cons eZ Evs.nil) (VDs.cons VD.plain VDs.nil) rfl ?_
        refine oInv eZ ?_
        refine oMov eZ ?_
        rcases oite H with ⟨h14, H⟩ | ⟨h14, H⟩
        · refine gDo eZ (congrArg Bool.not h14) ?_
          refine oFaddrN (m := 1) (eS rfl (eS rfl (eS rfl (eS rfl (eS rfl (eS rfl eZ)))))) rfl ?_
          refine gDo (eS rfl eZ) (congrArg Bool.not h14) ?_
          refine oLoadV (q := 1) (c := (.d (.int .i64 v7.Value))) eZ bZ rfl rfl ?_
          refine gDo (eS rfl (eS rfl eZ)) (congrArg Bool.not h14) ?_
          obtain ⟨v15, h16, H⟩ := obind H
          refine oCall (u := (.one (.d (.bool v15)))) eC Cl.fn (c_impl_isWhole h16) (Evs.cons eZ Evs.nil) (VDs.cons VD.plain VDs.nil) rfl ?_
          refine gDo (eS rfl (eS rfl (eS rfl eZ))) (congrArg Bool.not h14) ?_
          refine oInv eZ ?_
          refine oPickF (eS rfl (eS rfl (eS rfl (eS rfl eZ)))) (congrArg Bool.not h14) eZ ?_
          refine oMov eZ ?_
          rcases oite H with ⟨h17, H⟩ | ⟨h17, H⟩
          · refine gDo eZ (congrArg Bool.not h17) ?_
            refine oMov (eS rfl (eS rfl (eS rfl (eS rfl (eS rfl (eS rfl (eS rfl (eS rfl (eS rfl (eS rfl (eS rfl eZ))))))))))) ?_
            refine gDo (eS rfl eZ) (congrArg Bool.not h17) ?_
            refine oGtr eZ eC ?_
            refine gDo (eS rfl (eS rfl eZ)) (congrArg Bool.not h17) ?_
            refine oMov eZ ?_
            rcases oite H with ⟨h18, H⟩ | ⟨h18, H⟩
            · refine gDo eZ (decide_eq_true h18) ?_
              refine oMov (eS rfl (eS rfl (eS rfl (eS rfl (eS rfl (eS rfl (eS rfl (eS rfl (eS rfl (eS rfl (eS rfl (eS rfl (eS rfl (eS rfl (eS rfl (eS rfl (eS rfl (eS rfl (eS rfl (eS rfl eZ)))))))))))))))))))) ?_
              refine gDo (eS rfl eZ) (decide_eq_true h18) ?_
              refine oMov (eS rfl (eS rfl (eS rfl (eS rfl (eS rfl (eS rfl (eS rfl (eS rfl (eS rfl (eS rfl (eS rfl (eS rfl (eS rfl (eS rfl (eS rfl eZ))))))))))))))) ?_
              refine gDo (eS rfl (eS rfl eZ)) (decide_eq_true h18) ?_
              refine oSub eZ eC ?_
              refine gDo (eS rfl (eS rfl (eS rfl eZ))) (decide_eq_true h18) ?_
              obtain ⟨v19, h20, H⟩ := obind H
              refine oAtD (eS rfl (eS rfl eZ)) eZ h20 ?_
              refine gDo (eS rfl (eS rfl (eS rfl (eS rfl eZ)))) (decide_eq_true h18) ?_
              refine oFaddrB (m := 0) eZ rfl ?_
              refine gDo (eS rfl (eS rfl (eS rfl (eS rfl (eS rfl eZ))))) (decide_eq_true h18) ?_
              refine oLoadB (e := (.int .i64 v19.Key)) eZ rfl ?_
              refine gDo (eS rfl (eS rfl (eS rfl (eS rfl (eS rfl (eS rfl eZ)))))) (decide_eq_true h18) ?_
              refine oFaddrN (m := 0) (eS rfl (eS rfl (eS rfl (eS rfl (eS rfl (eS rfl (eS rfl (eS rfl (eS rfl (eS rfl (eS rfl (eS rfl (eS rfl (eS rfl (eS rfl (eS rfl (eS rfl (eS rfl (eS rfl (eS rfl (eS rfl eZ))))))))))))))))))))) rfl ?_
              refine gDo (eS rfl (eS rfl (eS rfl (eS rfl (eS rfl (eS rfl (eS rfl eZ))))))) (decide_eq_true h18) ?_
              refine oLoadV (q := 0) (c := (.d (.int .i64 v7.Key))) eZ bZ rfl rfl ?_
              refine gDo (eS rfl (eS rfl (eS rfl (eS rfl (eS rfl (eS rfl (eS rfl (eS rfl eZ)))))))) (decide_eq_true h18) ?_
              refine oGeq (eS rfl (eS rfl eZ)) eZ ?_
              refine gDo (eS rfl (eS rfl (eS rfl (eS rfl (eS rfl (eS rfl (eS rfl (eS rfl (eS rfl (eS rfl (eS rfl (eS rfl eZ)))))))))))) (congrArg Bool.not h17) ?_
              refine oPickT (eS rfl (eS rfl (eS rfl (eS rfl (eS rfl (eS rfl (eS rfl (eS rfl (eS rfl eZ))))))))) (decide_eq_true h18) eZ ?_
              refine oPickF (eS rfl (eS rfl (eS rfl (eS rfl (eS rfl (eS rfl (eS rfl (eS rfl (eS rfl (eS rfl (eS rfl (eS rfl (eS rfl eZ))))))))))))) (congrArg Bool.not h17) eZ ?_
              refine xNil ?_
              exact TQ.qn ⟨(decide (v7.Key ≤ v19.Key)), H, (wk_mk [256] (SL.cons (eS rfl (eS rfl (eS rfl (eS rfl (eS rfl (eS rfl (eS rfl (eS rfl (eS rfl (eS rfl (eS rfl (eS rfl (eS rfl (eS rfl (eS rfl (eS rfl (eS rfl (eS rfl (eS rfl (eS rfl (eS rfl (eS rfl (eS rfl (eS rfl (eS rfl (eS rfl (eS rfl (eS rfl (eS rfl (eS rfl (eS rfl eZ))))))))))))))))))))))))))))))) rfl VWk.rfl (SL.cons (eS rfl (eS rfl (eS rfl (eS rfl (eS rfl (eS rfl (eS rfl (eS rfl (eS rfl (eS rfl (eS rfl (eS rfl (eS rfl (eS rfl (eS rfl (eS rfl (eS rfl (eS rfl (eS rfl (eS rfl (eS rfl (eS rfl (eS rfl (eS rfl (eS rfl (eS rfl (eS rfl (eS rfl (eS rfl (eS rfl (eS rfl (eS rfl eZ)))))))))))))))))))))))))))))))) rfl VWk.rfl (SL.cons (eS rfl (eS rfl (eS rfl (eS rfl (eS rfl (eS rfl (eS rfl (eS rfl (eS rfl (eS rfl (eS rfl (eS rfl (eS rfl (eS rfl (eS rfl (eS rfl (eS rfl (eS rfl (eS rfl (eS rfl (eS rfl (eS rfl (eS rfl (eS rfl (eS rfl (eS rfl (eS rfl (eS rfl (eS rfl (eS rfl (eS rfl (eS rfl (eS rfl eZ))))))))))))))))))))))))))))))))) rfl VWk.rfl (SL.cons (eS rfl (eS rfl (eS rfl (eS rfl (eS rfl (eS rfl (eS rfl (eS rfl (eS rfl (eS rfl (eS rfl (eS rfl (eS rfl (eS rfl (eS rfl (eS rfl (eS rfl (eS rfl (eS rfl (eS rfl (eS rfl (eS rfl (eS rfl (eS rfl (eS rfl (eS rfl (eS rfl (eS rfl (eS rfl (eS rfl (eS rfl (eS rfl (eS rfl (eS rfl eZ)))))))))))))))))))))))))))))))))) rfl VWk.rfl (SL.cons eZ rfl VWk.rfl SL.nil))))) (BL.drop rfl (BL.drop rfl BL.nil)) BK.nil)⟩
            · refine gSkip eZ (decide_eq_false h18) rfl ?_
              refine gSkip (eS rfl eZ) (decide_eq_false h18) rfl ?_
              refine gSkip (eS rfl (eS rfl eZ)) (decide_eq_false h18) rfl ?_
              refine gSkip (eS rfl (eS rfl (eS rfl eZ))) (decide_eq_false h18) rfl ?_
              refine gSkip (eS rfl (eS rfl (eS rfl (eS rfl eZ)))) (decide_eq_false h18) rfl ?_
              refine gSkip (eS rfl (eS rfl (eS rfl (eS rfl (eS rfl eZ))))) (decide_eq_false h18) rfl ?_
              refine gSkip (eS rfl (eS rfl (eS rfl (eS rfl (eS rfl (eS rfl eZ)))))) (decide_eq_false h18) rfl ?_
              refine gSkip (eS rfl (eS rfl (eS rfl (eS rfl (eS rfl (eS rfl (eS rfl eZ))))))) (decide_eq_false h18) rfl ?_
              refine gSkip (eS rfl (eS rfl (eS rfl (eS rfl (eS rfl (eS rfl (eS rfl (eS rfl eZ)))))))) (decide_eq_false h18) rfl ?_
              refine gDo (eS rfl (eS rfl (eS rfl (eS rfl (eS rfl (eS rfl (eS rfl (eS rfl (eS rfl (eS rfl (eS rfl (eS rfl eZ)))))))))))) (congrArg Bool.not h17) ?_
              refine oPickF (eS rfl (eS rfl (eS rfl (eS rfl (eS rfl (eS rfl (eS rfl (eS rfl (eS rfl eZ))))))))) (decide_eq_false h18) eC ?_
              refine oPickF (eS rfl (eS rfl (eS rfl (eS rfl (eS rfl (eS rfl (eS rfl (eS rfl (eS rfl (eS rfl (eS rfl (eS rfl (eS rfl eZ))))))))))))) (congrArg Bool.not h17) eZ ?_
              refine xNil ?_
              exact TQ.qn ⟨false, H, (wk_mk [256] (SL.cons (eS rfl (eS rfl (eS rfl (eS rfl (eS rfl (eS rfl (eS rfl (eS rfl (eS rfl (eS rfl (eS rfl (eS rfl (eS rfl (eS rfl (eS rfl (eS rfl (eS rfl (eS rfl (eS rfl (eS rfl (eS rfl (eS rfl (eS rfl (eS rfl (eS rfl (eS rfl (eS rfl (eS rfl (eS rfl (eS rfl (eS rfl eZ))))))))))))))))))))))))))))))) rfl VWk.rfl (SL.cons (eS rfl (eS rfl (eS rfl (eS rfl (eS rfl (eS rfl (eS rfl (eS rfl (eS rfl (eS rfl (eS rfl (eS rfl (eS rfl (eS rfl (eS rfl (eS rfl (eS rfl (eS rfl (eS rfl (eS rfl (eS rfl (eS rfl (eS rfl (eS rfl (eS rfl (eS rfl (eS rfl (eS rfl (eS rfl (eS rfl (eS rfl (eS rfl eZ)))))))))))))))))))))))))))))))) rfl VWk.rfl (SL.cons (eS rfl (eS rfl (eS rfl (eS rfl (eS rfl (eS rfl (eS rfl (eS rfl (eS rfl (eS rfl (eS rfl (eS rfl (eS rfl (eS rfl (eS rfl (eS rfl (eS rfl (eS rfl (eS rfl (eS rfl (eS rfl (eS rfl (eS rfl (eS rfl (eS rfl (eS rfl (eS rfl (eS rfl (eS rfl (eS rfl (eS rfl (eS rfl (eS rfl eZ))))))))))))))))))))))))))))))))) rfl VWk.rfl (SL.cons (eS rfl (eS rfl (eS rfl (eS rfl (eS rfl (eS rfl (eS rfl (eS rfl (eS rfl (eS rfl (eS rfl (eS rfl (eS rfl (eS rfl (eS rfl (eS rfl (eS rfl (eS rfl (eS rfl (eS rfl (eS rfl (eS rfl (eS rfl (eS rfl (eS rfl (eS rfl (eS rfl (eS rfl (eS rfl (eS rfl (eS rfl (eS rfl (eS rfl (eS rfl eZ)))))))))))))))))))))))))))))))))) rfl VWk.rfl (SL.cons eZ rfl VWk.rfl SL.nil))))) (BL.drop rfl (BL.drop rfl BL.nil)) BK.nil)⟩
          · refine gSkip eZ (congrArg Bool.not (nt h17)) rfl ?_
            refine gSkip (eS rfl eZ) (congrArg Bool.not (nt h17)) rfl ?_
            refine gSkip (eS rfl (eS rfl eZ)) (congrArg Bool.not (nt h17)) rfl ?_
            refine gSkipU eZ rfl ?_
            refine gSkipU (eS rfl eZ) rfl ?_
            refine gSkipU (eS rfl (eS rfl eZ)) rfl ?_
            refine gSkipU (eS rfl (eS rfl (eS rfl eZ))) rfl ?_
            refine gSkipU (eS rfl (eS rfl (eS rfl (eS rfl eZ)))) rfl ?_
            refine gSkipU (eS rfl (eS rfl (eS rfl (eS rfl (eS rfl eZ))))) rfl ?_
            refine gSkipU (eS rfl (eS rfl (eS rfl (eS rfl (eS rfl (eS rfl eZ)))))) rfl ?_
            refine gSkipU (eS rfl (eS rfl (eS rfl (eS rfl (eS rfl (eS rfl (eS rfl eZ))))))) rfl ?_
            refine gSkipU (eS rfl (eS rfl (eS rfl (eS rfl (eS rfl (eS rfl (eS rfl (eS rfl eZ)))))))) rfl ?_
            refine gSkip (eS rfl (eS rfl (eS rfl (eS rfl (eS rfl (eS rfl (eS rfl (eS rfl (eS rfl (eS rfl (eS rfl (eS rfl eZ)))))))))))) (congrArg Bool.not (nt h17)) rfl ?_
            refine oPickT (eS rfl (eS rfl (eS rfl (eS rfl (eS rfl (eS rfl (eS rfl (eS rfl (eS rfl (eS rfl (eS rfl (eS rfl (eS rfl eZ))))))))))))) (congrArg Bool.not (nt h17)) eC ?_
            refine xNil ?_
            exact TQ.qn ⟨true, H, (wk_mk [256] (SL.cons (eS rfl (eS rfl (eS rfl (eS rfl (eS rfl (eS rfl (eS rfl (eS rfl (eS rfl (eS rfl (eS rfl (eS rfl (eS rfl (eS rfl (eS rfl (eS rfl (eS rfl (eS rfl (eS rfl (eS rfl (eS rfl (eS rfl (eS rfl (eS rfl (eS rfl (eS rfl (eS rfl (eS rfl (eS rfl (eS rfl (eS rfl eZ))))))))))))))))))))))))))))))) rfl VWk.rfl (SL.cons (eS rfl (eS rfl (eS rfl (eS rfl (eS rfl (eS rfl (eS rfl (eS rfl (eS rfl (eS rfl (eS rfl (eS rfl (eS rfl (eS rfl (eS rfl (eS rfl (eS rfl (eS rfl (eS rfl (eS rfl (eS rfl (eS rfl (eS rfl (eS rfl (eS rfl (eS rfl (eS rfl (eS rfl (eS rfl (eS rfl (eS rfl (eS rfl eZ)))))))))))))))))))))))))))))))) rfl VWk.rfl (SL.cons (eS rfl (eS rfl (eS rfl (eS rfl (eS rfl (eS rfl (eS rfl (eS rfl (eS rfl (eS rfl (eS rfl (eS rfl (eS rfl (eS rfl (eS rfl (eS rfl (eS rfl (eS rfl (eS rfl (eS rfl (eS rfl (eS rfl (eS rfl (eS rfl (eS rfl (eS rfl (eS rfl (eS rfl (eS rfl (eS rfl (eS rfl (eS rfl (eS rfl eZ))))))))))))))))))))))))))))))))) rfl VWk.rfl (SL.cons (eS rfl (eS rfl (eS rfl (eS rfl (eS rfl (eS rfl (eS rfl (eS rfl (eS rfl (eS rfl (eS rfl (eS rfl (eS rfl (eS rfl (eS rfl (eS rfl (eS rfl (eS rfl (eS rfl (eS rfl (eS rfl (eS rfl (eS rfl (eS rfl (eS rfl (eS rfl (eS rfl (eS rfl (eS rfl (eS rfl (eS rfl (eS rfl (eS rfl (eS rfl eZ)))))))))))))))))))))))))))))))))) rfl VWk.rfl (SL.cons eZ rfl VWk.rfl SL.nil))))) (BL.drop rfl (BL.drop rfl BL.nil)) BK.nil)⟩
        · refine gSkip eZ (congrArg Bool.not (nt h14)) rfl ?_
          refine gSkip (eS rfl eZ) (congrArg Bool.not (nt h14)) rfl ?_
          refine gSkip (eS rfl (eS rfl eZ)) (congrArg Bool.not (nt h14)) rfl ?_
          refine gSkip (eS rfl (eS rfl (eS rfl eZ))) (congrArg Bool.not (nt h14)) rfl ?_
          refine oPickT (eS rfl (eS rfl (eS rfl (eS rfl eZ)))) (congrArg Bool.not (nt h14)) eC ?_
          refine oMov eZ ?_
          refine gSkip eZ rfl rfl ?_
          refine gSkip (eS rfl eZ) rfl rfl ?_
          refine gSkip (eS rfl (eS rfl eZ)) rfl rfl ?_
          refine gSkipU eZ rfl ?_
          refine gSkipU (eS rfl eZ) rfl ?_
          refine gSkipU (eS rfl (eS rfl eZ)) rfl ?_
          refine gSkipU (eS rfl (eS rfl (eS rfl eZ))) rfl ?_
          refine gSkipU (eS rfl (eS rfl (eS rfl (eS rfl eZ)))) rfl ?_
          refine gSkipU (eS rfl (eS rfl (eS rfl (eS rfl (eS rfl eZ))))) rfl ?_
          refine gSkipU (eS rfl (eS rfl (eS rfl (eS rfl (eS rfl (eS rfl eZ)))))) rfl ?_
          refine gSkipU (eS rfl (eS rfl (eS rfl (eS rfl (eS rfl (eS rfl (eS rfl eZ))))))) rfl ?_
          refine gSkipU (eS rfl (eS rfl (eS rfl (eS rfl (eS rfl (eS rfl (eS rfl (eS rfl eZ)))))))) rfl ?_
          refine gSkip (eS rfl (eS rfl (eS rfl (eS rfl (eS rfl (eS rfl (eS rfl (eS rfl (eS rfl (eS rfl (eS rfl (eS rfl eZ)))))))))))) rfl rfl ?_
          refine oPickT (eS rfl (eS rfl (eS rfl (eS rfl (eS rfl (eS rfl (eS rfl (eS rfl (eS rfl (eS rfl (eS rfl (eS rfl (eS rfl eZ))))))))))))) rfl eC ?_
          refine xNil ?_
          exact TQ.qn ⟨true, H, (wk_mk [256] (SL.cons (eS rfl (eS rfl (eS rfl (eS rfl (eS rfl (eS rfl (eS rfl (eS rfl (eS rfl (eS rfl (eS rfl (eS rfl (eS rfl (eS rfl (eS rfl (eS rfl (eS rfl (eS rfl (eS rfl (eS rfl (eS rfl (eS rfl (eS rfl (eS rfl (eS rfl (eS rfl (eS rfl (eS rfl (eS rfl (eS rfl (eS rfl eZ))))))))))))))))))))))))))))))) rfl VWk.rfl (SL.cons (eS rfl (eS rfl (eS rfl (eS rfl (eS rfl (eS rfl (eS rfl (eS rfl (eS rfl (eS rfl (eS rfl (eS rfl (eS rfl (eS rfl (eS rfl (eS rfl (eS rfl (eS rfl (eS rfl (eS rfl (eS rfl (eS rfl (eS rfl (eS rfl (eS rfl (eS rfl (eS rfl (eS rfl (eS rfl (eS rfl (eS rfl (eS rfl eZ)))))))))))))))))))))))))))))))) rfl VWk.rfl (SL.cons (eS rfl (eS rfl (eS rfl (eS rfl (eS rfl (eS rfl (eS rfl (eS rfl (eS rfl (eS rfl (eS rfl (eS rfl (eS rfl (eS rfl (eS rfl (eS rfl (eS rfl (eS rfl (eS rfl (eS rfl (eS rfl (eS rfl (eS rfl (eS rfl (eS rfl (eS rfl (eS rfl (eS rfl (eS rfl (eS rfl (eS rfl (eS rfl (eS rfl eZ))))))))))))))))))))))))))))))))) rfl VWk.rfl (SL.cons (eS rfl (eS rfl (eS rfl (eS rfl (eS rfl (eS rfl (eS rfl (eS rfl (eS rfl (eS rfl (eS rfl (eS rfl (eS rfl (eS rfl (eS rfl (eS rfl (eS rfl (eS rfl (eS rfl (eS rfl (eS rfl (eS rfl (eS rfl (eS rfl (eS rfl (eS rfl (eS rfl (eS rfl (eS rfl (eS rfl (eS rfl (eS rfl (eS rfl (eS rfl eZ)))))))))))))))))))))))))))))))))) rfl VWk.rfl (SL.cons eZ rfl VWk.rfl SL.nil))))) (BL.drop rfl (BL.drop rfl BL.nil)) BK.nil)⟩
    · refine AW.condF eZ (decide_eq_false h6) ?_
      refine AW.exit ?_
      refine TQ.qe ?_
      refine TQ.qe ?_
      refine BQ.qe ?_
      exact TQ.qn ⟨(), H, (wk_mk [] (SL.cons (eS rfl eZ) rfl VWk.rfl SL.nil) BL.nil BK.nil)⟩

theorem c_impl_Range_has {a1 : TRange} {a2 : Int} {r : Bool} (H : m_impl_Range_has a1 a2 = some r) : Fn Try.prog k__impl_Range_has (lent [(.agg (d_TRange a1)), (.int .i64 a2)]) true [(.bool r)] := by
  refine i__impl_Range_has_fn (Nat.le_of_ble_eq_true rfl) ?_
  rw [init_mk]
  refine AW.weaken (wk_mk [] (SL.cons (v := (.agg [(.d (.int .i64 a1.Lo)), (.d (.int .i64 a1.Hi))])) eZ rfl VWk.rfl (SL.cons (v := (.one (.d (.int .i64 a2)))) (eS rfl eZ) rfl VWk.rfl SL.nil)) BL.nil BK.nil) ?_
  unfold m_impl_Range_has at H
  unfold i__impl_Range_has
  refine AW.seq ?_
  refine AW.regs ?_
  refine oBox (n := 128) (m := 2) (cs := [(.d (.int .i64 a1.Lo)), (.d (.int .i64 a1.Hi))]) rfl eZ rfl rfl nZ ?_
  refine oMov eC ?_
  refine xNil ?_
  refine TQ.qn ?_
  refine AW.seq ?_
  refine AW.regs ?_
  refine oMov (eS rfl (eS rfl (eS rfl eZ))) ?_
  refine oFaddrN (m := 0) (eS rfl (eS rfl eZ)) rfl ?_
  refine oLoadV (q := 0) (c := (.d (.int .i64 a1.Lo))) eZ bZ rfl rfl ?_
  refine oFaddrN (m := 1) (eS rfl (eS rfl (eS rfl (eS rfl eZ)))) rfl ?_
  refine oLoadV (q := 1) (c := (.d (.int .i64 a1.Hi))) eZ bZ rfl rfl ?_
  refine oSub eZ eC ?_
  obtain ⟨v3, h4, H⟩ := obind H
  refine oCall (u := (.one (.d (.bool v3)))) eC Cl.fn (c_impl_from h4) (Evs.cons (eS rfl (eS rfl (eS rfl (eS rfl (eS rfl eZ))))) (Evs.cons (eS rfl (eS rfl (eS rfl eZ))) (Evs.cons eZ Evs.nil))) (VDs.cons VD.plain (VDs.cons VD.plain (VDs.cons VD.plain VDs.nil))) rfl ?_
  refine oMov eZ ?_
  refine xNil ?_
  refine TQ.qn ?_
  refine AW.ret ?_
  obtain rfl := Option.some.inj H
  exact endsR (RL.cons (RV.tmp eZ) (VO.flat rfl) RL.nil) List.nodup_nil

theorem c_impl_cellsIn_1 {a1 : TCell} {a2 : TRange} {r : Bool} (H : m_impl_cellsIn_1 a1 a2 = some r) : Fn Try.prog k_impl_cellsIn_1 (lent [(.agg (d_TCell a1)), (.ptr (d_TRange a2))]) true [(.bool r)] := by
  refine i_impl_cellsIn_1_fn (Nat.le_of_ble_eq_true rfl) ?_
  rw [init_mk]
  refine AW.weaken (wk_mk [] (SL.cons (v := (.agg [(.d (.int .i64 a1.Key)), (.d (.int .i64 a1.Value))])) eZ rfl VWk.rfl (SL.cons (v := (.one (.ptr (.bd (d_TRange a2) 0)))) (eS rfl eZ) rfl (VWk.one CWk.ptr) SL.nil)) BL.nil BK.nil) ?_
  unfold m_impl_cellsIn_1 at H
  unfold i_impl_cellsIn_1
  refine AW.seq ?_
  refine AW.regs ?_
  refine oBox (n := 128) (m := 2) (cs := [(.d (.int .i64 a1.Key)), (.d (.int .i64 a1.Value))]) rfl eZ rfl rfl nZ ?_
  refine oMov eC ?_
  refine xNil ?_
  refine TQ.qn ?_
  refine AW.seq ?_
  refine AW.regs ?_
  refine oLoadBA (es := [(.d (.int .i64 a2.Lo)), (.d (.int .i64 a2.Hi))]) (eS rfl (eS rfl (eS rfl eZ))) rfl ?_
  refine oFaddrN (m := 0) (eS rfl (eS rfl eZ)) rfl ?_
  refine oLoadV (q := 0) (c := (.d (.int .i64 a1.Key))) eZ bZ rfl rfl ?_
  obtain ⟨v3, h4, H⟩ := obind H
  refine oCall (u := (.one (.d (.bool v3)))) eC Cl.fn (c_impl_Range_has h4) (Evs.cons (eS rfl (eS rfl eZ)) (Evs.cons eZ Evs.nil)) (VDs.cons (VD.agg rfl) (VDs.cons VD.plain VDs.nil)) rfl ?_
  refine oInv eZ ?_
  refine oMov eZ ?_
  refine xNil ?_
  refine TQ.qn ?_
  refine AW.ret ?_
  obtain rfl := Option.some.inj H
  exact endsR (RL.cons (RV.tmp eZ) (VO.flat rfl) RL.nil) List.nodup_nil

theorem c_slices_IndexFunc_Cell__cellsIn_1 {a1 : (List TCell)} {a2 : TRange} {r : Int} (H : m_slices_IndexFunc_Cell__cellsIn_1 a1 a2 = some r) : Fn Try.prog k_slices_IndexFunc___impl_Cell_impl_Cell_ (lent [(.sl 2 (List.map d_TCell a1)), (.fn k_impl_cellsIn_1 [.ptr (d_TRange a2)])]) true [(.int .i64 r)] := by
  refine i_slices_IndexFunc___impl_Cell_impl_Cell__fn (Nat.le_of_ble_eq_true rfl) ?_
  rw [init_mk]
  refine AW.weaken (wk_mk [] (SL.cons (v := (.one (.d (.sl 2 (List.map d_TCell a1))))) eZ rfl VWk.rfl (SL.cons (v := (.one (.fn k_impl_cellsIn_1 [(.bd (d_TRange a2) 0)]))) (eS rfl eZ) rfl (VWk.one (CWk.fn (css := [d_TRange a2]))) SL.nil)) BL.nil BK.nil) ?_
  unfold m_slices_IndexFunc_Cell__cellsIn_1 at H
  unfold i_slices_IndexFunc___impl_Cell_impl_Cell_
  refine AW.seq ?_
  refine AW.regs ?_
  refine oMov eC ?_
  refine xNil ?_
  refine TQ.qn ?_
  refine AW.seqJ (fun t3 : Unit => slices_IndexFunc_Cell__cellsIn_1_j3 t3 = some r) (fun t3 => mk [] [] noG) ?_ ?_
  · intro t3 H
    unfold slices_IndexFunc_Cell__cellsIn_1_j3 at H
    refine AW.seq ?_
    refine AW.regs ?_
    refine oMov eC ?_
    refine xNil ?_
    refine TQ.qn ?_
    refine AW.ret ?_
    obtain rfl := Option.some.inj H
    exact endsR (RL.cons (RV.tmp eZ) (VO.flat rfl) RL.nil) List.nodup_nil
  · refine AW.seq ?_
    refine AW.regs ?_
    refine oMov (eS rfl eZ) ?_
    refine oLenD eZ (n := a1.length) (List.length_map _) ?_
    refine oMov eC ?_
    refine xNil ?_
    refine TQ.qn ?_
    refine AW.block ?_
    refine AW.iter (fun s5 : Int => mk [(0, (.one (.d (.sl 2 (List.map d_TCell a1))))), (1, (.one (.fn k_impl_cellsIn_1 [(.bd (d_TRange a2) 0)]))), (7, (.one (.d (.int .i64 (a1.length : Int))))), (8, (.one (.d (.int .i64 s5))))] [] noG) H (wk_mk [] (SL.cons (eS rfl (eS rfl (eS rfl (eS rfl eZ)))) rfl VWk.rfl (SL.cons (eS rfl (eS rfl (eS rfl (eS rfl (eS rfl eZ))))) rfl VWk.rfl (SL.cons (eS rfl eZ) rfl VWk.rfl (SL.cons eZ rfl VWk.rfl SL.nil)))) BL.nil BK.nil) ?_
    intro kb6 s5 H
    unfold slices_IndexFunc_Cell__cellsIn_1_b5 at H
    refine AW.seq ?_
    refine AW.regs ?_
    refine oLss (eS rfl (eS rfl (eS rfl eZ))) (eS rfl (eS rfl eZ)) ?_
    refine xNil ?_
    refine TQ.qn ?_
    refine AW.seq ?_
    rcases oite H with ⟨h7, H⟩ | ⟨h7, H⟩
    · refine AW.condT eZ (decide_eq_true h7) ?_
      refine AW.skip ?_
      refine TQ.qn ?_
      refine AW.seq ?_
      refine AW.block ?_
      refine AW.seq ?_
      refine AW.regs ?_
      refine oMov (eS rfl (eS rfl (eS rfl (eS rfl eZ)))) ?_
      refine oMov eZ ?_
      refine xNil ?_
      refine TQ.qn ?_
      refine AW.seq ?_
      refine AW.regs ?_
      refine oMov (eS rfl (eS rfl (eS rfl (eS rfl eZ)))) ?_
      refine oMov (eS rfl (eS rfl (eS rfl (eS rfl eZ)))) ?_
      refine oMov (eS rfl (eS rfl eZ)) ?_
      obtain ⟨v8, h9, H⟩ := obind H
      refine oAtD (eS rfl eZ) eZ h9 ?_
      refine oLoadBA (es := [(.d (.int .i64 v8.Key)), (.d (.int .i64 v8.Value))]) eZ rfl ?_
      obtain ⟨v10, h11, H⟩ := obind H
      refine oCall (u := (.one (.d (.bool v10)))) (eS rfl (eS rfl (eS rfl (eS rfl eZ)))) Cl.fn (c_impl_cellsIn_1 h11) (Evs.cons eZ Evs.nil) (VDs.cons (VD.agg rfl) (VDs.cons VD.ptrB VDs.nil)) rfl ?_
      refine xNil ?_
      refine TQ.qn ?_
      rcases oite H with ⟨h12, H⟩ | ⟨h12, H⟩
      · refine AW.condT eZ h12 ?_
        refine AW.seq ?_
        refine AW.regs ?_
        refine oMov (eS rfl (eS rfl (eS rfl (eS rfl (eS rfl (eS rfl eZ)))))) ?_
        refine oMov eZ ?_
        refine xNil ?_
        refine TQ.qn ?_
        refine AW.ret ?_
        refine BQ.qr ?_
        refine TQ.qr ?_
        refine TQ.qr ?_
        refine BQ.qr ?_
        refine TQ.qr ?_
        obtain rfl := Option.some.inj H
        exact endsR (RL.cons (RV.tmp eZ) (VO.flat rfl) RL.nil) List.nodup_nil
      · refine AW.condF eZ (nt h12) ?_
        refine AW.skip ?_
        refine BQ.qn ?_
        refine TQ.qn ?_
        refine AW.regs ?_
        refine oAdd (eS rfl (eS rfl (eS rfl (eS rfl (eS rfl (eS rfl (eS rfl (eS rfl (eS rfl (eS rfl (eS rfl (eS rfl eZ)))))))))))) eC ?_
        refine oMov eZ ?_
        refine xNil ?_
        exact TQ.qn ⟨(IntKind.wrap .i64 (s5 + 1)), H, (wk_mk [] (SL.cons (eS rfl (eS rfl (eS rfl (eS rfl (eS rfl (eS rfl (eS rfl (eS rfl (eS rfl (eS rfl (eS rfl eZ))))))))))) rfl VWk.rfl (SL.cons (eS rfl (eS rfl (eS rfl (eS rfl (eS rfl (eS rfl (eS rfl (eS rfl (eS rfl (eS rfl (eS rfl (eS rfl eZ)))))))))))) rfl VWk.rfl (SL.cons (eS rfl (eS rfl (eS rfl (eS rfl (eS rfl (eS rfl (eS rfl (eS rfl (eS rfl (eS rfl (eS rfl (eS rfl (eS rfl eZ))))))))))))) rfl VWk.rfl (SL.cons eZ rfl VWk.rfl SL.nil)))) BL.nil BK.nil)⟩
    · refine AW.condF eZ (decide_eq_false h7) ?_
      refine AW.exit ?_
      refine TQ.qe ?_
      refine TQ.qe ?_
      refine BQ.qe ?_
      exact TQ.qn ⟨(), H, (wk_mk [] SL.nil BL.nil BK.nil)⟩

theorem c_slices_ContainsFunc_Cell__cellsIn_1 {a1 : (List TCell)} {a2 : TRange} {r : Bool} (H : m_slices_ContainsFunc_Cell__cellsIn_1 a1 a2 = some r) : Fn Try.prog k_slices_ContainsFunc___impl_Cell_impl_Cell_ (lent [(.sl 2 (List.map d_TCell a1)), (.fn k_impl_cellsIn_1 [.ptr (d_TRange a2)])]) true [(.bool r)] := by
  refine i_slices_ContainsFunc___impl_Cell_impl_Cell__fn (Nat.le_of_ble_eq_true rfl) ?_
  rw [init_mk]
  refine AW.weaken (wk_mk [] (SL.cons (v := (.one (.d (.sl 2 (List.map d_TCell a1))))) eZ rfl VWk.rfl (SL.cons (v := (.one (.fn k_impl_cellsIn_1 [(.bd (d_TRange a2) 0)]))) (eS rfl eZ) rfl (VWk.one (CWk.fn (css := [d_TRange a2]))) SL.nil)) BL.nil BK.nil) ?_
  unfold m_slices_ContainsFunc_Cell__cellsIn_1 at H
  unfold i_slices_ContainsFunc___impl_Cell_impl_Cell_
  refine AW.seq ?_
  refine AW.regs ?_
  refine oMov eC ?_
  refine xNil ?_
  refine TQ.qn ?_
  refine AW.seq ?_
  refine AW.regs ?_
  refine oMov (eS rfl eZ) ?_
  refine oMov (eS rfl (eS rfl (eS rfl eZ))) ?_
  obtain ⟨v3, h4, H⟩ := obind H
  refine oCall (u := (.one (.d (.int .i64 v3)))) eC Cl.fn (c_slices_IndexFunc_Cell__cellsIn_1 h4) (Evs.cons (eS rfl eZ) (Evs.cons eZ Evs.nil)) (VDs.cons VD.plain (VDs.cons (VD.fn (PDs.cons VD.ptrB PDs.nil)) VDs.nil)) rfl ?_
  refine oGeq eZ eC ?_
  refine oMov eZ ?_
  refine xNil ?_
  refine TQ.qn ?_
  refine AW.ret ?_
  obtain rfl := Option.some.inj H
  exact endsR (RL.cons (RV.tmp eZ) (VO.flat rfl) RL.nil) List.nodup_nil

theorem c_impl_cellsIn {a1 : (List TCell)} {a2 : TRange} {r : Bool} (H : m_impl_cellsIn a1 a2 = some r) : Fn Try.prog k_impl_cellsIn (lent [(.sl 2 (List.map d_TCell a1)), (.agg (d_TRange a2))]) true [(.bool r)] := by
  refine i_impl_cellsIn_fn (Nat.le_of_ble_eq_true rfl) ?_
  rw [init_mk]
  refine AW.weaken (wk_mk [] (SL.cons (v := (.one (.d (.sl 2 (List.map d_TCell a1))))) eZ rfl VWk.rfl (SL.cons (v := (.agg [(.d (.int .i64 a2.Lo)), (.d (.int .i64 a2.Hi))])) (eS rfl eZ) rfl VWk.rfl SL.nil)) BL.nil BK.nil) ?_
  unfold m_impl_cellsIn at H
  unfold i_impl_cellsIn
  refine AW.seq ?_
  refine AW.regs ?_
  refine oBox (n := 192) (m := 2) (cs := [(.d (.int .i64 a2.Lo)), (.d (.int .i64 a2.Hi))]) rfl (eS rfl eZ) rfl rfl nZ ?_
  refine oMov eC ?_
  refine xNil ?_
  refine TQ.qn ?_
  refine AW.seq ?_
  refine AW.regs ?_
  refine oMov (eS rfl (eS rfl eZ)) ?_
  obtain ⟨v3, h4, H⟩ := obind H
  refine oCall (u := (.one (.d (.bool v3)))) eC Cl.fn (c_impl_StoreOk h4) (Evs.cons eZ Evs.nil) (VDs.cons VD.plain VDs.nil) rfl ?_
  refine oMov eZ ?_
  rcases oite H with ⟨h5, H⟩ | ⟨h5, H⟩
  · refine gDo eZ h5 ?_
    refine oMov (eS rfl (eS rfl (eS rfl (eS rfl (eS rfl eZ))))) ?_
    refine gDo (eS rfl eZ) h5 ?_
    refine oMkfn (ps := [(.nm 192 0 0)]) (Evs.cons (eS rfl (eS rfl (eS rfl (eS rfl (eS rfl eZ))))) Evs.nil) ?_
    refine gDo (eS rfl (eS rfl eZ)) h5 ?_
    obtain ⟨v6, h7, H⟩ := obind H
    refine oCall (u := (.one (.d (.bool v6)))) eC Cl.fn (c_slices_ContainsFunc_Cell__cellsIn_1 h7) (Evs.cons (eS rfl eZ) (Evs.cons eZ Evs.nil)) (VDs.cons VD.plain (VDs.cons (VD.fn (PDs.cons (VD.ptrN bZ (CDs.plain (CDs.plain CDs.nil))) PDs.nil)) VDs.nil)) rfl ?_
    refine gDo (eS rfl (eS rfl (eS rfl eZ))) h5 ?_
    refine oInv eZ ?_
    refine oPickT (eS rfl (eS rfl (eS rfl (eS rfl eZ)))) h5 eZ ?_
    refine oMov eZ ?_
    refine xNil ?_
    refine TQ.qn ?_
    refine AW.ret ?_
    obtain rfl := Option.some.inj H
    exact endsR (RL.cons (RV.tmp eZ) (VO.flat rfl) RL.nil) List.nodup_nil
  · refine gSkip eZ (nt h5) rfl ?_
    refine gSkip (eS rfl eZ) (nt h5) rfl ?_
    refine gSkip (eS rfl (eS rfl eZ)) (nt h5) rfl ?_
    refine gSkip (eS rfl (eS rfl (eS rfl eZ))) (nt h5) rfl ?_
    refine oPickF (eS rfl (eS rfl (eS rfl (eS rfl eZ)))) (nt h5) eC ?_
    refine oMov eZ ?_
    refine xNil ?_
    refine TQ.qn ?_
    refine AW.ret ?_
    obtain rfl := Option.some.inj H
    exact endsR (RL.cons (RV.tmp eZ) (VO.flat rfl) RL.nil) List.nodup_nil

theorem c_impl_moveOk {a1 : TMove} {r : Bool} (H : m_impl_moveOk a1 = some r) : Fn Try.prog k_impl_moveOk (lent [(.agg (d_TMove a1))]) true [(.bool r)] := by
  refine i_impl_moveOk_fn (Nat.le_of_ble_eq_true rfl) ?_
  rw [init_mk]
  refine AW.weaken (wk_mk [] (SL.cons (v := (.agg [(.d (.int .i64 a1.No)), (.d (.int .i64 a1.Stage)), (.d (.int .i64 a1.Lo)), (.d (.int .i64 a1.Hi)), (.d (.int .i64 a1.From)), (.d (.int .i64 a1.To)), (.d (.sl 2 (List.map d_TCell a1.Cells)))])) eZ rfl VWk.rfl SL.nil) BL.nil BK.nil) ?_
  unfold m_impl_moveOk at H
  unfold i_impl_moveOk
  refine AW.seq ?_
  refine AW.regs ?_
  refine oBox (n := 64) (m := 7) (cs := [(.d (.int .i64 a1.No)), (.d (.int .i64 a1.Stage)), (.d (.int .i64 a1.Lo)), (.d (.int .i64 a1.Hi)), (.d (.int .i64 a1.From)), (.d (.int .i64 a1.To)), (.d (.sl 2 (List.map d_TCell a1.Cells)))]) rfl eZ rfl rfl nZ ?_
  refine oMov eC ?_
  refine xNil ?_
  refine TQ.qn ?_
  refine AW.seq ?_
  refine AW.seqJ (fun t2 : Bool => (impl_moveOk_j2 a1) t2 = some r) (fun t2 => mk [(1, (.one (.ptr (.nm 64 0 0)))), (12, (.one (.d (.bool t2))))] [(64, (.vars 7 [(.d (.int .i64 a1.No)), (.d (.int .i64 a1.Stage)), (.d (.int .i64 a1.Lo)), (.d (.int .i64 a1.Hi)), (.d (.int .i64 a1.From)), (.d (.int .i64 a1.To)), (.d (.sl 2 (List.map d_TCell a1.Cells)))]))] noG) ?_ ?_
  · intro t2 H
    unfold impl_moveOk_j2 at H
    rcases oite H with ⟨h4, H⟩ | ⟨h4, H⟩
    · refine AW.condT (eS rfl eZ) h4 ?_
      refine AW.seq ?_
      refine AW.regs ?_
      refine oMov eC ?_
      refine xNil ?_
      refine TQ.qn ?_
      refine AW.ret ?_
      refine TQ.qr ?_
      obtain rfl := Option.some.inj H
      exact endsR (RL.cons (RV.tmp eZ) (VO.flat rfl) RL.nil) List.nodup_nil
    · refine AW.condF (eS rfl eZ) (nt h4) ?_
      refine AW.skip ?_
      refine TQ.qn ?_
      refine AW.seq ?_
      refine AW.seq ?_
      refine AW.regs ?_
      refine oFaddrN (m := 1) eZ rfl ?_
      refine oLoadV (q := 1) (c := (.d (.int .i64 a1.Stage))) eZ bZ rfl rfl ?_
      refine oEql eZ eC ?_
      refine xNil ?_
      refine TQ.qn ?_
      rcases oite H with ⟨h5, H⟩ | ⟨h5, H⟩
      · refine AW.condT eZ (decide_eq_true h5) ?_
        refine AW.seq ?_
        refine AW.regs ?_
        refine oFaddrN (m := 2) (eS rfl (eS rfl (eS rfl eZ))) rfl ?_
        refine oLoadV (q := 2) (c := (.d (.int .i64 a1.Lo))) eZ bZ rfl rfl ?_
        refine oEql eZ eC ?_
        refine oMov eZ ?_
        rcases oite H with ⟨h6, H⟩ | ⟨h6, H⟩
        · refine gDo eZ (decide_eq_true h6) ?_
          refine oFaddrN (m := 3) (eS rfl (eS rfl (eS rfl (eS rfl (eS rfl (eS rfl (eS rfl eZ))))))) rfl ?_
          refine gDo (eS rfl eZ) (decide_eq_true h6) ?_
          refine oLoadV (q := 3) (c := (.d (.int .i64 a1.Hi))) eZ bZ rfl rfl ?_
          refine gDo (eS rfl (eS rfl eZ)) (decide_eq_true h6) ?_
          refine oEql eZ eC ?_
          refine oPickT (eS rfl (eS rfl (eS rfl eZ))) (decide_eq_true h6) eZ ?_
          refine oMov eZ ?_
          rcases oite H with ⟨h7, H⟩ | ⟨h7, H⟩
          · refine gDo eZ (decide_eq_true h7) ?_
            refine oFaddrN (m := 4) (eS rfl (eS rfl (eS rfl (eS rfl (eS rfl (eS rfl (eS rfl (eS rfl (eS rfl (eS rfl (eS rfl (eS rfl eZ)))))))))))) rfl ?_
            refine gDo (eS rfl eZ) (decide_eq_true h7) ?_
            refine oLoadV (q := 4) (c := (.d (.int .i64 a1.From))) eZ bZ rfl rfl ?_
            refine gDo (eS rfl (eS rfl eZ)) (decide_eq_true h7) ?_
            refine oEql eZ eC ?_
            refine oPickT (eS rfl (eS rfl (eS rfl eZ))) (decide_eq_true h7) eZ ?_
            refine oMov eZ ?_
            rcases oite H with ⟨h8, H⟩ | ⟨h8, H⟩
            · refine gDo eZ (decide_eq_true h8) ?_
              refine oFaddrN (m := 5) (eS rfl (eS rfl (eS rfl (eS rfl (eS rfl (eS rfl (eS rfl (eS rfl (eS rfl (eS rfl (eS rfl (eS rfl (eS rfl (eS rfl (eS rfl (eS rfl (eS rfl eZ))))))))))))))))) rfl ?_
              refine gDo (eS rfl eZ) (decide_eq_true h8) ?_
              refine oLoadV (q := 5) (c := (.d (.int .i64 a1.To))) eZ bZ rfl rfl ?_
              refine gDo (eS rfl (eS rfl eZ)) (decide_eq_true h8) ?_
              refine oEql eZ eC ?_
              refine oPickT (eS rfl (eS rfl (eS rfl eZ))) (decide_eq_true h8) eZ ?_
              refine oMov eZ ?_
              rcases oite H with ⟨h9, H⟩ | ⟨h9, H⟩
              · refine gDo eZ (decide_eq_true h9) ?_
                refine oFaddrN (m := 6) (eS rfl (eS rfl (eS rfl (eS rfl (eS rfl (eS rfl (eS rfl (eS rfl (eS rfl (eS rfl (eS rfl (eS rfl (eS rfl (eS rfl (eS rfl (eS rfl (eS rfl (eS rfl (eS rfl (eS rfl (eS rfl (eS rfl eZ)))))))))))))))))))))) rfl ?_
                refine gDo (eS rfl eZ) (decide_eq_true h9) ?_
                refine oLoadV (q := 6) (c := (.d (.sl 2 (List.map d_TCell a1.Cells)))) eZ bZ rfl rfl ?_
                refine gDo (eS rfl (eS rfl eZ)) (decide_eq_true h9) ?_
                refine oLenD eZ (n := a1.Cells.length) (List.length_map _) ?_
                refine gDo (eS rfl (eS rfl (eS rfl eZ))) (decide_eq_true h9) ?_
                refine oEql eZ eC ?_
                refine oPickT (eS rfl (eS rfl (eS rfl (eS rfl eZ)))) (decide_eq_true h9) eZ ?_
                refine oMov eZ ?_
                refine xNil ?_
                refine TQ.qn ?_
                refine AW.weaken (wk_mk [64] (SL.cons (k := 2) eZ rfl VWk.rfl SL.nil) (BL.drop rfl BL.nil) BK.nil) ?_
                refine AW.ret ?_
                refine TQ.qr ?_
                obtain rfl := Option.some.inj H
                exact endsR (RL.cons (RV.tmp eZ) (VO.flat rfl) RL.nil) List.nodup_nil
              · refine gSkip eZ (decide_eq_false h9) rfl ?_
                refine gSkip (eS rfl eZ) (decide_eq_false h9) rfl ?_
                refine gSkip (eS rfl (eS rfl eZ)) (decide_eq_false h9) rfl ?_
                refine gSkip (eS rfl (eS rfl (eS rfl eZ))) (decide_eq_false h9) rfl ?_
                refine oPickF (eS rfl (eS rfl (eS rfl (eS rfl eZ)))) (decide_eq_false h9) eC ?_
                refine oMov eZ ?_
                refine xNil ?_
                refine TQ.qn ?_
                refine AW.weaken (wk_mk [64] (SL.cons (k := 2) eZ rfl VWk.rfl SL.nil) (BL.drop rfl BL.nil) BK.nil) ?_
                refine AW.ret ?_
                refine TQ.qr ?_
                obtain rfl := Option.some.inj H
                exact endsR (RL.cons (RV.tmp eZ) (VO.flat rfl) RL.nil) List.nodup_nil
            · refine gSkip eZ (decide_eq_false h8) rfl ?_
              refine gSkip (eS rfl eZ) (decide_eq_false h8) rfl ?_
              refine gSkip (eS rfl (eS rfl eZ)) (decide_eq_false h8) rfl ?_
              refine oPickF (eS rfl (eS rfl (eS rfl eZ))) (decide_eq_false h8) eC ?_
              refine oMov eZ ?_
              refine gSkip eZ rfl rfl ?_
              refine gSkip (eS rfl eZ) rfl rfl ?_
              refine gSkip (eS rfl (eS rfl eZ)) rfl rfl ?_
              refine gSkip (eS rfl (eS rfl (eS rfl eZ))) rfl rfl ?_
              refine oPickF (eS rfl (eS rfl (eS rfl (eS rfl eZ)))) rfl eC ?_
              refine oMov eZ ?_
              refine xNil ?_
              refine TQ.qn ?_
              refine AW.weaken (wk_mk [64] (SL.cons (k := 2) eZ rfl VWk.rfl SL.nil) (BL.drop rfl BL.nil) BK.nil) ?_
              refine AW.ret ?_
              refine TQ.qr ?_
              obtain rfl := Option.some.inj H
              exact endsR (RL.cons (RV.tmp eZ) (VO.flat rfl) RL.nil) List.nodup_nil
          · refine gSkip eZ (decide_eq_false h7) rfl ?_
            refine gSkip (eS rfl eZ) (decide_eq_false h7) rfl ?_
            refine gSkip (eS rfl (eS rfl eZ)) (decide_eq_false h7) rfl ?_
            refine oPickF (eS rfl (eS rfl (eS rfl eZ))) (decide_eq_false h7) eC ?_
            refine oMov eZ ?_
            refine gSkip eZ rfl rfl ?_
            refine gSkip (eS rfl eZ) rfl rfl ?_
            refine gSkip (eS rfl (eS rfl eZ)) rfl rfl ?_
            refine oPickF (eS rfl (eS rfl (eS rfl eZ))) rfl eC ?_
            refine oMov eZ ?_
            refine gSkip eZ rfl rfl ?_
            refine gSkip (eS rfl eZ) rfl rfl ?_
            refine gSkip (eS rfl (eS rfl eZ)) rfl rfl ?_
            refine gSkip (eS rfl (eS rfl (eS rfl eZ))) rfl rfl ?_
            refine oPickF (eS rfl (eS rfl (eS rfl (eS rfl eZ)))) rfl eC ?_
            refine oMov eZ ?_
            refine xNil ?_
            refine TQ.qn ?_
            refine AW.weaken (wk_mk [64] (SL.cons (k := 2) eZ rfl VWk.rfl SL.nil) (BL.drop rfl BL.nil) BK.nil) ?_
            refine AW.ret ?_
            refine TQ.qr ?_
            obtain rfl := Option.some.inj H
            exact endsR (RL.cons (RV.tmp eZ) (VO.flat rfl) RL.nil) List.nodup_nil
        · refine gSkip eZ (decide_eq_false h6) rfl ?_
          refine gSkip (eS rfl eZ) (decide_eq_false h6) rfl ?_
          refine gSkip (eS rfl (eS rfl eZ)) (decide_eq_false h6) rfl ?_
          refine oPickF (eS rfl (eS rfl (eS rfl eZ))) (decide_eq_false h6) eC ?_
          refine oMov eZ ?_
          refine gSkip eZ rfl rfl ?_
          refine gSkip (eS rfl eZ) rfl rfl ?_
          refine gSkip (eS rfl (eS rfl eZ)) rfl rfl ?_
          refine oPickF (eS rfl (eS rfl (eS rfl eZ))) rfl eC ?_
          refine oMov eZ ?_
          refine gSkip eZ rfl rfl ?_
          refine gSkip (eS rfl eZ) rfl rfl ?_
          refine gSkip (eS rfl (eS rfl eZ)) rfl rfl ?_
          refine oPickF (eS rfl (eS rfl (eS rfl eZ))) rfl eC ?_
          refine oMov eZ ?_
          refine gSkip eZ rfl rfl ?_
          refine gSkip (eS rfl eZ) rfl rfl ?_
          refine gSkip (eS rfl (eS rfl eZ)) rfl rfl ?_
          refine gSkip (eS rfl (eS rfl (eS rfl eZ))) rfl rfl ?_
          refine oPickF (eS rfl (eS rfl (eS rfl (eS rfl eZ)))) rfl eC ?_
          refine oMov eZ ?_
          refine xNil ?_
          refine TQ.qn ?_
          refine AW.weaken (wk_mk [64] (SL.cons (k := 2) eZ rfl VWk.rfl SL.nil) (BL.drop rfl BL.nil) BK.nil) ?_
          refine AW.ret ?_
          refine TQ.qr ?_
          obtain rfl := Option.some.inj H
          exact endsR (RL.cons (RV.tmp eZ) (VO.flat rfl) RL.nil) List.nodup_nil
      · refine AW.condF eZ (decide_eq_false h5) ?_
        refine AW.skip ?_
        refine TQ.qn ?_
        refine AW.seq ?_
        refine AW.regd ?_
        refine oFaddrN (m := 0) (eS rfl (eS rfl (eS rfl eZ))) rfl ?_
        refine oLoadV (q := 0) (c := (.d (.int .i64 a1.No))) eZ bZ rfl rfl ?_
        refine oGeq eZ eC ?_
        refine oMov eZ ?_
        rcases oite H with ⟨h10, H⟩ | ⟨h10, H⟩
        · refine gDo eZ (decide_eq_true h10) ?_
          refine oLoadVA (es := [(.d (.int .i64 a1.No)), (.d (.int .i64 a1.Stage)), (.d (.int .i64 a1.Lo)), (.d (.int .i64 a1.Hi)), (.d (.int .i64 a1.From)), (.d (.int .i64 a1.To)), (.d (.sl 2 (List.map d_TCell a1.Cells)))]) (eS rfl (eS rfl (eS rfl (eS rfl (eS rfl (eS rfl (eS rfl eZ))))))) bZ rfl ?_
          refine gDo (eS rfl eZ) (decide_eq_true h10) ?_
          obtain ⟨v11, h12, H⟩ := obind H
          refine oCall (u := (.agg [(.d (.int .i64 v11.Lo)), (.d (.int .i64 v11.Hi))])) eC Cl.fn (c_impl_Move_keys h12) (Evs.cons eZ Evs.nil) (VDs.cons (VD.agg rfl) VDs.nil) rfl ?_
          refine gDo (eS rfl (eS rfl eZ)) (decide_eq_true h10) ?_
          obtain ⟨v13, h14, H⟩ := obind H
          refine oCall (u := (.one (.d (.bool v13)))) eC Cl.fn (c_impl_RangeOk h14) (Evs.cons eZ Evs.nil) (VDs.cons (VD.agg rfl) VDs.nil) rfl ?_
          refine oPickT (eS rfl (eS rfl (eS rfl eZ))) (decide_eq_true h10) eZ ?_
          refine oMov eZ ?_
          rcases oite H with ⟨h15, H⟩ | ⟨h15, H⟩
          · refine gDo eZ h15 ?_
            refine oFaddrN (m := 4) (eS rfl (eS rfl (eS rfl (eS rfl (eS rfl (eS rfl (eS rfl (eS rfl (eS rfl (eS rfl (eS rfl (eS rfl eZ)))))))))))) rfl ?_
            refine gDo (eS rfl eZ) h15 ?_
            refine oLoadV (q := 4) (c := (.d (.int .i64 a1.From))) eZ bZ rfl rfl ?_
            refine gDo (eS rfl (eS rfl eZ)) h15 ?_
            obtain ⟨v16, h17, H⟩ := obind H
            refine oCall (u := (.one (.d (.bool v16)))) eC Cl.fn (c_impl_isGroup h17) (Evs.cons eZ Evs.nil) (VDs.cons VD.plain VDs.nil) rfl ?_
            refine oPickT (eS rfl (eS rfl (eS rfl eZ))) h15 eZ ?_
            refine oMov eZ ?_
            rcases oite H with ⟨h18, H⟩ | ⟨h18, H⟩
            · refine gDo eZ h18 ?_
              refine oFaddrN (m := 5) (eS rfl (eS rfl (eS rfl (eS rfl (eS rfl (eS rfl (eS rfl (eS rfl (eS rfl (eS rfl (eS rfl (eS rfl (eS rfl (eS rfl (eS rfl (eS rfl (eS rfl eZ))))))))))))))))) rfl ?_
              refine gDo (eS rfl eZ) h18 ?_
              refine oLoadV (q := 5) (c := (.d (.int .i64 a1.To))) eZ bZ rfl rfl ?_
              refine gDo (eS rfl (eS rfl eZ)) h18 ?_
              obtain ⟨v19, h20, H⟩ := obind H
              refine oCall (u := (.one (.d (.bool v19)))) eC Cl.fn (c_impl_isGroup h20) (Evs.cons eZ Evs.nil) (VDs.cons VD.plain VDs.nil) rfl ?_
              refine oPickT (eS rfl (eS rfl (eS rfl eZ))) h18 eZ ?_
              refine oMov eZ ?_
              rcases oite H with ⟨h21, H⟩ | ⟨h21, H⟩
              · refine gDo eZ h21 ?_
                refine oFaddrN (m := 4) (eS rfl (eS rfl (eS rfl (eS rfl (eS rfl (eS rfl (eS rfl (eS rfl (eS rfl (eS rfl (eS rfl (eS rfl (eS rfl (eS rfl (eS rfl (eS rfl (eS rfl (eS rfl (eS rfl (eS rfl (eS rfl (eS rfl eZ)))))))))))))))))))))) rfl ?_
                refine gDo (eS rfl eZ) h21 ?_
                refine oLoadV (q := 4) (c := (.d (.int .i64 a1.From))) eZ bZ rfl rfl ?_
                refine gDo (eS rfl (eS rfl eZ)) h21 ?_
                refine oFaddrN (m := 5) (eS rfl (eS rfl (eS rfl (eS rfl (eS rfl (eS rfl (eS rfl (eS rfl (eS rfl (eS rfl (eS rfl (eS rfl (eS rfl (eS rfl (eS rfl (eS rfl (eS rfl (eS rfl (eS rfl (eS rfl (eS rfl (eS rfl (eS rfl (eS rfl eZ)))))))))))))))))))))))) rfl ?_
                refine gDo (eS rfl (eS rfl (eS rfl eZ))) h21 ?_
                refine oLoadV (q := 5) (c := (.d (.int .i64 a1.To))) eZ bZ rfl rfl ?_
                refine gDo (eS rfl (eS rfl (eS rfl (eS rfl eZ)))) h21 ?_
                refine oNeq (eS rfl (eS rfl eZ)) eZ ?_
                refine oPickT (eS rfl (eS rfl (eS rfl (eS rfl (eS rfl eZ))))) h21 eZ ?_
                refine oMov eZ ?_
                rcases oite H with ⟨h22, H⟩ | ⟨h22, H⟩
                · refine gDo eZ (decide_eq_true h22) ?_
                  refine oFaddrN (m := 6) (eS rfl (eS rfl (eS rfl (eS rfl (eS rfl (eS rfl (eS rfl (eS rfl (eS rfl (eS rfl (eS rfl (eS rfl (eS rfl (eS rfl (eS rfl (eS rfl (eS rfl (eS rfl (eS rfl (eS rfl (eS rfl (eS rfl (eS rfl (eS rfl (eS rfl (eS rfl (eS rfl (eS rfl (eS rfl eZ))))))))))))))))))))))))))))) rfl ?_
                  refine gDo (eS rfl eZ) (decide_eq_true h22) ?_
                  refine oLoadV (q := 6) (c := (.d (.sl 2 (List.map d_TCell a1.Cells)))) eZ (hB rfl bZ) rfl rfl ?_
                  refine gDo (eS rfl (eS rfl eZ)) (decide_eq_true h22) ?_
                  refine oLoadVA (es := [(.d (.int .i64 a1.No)), (.d (.int .i64 a1.Stage)), (.d (.int .i64 a1.Lo)), (.d (.int .i64 a1.Hi)), (.d (.int .i64 a1.From)), (.d (.int .i64 a1.To)), (.d (.sl 2 (List.map d_TCell a1.Cells)))]) (eS rfl (eS rfl (eS rfl (eS rfl (eS rfl (eS rfl (eS rfl (eS rfl (eS rfl (eS rfl (eS rfl (eS rfl (eS rfl (eS rfl (eS rfl (eS rfl (eS rfl (eS rfl (eS rfl (eS rfl (eS rfl (eS rfl (eS rfl (eS rfl (eS rfl (eS rfl (eS rfl (eS rfl (eS rfl (eS rfl (eS rfl eZ))))))))))))))))))))))))))))))) bZ rfl ?_
                  refine gDo (eS rfl (eS rfl (eS rfl eZ))) (decide_eq_true h22) ?_
                  obtain ⟨v23, h24, H⟩ := obind H
                  refine oCall (u := (.agg [(.d (.int .i64 v23.Lo)), (.d (.int .i64 v23.Hi))])) eC Cl.fn (c_impl_Move_keys h24) (Evs.cons eZ Evs.nil) (VDs.cons (VD.agg rfl) VDs.nil) rfl ?_
                  refine gDo (eS rfl (eS rfl (eS rfl (eS rfl eZ)))) (decide_eq_true h22) ?_
                  obtain ⟨v25, h26, H⟩ := obind H
                  refine oCall (u := (.one (.d (.bool v25)))) eC Cl.fn (c_impl_cellsIn h26) (Evs.cons (eS rfl (eS rfl eZ)) (Evs.cons eZ Evs.nil)) (VDs.cons VD.plain (VDs.cons (VD.agg rfl) VDs.nil)) rfl ?_
                  refine oPickT (eS rfl (eS rfl (eS rfl (eS rfl (eS rfl eZ))))) (decide_eq_true h22) eZ ?_
                  refine oMov eZ ?_
                  rcases oite H with ⟨h27, H⟩ | ⟨h27, H⟩
                  · refine gDo eZ h27 ?_
                    refine oFaddrN (m := 1) (eS rfl (eS rfl (eS rfl (eS rfl (eS rfl (eS rfl (eS rfl (eS rfl (eS rfl (eS rfl (eS rfl (eS rfl (eS rfl (eS rfl (eS rfl (eS rfl (eS rfl (eS rfl (eS rfl (eS rfl (eS rfl (eS rfl (eS rfl (eS rfl (eS rfl (eS rfl (eS rfl (eS rfl (eS rfl (eS rfl (eS rfl (eS rfl (eS rfl (eS rfl (eS rfl (eS rfl eZ)))))))))))))))))))))))))))))))))))) rfl ?_
                    refine gDo (eS rfl eZ) h27 ?_
                    refine oLoadV (q := 1) (c := (.d (.int .i64 a1.Stage))) eZ bZ rfl rfl ?_
                    refine gDo (eS rfl (eS rfl eZ)) h27 ?_
                    refine oEql eZ eC ?_
                    refine gDo (eS rfl (eS rfl (eS rfl eZ))) h27 ?_
                    refine oMov eZ ?_
                    rcases oite H with ⟨h28, H⟩ | ⟨h28, H⟩
                    · refine gSkip eZ (decide_eq_true h28) rfl ?_
                      refine gSkip (eS rfl eZ) (decide_eq_true h28) rfl ?_
                      refine gSkip (eS rfl (eS rfl eZ)) (decide_eq_true h28) rfl ?_
                      refine gSkip (eS rfl (eS rfl (eS rfl eZ))) (decide_eq_true h28) rfl ?_
                      refine gDo (eS rfl (eS rfl (eS rfl (eS rfl (eS rfl (eS rfl (eS rfl (eS rfl eZ)))))))) h27 ?_
                      refine oPickT (eS rfl (eS rfl (eS rfl (eS rfl eZ)))) (decide_eq_true h28) eC ?_
                      refine oPickT (eS rfl (eS rfl (eS rfl (eS rfl (eS rfl (eS rfl (eS rfl (eS rfl (eS rfl eZ))))))))) h27 eZ ?_
                      refine oMov eZ ?_
                      refine xNil ?_
                      refine TQ.qn ?_
                      refine AW.weaken (wk_mk [64] (SL.cons (k := 2) eZ rfl VWk.rfl SL.nil) (BL.drop rfl BL.nil) BK.nil) ?_
                      refine AW.ret ?_
                      obtain rfl := Option.some.inj H
                      exact endsR (RL.cons (RV.tmp eZ) (VO.flat rfl) RL.nil) List.nodup_nil
                    · refine gDo eZ (decide_eq_false h28) ?_
                      refine oFaddrN (m := 6) (eS rfl (eS rfl (eS rfl (eS rfl (eS rfl (eS rfl (eS rfl (eS rfl (eS rfl (eS rfl (eS rfl (eS rfl (eS rfl (eS rfl (eS rfl (eS rfl (eS rfl (eS rfl (eS rfl (eS rfl (eS rfl (eS rfl (eS rfl (eS rfl (eS rfl (eS rfl (eS rfl (eS rfl (eS rfl (eS rfl (eS rfl (eS rfl (eS rfl (eS rfl (eS rfl (eS rfl (eS rfl (eS rfl (eS rfl (eS rfl eZ)))))))))))))))))))))))))))))))))))))))) rfl ?_
                      refine gDo (eS rfl eZ) (decide_eq_false h28) ?_
                      refine oLoadV (q := 6) (c := (.d (.sl 2 (List.map d_TCell a1.Cells)))) eZ bZ rfl rfl ?_
                      refine gDo (eS rfl (eS rfl eZ)) (decide_eq_false h28) ?_
                      refine oLenD eZ (n := a1.Cells.length) (List.length_map _) ?_
                      refine gDo (eS rfl (eS rfl (eS rfl eZ))) (decide_eq_false h28) ?_
                      refine oEql eZ eC ?_
                      refine gDo (eS rfl (eS rfl (eS rfl (eS rfl (eS rfl (eS rfl (eS rfl (eS rfl eZ)))))))) h27 ?_
                      refine oPickF (eS rfl (eS rfl (eS rfl (eS rfl eZ)))) (decide_eq_false h28) eZ ?_
                      refine oPickT (eS rfl (eS rfl (eS rfl (eS rfl (eS rfl (eS rfl (eS rfl (eS rfl (eS rfl eZ))))))))) h27 eZ ?_
                      refine oMov eZ ?_
                      refine xNil ?_
                      refine TQ.qn ?_
                      refine AW.weaken (wk_mk [64] (SL.cons (k := 2) eZ rfl VWk.rfl SL.nil) (BL.drop rfl BL.nil) BK.nil) ?_
                      refine AW.ret ?_
                      obtain rfl := Option.some.inj H
                      exact endsR (RL.cons (RV.tmp eZ) (VO.flat rfl) RL.nil) List.nodup_nil
                  · refine gSkip eZ (nt h27) rfl ?_
                    refine gSkip (eS rfl eZ) (nt h27) rfl ?_
                    refine gSkip (eS rfl (eS rfl eZ)) (nt h27) rfl ?_
                    refine gSkip (eS rfl (eS rfl (eS rfl eZ))) (nt h27) rfl ?_
                    refine gSkipU eZ rfl ?_
                    refine gSkipU (eS rfl eZ) rfl ?_
                    refine gSkipU (eS rfl (eS rfl eZ)) rfl ?_
                    refine gSkipU (eS rfl (eS rfl (eS rfl eZ))) rfl ?_
                    refine gSkip (eS rfl (eS rfl (eS rfl (eS rfl (eS rfl (eS rfl (eS rfl (eS rfl eZ)))))))) (nt h27) rfl ?_
                    refine oPickF (eS rfl (eS rfl (eS rfl (eS rfl (eS rfl (eS rfl (eS rfl (eS rfl (eS rfl eZ))))))))) (nt h27) eC ?_
                    refine oMov eZ ?_
                    refine xNil ?_
                    refine TQ.qn ?_
                    refine AW.weaken (wk_mk [64] (SL.cons (k := 2) eZ rfl VWk.rfl SL.nil) (BL.drop rfl BL.nil) BK.nil) ?_
                    refine AW.ret ?_
                    obtain rfl := Option.some.inj H
                    exact endsR (RL.cons (RV.tmp eZ) (VO.flat rfl) RL.nil) List.nodup_nil
                · refine gSkip eZ (decide_eq_false h22) rfl ?_
                  refine gSkip (eS rfl eZ) (decide_eq_false h22) rfl ?_
                  refine gSkip (eS rfl (eS rfl eZ)) (decide_eq_false h22) rfl ?_
                  refine gSkip (eS rfl (eS rfl (eS rfl eZ))) (decide_eq_false h22) rfl ?_
                  refine gSkip (eS rfl (eS rfl (eS rfl (eS rfl eZ)))) (decide_eq_false h22) rfl ?_
                  refine oPickF (eS rfl (eS rfl (eS rfl (eS rfl (eS rfl eZ))))) (decide_eq_false h22) eC ?_
                  refine oMov eZ ?_
                  refine gSkip eZ rfl rfl ?_
                  refine gSkip (eS rfl eZ) rfl rfl ?_
                  refine gSkip (eS rfl (eS rfl eZ)) rfl rfl ?_
                  refine gSkip (eS rfl (eS rfl (eS rfl eZ))) rfl rfl ?_
                  refine gSkipU eZ rfl ?_
                  refine gSkipU (eS rfl eZ) rfl ?_
                  refine gSkipU (eS rfl (eS rfl eZ)) rfl ?_
                  refine gSkipU (eS rfl (eS rfl (eS rfl eZ))) rfl ?_
                  refine gSkip (eS rfl (eS rfl (eS rfl (eS rfl (eS rfl (eS rfl (eS rfl (eS rfl eZ)))))))) rfl rfl ?_
                  refine oPickF (eS rfl (eS rfl (eS rfl (eS rfl (eS rfl (eS rfl (eS rfl (eS rfl (eS rfl eZ))))))))) rfl eC ?_
                  refine oMov eZ ?_
                  refine xNil ?_
                  refine TQ.qn ?_
                  refine AW.weaken (wk_mk [64] (SL.cons (k := 2) eZ rfl VWk.rfl SL.nil) (BL.drop rfl BL.nil) BK.nil) ?_
                  refine AW.ret ?_
                  obtain rfl := Option.some.inj H
                  exact endsR (RL.cons (RV.tmp eZ) (VO.flat rfl) RL.nil) List.nodup_nil
              · refine gSkip eZ (nt h21) rfl ?_
                refine gSkip (eS rfl eZ) (nt h21) rfl ?_
                refine gSkip (eS rfl (eS rfl eZ)) (nt h21) rfl ?_
                refine gSkip (eS rfl (eS rfl (eS rfl eZ))) (nt h21) rfl ?_
                refine gSkip (eS rfl (eS rfl (eS rfl (eS rfl eZ)))) (nt h21) rfl ?_
                refine oPickF (eS rfl (eS rfl (eS rfl (eS rfl (eS rfl eZ))))) (nt h21) eC ?_
                refine oMov eZ ?_
                refine gSkip eZ rfl rfl ?_
                refine gSkip (eS rfl eZ) rfl rfl ?_
                refine gSkip (eS rfl (eS rfl eZ)) rfl rfl ?_
                refine gSkip (eS rfl (eS rfl (eS rfl eZ))) rfl rfl ?_
                refine gSkip (eS rfl (eS rfl (eS rfl (eS rfl eZ)))) rfl rfl ?_
                refine oPickF (eS rfl (eS rfl (eS rfl (eS rfl (eS rfl eZ))))) rfl eC ?_
                refine oMov eZ ?_
                refine gSkip eZ rfl rfl ?_
                refine gSkip (eS rfl eZ) rfl rfl ?_
                refine gSkip (eS rfl (eS rfl eZ)) rfl rfl ?_
                refine gSkip (eS rfl (eS rfl (eS rfl eZ))) rfl rfl ?_
                refine gSkipU eZ rfl ?_
                refine gSkipU (eS rfl eZ) rfl ?_
                refine gSkipU (eS rfl (eS rfl eZ)) rfl ?_
                refine gSkipU (eS rfl (eS rfl (eS rfl eZ))) rfl ?_
                refine gSkip (eS rfl (eS rfl (eS rfl (eS rfl (eS rfl (eS rfl (eS rfl (eS rfl eZ)))))))) rfl rfl ?_
                refine oPickF (eS rfl (eS rfl (eS rfl (eS rfl (eS rfl (eS rfl (eS rfl (eS rfl (eS rfl eZ))))))))) rfl eC ?_
                refine oMov eZ ?_
                refine xNil ?_
                refine TQ.qn ?_
                refine AW.weaken (wk_mk [64] (SL.cons (k := 2) eZ rfl VWk.rfl SL.nil) (BL.drop rfl BL.nil) BK.nil) ?_
                refine AW.ret ?_
                obtain rfl := Option.some.inj H
                exact endsR (RL.cons (RV.tmp eZ) (VO.flat rfl) RL.nil) List.nodup_nil
            · refine gSkip eZ (nt h18) rfl ?_
              refine gSkip (eS rfl eZ) (nt h18) rfl ?_
              refine gSkip (eS rfl (eS rfl eZ)) (nt h18) rfl ?_
              refine oPickF (eS rfl (eS rfl (eS rfl eZ))) (nt h18) eC ?_
              refine oMov eZ ?_
              refine gSkip eZ rfl rfl ?_
              refine gSkip (eS rfl eZ) rfl rfl ?_
              refine gSkip (eS rfl (eS rfl eZ)) rfl rfl ?_
              refine gSkip (eS rfl (eS rfl (eS rfl eZ))) rfl rfl ?_
              refine gSkip (eS rfl (eS rfl (eS rfl (eS rfl eZ)))) rfl rfl ?_
              refine oPickF (eS rfl (eS rfl (eS rfl (eS rfl (eS rfl eZ))))) rfl eC ?_
              refine oMov eZ ?_
              refine gSkip eZ rfl rfl ?_
              refine gSkip (eS rfl eZ) rfl rfl ?_
              refine gSkip (eS rfl (eS rfl eZ)) rfl rfl ?_
              refine gSkip (eS rfl (eS rfl (eS rfl eZ))) rfl rfl ?_
              refine gSkip (eS rfl (eS rfl (eS rfl (eS rfl eZ)))) rfl rfl ?_
              refine oPickF (eS rfl (eS rfl (eS rfl (eS rfl (eS rfl eZ))))) rfl eC ?_
              refine oMov eZ ?_
              refine gSkip eZ rfl rfl ?_
              refine gSkip (eS rfl eZ) rfl rfl ?_
              refine gSkip (eS rfl (eS rfl eZ)) rfl rfl ?_
              refine gSkip (eS rfl (eS rfl (eS rfl eZ))) rfl rfl ?_
              refine gSkipU eZ rfl ?_
              refine gSkipU (eS rfl eZ) rfl ?_
              refine gSkipU (eS rfl (eS rfl eZ)) rfl ?_
              refine gSkipU (eS rfl (eS rfl (eS rfl eZ))) rfl ?_
              refine gSkip (eS rfl (eS rfl (eS rfl (eS rfl (eS rfl (eS rfl (eS rfl (eS rfl eZ)))))))) rfl rfl ?_
              refine oPickF (eS rfl (eS rfl (eS rfl (eS rfl (eS rfl (eS rfl (eS rfl (eS rfl (eS rfl eZ))))))))) rfl eC ?_
              refine oMov eZ ?_
              refine xNil ?_
              refine TQ.qn ?_
              refine AW.weaken (wk_mk [64] (SL.cons (k := 2) eZ rfl VWk.rfl SL.nil) (BL.drop rfl BL.nil) BK.nil) ?_
              refine AW.ret ?_
              obtain rfl := Option.some.inj H
              exact endsR (RL.cons (RV.tmp eZ) (VO.flat rfl) RL.nil) List.nodup_nil
          · refine gSkip eZ (nt h15) rfl ?_
            refine gSkip (eS rfl eZ) (nt h15) rfl ?_
            refine gSkip (eS rfl (eS rfl eZ)) (nt h15) rfl ?_
            refine oPickF (eS rfl (eS rfl (eS rfl eZ))) (nt h15) eC ?_
            refine oMov eZ ?_
            refine gSkip eZ rfl rfl ?_
            refine gSkip (eS rfl eZ) rfl rfl ?_
            refine gSkip (eS rfl (eS rfl eZ)) rfl rfl ?_
            refine oPickF (eS rfl (eS rfl (eS rfl eZ))) rfl eC ?_
            refine oMov eZ ?_
            refine gSkip eZ rfl rfl ?_
            refine gSkip (eS rfl eZ) rfl rfl ?_
            refine gSkip (eS rfl (eS rfl eZ)) rfl rfl ?_
            refine gSkip (eS rfl (eS rfl (eS rfl eZ))) rfl rfl ?_
            refine gSkip (eS rfl (eS rfl (eS rfl (eS rfl eZ)))) rfl rfl ?_
            refine oPickF (eS rfl (eS rfl (eS rfl (eS rfl (eS rfl eZ))))) rfl eC ?_
            refine oMov eZ ?_
            refine gSkip eZ rfl rfl ?_
            refine gSkip (eS rfl eZ) rfl rfl ?_
            refine gSkip (eS rfl (eS rfl eZ)) rfl rfl ?_
            refine gSkip (eS rfl (eS rfl (eS rfl eZ))) rfl rfl ?_
            refine gSkip (eS rfl (eS rfl (eS rfl (eS rfl eZ)))) rfl rfl ?_
            refine oPickF (eS rfl (eS rfl (eS rfl (eS rfl (eS rfl eZ))))) rfl eC ?_
            refine oMov eZ ?_
            refine gSkip eZ rfl rfl ?_
            refine gSkip (eS rfl eZ) rfl rfl ?_
            refine gSkip (eS rfl (eS rfl eZ)) rfl rfl ?_
            refine gSkip (eS rfl (eS rfl (eS rfl eZ))) rfl rfl ?_
            refine gSkipU eZ rfl ?_
            refine gSkipU (eS rfl eZ) rfl ?_
            refine gSkipU (eS rfl (eS rfl eZ)) rfl ?_
            refine gSkipU (eS rfl (eS rfl (eS rfl eZ))) rfl ?_
            refine gSkip (eS rfl (eS rfl (eS rfl (eS rfl (eS rfl (eS rfl (eS rfl (eS rfl eZ)))))))) rfl rfl ?_
            refine oPickF (eS rfl (eS rfl (eS rfl (eS rfl (eS rfl (eS rfl (eS rfl (eS rfl (eS rfl eZ))))))))) rfl eC ?_
            refine oMov eZ ?_
            refine xNil ?_
            refine TQ.qn ?_
            refine AW.weaken (wk_mk [64] (SL.cons (k := 2) eZ rfl VWk.rfl SL.nil) (BL.drop rfl BL.nil) BK.nil) ?_
            refine AW.ret ?_
            obtain rfl := Option.some.inj H
            exact endsR (RL.cons (RV.tmp eZ) (VO.flat rfl) RL.nil) List.nodup_nil
        · refine gSkip eZ (decide_eq_false h10) rfl ?_
          refine gSkip (eS rfl eZ) (decide_eq_false h10) rfl ?_
          refine gSkip (eS rfl (eS rfl eZ)) (decide_eq_false h10) rfl ?_
          refine oPickF (eS rfl (eS rfl (eS rfl eZ))) (decide_eq_false h10) eC ?_
          refine oMov eZ ?_
          refine gSkip eZ rfl rfl ?_
          refine gSkip (eS rfl eZ) rfl rfl ?_
          refine gSkip (eS rfl (eS rfl eZ)) rfl rfl ?_
          refine oPickF (eS rfl (eS rfl (eS rfl eZ))) rfl eC ?_
          refine oMov eZ ?_
          refine gSkip eZ rfl rfl ?_
          refine gSkip (eS rfl eZ) rfl rfl ?_
          refine gSkip (eS rfl (eS rfl eZ)) rfl rfl ?_
          refine oPickF (eS rfl (eS rfl (eS rfl eZ))) rfl eC ?_
          refine oMov eZ ?_
          refine gSkip eZ rfl rfl ?_
          refine gSkip (eS rfl eZ) rfl rfl ?_
          refine gSkip (eS rfl (eS rfl eZ)) rfl rfl ?_
          refine gSkip (eS rfl (eS rfl (eS rfl eZ))) rfl rfl ?_
          refine gSkip (eS rfl (eS rfl (eS rfl (eS rfl eZ)))) rfl rfl ?_
          refine oPickF (eS rfl (eS rfl (eS rfl (eS rfl (eS rfl eZ))))) rfl eC ?_
          refine oMov eZ ?_
          refine gSkip eZ rfl rfl ?_
          refine gSkip (eS rfl eZ) rfl rfl ?_
          refine gSkip (eS rfl (eS rfl eZ)) rfl rfl ?_
          refine gSkip (eS rfl (eS rfl (eS rfl eZ))) rfl rfl ?_
          refine gSkip (eS rfl (eS rfl (eS rfl (eS rfl eZ)))) rfl rfl ?_
          refine oPickF (eS rfl (eS rfl (eS rfl (eS rfl (eS rfl eZ))))) rfl eC ?_
          refine oMov eZ ?_
          refine gSkip eZ rfl rfl ?_
          refine gSkip (eS rfl eZ) rfl rfl ?_
          refine gSkip (eS rfl (eS rfl eZ)) rfl rfl ?_
          refine gSkip (eS rfl (eS rfl (eS rfl eZ))) rfl rfl ?_
          refine gSkipU eZ rfl ?_
          refine gSkipU (eS rfl eZ) rfl ?_
          refine gSkipU (eS rfl (eS rfl eZ)) rfl ?_
          refine gSkipU (eS rfl (eS rfl (eS rfl eZ))) rfl ?_
          refine gSkip (eS rfl (eS rfl (eS rfl (eS rfl (eS rfl (eS rfl (eS rfl (eS rfl eZ)))))))) rfl rfl ?_
          refine oPickF (eS rfl (eS rfl (eS rfl (eS rfl (eS rfl (eS rfl (eS rfl (eS rfl (eS rfl eZ))))))))) rfl eC ?_
          refine oMov eZ ?_
          refine xNil ?_
          refine TQ.qn ?_
          refine AW.weaken (wk_mk [64] (SL.cons (k := 2) eZ rfl VWk.rfl SL.nil) (BL.drop rfl BL.nil) BK.nil) ?_
          refine AW.ret ?_
          obtain rfl := Option.some.inj H
          exact endsR (RL.cons (RV.tmp eZ) (VO.flat rfl) RL.nil) List.nodup_nil
  · refine AW.regs ?_
    refine oFaddrN (m := 0) (eS rfl eZ) rfl ?_
    refine oLoadV (q := 0) (c := (.d (.int .i64 a1.No))) eZ bZ rfl rfl ?_
    obtain ⟨v29, h30, H⟩ := obind H
    refine oCall (u := (.one (.d (.bool v29)))) eC Cl.fn (c_impl_from h30) (Evs.cons eZ (Evs.cons eC (Evs.cons eC Evs.nil))) (VDs.cons VD.plain (VDs.cons VD.plain (VDs.cons VD.plain VDs.nil))) rfl ?_
    refine oInv eZ ?_
    refine oMov eZ ?_
    rcases oite H with ⟨h31, H⟩ | ⟨h31, H⟩
    · refine gDo eZ (congrArg Bool.not h31) ?_
      refine oFaddrN (m := 1) (eS rfl (eS rfl (eS rfl (eS rfl (eS rfl (eS rfl eZ)))))) rfl ?_
      refine gDo (eS rfl eZ) (congrArg Bool.not h31) ?_
      refine oLoadV (q := 1) (c := (.d (.int .i64 a1.Stage))) eZ bZ rfl rfl ?_
      refine gDo (eS rfl (eS rfl eZ)) (congrArg Bool.not h31) ?_
      obtain ⟨v32, h33, H⟩ := obind H
      refine oCall (u := (.one (.d (.bool v32)))) eC Cl.fn (c_impl_from h33) (Evs.cons eZ (Evs.cons eC (Evs.cons eC Evs.nil))) (VDs.cons VD.plain (VDs.cons VD.plain (VDs.cons VD.plain VDs.nil))) rfl ?_
      refine gDo (eS rfl (eS rfl (eS rfl eZ))) (congrArg Bool.not h31) ?_
      refine oInv eZ ?_
      refine oPickF (eS rfl (eS rfl (eS rfl (eS rfl eZ)))) (congrArg Bool.not h31) eZ ?_
      refine xNil ?_
      exact TQ.qn ⟨(!v32), H, (wk_mk [] (SL.cons (eS rfl (eS rfl (eS rfl (eS rfl (eS rfl (eS rfl (eS rfl (eS rfl (eS rfl (eS rfl (eS rfl eZ))))))))))) rfl VWk.rfl (SL.cons eZ rfl VWk.rfl SL.nil)) (BL.keep rfl BL.nil) (BK.cons rfl bZ rfl rfl BK.nil))⟩
    · refine gSkip eZ (congrArg Bool.not (nt h31)) rfl ?_
      refine gSkip (eS rfl eZ) (congrArg Bool.not (nt h31)) rfl ?_
      refine gSkip (eS rfl (eS rfl eZ)) (congrArg Bool.not (nt h31)) rfl ?_
      refine gSkip (eS rfl (eS rfl (eS rfl eZ))) (congrArg Bool.not (nt h31)) rfl ?_
      refine oPickT (eS rfl (eS rfl (eS rfl (eS rfl eZ)))) (congrArg Bool.not (nt h31)) eC ?_
      refine xNil ?_
      exact TQ.qn ⟨true, H, (wk_mk [] (SL.cons (eS rfl (eS rfl (eS rfl (eS rfl (eS rfl (eS rfl (eS rfl (eS rfl (eS rfl (eS rfl (eS rfl eZ))))))))))) rfl VWk.rfl (SL.cons eZ rfl VWk.rfl SL.nil)) (BL.keep rfl BL.nil) (BK.cons rfl bZ rfl rfl BK.nil))⟩

theorem c_impl_AtlasOk {a1 : TAtlas} {r : Bool} (H : m_impl_AtlasOk a1 = some r) : Fn Try.prog k_impl_AtlasOk (lent [(.agg (d_TAtlas a1))]) true [(.bool r)] := by
  refine i_impl_AtlasOk_fn (Nat.le_of_ble_eq_true rfl) ?_
  rw [init_mk]
  refine AW.weaken (wk_mk [] (SL.cons (v := (.agg [(.d (.int .i64 a1.Epoch)), (.d (.sl 3 (List.map d_TPart a1.Parts))), (.d (.int .i64 a1.Move.No)), (.d (.int .i64 a1.Move.Stage)), (.d (.int .i64 a1.Move.Lo)), (.d (.int .i64 a1.Move.Hi)), (.d (.int .i64 a1.Move.From)), (.d (.int .i64 a1.Move.To)), (.d (.sl 2 (List.map d_TCell a1.Move.Cells)))])) eZ rfl VWk.rfl SL.nil) BL.nil BK.nil) ?_
  unfold m_impl_AtlasOk at H
  unfold i_impl_AtlasOk
  refine AW.seq ?_
  refine AW.regs ?_
  refine oBox (n := 64) (m := 9) (cs := [(.d (.int .i64 a1.Epoch)), (.d (.sl 3 (List.map d_TPart a1.Parts))), (.d (.int .i64 a1.Move.No)), (.d (.int .i64 a1.Move.Stage)), (.d (.int .i64 a1.Move.Lo)), (.d (.int .i64 a1.Move.Hi)), (.d (.int .i64 a1.Move.From)), (.d (.int .i64 a1.Move.To)), (.d (.sl 2 (List.map d_TCell a1.Move.Cells)))]) rfl eZ rfl rfl nZ ?_
  refine oMov eC ?_
  refine xNil ?_
  refine TQ.qn ?_
  refine AW.seq ?_
  refine AW.regs ?_
  refine oFaddrN (m := 0) (eS rfl eZ) rfl ?_
  refine oLoadV (q := 0) (c := (.d (.int .i64 a1.Epoch))) eZ bZ rfl rfl ?_
  obtain ⟨v2, h3, H⟩ := obind H
  refine oCall (u := (.one (.d (.bool v2)))) eC Cl.fn (c_impl_from h3) (Evs.cons eZ (Evs.cons eC (Evs.cons eC Evs.nil))) (VDs.cons VD.plain (VDs.cons VD.plain (VDs.cons VD.plain VDs.nil))) rfl ?_
  refine oMov eZ ?_
  rcases oite H with ⟨h4, H⟩ | ⟨h4, H⟩
  · refine gDo eZ h4 ?_
    refine oFaddrN (m := 1) (eS rfl (eS rfl (eS rfl (eS rfl (eS rfl eZ))))) rfl ?_
    refine gDo (eS rfl eZ) h4 ?_
    refine oLoadV (q := 1) (c := (.d (.sl 3 (List.map d_TPart a1.Parts)))) eZ bZ rfl rfl ?_
    refine gDo (eS rfl (eS rfl eZ)) h4 ?_
    obtain ⟨v5, h6, H⟩ := obind H
    refine oCall (u := (.one (.d (.bool v5)))) eC Cl.fn (c_impl_PartsOk h6) (Evs.cons eZ Evs.nil) (VDs.cons VD.plain VDs.nil) rfl ?_
    refine oPickT (eS rfl (eS rfl (eS rfl eZ))) h4 eZ ?_
    refine oMov eZ ?_
    rcases oite H with ⟨h7, H⟩ | ⟨h7, H⟩
    · refine gDo eZ h7 ?_
      refine oFaddrN (m := 2) (eS rfl (eS rfl (eS rfl (eS rfl (eS rfl (eS rfl (eS rfl (eS rfl (eS rfl (eS rfl eZ)))))))))) rfl ?_
      refine gDo (eS rfl eZ) h7 ?_
      refine oLoadVA (es := [(.d (.int .i64 a1.Move.No)), (.d (.int .i64 a1.Move.Stage)), (.d (.int .i64 a1.Move.Lo)), (.d (.int .i64 a1.Move.Hi)), (.d (.int .i64 a1.Move.From)), (.d (.int .i64 a1.Move.To)), (.d (.sl 2 (List.map d_TCell a1.Move.Cells)))]) eZ bZ rfl ?_
      refine gDo (eS rfl (eS rfl eZ)) h7 ?_
      obtain ⟨v8, h9, H⟩ := obind H
      refine oCall (u := (.one (.d (.bool v8)))) eC Cl.fn (c_impl_moveOk h9) (Evs.cons eZ Evs.nil) (VDs.cons (VD.agg rfl) VDs.nil) rfl ?_
      refine oPickT (eS rfl (eS rfl (eS rfl eZ))) h7 eZ ?_
      refine oMov eZ ?_
      refine xNil ?_
      refine TQ.qn ?_
      refine AW.weaken (wk_mk [64] (SL.cons (k := 2) eZ rfl VWk.rfl SL.nil) (BL.drop rfl BL.nil) BK.nil) ?_
      refine AW.ret ?_
      obtain rfl := Option.some.inj H
      exact endsR (RL.cons (RV.tmp eZ) (VO.flat rfl) RL.nil) List.nodup_nil
    · refine gSkip eZ (nt h7) rfl ?_
      refine gSkip (eS rfl eZ) (nt h7) rfl ?_
      refine gSkip (eS rfl (eS rfl eZ)) (nt h7) rfl ?_
      refine oPickF (eS rfl (eS rfl (eS rfl eZ))) (nt h7) eC ?_
      refine oMov eZ ?_
      refine xNil ?_
      refine TQ.qn ?_
      refine AW.weaken (wk_mk [64] (SL.cons (k := 2) eZ rfl VWk.rfl SL.nil) (BL.drop rfl BL.nil) BK.nil) ?_
      refine AW.ret ?_
      obtain rfl := Option.some.inj H
      exact endsR (RL.cons (RV.tmp eZ) (VO.flat rfl) RL.nil) List.nodup_nil
  · refine gSkip eZ (nt h4) rfl ?_
    refine gSkip (eS rfl eZ) (nt h4) rfl ?_
    refine gSkip (eS rfl (eS rfl eZ)) (nt h4) rfl ?_
    refine oPickF (eS rfl (eS rfl (eS rfl eZ))) (nt h4) eC ?_
    refine oMov eZ ?_
    refine gSkip eZ rfl rfl ?_
    refine gSkip (eS rfl eZ) rfl rfl ?_
    refine gSkip (eS rfl (eS rfl eZ)) rfl rfl ?_
    refine oPickF (eS rfl (eS rfl (eS rfl eZ))) rfl eC ?_
    refine oMov eZ ?_
    refine xNil ?_
    refine TQ.qn ?_
    refine AW.weaken (wk_mk [64] (SL.cons (k := 2) eZ rfl VWk.rfl SL.nil) (BL.drop rfl BL.nil) BK.nil) ?_
    refine AW.ret ?_
    obtain rfl := Option.some.inj H
    exact endsR (RL.cons (RV.tmp eZ) (VO.flat rfl) RL.nil) List.nodup_nil

theorem c_slices_Clone_Part {a1 : (List TPart)} {r : (List TPart)} (H : m_slices_Clone_Part a1 = some r) : Fn Try.prog k_slices_Clone___impl_Part_impl_Part_ (lent [(.sl 3 (List.map d_TPart a1))]) true [(.sl 3 (List.map d_TPart r))] := by
  refine i_slices_Clone___impl_Part_impl_Part__fn (Nat.le_of_ble_eq_true rfl) ?_
  rw [init_mk]
  refine AW.weaken (wk_mk [] (SL.cons (v := (.one (.d (.sl 3 (List.map d_TPart a1))))) eZ rfl VWk.rfl SL.nil) BL.nil BK.nil) ?_
  unfold m_slices_Clone_Part at H
  unfold i_slices_Clone___impl_Part_impl_Part_
  refine AW.seq ?_
  refine AW.regs ?_
  refine oMov eC ?_
  refine xNil ?_
  refine TQ.qn ?_
  refine AW.seqJ (fun t2 : Unit => (slices_Clone_Part_j2 a1) t2 = some r) (fun t2 => mk [(0, (.one (.d (.sl 3 (List.map d_TPart a1)))))] [] noG) ?_ ?_
  · intro t2 H
    unfold slices_Clone_Part_j2 at H
    refine AW.seq ?_
    refine AW.regs ?_
    refine oBsliceZ (m := 320) rfl nZ ?_
    refine oMov (eS rfl eZ) ?_
    obtain ⟨h4, H⟩ := oguard H
    refine oAppZ (f := d_TPart) (m := 448) (own := true) (ys := a1) (q := a1.length) rfl rfl (eS rfl eZ) eZ (El.lent fun _ _ => rfl) rfl h4 (by decide) nZ ?_
    refine oMov eZ ?_
    refine xNil ?_
    refine TQ.qn ?_
    refine AW.ret ?_
    obtain rfl := Option.some.inj H
    exact endsR (RL.cons (RV.tmp eZ) (VO.sl bZ (List.length_map _) (allFlat fun _ => rfl)) RL.nil) (by decide)
  · refine AW.seq ?_
    refine AW.regs ?_
    refine oMov (eS rfl eZ) ?_
    rcases oite H with ⟨h5, H⟩ | ⟨h5, H⟩
    · refine oNilD0 eZ h5 ?_
      refine xNil ?_
      refine TQ.qn ?_
      refine AW.condU eZ ?_ ?_
      · have H : (some ([] : (List TPart))) = some r := by rw [← H]; simp [List.eq_nil_of_length_eq_zero h5, slices_Clone_Part_j2]
        refine AW.seq ?_
        refine AW.regs ?_
        refine oMov eC ?_
        refine xNil ?_
        refine TQ.qn ?_
        refine AW.ret ?_
        refine TQ.qr ?_
        obtain rfl := Option.some.inj H
        exact endsR (RL.cons (RV.tmp eZ) VO.zs RL.nil) List.nodup_nil
      · refine AW.skip ?_
        exact TQ.qn ⟨(), H, (wk_mk [] (SL.cons (eS rfl (eS rfl (eS rfl eZ))) rfl VWk.rfl SL.nil) BL.nil BK.nil)⟩
    · refine oNilD eZ h5 ?_
      refine xNil ?_
      refine TQ.qn ?_
      refine AW.condF eZ rfl ?_
      refine AW.skip ?_
      exact TQ.qn ⟨(), H, (wk_mk [] (SL.cons (eS rfl (eS rfl (eS rfl eZ))) rfl VWk.rfl SL.nil) BL.nil BK.nil)⟩

theorem c_slices_Clone_Cell {a1 : (List TCell)} {r : (List TCell)} (H : m_slices_Clone_Cell a1 = some r) : Fn Try.prog k_slices_Clone___impl_Cell_impl_Cell_ (lent [(.sl 2 (List.map d_TCell a1))]) true [(.sl 2 (List.map d_TCell r))] := by
  refine i_slices_Clone___impl_Cell_impl_Cell__fn (Nat.le_of_ble_eq_true rfl) ?_
  rw [init_mk]
  refine AW.weaken (wk_mk [] (SL.cons (v := (.one (.d (.sl 2 (List.map d_TCell a1))))) eZ rfl VWk.rfl SL.nil) BL.nil BK.nil) ?_
  unfold m_slices_Clone_Cell at H
  unfold i_slices_Clone___impl_Cell_impl_Cell_
  refine AW.seq ?_
  refine AW.regs ?_
  refine oMov eC ?_
  refine xNil ?_
  refine TQ.qn ?_
  refine AW.seqJ (fun t2 : Unit => (slices_Clone_Cell_j2 a1) t2 = some r) (fun t2 => mk [(0, (.one (.d (.sl 2 (List.map d_TCell a1)))))] [] noG) ?_ ?_
  · intro t2 H
    unfold slices_Clone_Cell_j2 at H
    refine AW.seq ?_
    refine AW.regs ?_
    refine oBsliceZ (m := 320) rfl nZ ?_
    refine oMov (eS rfl eZ) ?_
    obtain ⟨h4, H⟩ := oguard H
    refine oAppZ (f := d_TCell) (m := 448) (own := true) (ys := a1) (q := a1.length) rfl rfl (eS rfl eZ) eZ (El.lent fun _ _ => rfl) rfl h4 (by decide) nZ ?_
    refine oMov eZ ?_
    refine xNil ?_
    refine TQ.qn ?_
    refine AW.ret ?_
    obtain rfl := Option.some.inj H
    exact endsR (RL.cons (RV.tmp eZ) (VO.sl bZ (List.length_map _) (allFlat fun _ => rfl)) RL.nil) (by decide)
  · refine AW.seq ?_
    refine AW.regs ?_
    refine oMov (eS rfl eZ) ?_
    rcases oite H with ⟨h5, H⟩ | ⟨h5, H⟩
    · refine oNilD0 eZ h5 ?_
      refine xNil ?_
      refine TQ.qn ?_
      refine AW.condU eZ ?_ ?_
      · have H : (some ([] : (List TCell))) = some r := by rw [← H]; simp [List.eq_nil_of_length_eq_zero h5, slices_Clone_Cell_j2]
        refine AW.seq ?_
        refine AW.regs ?_
        refine oMov eC ?_
        refine xNil ?_
        refine TQ.qn ?_
        refine AW.ret ?_
        refine TQ.qr ?_
        obtain rfl := Option.some.inj H
        exact endsR (RL.cons (RV.tmp eZ) VO.zs RL.nil) List.nodup_nil
      · refine AW.skip ?_
        exact TQ.qn ⟨(), H, (wk_mk [] (SL.cons (eS rfl (eS rfl (eS rfl eZ))) rfl VWk.rfl SL.nil) BL.nil BK.nil)⟩
    · refine oNilD eZ h5 ?_
      refine xNil ?_
      refine TQ.qn ?_
      refine AW.condF eZ rfl ?_
      refine AW.skip ?_
      exact TQ.qn ⟨(), H, (wk_mk [] (SL.cons (eS rfl (eS rfl (eS rfl eZ))) rfl VWk.rfl SL.nil) BL.nil BK.nil)⟩

theorem c_impl_copyAtlas {a1 : TAtlas} {r : TAtlas} (H : m_impl_copyAtlas a1 = some r) : Fn Try.prog k_impl_copyAtlas (lent [(.agg (d_TAtlas a1))]) true [(.agg (d_TAtlas r))] := by
  refine i_impl_copyAtlas_fn (Nat.le_of_ble_eq_true rfl) ?_
  rw [init_mk]
  refine AW.weaken (wk_mk [] (SL.cons (v := (.agg [(.d (.int .i64 a1.Epoch)), (.d (.sl 3 (List.map d_TPart a1.Parts))), (.d (.int .i64 a1.Move.No)), (.d (.int .i64 a1.Move.Stage)), (.d (.int .i64 a1.Move.Lo)), (.d (.int .i64 a1.Move.Hi)), (.d (.int .i64 a1.Move.From)), (.d (.int .i64 a1.Move.To)), (.d (.sl 2 (List.map d_TCell a1.Move.Cells)))])) eZ rfl VWk.rfl SL.nil) BL.nil BK.nil) ?_
  unfold m_impl_copyAtlas at H
  unfold i_impl_copyAtlas
  refine AW.seq ?_
  refine AW.regs ?_
  refine oBox (n := 64) (m := 9) (cs := [(.d (.int .i64 a1.Epoch)), (.d (.sl 3 (List.map d_TPart a1.Parts))), (.d (.int .i64 a1.Move.No)), (.d (.int .i64 a1.Move.Stage)), (.d (.int .i64 a1.Move.Lo)), (.d (.int .i64 a1.Move.Hi)), (.d (.int .i64 a1.Move.From)), (.d (.int .i64 a1.Move.To)), (.d (.sl 2 (List.map d_TCell a1.Move.Cells)))]) rfl eZ rfl rfl nZ ?_
  refine oVar (n := 128) (m := 9) rfl rfl (nS rfl nZ) ?_
  refine xNil ?_
  refine TQ.qn ?_
  refine AW.seq ?_
  refine AW.regs ?_
  refine oFaddrN (m := 1) (eS rfl eZ) rfl ?_
  refine oLoadV (q := 1) (c := (.d (.sl 3 (List.map d_TPart a1.Parts)))) eZ (bS rfl bZ) rfl rfl ?_
  obtain ⟨v2, h3, H⟩ := obind H
  refine oCallN (u := (.one (.sl 320 0 v2.length))) (bs := [(320, (.data 3 (List.map d_TPart v2) true none))]) eC Cl.fn (c_slices_Clone_Part h3) (Evs.cons eZ Evs.nil) (VDs.cons VD.plain VDs.nil) (by simp [bindR, bindV, bindVs, bindC, bindCs]) rfl (fC (nS rfl (nS rfl nZ)) rfl (fC (nS rfl (nS rfl nZ)) rfl fN)) ?_
  refine oFaddrN (m := 1) (eS rfl (eS rfl (eS rfl (eS rfl eZ)))) rfl ?_
  refine oStoreV (es := [(.d (.int .i64 a1.Epoch)), (.sl 320 0 v2.length), (.d (.int .i64 a1.Move.No)), (.d (.int .i64 a1.Move.Stage)), (.d (.int .i64 a1.Move.Lo)), (.d (.int .i64 a1.Move.Hi)), (.d (.int .i64 a1.Move.From)), (.d (.int .i64 a1.Move.To)), (.d (.sl 2 (List.map d_TCell a1.Move.Cells)))]) eZ (eS rfl eZ) rfl rfl (bS rfl (bS rfl bZ)) rfl ?_
  refine xNil ?_
  refine TQ.qn ?_
  refine AW.seq ?_
  refine AW.regs ?_
  refine oFaddrN (m := 2) (eS rfl (eS rfl (eS rfl (eS rfl (eS rfl eZ))))) rfl ?_
  refine oFaddrN (m := 8) eZ rfl ?_
  refine oLoadV (q := 8) (c := (.d (.sl 2 (List.map d_TCell a1.Move.Cells)))) eZ bZ rfl rfl ?_
  obtain ⟨v4, h5, H⟩ := obind H
  refine oCallN (u := (.one (.sl 640 0 v4.length))) (bs := [(640, (.data 2 (List.map d_TCell v4) true none))]) eC Cl.fn (c_slices_Clone_Cell h5) (Evs.cons eZ Evs.nil) (VDs.cons VD.plain VDs.nil) (by simp [bindR, bindV, bindVs, bindC, bindCs]) rfl (fC (nS rfl (nS rfl (nS rfl (nS rfl nZ)))) rfl (fC (nS rfl (nS rfl (nS rfl (nS rfl nZ)))) rfl fN)) ?_
  refine oFaddrN (m := 2) (eS rfl (eS rfl (eS rfl (eS rfl (eS rfl (eS rfl (eS rfl (eS rfl (eS rfl eZ))))))))) rfl ?_
  refine oFaddrN (m := 8) eZ rfl ?_
  refine oStoreV (es := [(.d (.int .i64 a1.Epoch)), (.sl 320 0 v2.length), (.d (.int .i64 a1.Move.No)), (.d (.int .i64 a1.Move.Stage)), (.d (.int .i64 a1.Move.Lo)), (.d (.int .i64 a1.Move.Hi)), (.d (.int .i64 a1.Move.From)), (.d (.int .i64 a1.Move.To)), (.sl 640 0 v4.length)]) eZ (eS rfl (eS rfl eZ)) rfl rfl (bS rfl bZ) rfl ?_
  refine xNil ?_
  refine TQ.qn ?_
  refine AW.seq ?_
  refine AW.regs ?_
  refine oLoadVA (es := [(.d (.int .i64 a1.Epoch)), (.sl 320 0 v2.length), (.d (.int .i64 a1.Move.No)), (.d (.int .i64 a1.Move.Stage)), (.d (.int .i64 a1.Move.Lo)), (.d (.int .i64 a1.Move.Hi)), (.d (.int .i64 a1.Move.From)), (.d (.int .i64 a1.Move.To)), (.sl 640 0 v4.length)]) (eS rfl (eS rfl (eS rfl (eS rfl (eS rfl (eS rfl (eS rfl (eS rfl (eS rfl (eS rfl (eS rfl eZ))))))))))) bZ rfl ?_
  refine oStoreV (es := [(.d (.int .i64 a1.Epoch)), (.sl 320 0 v2.length), (.d (.int .i64 a1.Move.No)), (.d (.int .i64 a1.Move.Stage)), (.d (.int .i64 a1.Move.Lo)), (.d (.int .i64 a1.Move.Hi)), (.d (.int .i64 a1.Move.From)), (.d (.int .i64 a1.Move.To)), (.sl 640 0 v4.length)]) (eS rfl (eS rfl (eS rfl (eS rfl (eS rfl (eS rfl (eS rfl (eS rfl (eS rfl (eS rfl (eS rfl eZ))))))))))) eZ rfl rfl (bS rfl (bS rfl (bS rfl (bS rfl bZ)))) rfl ?_
  refine xNil ?_
  refine TQ.qn ?_
  refine AW.ret ?_
  obtain rfl := Option.some.inj H
  exact endsR (RL.cons (RV.cellA (es := [(.d (.int .i64 a1.Epoch)), (.sl 320 0 v2.length), (.d (.int .i64 a1.Move.No)), (.d (.int .i64 a1.Move.Stage)), (.d (.int .i64 a1.Move.Lo)), (.d (.int .i64 a1.Move.Hi)), (.d (.int .i64 a1.Move.From)), (.d (.int .i64 a1.Move.To)), (.sl 640 0 v4.length)]) (eS rfl (eS rfl (eS rfl (eS rfl (eS rfl (eS rfl (eS rfl (eS rfl (eS rfl (eS rfl (eS rfl eZ))))))))))) bZ rfl) (VO.aggs (VOs.cons (VO.flat rfl) (VOs.cons (VO.sl (bS rfl (bS rfl (bS rfl (bS rfl bZ)))) (List.length_map _) (allFlat fun _ => rfl)) (VOs.cons (VO.flat rfl) (VOs.cons (VO.flat rfl) (VOs.cons (VO.flat rfl) (VOs.cons (VO.flat rfl) (VOs.cons (VO.flat rfl) (VOs.cons (VO.flat rfl) (VOs.cons (VO.sl (bS rfl (bS rfl bZ)) (List.length_map _) (allFlat fun _ => rfl)) VOs.nil)))))))))) RL.nil) (by decide)

theorem c_impl_MoveRank {a1 : TMove} {r : Int} (H : m_impl_MoveRank a1 = some r) : Fn Try.prog k_impl_MoveRank (lent [(.agg (d_TMove a1))]) true [(.int .i64 r)] := by
  refine i_impl_MoveRank_fn (Nat.le_of_ble_eq_true rfl) ?_
  rw [init_mk]
  refine AW.weaken (wk_mk [] (SL.cons (v := (.agg [(.d (.int .i64 a1.No)), (.d (.int .i64 a1.Stage)), (.d (.int .i64 a1.Lo)), (.d (.int .i64 a1.Hi)), (.d (.int .i64 a1.From)), (.d (.int .i64 a1.To)), (.d (.sl 2 (List.map d_TCell a1.Cells)))])) eZ rfl VWk.rfl SL.nil) BL.nil BK.nil) ?_
  unfold m_impl_MoveRank at H
  unfold i_impl_MoveRank
  refine AW.seq ?_
  refine AW.regs ?_
  refine oBox (n := 64) (m := 7) (cs := [(.d (.int .i64 a1.No)), (.d (.int .i64 a1.Stage)), (.d (.int .i64 a1.Lo)), (.d (.int .i64 a1.Hi)), (.d (.int .i64 a1.From)), (.d (.int .i64 a1.To)), (.d (.sl 2 (List.map d_TCell a1.Cells)))]) rfl eZ rfl rfl nZ ?_
  refine oMov eC ?_
  refine xNil ?_
  refine TQ.qn ?_
  refine AW.seq ?_
  refine AW.seqJ (fun t2 : Bool => (impl_MoveRank_j2 a1) t2 = some r) (fun t2 => mk [(1, (.one (.ptr (.nm 64 0 0)))), (12, (.one (.d (.bool t2))))] [(64, (.vars 7 [(.d (.int .i64 a1.No)), (.d (.int .i64 a1.Stage)), (.d (.int .i64 a1.Lo)), (.d (.int .i64 a1.Hi)), (.d (.int .i64 a1.From)), (.d (.int .i64 a1.To)), (.d (.sl 2 (List.map d_TCell a1.Cells)))]))] noG) ?_ ?_
  · intro t2 H
    unfold impl_MoveRank_j2 at H
    rcases oite H with ⟨h4, H⟩ | ⟨h4, H⟩
    · refine AW.condT (eS rfl eZ) h4 ?_
      refine AW.seq ?_
      refine AW.regs ?_
      refine oMov eC ?_
      refine xNil ?_
      refine TQ.qn ?_
      refine AW.ret ?_
      refine TQ.qr ?_
      obtain rfl := Option.some.inj H
      exact endsR (RL.cons (RV.tmp eZ) (VO.flat rfl) RL.nil) List.nodup_nil
    · refine AW.condF (eS rfl eZ) (nt h4) ?_
      refine AW.skip ?_
      refine TQ.qn ?_
      refine AW.seq ?_
      refine AW.regs ?_
      refine oFaddrN (m := 0) eZ rfl ?_
      refine oLoadV (q := 0) (c := (.d (.int .i64 a1.No))) eZ bZ rfl rfl ?_
      refine oSub eZ eC ?_
      refine oMul eC eZ ?_
      refine oFaddrN (m := 1) (eS rfl (eS rfl (eS rfl (eS rfl eZ)))) rfl ?_
      refine oLoadV (q := 1) (c := (.d (.int .i64 a1.Stage))) eZ bZ rfl rfl ?_
      refine oMin eZ eC ?_
      refine oAdd (eS rfl (eS rfl (eS rfl eZ))) eZ ?_
      refine oMov eZ ?_
      refine xNil ?_
      refine TQ.qn ?_
      refine AW.ret ?_
      obtain rfl := Option.some.inj H
      exact endsR (RL.cons (RV.tmp eZ) (VO.flat rfl) RL.nil) List.nodup_nil
  · refine AW.regs ?_
    refine oFaddrN (m := 0) (eS rfl eZ) rfl ?_
    refine oLoadV (q := 0) (c := (.d (.int .i64 a1.No))) eZ bZ rfl rfl ?_
    obtain ⟨v5, h6, H⟩ := obind H
    refine oCall (u := (.one (.d (.bool v5)))) eC Cl.fn (c_impl_from h6) (Evs.cons eZ (Evs.cons eC (Evs.cons eC Evs.nil))) (VDs.cons VD.plain (VDs.cons VD.plain (VDs.cons VD.plain VDs.nil))) rfl ?_
    refine oInv eZ ?_
    refine oMov eZ ?_
    rcases oite H with ⟨h7, H⟩ | ⟨h7, H⟩
    · refine gDo eZ (congrArg Bool.not h7) ?_
      refine oFaddrN (m := 1) (eS rfl (eS rfl (eS rfl (eS rfl (eS rfl (eS rfl eZ)))))) rfl ?_
      refine gDo (eS rfl eZ) (congrArg Bool.not h7) ?_
      refine oLoadV (q := 1) (c := (.d (.int .i64 a1.Stage))) eZ bZ rfl rfl ?_
      refine gDo (eS rfl (eS rfl eZ)) (congrArg Bool.not h7) ?_
      obtain ⟨v8, h9, H⟩ := obind H
      refine oCall (u := (.one (.d (.bool v8)))) eC Cl.fn (c_impl_from h9) (Evs.cons eZ (Evs.cons eC (Evs.cons eC Evs.nil))) (VDs.cons VD.plain (VDs.cons VD.plain (VDs.cons VD.plain VDs.nil))) rfl ?_
      refine gDo (eS rfl (eS rfl (eS rfl eZ))) (congrArg Bool.not h7) ?_
      refine oInv eZ ?_
      refine oPickF (eS rfl (eS rfl (eS rfl (eS rfl eZ)))) (congrArg Bool.not h7) eZ ?_
      refine xNil ?_
      exact TQ.qn ⟨(!v8), H, (wk_mk [] (SL.cons (eS rfl (eS rfl (eS rfl (eS rfl (eS rfl (eS rfl (eS rfl (eS rfl (eS rfl (eS rfl (eS rfl eZ))))))))))) rfl VWk.rfl (SL.cons eZ rfl VWk.rfl SL.nil)) (BL.keep rfl BL.nil) (BK.cons rfl bZ rfl rfl BK.nil))⟩
    · refine gSkip eZ (congrArg Bool.not (nt h7)) rfl ?_
      refine gSkip (eS rfl eZ) (congrArg Bool.not (nt h7)) rfl ?_
      refine gSkip (eS rfl (eS rfl eZ)) (congrArg Bool.not (nt h7)) rfl ?_
      refine gSkip (eS rfl (eS rfl (eS rfl eZ))) (congrArg Bool.not (nt h7)) rfl ?_
      refine oPickT (eS rfl (eS rfl (eS rfl (eS rfl eZ)))) (congrArg Bool.not (nt h7)) eC ?_
      refine xNil ?_
      exact TQ.qn ⟨true, H, (wk_mk [] (SL.cons (eS rfl (eS rfl (eS rfl (eS rfl (eS rfl (eS rfl (eS rfl (eS rfl (eS rfl (eS rfl (eS rfl eZ))))))))))) rfl VWk.rfl (SL.cons eZ rfl VWk.rfl SL.nil)) (BL.keep rfl BL.nil) (BK.cons rfl bZ rfl rfl BK.nil))⟩

theorem c_impl_RangeIn {a1 : TRange} {a2 : TRange} {r : Bool} (H : m_impl_RangeIn a1 a2 = some r) : Fn Try.prog k_impl_RangeIn (lent [(.agg (d_TRange a1)), (.agg (d_TRange a2))]) true [(.bool r)] := by
  refine i_impl_RangeIn_fn (Nat.le_of_ble_eq_true rfl) ?_
  rw [init_mk]
  refine AW.weaken (wk_mk [] (SL.cons (v := (.agg [(.d (.int .i64 a1.Lo)), (.d (.int .i64 a1.Hi))])) eZ rfl VWk.rfl (SL.cons (v := (.agg [(.d (.int .i64 a2.Lo)), (.d (.int .i64 a2.Hi))])) (eS rfl eZ) rfl VWk.rfl SL.nil)) BL.nil BK.nil) ?_
  unfold m_impl_RangeIn at H
  unfold i_impl_RangeIn
  refine AW.seq ?_
  refine AW.regs ?_
  refine oBox (n := 128) (m := 2) (cs := [(.d (.int .i64 a1.Lo)), (.d (.int .i64 a1.Hi))]) rfl eZ rfl rfl nZ ?_
  refine oBox (n := 192) (m := 2) (cs := [(.d (.int .i64 a2.Lo)), (.d (.int .i64 a2.Hi))]) rfl (eS rfl (eS rfl eZ)) rfl rfl (nS rfl nZ) ?_
  refine oMov eC ?_
  refine xNil ?_
  refine TQ.qn ?_
  refine AW.seq ?_
  refine AW.regs ?_
  refine oLoadVA (es := [(.d (.int .i64 a1.Lo)), (.d (.int .i64 a1.Hi))]) (eS rfl (eS rfl eZ)) (bS rfl bZ) rfl ?_
  obtain ⟨v3, h4, H⟩ := obind H
  refine oCall (u := (.one (.d (.bool v3)))) eC Cl.fn (c_impl_RangeOk h4) (Evs.cons eZ Evs.nil) (VDs.cons (VD.agg rfl) VDs.nil) rfl ?_
  refine oMov eZ ?_
  rcases oite H with ⟨h5, H⟩ | ⟨h5, H⟩
  · refine gDo eZ h5 ?_
    refine oLoadVA (es := [(.d (.int .i64 a2.Lo)), (.d (.int .i64 a2.Hi))]) (eS rfl (eS rfl (eS rfl (eS rfl eZ)))) bZ rfl ?_
    refine gDo (eS rfl eZ) h5 ?_
    obtain ⟨v6, h7, H⟩ := obind H
    refine oCall (u := (.one (.d (.bool v6)))) eC Cl.fn (c_impl_RangeOk h7) (Evs.cons eZ Evs.nil) (VDs.cons (VD.agg rfl) VDs.nil) rfl ?_
    refine oPickT (eS rfl (eS rfl eZ)) h5 eZ ?_
    refine oMov eZ ?_
    rcases oite H with ⟨h8, H⟩ | ⟨h8, H⟩
    · refine gDo eZ h8 ?_
      refine oFaddrN (m := 0) (eS rfl (eS rfl (eS rfl (eS rfl (eS rfl (eS rfl (eS rfl (eS rfl (eS rfl eZ))))))))) rfl ?_
      refine gDo (eS rfl eZ) h8 ?_
      refine oLoadV (q := 0) (c := (.d (.int .i64 a1.Lo))) eZ (bS rfl bZ) rfl rfl ?_
      refine gDo (eS rfl (eS rfl eZ)) h8 ?_
      refine oFaddrN (m := 0) (eS rfl (eS rfl (eS rfl (eS rfl (eS rfl (eS rfl (eS rfl (eS rfl (eS rfl (eS rfl eZ)))))))))) rfl ?_
      refine gDo (eS rfl (eS rfl (eS rfl eZ))) h8 ?_
      refine oLoadV (q := 0) (c := (.d (.int .i64 a2.Lo))) eZ bZ rfl rfl ?_
      refine gDo (eS rfl (eS rfl (eS rfl (eS rfl eZ)))) h8 ?_
      refine oGeq (eS rfl (eS rfl eZ)) eZ ?_
      refine oPickT (eS rfl (eS rfl (eS rfl (eS rfl (eS rfl eZ))))) h8 eZ ?_
      refine oMov eZ ?_
      rcases oite H with ⟨h9, H⟩ | ⟨h9, H⟩
      · refine gDo eZ (decide_eq_true h9) ?_
        refine oFaddrN (m := 1) (eS rfl (eS rfl (eS rfl (eS rfl (eS rfl (eS rfl (eS rfl (eS rfl (eS rfl (eS rfl (eS rfl (eS rfl (eS rfl (eS rfl (eS rfl (eS rfl eZ)))))))))))))))) rfl ?_
        refine gDo (eS rfl eZ) (decide_eq_true h9) ?_
        refine oLoadV (q := 1) (c := (.d (.int .i64 a1.Hi))) eZ (bS rfl bZ) rfl rfl ?_
        refine gDo (eS rfl (eS rfl eZ)) (decide_eq_true h9) ?_
        refine oFaddrN (m := 1) (eS rfl (eS rfl (eS rfl (eS rfl (eS rfl (eS rfl (eS rfl (eS rfl (eS rfl (eS rfl (eS rfl (eS rfl (eS rfl (eS rfl (eS rfl (eS rfl (eS rfl eZ))))))))))))))))) rfl ?_
        refine gDo (eS rfl (eS rfl (eS rfl eZ))) (decide_eq_true h9) ?_
        refine oLoadV (q := 1) (c := (.d (.int .i64 a2.Hi))) eZ bZ rfl rfl ?_
        refine gDo (eS rfl (eS rfl (eS rfl (eS rfl eZ)))) (decide_eq_true h9) ?_
        refine oLeq (eS rfl (eS rfl eZ)) eZ ?_
        refine oPickT (eS rfl (eS rfl (eS rfl (eS rfl (eS rfl eZ))))) (decide_eq_true h9) eZ ?_
        refine oMov eZ ?_
        refine xNil ?_
        refine TQ.qn ?_
        refine AW.weaken (wk_mk [192, 128] (SL.cons (k := 4) eZ rfl VWk.rfl SL.nil) (BL.drop rfl (BL.drop rfl BL.nil)) BK.nil) ?_
        refine AW.ret ?_
        obtain rfl := Option.some.inj H
        exact endsR (RL.cons (RV.tmp eZ) (VO.flat rfl) RL.nil) List.nodup_nil
      · refine gSkip eZ (decide_eq_false h9) rfl ?_
        refine gSkip (eS rfl eZ) (decide_eq_false h9) rfl ?_
        refine gSkip (eS rfl (eS rfl eZ)) (decide_eq_false h9) rfl ?_
        refine gSkip (eS rfl (eS rfl (eS rfl eZ))) (decide_eq_false h9) rfl ?_
        refine gSkip (eS rfl (eS rfl (eS rfl (eS rfl eZ)))) (decide_eq_false h9) rfl ?_
        refine oPickF (eS rfl (eS rfl (eS rfl (eS rfl (eS rfl eZ))))) (decide_eq_false h9) eC ?_
        refine oMov eZ ?_
        refine xNil ?_
        refine TQ.qn ?_
        refine AW.weaken (wk_mk [192, 128] (SL.cons (k := 4) eZ rfl VWk.rfl SL.nil) (BL.drop rfl (BL.drop rfl BL.nil)) BK.nil) ?_
        refine AW.ret ?_
        obtain rfl := Option.some.inj H
        exact endsR (RL.cons (RV.tmp eZ) (VO.flat rfl) RL.nil) List.nodup_nil
    · refine gSkip eZ (nt h8) rfl ?_
      refine gSkip (eS rfl eZ) (nt h8) rfl ?_
      refine gSkip (eS rfl (eS rfl eZ)) (nt h8) rfl ?_
      refine gSkip (eS rfl (eS rfl (eS rfl eZ))) (nt h8) rfl ?_
      refine gSkip (eS rfl (eS rfl (eS rfl (eS rfl eZ)))) (nt h8) rfl ?_
      refine oPickF (eS rfl (eS rfl (eS rfl (eS rfl (eS rfl eZ))))) (nt h8) eC ?_
      refine oMov eZ ?_
      refine gSkip eZ rfl rfl ?_
      refine gSkip (eS rfl eZ) rfl rfl ?_
      refine gSkip (eS rfl (eS rfl eZ)) rfl rfl ?_
      refine gSkip (eS rfl (eS rfl (eS rfl eZ))) rfl rfl ?_
      refine gSkip (eS rfl (eS rfl (eS rfl (eS rfl eZ)))) rfl rfl ?_
      refine oPickF (eS rfl (eS rfl (eS rfl (eS rfl (eS rfl eZ))))) rfl eC ?_
      refine oMov eZ ?_
      refine xNil ?_
      refine TQ.qn ?_
      refine AW.weaken (wk_mk [192, 128] (SL.cons (k := 4) eZ rfl VWk.rfl SL.nil) (BL.drop rfl (BL.drop rfl BL.nil)) BK.nil) ?_
      refine AW.ret ?_
      obtain rfl := Option.some.inj H
      exact endsR (RL.cons (RV.tmp eZ) (VO.flat rfl) RL.nil) List.nodup_nil
  · refine gSkip eZ (nt h5) rfl ?_
    refine gSkip (eS rfl eZ) (nt h5) rfl ?_
    refine oPickF (eS rfl (eS rfl eZ)) (nt h5) eC ?_
    refine oMov eZ ?_
    refine gSkip eZ rfl rfl ?_
    refine gSkip (eS rfl eZ) rfl rfl ?_
    refine gSkip (eS rfl (eS rfl eZ)) rfl rfl ?_
    refine gSkip (eS rfl (eS rfl (eS rfl eZ))) rfl rfl ?_
    refine gSkip (eS rfl (eS rfl (eS rfl (eS rfl eZ)))) rfl rfl ?_
    refine oPickF (eS rfl (eS rfl (eS rfl (eS rfl (eS rfl eZ))))) rfl eC ?_
    refine oMov eZ ?_
    refine gSkip eZ rfl rfl ?_
    refine gSkip (eS rfl eZ) rfl rfl ?_
    refine gSkip (eS rfl (eS rfl eZ)) rfl rfl ?_
    refine gSkip (eS rfl (eS rfl (eS rfl eZ))) rfl rfl ?_
    refine gSkip (eS rfl (eS rfl (eS rfl (eS rfl eZ)))) rfl rfl ?_
    refine oPickF (eS rfl (eS rfl (eS rfl (eS rfl (eS rfl eZ))))) rfl eC ?_
    refine oMov eZ ?_
    refine xNil ?_
    refine TQ.qn ?_
    refine AW.weaken (wk_mk [192, 128] (SL.cons (k := 4) eZ rfl VWk.rfl SL.nil) (BL.drop rfl (BL.drop rfl BL.nil)) BK.nil) ?_
    refine AW.ret ?_
    obtain rfl := Option.some.inj H
    exact endsR (RL.cons (RV.tmp eZ) (VO.flat rfl) RL.nil) List.nodup_nil

theorem c_impl_AtlasInstalled {a1 : TAtlas} {a2 : Int} {a3 : Bool} {r : (TAtlas × Int)} (H : m_impl_AtlasInstalled a1 a2 a3 = some r) : Fn Try.prog k_impl_AtlasInstalled (lent [(.agg (d_TAtlas a1)), (.int .i64 a2), (.bool a3)]) true [(.agg (d_TAtlas r.1)), (.int .i64 r.2)] := by
  refine i_impl_AtlasInstalled_fn (Nat.le_of_ble_eq_true rfl) ?_
  rw [init_mk]
  refine AW.weaken (wk_mk [] (SL.cons (v := (.agg [(.d (.int .i64 a1.Epoch)), (.d (.sl 3 (List.map d_TPart a1.Parts))), (.d (.int .i64 a1.Move.No)), (.d (.int .i64 a1.Move.Stage)), (.d (.int .i64 a1.Move.Lo)), (.d (.int .i64 a1.Move.Hi)), (.d (.int .i64 a1.Move.From)), (.d (.int .i64 a1.Move.To)), (.d (.sl 2 (List.map d_TCell a1.Move.Cells)))])) eZ rfl VWk.rfl (SL.cons (v := (.one (.d (.int .i64 a2)))) (eS rfl eZ) rfl VWk.rfl (SL.cons (v := (.one (.d (.bool a3)))) (eS rfl (eS rfl eZ)) rfl VWk.rfl SL.nil))) BL.nil BK.nil) ?_
  unfold m_impl_AtlasInstalled at H
  unfold i_impl_AtlasInstalled
  refine AW.seq ?_
  refine AW.regs ?_
  refine oBox (n := 192) (m := 9) (cs := [(.d (.int .i64 a1.Epoch)), (.d (.sl 3 (List.map d_TPart a1.Parts))), (.d (.int .i64 a1.Move.No)), (.d (.int .i64 a1.Move.Stage)), (.d (.int .i64 a1.Move.Lo)), (.d (.int .i64 a1.Move.Hi)), (.d (.int .i64 a1.Move.From)), (.d (.int .i64 a1.Move.To)), (.d (.sl 2 (List.map d_TCell a1.Move.Cells)))]) rfl eZ rfl rfl nZ ?_
  refine oVar (n := 384) (m := 9) rfl rfl (nS rfl nZ) ?_
  refine oMov eC ?_
  refine xNil ?_
  refine TQ.qn ?_
  refine AW.seq ?_
  refine AW.seq ?_
  refine AW.regs ?_
  refine oLoadVA (es := [(.d (.int .i64 a1.Epoch)), (.d (.sl 3 (List.map d_TPart a1.Parts))), (.d (.int .i64 a1.Move.No)), (.d (.int .i64 a1.Move.Stage)), (.d (.int .i64 a1.Move.Lo)), (.d (.int .i64 a1.Move.Hi)), (.d (.int .i64 a1.Move.From)), (.d (.int .i64 a1.Move.To)), (.d (.sl 2 (List.map d_TCell a1.Move.Cells)))]) (eS rfl (eS rfl eZ)) (bS rfl bZ) rfl ?_
  obtain ⟨v4, h5, H⟩ := obind H
  refine oCall (u := (.one (.d (.bool v4)))) eC Cl.fn (c_impl_AtlasOk h5) (Evs.cons eZ Evs.nil) (VDs.cons (VD.agg rfl) VDs.nil) rfl ?_
  refine oInv eZ ?_
  refine xNil ?_
  refine TQ.qn ?_
  rcases oite H with ⟨h6, H⟩ | ⟨h6, H⟩
  · refine AW.condF eZ (congrArg Bool.not h6) ?_
    refine AW.skip ?_
    refine TQ.qn ?_
    refine AW.seq ?_
    refine AW.regs ?_
    refine oLoadVA (es := [(.d (.int .i64 a1.Epoch)), (.d (.sl 3 (List.map d_TPart a1.Parts))), (.d (.int .i64 a1.Move.No)), (.d (.int .i64 a1.Move.Stage)), (.d (.int .i64 a1.Move.Lo)), (.d (.int .i64 a1.Move.Hi)), (.d (.int .i64 a1.Move.From)), (.d (.int .i64 a1.Move.To)), (.d (.sl 2 (List.map d_TCell a1.Move.Cells)))]) (eS rfl (eS rfl (eS rfl (eS rfl (eS rfl eZ))))) (bS rfl bZ) rfl ?_
    obtain ⟨v7, h8, H⟩ := obind H
    refine oCallN (u := (.agg [(.d (.int .i64 v7.Epoch)), (.sl 1025 0 v7.Parts.length), (.d (.int .i64 v7.Move.No)), (.d (.int .i64 v7.Move.Stage)), (.d (.int .i64 v7.Move.Lo)), (.d (.int .i64 v7.Move.Hi)), (.d (.int .i64 v7.Move.From)), (.d (.int .i64 v7.Move.To)), (.sl 1032 0 v7.Move.Cells.length)])) (bs := [(1025, (.data 3 (List.map d_TPart v7.Parts) true none)), (1032, (.data 2 (List.map d_TCell v7.Move.Cells) true none))]) eC Cl.fn (c_impl_copyAtlas h8) (Evs.cons eZ Evs.nil) (VDs.cons (VD.agg rfl) VDs.nil) (by simp [bindR, bindV, bindVs, bindC, bindCs]) rfl (fC (nS rfl (nS rfl nZ)) rfl (fC (nS rfl (nS rfl nZ)) rfl (fC (nS rfl (nS rfl nZ)) rfl fN))) ?_
    refine oVar (n := 512) (m := 9) rfl rfl (nS rfl (nS rfl (nS rfl (nS rfl nZ)))) ?_
    refine oStoreV (es := [(.d (.int .i64 v7.Epoch)), (.sl 1025 0 v7.Parts.length), (.d (.int .i64 v7.Move.No)), (.d (.int .i64 v7.Move.Stage)), (.d (.int .i64 v7.Move.Lo)), (.d (.int .i64 v7.Move.Hi)), (.d (.int .i64 v7.Move.From)), (.d (.int .i64 v7.Move.To)), (.sl 1032 0 v7.Move.Cells.length)]) eZ (eS rfl eZ) rfl rfl bZ rfl ?_
    refine xNil ?_
    refine TQ.qn ?_
    refine AW.seq ?_
    refine AW.seqJ (fun t9 : Bool => (impl_AtlasInstalled_j9 v7 a3 a1) t9 = some r) (fun t9 => mk [(2, (.one (.d (.bool a3)))), (3, (.one (.ptr (.nm 192 0 0)))), (6, (.one (.ptr (.nm 384 0 0)))), (8, (.one (.ptr (.nm 512 0 0)))), (35, (.one (.d (.bool t9))))] [(192, (.vars 9 [(.d (.int .i64 a1.Epoch)), (.d (.sl 3 (List.map d_TPart a1.Parts))), (.d (.int .i64 a1.Move.No)), (.d (.int .i64 a1.Move.Stage)), (.d (.int .i64 a1.Move.Lo)), (.d (.int .i64 a1.Move.Hi)), (.d (.int .i64 a1.Move.From)), (.d (.int .i64 a1.Move.To)), (.d (.sl 2 (List.map d_TCell a1.Move.Cells)))])), (384, (.vars 9 [(.d (.int .i64 0)), .zs, (.d (.int .i64 0)), (.d (.int .i64 0)), (.d (.int .i64 0)), (.d (.int .i64 0)), (.d (.int .i64 0)), (.d (.int .i64 0)), .zs])), (512, (.vars 9 [(.d (.int .i64 v7.Epoch)), (.sl 1025 0 v7.Parts.length), (.d (.int .i64 v7.Move.No)), (.d (.int .i64 v7.Move.Stage)), (.d (.int .i64 v7.Move.Lo)), (.d (.int .i64 v7.Move.Hi)), (.d (.int .i64 v7.Move.From)), (.d (.int .i64 v7.Move.To)), (.sl 1032 0 v7.Move.Cells.length)])), (1025, (.data 3 (List.map d_TPart v7.Parts) true none)), (1032, (.data 2 (List.map d_TCell v7.Move.Cells) true none))] noG) ?_ ?_
    · intro t9 H
      unfold impl_AtlasInstalled_j9 at H
      rcases oite H with ⟨h11, H⟩ | ⟨h11, H⟩
      · refine AW.condT (eS rfl (eS rfl (eS rfl (eS rfl eZ)))) h11 ?_
        refine AW.seq ?_
        refine AW.regs ?_
        refine oLoadVA (es := [(.d (.int .i64 v7.Epoch)), (.sl 1025 0 v7.Parts.length), (.d (.int .i64 v7.Move.No)), (.d (.int .i64 v7.Move.Stage)), (.d (.int .i64 v7.Move.Lo)), (.d (.int .i64 v7.Move.Hi)), (.d (.int .i64 v7.Move.From)), (.d (.int .i64 v7.Move.To)), (.sl 1032 0 v7.Move.Cells.length)]) (eS rfl (eS rfl (eS rfl eZ))) (bS rfl (bS rfl bZ)) rfl ?_
        refine oStoreV (es := [(.d (.int .i64 v7.Epoch)), (.sl 1025 0 v7.Parts.length), (.d (.int .i64 v7.Move.No)), (.d (.int .i64 v7.Move.Stage)), (.d (.int .i64 v7.Move.Lo)), (.d (.int .i64 v7.Move.Hi)), (.d (.int .i64 v7.Move.From)), (.d (.int .i64 v7.Move.To)), (.sl 1032 0 v7.Move.Cells.length)]) (eS rfl (eS rfl (eS rfl eZ))) eZ rfl rfl (bS rfl bZ) rfl ?_
        refine oMov eC ?_
        refine xNil ?_
        refine TQ.qn ?_
        refine AW.ret ?_
        refine TQ.qr ?_
        obtain rfl := Option.some.inj H
        exact endsR (RL.cons (RV.cellA (es := [(.d (.int .i64 v7.Epoch)), (.sl 1025 0 v7.Parts.length), (.d (.int .i64 v7.Move.No)), (.d (.int .i64 v7.Move.Stage)), (.d (.int .i64 v7.Move.Lo)), (.d (.int .i64 v7.Move.Hi)), (.d (.int .i64 v7.Move.From)), (.d (.int .i64 v7.Move.To)), (.sl 1032 0 v7.Move.Cells.length)]) (eS rfl (eS rfl (eS rfl (eS rfl eZ)))) bZ rfl) (VO.aggs (VOs.cons (VO.flat rfl) (VOs.cons (VO.sl (bS rfl (bS rfl (bS rfl (bS rfl bZ)))) (List.length_map _) (allFlat fun _ => rfl)) (VOs.cons (VO.flat rfl) (VOs.cons (VO.flat rfl) (VOs.cons (VO.flat rfl) (VOs.cons (VO.flat rfl) (VOs.cons (VO.flat rfl) (VOs.cons (VO.flat rfl) (VOs.cons (VO.sl (bS rfl (bS rfl (bS rfl (bS rfl (bS rfl bZ))))) (List.length_map _) (allFlat fun _ => rfl)) VOs.nil)))))))))) (RL.cons (RV.tmp eZ) (VO.flat rfl) RL.nil)) (by decide)
      · refine AW.condF (eS rfl (eS rfl (eS rfl (eS rfl eZ)))) (nt h11) ?_
        refine AW.skip ?_
        refine TQ.qn ?_
        refine AW.seq ?_
        refine AW.regs ?_
        refine oFaddrN (m := 2) (eS rfl (eS rfl (eS rfl eZ))) rfl ?_
        refine oFaddrN (m := 8) eZ rfl ?_
        refine oStoreV (es := [(.d (.int .i64 v7.Epoch)), (.sl 1025 0 v7.Parts.length), (.d (.int .i64 v7.Move.No)), (.d (.int .i64 v7.Move.Stage)), (.d (.int .i64 v7.Move.Lo)), (.d (.int .i64 v7.Move.Hi)), (.d (.int .i64 v7.Move.From)), (.d (.int .i64 v7.Move.To)), .zs]) eZ eC rfl rfl (bS rfl (bS rfl bZ)) rfl ?_
        refine xNil ?_
        refine TQ.qn ?_
        refine AW.seq ?_
        refine AW.regs ?_
        refine oFaddrN (m := 2) (eS rfl (eS rfl (eS rfl (eS rfl (eS rfl eZ))))) rfl ?_
        refine oFaddrN (m := 3) eZ rfl ?_
        refine oStoreV (es := [(.d (.int .i64 v7.Epoch)), (.sl 1025 0 v7.Parts.length), (.d (.int .i64 v7.Move.No)), (.d (.int .i64 4)), (.d (.int .i64 v7.Move.Lo)), (.d (.int .i64 v7.Move.Hi)), (.d (.int .i64 v7.Move.From)), (.d (.int .i64 v7.Move.To)), .zs]) eZ eC rfl rfl bZ rfl ?_
        refine xNil ?_
        refine TQ.qn ?_
        refine AW.seq ?_
        refine AW.seq ?_
        refine AW.regs ?_
        refine oMov (eS rfl (eS rfl (eS rfl (eS rfl eZ)))) ?_
        refine oInv eZ ?_
        refine xNil ?_
        refine TQ.qn ?_
        rcases oite H with ⟨h12, H⟩ | ⟨h12, H⟩
        · refine AW.condF eZ (congrArg Bool.not h12) ?_
          refine AW.skip ?_
          refine TQ.qn ?_
          refine AW.seq ?_
          refine AW.regs ?_
          refine oFaddrN (m := 2) (eS rfl (eS rfl (eS rfl (eS rfl (eS rfl (eS rfl (eS rfl (eS rfl (eS rfl eZ))))))))) rfl ?_
          refine oFaddrN (m := 3) eZ rfl ?_
          refine oStoreV (es := [(.d (.int .i64 v7.Epoch)), (.sl 1025 0 v7.Parts.length), (.d (.int .i64 v7.Move.No)), (.d (.int .i64 3)), (.d (.int .i64 v7.Move.Lo)), (.d (.int .i64 v7.Move.Hi)), (.d (.int .i64 v7.Move.From)), (.d (.int .i64 v7.Move.To)), .zs]) eZ eC rfl rfl bZ rfl ?_
          refine xNil ?_
          refine TQ.qn ?_
          refine AW.seq ?_
          refine AW.regs ?_
          refine oFaddrN (m := 0) (eS rfl (eS rfl (eS rfl (eS rfl (eS rfl (eS rfl (eS rfl (eS rfl (eS rfl (eS rfl (eS rfl eZ))))))))))) rfl ?_
          refine oLoadV (q := 0) (c := (.d (.int .i64 v7.Epoch))) eZ bZ rfl rfl ?_
          refine oAdd eZ eC ?_
          refine oFaddrN (m := 0) (eS rfl (eS rfl (eS rfl (eS rfl (eS rfl (eS rfl (eS rfl (eS rfl (eS rfl (eS rfl (eS rfl (eS rfl (eS rfl (eS rfl eZ)))))))))))))) rfl ?_
          refine oStoreV (es := [(.d (.int .i64 (IntKind.wrap .i64 (v7.Epoch + 1)))), (.sl 1025 0 v7.Parts.length), (.d (.int .i64 v7.Move.No)), (.d (.int .i64 3)), (.d (.int .i64 v7.Move.Lo)), (.d (.int .i64 v7.Move.Hi)), (.d (.int .i64 v7.Move.From)), (.d (.int .i64 v7.Move.To)), .zs]) eZ (eS rfl eZ) rfl rfl bZ rfl ?_
          refine xNil ?_
          refine TQ.qn ?_
          refine AW.weaken (wk_mk [1032] (SL.cons (k := 3) (eS rfl (eS rfl (eS rfl (eS rfl (eS rfl (eS rfl (eS rfl (eS rfl (eS rfl (eS rfl (eS rfl (eS rfl (eS rfl eZ))))))))))))) rfl VWk.rfl (SL.cons (k := 6) (eS rfl (eS rfl (eS rfl (eS rfl (eS rfl (eS rfl (eS rfl (eS rfl (eS rfl (eS rfl (eS rfl (eS rfl (eS rfl (eS rfl eZ)))))))))))))) rfl VWk.rfl (SL.cons (k := 8) (eS rfl (eS rfl (eS rfl (eS rfl (eS rfl (eS rfl (eS rfl (eS rfl (eS rfl (eS rfl (eS rfl (eS rfl (eS rfl (eS rfl (eS rfl eZ))))))))))))))) rfl VWk.rfl SL.nil))) (BL.keep rfl (BL.keep rfl (BL.keep rfl (BL.keep rfl (BL.keep rfl (BL.keep rfl (BL.keep rfl (BL.keep rfl (BL.drop rfl BL.nil))))))))) (BK.cons (n := 512) rfl bZ rfl rfl (BK.cons (n := 192) rfl (bS rfl (bS rfl (bS rfl (bS rfl bZ)))) rfl rfl (BK.cons (n := 384) rfl (bS rfl (bS rfl (bS rfl (bS rfl (bS rfl bZ))))) rfl rfl (BK.cons (n := 1025) rfl (bS rfl (bS rfl (bS rfl (bS rfl (bS rfl (bS rfl (bS rfl bZ))))))) rfl rfl BK.nil))))) ?_
          refine AW.seqJ (fun t13 : (List TPart) => (impl_AtlasInstalled_j13 v7) t13 = some r) (fun t13 => mk [(6, (.one (.ptr (.nm 384 0 0)))), (8, (.one (.ptr (.nm 512 0 0))))] [(384, (.vars 9 [(.d (.int .i64 0)), .zs, (.d (.int .i64 0)), (.d (.int .i64 0)), (.d (.int .i64 0)), (.d (.int .i64 0)), (.d (.int .i64 0)), (.d (.int .i64 0)), .zs])), (320128, (.data 3 (List.map d_TPart t13) true none)), (512, (.vars 9 [(.d (.int .i64 (IntKind.wrap .i64 (v7.Epoch + 1)))), (.sl 320128 0 t13.length), (.d (.int .i64 v7.Move.No)), (.d (.int .i64 3)), (.d (.int .i64 v7.Move.Lo)), (.d (.int .i64 v7.Move.Hi)), (.d (.int .i64 v7.Move.From)), (.d (.int .i64 v7.Move.To)), .zs]))] noG) ?_ ?_
          · intro t13 H
            unfold impl_AtlasInstalled_j13 at H
            refine AW.seq ?_
            refine AW.regs ?_
            refine oLoadVA (es := [(.d (.int .i64 (IntKind.wrap .i64 (v7.Epoch + 1)))), (.sl 320128 0 t13.length), (.d (.int .i64 v7.Move.No)), (.d (.int .i64 3)), (.d (.int .i64 v7.Move.Lo)), (.d (.int .i64 v7.Move.Hi)), (.d (.int .i64 v7.Move.From)), (.d (.int .i64 v7.Move.To)), .zs]) (eS rfl eZ) (bS rfl (bS rfl bZ)) rfl ?_
            refine oStoreV (es := [(.d (.int .i64 (IntKind.wrap .i64 (v7.Epoch + 1)))), (.sl 320128 0 t13.length), (.d (.int .i64 v7.Move.No)), (.d (.int .i64 3)), (.d (.int .i64 v7.Move.Lo)), (.d (.int .i64 v7.Move.Hi)), (.d (.int .i64 v7.Move.From)), (.d (.int .i64 v7.Move.To)), .zs]) (eS rfl eZ) eZ rfl rfl bZ rfl ?_
            refine oMov eC ?_
            refine xNil ?_
            refine TQ.qn ?_
            refine AW.ret ?_
            obtain rfl := Option.some.inj H
            exact endsR (RL.cons (RV.cellA (es := [(.d (.int .i64 (IntKind.wrap .i64 (v7.Epoch + 1)))), (.sl 320128 0 t13.length), (.d (.int .i64 v7.Move.No)), (.d (.int .i64 3)), (.d (.int .i64 v7.Move.Lo)), (.d (.int .i64 v7.Move.Hi)), (.d (.int .i64 v7.Move.From)), (.d (.int .i64 v7.Move.To)), .zs]) (eS rfl (eS rfl eZ)) bZ rfl) (VO.aggs (VOs.cons (VO.flat rfl) (VOs.cons (VO.sl (bS rfl (bS rfl bZ)) (List.length_map _) (allFlat fun _ => rfl)) (VOs.cons (VO.flat rfl) (VOs.cons (VO.flat rfl) (VOs.cons (VO.flat rfl) (VOs.cons (VO.flat rfl) (VOs.cons (VO.flat rfl) (VOs.cons (VO.flat rfl) (VOs.cons VO.zs VOs.nil)))))))))) (RL.cons (RV.tmp eZ) (VO.flat rfl) RL.nil)) (by decide)
          · refine AW.seq ?_
            refine AW.regs ?_
            refine oFaddrN (m := 1) (eS rfl (eS rfl eZ)) rfl ?_
            refine oLoadV (q := 1) (c := (.sl 1025 0 v7.Parts.length)) eZ bZ rfl rfl ?_
            refine oLenN eZ ?_
            refine oMov eC ?_
            refine xNil ?_
            refine TQ.qn ?_
            refine AW.block ?_
            refine AW.iter (fun s15 : ((List TPart) × Int) => mk [(3, (.one (.ptr (.nm 192 0 0)))), (6, (.one (.ptr (.nm 384 0 0)))), (8, (.one (.ptr (.nm 512 0 0)))), (51, (.one (.sl 320192 0 s15.1.length))), (52, (.one (.d (.int .i64 ((v7.Parts.length : Nat) : Int))))), (53, (.one (.d (.int .i64 s15.2))))] [(320192, (.data 3 (List.map d_TPart s15.1) true none)), (192, (.vars 9 [(.d (.int .i64 a1.Epoch)), (.d (.sl 3 (List.map d_TPart a1.Parts))), (.d (.int .i64 a1.Move.No)), (.d (.int .i64 a1.Move.Stage)), (.d (.int .i64 a1.Move.Lo)), (.d (.int .i64 a1.Move.Hi)), (.d (.int .i64 a1.Move.From)), (.d (.int .i64 a1.Move.To)), (.d (.sl 2 (List.map d_TCell a1.Move.Cells)))])), (384, (.vars 9 [(.d (.int .i64 0)), .zs, (.d (.int .i64 0)), (.d (.int .i64 0)), (.d (.int .i64 0)), (.d (.int .i64 0)), (.d (.int .i64 0)), (.d (.int .i64 0)), .zs])), (512, (.vars 9 [(.d (.int .i64 (IntKind.wrap .i64 (v7.Epoch + 1)))), (.sl 320192 0 s15.1.length), (.d (.int .i64 v7.Move.No)), (.d (.int .i64 3)), (.d (.int .i64 v7.Move.Lo)), (.d (.int .i64 v7.Move.Hi)), (.d (.int .i64 v7.Move.From)), (.d (.int .i64 v7.Move.To)), .zs]))] noG) H ((wk_mk [] (SL.cons (eS rfl (eS rfl (eS rfl (eS rfl eZ)))) rfl VWk.rfl (SL.cons (eS rfl (eS rfl (eS rfl (eS rfl (eS rfl eZ))))) rfl VWk.rfl (SL.cons (eS rfl (eS rfl (eS rfl (eS rfl (eS rfl (eS rfl eZ)))))) rfl VWk.rfl (SL.cons (eS rfl (eS rfl eZ)) rfl VWk.rfl (SL.cons (eS rfl eZ) rfl VWk.rfl (SL.cons eZ rfl VWk.rfl SL.nil)))))) (BL.keep rfl (BL.keep rfl (BL.keep rfl (BL.keep rfl BL.nil)))) (BK.cons rfl (bS rfl (bS rfl (bS rfl bZ))) rfl rfl (BK.cons rfl (bS rfl bZ) rfl rfl (BK.cons rfl (bS rfl (bS rfl bZ)) rfl rfl (BK.cons rfl bZ rfl (by first | rfl | simp) BK.nil))))).trans (wk_ren 1025 320192 rfl rfl (nS rfl (nS rfl (nS rfl (nS rfl nZ)))))) ?_
            intro kb16 s15 H
            unfold impl_AtlasInstalled_b15 at H
            refine AW.seq ?_
            refine AW.regs ?_
            refine oLss (eS rfl (eS rfl (eS rfl (eS rfl (eS rfl eZ))))) (eS rfl (eS rfl (eS rfl (eS rfl eZ)))) ?_
            refine xNil ?_
            refine TQ.qn ?_
            refine AW.seq ?_
            rcases oite H with ⟨h17, H⟩ | ⟨h17, H⟩
            · refine AW.condT eZ (decide_eq_true h17) ?_
              refine AW.skip ?_
              refine TQ.qn ?_
              refine AW.seq ?_
              refine AW.block ?_
              refine AW.seq ?_
              refine AW.regs ?_
              refine oMov (eS rfl (eS rfl (eS rfl (eS rfl (eS rfl (eS rfl eZ)))))) ?_
              obtain ⟨v18, h19, H⟩ := obind H
              refine oAtN (eS rfl (eS rfl (eS rfl (eS rfl (eS rfl eZ))))) (eS rfl (eS rfl (eS rfl (eS rfl (eS rfl (eS rfl (eS rfl eZ))))))) bZ rfl h19 ?_
              refine oLoadDA (t := v18) (es := [(.int .i64 v18.Lo), (.int .i64 v18.Hi), (.int .i64 v18.Owner)]) (cs := [(.d (.int .i64 v18.Lo)), (.d (.int .i64 v18.Hi)), (.d (.int .i64 v18.Owner))]) eZ bZ (idx_at h19) rfl rfl rfl ?_
              refine oVar (n := 640) (m := 3) rfl rfl (nS rfl (nS rfl (nS rfl (nS rfl nZ)))) ?_
              refine oMov (eS rfl (eS rfl (eS rfl eZ))) ?_
              refine oStoreV (es := [(.d (.int .i64 v18.Lo)), (.d (.int .i64 v18.Hi)), (.d (.int .i64 v18.Owner))]) (eS rfl eZ) (eS rfl (eS rfl eZ)) rfl rfl bZ rfl ?_
              refine xNil ?_
              refine TQ.qn ?_
              refine AW.seq ?_
              refine AW.regd ?_
              refine oFaddrN (m := 0) (eS rfl eZ) rfl ?_
              refine oLoadV (q := 0) (c := (.d (.int .i64 v18.Lo))) eZ (hB rfl bZ) rfl rfl ?_
              refine oFaddrN (m := 1) (eS rfl (eS rfl (eS rfl eZ))) rfl ?_
              refine oLoadV (q := 1) (c := (.d (.int .i64 v18.Hi))) eZ (hB rfl bZ) rfl rfl ?_
              refine oBuild (cs := [(.d (.int .i64 v18.Lo)), (.d (.int .i64 v18.Hi))]) (PsCons (eS rfl (eS rfl eZ)) (PsCons eZ PsNil)) rfl ?_
              refine oFaddrN (m := 2) (eS rfl (eS rfl (eS rfl (eS rfl (eS rfl (eS rfl (eS rfl (eS rfl (eS rfl (eS rfl (eS rfl eZ))))))))))) rfl ?_
              refine oLoadVA (es := [(.d (.int .i64 a1.Move.No)), (.d (.int .i64 a1.Move.Stage)), (.d (.int .i64 a1.Move.Lo)), (.d (.int .i64 a1.Move.Hi)), (.d (.int .i64 a1.Move.From)), (.d (.int .i64 a1.Move.To)), (.d (.sl 2 (List.map d_TCell a1.Move.Cells)))]) eZ (bS rfl (bS rfl (bS rfl bZ))) rfl ?_
              obtain ⟨v20, h21, H⟩ := obind H
              refine oCall (u := (.agg [(.d (.int .i64 v20.Lo)), (.d (.int .i64 v20.Hi))])) eC Cl.fn (c_impl_Move_keys h21) (Evs.cons eZ Evs.nil) (VDs.cons (VD.agg rfl) VDs.nil) rfl ?_
              obtain ⟨v22, h23, H⟩ := obind H
              refine oCall (u := (.one (.d (.bool v22)))) eC Cl.fn (c_impl_RangeIn h23) (Evs.cons (eS rfl (eS rfl (eS rfl eZ))) (Evs.cons eZ Evs.nil)) (VDs.cons (VD.agg rfl) (VDs.cons (VD.agg rfl) VDs.nil)) rfl ?_
              refine xNil ?_
              refine TQ.qn ?_
              refine AW.weaken (wk_mk [640] (SL.cons (k := 66) eZ rfl VWk.rfl (SL.cons (k := 9) (eS rfl (eS rfl (eS rfl (eS rfl (eS rfl (eS rfl (eS rfl (eS rfl (eS rfl eZ))))))))) rfl VWk.rfl (SL.cons (k := 3) (eS rfl (eS rfl (eS rfl (eS rfl (eS rfl (eS rfl (eS rfl (eS rfl (eS rfl (eS rfl (eS rfl (eS rfl (eS rfl (eS rfl (eS rfl eZ))))))))))))))) rfl VWk.rfl (SL.cons (k := 6) (eS rfl (eS rfl (eS rfl (eS rfl (eS rfl (eS rfl (eS rfl (eS rfl (eS rfl (eS rfl (eS rfl (eS rfl (eS rfl (eS rfl (eS rfl (eS rfl eZ)))))))))))))))) rfl VWk.rfl (SL.cons (k := 8) (eS rfl (eS rfl (eS rfl (eS rfl (eS rfl (eS rfl (eS rfl (eS rfl (eS rfl (eS rfl (eS rfl (eS rfl (eS rfl (eS rfl (eS rfl (eS rfl (eS rfl eZ))))))))))))))))) rfl VWk.rfl (SL.cons (k := 51) (eS rfl (eS rfl (eS rfl (eS rfl (eS rfl (eS rfl (eS rfl (eS rfl (eS rfl (eS rfl (eS rfl (eS rfl (eS rfl (eS rfl (eS rfl (eS rfl (eS rfl (eS rfl eZ)))))))))))))))))) rfl VWk.rfl (SL.cons (k := 52) (eS rfl (eS rfl (eS rfl (eS rfl (eS rfl (eS rfl (eS rfl (eS rfl (eS rfl (eS rfl (eS rfl (eS rfl (eS rfl (eS rfl (eS rfl (eS rfl (eS rfl (eS rfl (eS rfl eZ))))))))))))))))))) rfl VWk.rfl (SL.cons (k := 53) (eS rfl (eS rfl (eS rfl (eS rfl (eS rfl (eS rfl (eS rfl (eS rfl (eS rfl (eS rfl (eS rfl (eS rfl (eS rfl (eS rfl (eS rfl (eS rfl (eS rfl (eS rfl (eS rfl (eS rfl eZ)))))))))))))))))))) rfl VWk.rfl SL.nil)))))))) (BL.drop rfl (BL.drop rfl (BL.keep rfl (BL.keep rfl (BL.keep rfl (BL.keep rfl BL.nil)))))) (BK.cons (n := 320192) rfl (bS rfl (bS rfl bZ)) rfl rfl (BK.cons (n := 192) rfl (bS rfl (bS rfl (bS rfl bZ))) rfl rfl (BK.cons (n := 384) rfl (bS rfl (bS rfl (bS rfl (bS rfl bZ)))) rfl rfl (BK.cons (n := 512) rfl (bS rfl (bS rfl (bS rfl (bS rfl (bS rfl bZ))))) rfl rfl BK.nil))))) ?_
              rcases oite H with ⟨h24, H⟩ | ⟨h24, H⟩
              · refine AW.condT eZ h24 ?_
                refine AW.regs ?_
                refine oFaddrN (m := 1) (eS rfl (eS rfl (eS rfl (eS rfl eZ)))) rfl ?_
                refine oLoadV (q := 1) (c := (.sl 320192 0 s15.1.length)) eZ (bS rfl (bS rfl (bS rfl bZ))) rfl rfl ?_
                refine oMov (eS rfl (eS rfl (eS rfl eZ))) ?_
                refine oFaddrN (m := 2) (eS rfl (eS rfl (eS rfl (eS rfl (eS rfl eZ))))) rfl ?_
                refine oFaddrN (m := 7) eZ rfl ?_
                refine oLoadV (q := 7) (c := (.d (.int .i64 a1.Move.To))) eZ (bS rfl bZ) rfl rfl ?_
                obtain ⟨v25, h26, H⟩ := obind H
                refine oAtN (eS rfl (eS rfl (eS rfl (eS rfl eZ)))) (eS rfl (eS rfl (eS rfl eZ))) bZ rfl h26 ?_
                refine oFaddrN (m := 2) eZ rfl ?_
                refine oStoreD (t := v25) (t' := (TPart.mk v25.Lo v25.Hi a1.Move.To)) (es := [(.int .i64 a1.Move.To)]) eZ (eS rfl (eS rfl eZ)) rfl rfl bZ (idx_at h26) rfl rfl ?_
                refine xNil ?_
                refine BQ.qn ?_
                refine TQ.qn ?_
                refine AW.weaken (wk_mk [] (SL.cons (k := 3) (eS rfl (eS rfl (eS rfl (eS rfl (eS rfl (eS rfl (eS rfl (eS rfl (eS rfl (eS rfl eZ)))))))))) rfl VWk.rfl (SL.cons (k := 6) (eS rfl (eS rfl (eS rfl (eS rfl (eS rfl (eS rfl (eS rfl (eS rfl (eS rfl (eS rfl (eS rfl eZ))))))))))) rfl VWk.rfl (SL.cons (k := 8) (eS rfl (eS rfl (eS rfl (eS rfl (eS rfl (eS rfl (eS rfl (eS rfl (eS rfl (eS rfl (eS rfl (eS rfl eZ)))))))))))) rfl VWk.rfl (SL.cons (k := 51) (eS rfl (eS rfl (eS rfl (eS rfl (eS rfl (eS rfl (eS rfl (eS rfl (eS rfl (eS rfl (eS rfl (eS rfl (eS rfl eZ))))))))))))) rfl VWk.rfl (SL.cons (k := 52) (eS rfl (eS rfl (eS rfl (eS rfl (eS rfl (eS rfl (eS rfl (eS rfl (eS rfl (eS rfl (eS rfl (eS rfl (eS rfl (eS rfl eZ)))))))))))))) rfl VWk.rfl (SL.cons (k := 53) (eS rfl (eS rfl (eS rfl (eS rfl (eS rfl (eS rfl (eS rfl (eS rfl (eS rfl (eS rfl (eS rfl (eS rfl (eS rfl (eS rfl (eS rfl eZ))))))))))))))) rfl VWk.rfl SL.nil)))))) (BL.keep rfl (BL.keep rfl (BL.keep rfl (BL.keep rfl (BL.keep rfl BL.nil))))) (BK.cons (n := 320192) rfl bZ rfl rfl (BK.cons (n := 192) rfl (bS rfl (bS rfl bZ)) rfl rfl (BK.cons (n := 384) rfl (bS rfl (bS rfl (bS rfl bZ))) rfl rfl (BK.cons (n := 512) rfl (bS rfl (bS rfl (bS rfl (bS rfl bZ)))) rfl rfl BK.nil))))) ?_
                refine AW.regs ?_
                refine oAdd (eS rfl (eS rfl (eS rfl (eS rfl (eS rfl eZ))))) eC ?_
                refine oMov eZ ?_
                refine xNil ?_
                exact TQ.qn ⟨(s15.1.set (Int.toNat s15.2) (TPart.mk v25.Lo v25.Hi a1.Move.To), (IntKind.wrap .i64 (s15.2 + 1))), H, (wk_mk [] (SL.cons (eS rfl (eS rfl eZ)) rfl VWk.rfl (SL.cons (eS rfl (eS rfl (eS rfl eZ))) rfl VWk.rfl (SL.cons (eS rfl (eS rfl (eS rfl (eS rfl eZ)))) rfl VWk.rfl (SL.cons (eS rfl (eS rfl (eS rfl (eS rfl (eS rfl eZ))))) rfl (VWk.one (CWk.len (by first | (simp; done) | (simp; omega) | omega))) (SL.cons (eS rfl (eS rfl (eS rfl (eS rfl (eS rfl (eS rfl eZ)))))) rfl VWk.rfl (SL.cons eZ rfl VWk.rfl SL.nil)))))) (BL.keep rfl (BL.keep rfl (BL.keep rfl (BL.keep rfl BL.nil)))) (BK.cons rfl bZ rfl rfl (BK.cons rfl (bS rfl bZ) rfl rfl (BK.cons rfl (bS rfl (bS rfl bZ)) rfl rfl (BK.cons rfl (bS rfl (bS rfl (bS rfl bZ))) rfl (by first | rfl | simp) BK.nil)))))⟩
              · refine AW.condF eZ (nt h24) ?_
                refine AW.skip ?_
                refine BQ.qn ?_
                refine TQ.qn ?_
                refine AW.regs ?_
                refine oAdd (eS rfl (eS rfl (eS rfl (eS rfl (eS rfl (eS rfl (eS rfl eZ))))))) eC ?_
                refine oMov eZ ?_
                refine xNil ?_
                exact TQ.qn ⟨(s15.1, (IntKind.wrap .i64 (s15.2 + 1))), H, (wk_mk [] (SL.cons (eS rfl (eS rfl (eS rfl (eS rfl eZ)))) rfl VWk.rfl (SL.cons (eS rfl (eS rfl (eS rfl (eS rfl (eS rfl eZ))))) rfl VWk.rfl (SL.cons (eS rfl (eS rfl (eS rfl (eS rfl (eS rfl (eS rfl eZ)))))) rfl VWk.rfl (SL.cons (eS rfl (eS rfl (eS rfl (eS rfl (eS rfl (eS rfl (eS rfl eZ))))))) rfl VWk.rfl (SL.cons (eS rfl (eS rfl (eS rfl (eS rfl (eS rfl (eS rfl (eS rfl (eS rfl eZ)))))))) rfl VWk.rfl (SL.cons eZ rfl VWk.rfl SL.nil)))))) (BL.keep rfl (BL.keep rfl (BL.keep rfl (BL.keep rfl BL.nil)))) (BK.cons rfl bZ rfl rfl (BK.cons rfl (bS rfl bZ) rfl rfl (BK.cons rfl (bS rfl (bS rfl bZ)) rfl rfl (BK.cons rfl (bS rfl (bS rfl (bS rfl bZ))) rfl (by first | rfl | simp) BK.nil)))))⟩
            · refine AW.condF eZ (decide_eq_false h17) ?_
              refine AW.exit ?_
              refine TQ.qe ?_
              refine TQ.qe ?_
              refine BQ.qe ?_
              exact TQ.qn ⟨s15.1, H, ((wk_mk [192] (SL.cons (eS rfl (eS rfl eZ)) rfl VWk.rfl (SL.cons (eS rfl (eS rfl (eS rfl eZ))) rfl VWk.rfl SL.nil)) (BL.keep rfl (BL.drop rfl (BL.keep rfl (BL.keep rfl BL.nil)))) (BK.cons rfl (bS rfl (bS rfl bZ)) rfl rfl (BK.cons rfl bZ rfl rfl (BK.cons rfl (bS rfl (bS rfl (bS rfl bZ))) rfl (by first | rfl | simp) BK.nil)))).trans (wk_ren 320192 320128 rfl rfl (nS rfl (nS rfl (nS rfl (nS rfl nZ))))))⟩
        · refine AW.condT eZ (congrArg Bool.not (nt h12)) ?_
          refine AW.seq ?_
          refine AW.regs ?_
          refine oLoadVA (es := [(.d (.int .i64 v7.Epoch)), (.sl 1025 0 v7.Parts.length), (.d (.int .i64 v7.Move.No)), (.d (.int .i64 4)), (.d (.int .i64 v7.Move.Lo)), (.d (.int .i64 v7.Move.Hi)), (.d (.int .i64 v7.Move.From)), (.d (.int .i64 v7.Move.To)), .zs]) (eS rfl (eS rfl (eS rfl (eS rfl (eS rfl (eS rfl (eS rfl (eS rfl (eS rfl eZ))))))))) bZ rfl ?_
          refine oStoreV (es := [(.d (.int .i64 v7.Epoch)), (.sl 1025 0 v7.Parts.length), (.d (.int .i64 v7.Move.No)), (.d (.int .i64 4)), (.d (.int .i64 v7.Move.Lo)), (.d (.int .i64 v7.Move.Hi)), (.d (.int .i64 v7.Move.From)), (.d (.int .i64 v7.Move.To)), .zs]) (eS rfl (eS rfl (eS rfl (eS rfl (eS rfl (eS rfl (eS rfl (eS rfl (eS rfl eZ))))))))) eZ rfl rfl (bS rfl (bS rfl (bS rfl bZ))) rfl ?_
          refine oMov eC ?_
          refine xNil ?_
          refine TQ.qn ?_
          refine AW.ret ?_
          refine TQ.qr ?_
          obtain rfl := Option.some.inj H
          exact endsR (RL.cons (RV.cellA (es := [(.d (.int .i64 v7.Epoch)), (.sl 1025 0 v7.Parts.length), (.d (.int .i64 v7.Move.No)), (.d (.int .i64 4)), (.d (.int .i64 v7.Move.Lo)), (.d (.int .i64 v7.Move.Hi)), (.d (.int .i64 v7.Move.From)), (.d (.int .i64 v7.Move.To)), .zs]) (eS rfl (eS rfl (eS rfl (eS rfl (eS rfl (eS rfl (eS rfl (eS rfl (eS rfl (eS rfl eZ)))))))))) bZ rfl) (VO.aggs (VOs.cons (VO.flat rfl) (VOs.cons (VO.sl (bS rfl (bS rfl (bS rfl (bS rfl (bS rfl (bS rfl bZ)))))) (List.length_map _) (allFlat fun _ => rfl)) (VOs.cons (VO.flat rfl) (VOs.cons (VO.flat rfl) (VOs.cons (VO.flat rfl) (VOs.cons (VO.flat rfl) (VOs.cons (VO.flat rfl) (VOs.cons (VO.flat rfl) (VOs.cons VO.zs VOs.nil)))))))))) (RL.cons (RV.tmp eZ) (VO.flat rfl) RL.nil)) (by decide)
    · refine AW.regs ?_
      refine oFaddrN (m := 2) (eS rfl (eS rfl (eS rfl (eS rfl (eS rfl (eS rfl (eS rfl (eS rfl eZ)))))))) rfl ?_
      refine oFaddrN (m := 3) eZ rfl ?_
      refine oLoadV (q := 3) (c := (.d (.int .i64 a1.Move.Stage))) eZ (bS rfl (bS rfl (bS rfl (bS rfl (bS rfl bZ))))) rfl rfl ?_
      refine oNeq eZ eC ?_
      refine oMov eZ ?_
      rcases oite H with ⟨h27, H⟩ | ⟨h27, H⟩
      · refine gSkip eZ (decide_eq_true h27) rfl ?_
        refine gSkip (eS rfl eZ) (decide_eq_true h27) rfl ?_
        refine gSkip (eS rfl (eS rfl eZ)) (decide_eq_true h27) rfl ?_
        refine gSkip (eS rfl (eS rfl (eS rfl eZ))) (decide_eq_true h27) rfl ?_
        refine gSkip (eS rfl (eS rfl (eS rfl (eS rfl eZ)))) (decide_eq_true h27) rfl ?_
        refine oPickT (eS rfl (eS rfl (eS rfl (eS rfl (eS rfl eZ))))) (decide_eq_true h27) eC ?_
        refine oMov eZ ?_
        refine gSkip eZ rfl rfl ?_
        refine gSkip (eS rfl eZ) rfl rfl ?_
        refine gSkipU eZ rfl ?_
        refine gSkipU (eS rfl eZ) rfl ?_
        refine gSkipU (eS rfl (eS rfl eZ)) rfl ?_
        refine gSkip (eS rfl (eS rfl (eS rfl (eS rfl (eS rfl eZ))))) rfl rfl ?_
        refine oPickT (eS rfl (eS rfl (eS rfl (eS rfl (eS rfl (eS rfl eZ)))))) rfl eC ?_
        refine xNil ?_
        exact TQ.qn ⟨true, H, (wk_mk [] (SL.cons (eS rfl (eS rfl (eS rfl (eS rfl (eS rfl (eS rfl (eS rfl (eS rfl (eS rfl (eS rfl (eS rfl (eS rfl (eS rfl (eS rfl (eS rfl (eS rfl (eS rfl (eS rfl (eS rfl (eS rfl (eS rfl (eS rfl (eS rfl (eS rfl (eS rfl (eS rfl (eS rfl (eS rfl (eS rfl (eS rfl eZ)))))))))))))))))))))))))))))) rfl VWk.rfl (SL.cons (eS rfl (eS rfl (eS rfl (eS rfl (eS rfl (eS rfl (eS rfl (eS rfl (eS rfl (eS rfl (eS rfl (eS rfl (eS rfl (eS rfl (eS rfl (eS rfl (eS rfl (eS rfl (eS rfl (eS rfl (eS rfl (eS rfl (eS rfl (eS rfl (eS rfl (eS rfl (eS rfl eZ))))))))))))))))))))))))))) rfl VWk.rfl (SL.cons (eS rfl (eS rfl (eS rfl (eS rfl (eS rfl (eS rfl (eS rfl (eS rfl (eS rfl (eS rfl (eS rfl (eS rfl (eS rfl (eS rfl (eS rfl (eS rfl (eS rfl (eS rfl (eS rfl (eS rfl (eS rfl (eS rfl (eS rfl (eS rfl (eS rfl (eS rfl eZ)))))))))))))))))))))))))) rfl VWk.rfl (SL.cons (eS rfl (eS rfl (eS rfl (eS rfl (eS rfl (eS rfl (eS rfl (eS rfl (eS rfl (eS rfl (eS rfl (eS rfl (eS rfl (eS rfl (eS rfl (eS rfl (eS rfl (eS rfl (eS rfl eZ))))))))))))))))))) rfl VWk.rfl (SL.cons eZ rfl VWk.rfl SL.nil))))) (BL.keep rfl (BL.keep rfl (BL.keep rfl (BL.keep rfl (BL.keep rfl (BL.keep rfl BL.nil)))))) (BK.cons rfl (bS rfl (bS rfl (bS rfl (bS rfl (bS rfl bZ))))) rfl rfl (BK.cons rfl (bS rfl (bS rfl (bS rfl (bS rfl bZ)))) rfl rfl (BK.cons rfl bZ rfl (by first | rfl | simp) (BK.cons rfl (bS rfl (bS rfl (bS rfl bZ))) rfl rfl (BK.cons rfl (bS rfl (bS rfl bZ)) rfl rfl BK.nil))))))⟩
      · refine gDo eZ (decide_eq_false h27) ?_
        refine oFaddrN (m := 2) (eS rfl (eS rfl (eS rfl (eS rfl (eS rfl (eS rfl (eS rfl (eS rfl (eS rfl (eS rfl (eS rfl (eS rfl (eS rfl eZ))))))))))))) rfl ?_
        refine gDo (eS rfl eZ) (decide_eq_false h27) ?_
        refine oLoadVA (es := [(.d (.int .i64 a1.Move.No)), (.d (.int .i64 a1.Move.Stage)), (.d (.int .i64 a1.Move.Lo)), (.d (.int .i64 a1.Move.Hi)), (.d (.int .i64 a1.Move.From)), (.d (.int .i64 a1.Move.To)), (.d (.sl 2 (List.map d_TCell a1.Move.Cells)))]) eZ (bS rfl (bS rfl (bS rfl (bS rfl (bS rfl bZ))))) rfl ?_
        refine gDo (eS rfl (eS rfl eZ)) (decide_eq_false h27) ?_
        obtain ⟨v28, h29, H⟩ := obind H
        refine oCall (u := (.one (.d (.int .i64 v28)))) eC Cl.fn (c_impl_MoveRank h29) (Evs.cons eZ Evs.nil) (VDs.cons (VD.agg rfl) VDs.nil) rfl ?_
        refine gDo (eS rfl (eS rfl (eS rfl eZ))) (decide_eq_false h27) ?_
        refine oMov (eS rfl (eS rfl (eS rfl (eS rfl (eS rfl (eS rfl (eS rfl (eS rfl (eS rfl (eS rfl (eS rfl (eS rfl (eS rfl (eS rfl (eS rfl (eS rfl (eS rfl (eS rfl eZ)))))))))))))))))) ?_
        refine gDo (eS rfl (eS rfl (eS rfl (eS rfl eZ)))) (decide_eq_false h27) ?_
        refine oNeq (eS rfl eZ) eZ ?_
        refine oPickF (eS rfl (eS rfl (eS rfl (eS rfl (eS rfl eZ))))) (decide_eq_false h27) eZ ?_
        refine oMov eZ ?_
        rcases oite H with ⟨h30, H⟩ | ⟨h30, H⟩
        · refine gSkip eZ (decide_eq_true h30) rfl ?_
          refine gSkip (eS rfl eZ) (decide_eq_true h30) rfl ?_
          refine gSkipU eZ rfl ?_
          refine gSkipU (eS rfl eZ) rfl ?_
          refine gSkipU (eS rfl (eS rfl eZ)) rfl ?_
          refine gSkip (eS rfl (eS rfl (eS rfl (eS rfl (eS rfl eZ))))) (decide_eq_true h30) rfl ?_
          refine oPickT (eS rfl (eS rfl (eS rfl (eS rfl (eS rfl (eS rfl eZ)))))) (decide_eq_true h30) eC ?_
          refine xNil ?_
          exact TQ.qn ⟨true, H, (wk_mk [] (SL.cons (eS rfl (eS rfl (eS rfl (eS rfl (eS rfl (eS rfl (eS rfl (eS rfl (eS rfl (eS rfl (eS rfl (eS rfl (eS rfl (eS rfl (eS rfl (eS rfl (eS rfl (eS rfl (eS rfl (eS rfl (eS rfl (eS rfl (eS rfl (eS rfl (eS rfl (eS rfl (eS rfl (eS rfl (eS rfl (eS rfl eZ)))))))))))))))))))))))))))))) rfl VWk.rfl (SL.cons (eS rfl (eS rfl (eS rfl (eS rfl (eS rfl (eS rfl (eS rfl (eS rfl (eS rfl (eS rfl (eS rfl (eS rfl (eS rfl (eS rfl (eS rfl (eS rfl (eS rfl (eS rfl (eS rfl (eS rfl (eS rfl (eS rfl (eS rfl (eS rfl (eS rfl (eS rfl (eS rfl eZ))))))))))))))))))))))))))) rfl VWk.rfl (SL.cons (eS rfl (eS rfl (eS rfl (eS rfl (eS rfl (eS rfl (eS rfl (eS rfl (eS rfl (eS rfl (eS rfl (eS rfl (eS rfl (eS rfl (eS rfl (eS rfl (eS rfl (eS rfl (eS rfl (eS rfl (eS rfl (eS rfl (eS rfl (eS rfl (eS rfl (eS rfl eZ)))))))))))))))))))))))))) rfl VWk.rfl (SL.cons (eS rfl (eS rfl (eS rfl (eS rfl (eS rfl (eS rfl (eS rfl (eS rfl (eS rfl (eS rfl (eS rfl (eS rfl (eS rfl (eS rfl (eS rfl (eS rfl (eS rfl (eS rfl (eS rfl eZ))))))))))))))))))) rfl VWk.rfl (SL.cons eZ rfl VWk.rfl SL.nil))))) (BL.keep rfl (BL.keep rfl (BL.keep rfl (BL.keep rfl (BL.keep rfl (BL.keep rfl BL.nil)))))) (BK.cons rfl (bS rfl (bS rfl (bS rfl (bS rfl (bS rfl bZ))))) rfl rfl (BK.cons rfl (bS rfl (bS rfl (bS rfl (bS rfl bZ)))) rfl rfl (BK.cons rfl bZ rfl (by first | rfl | simp) (BK.cons rfl (bS rfl (bS rfl (bS rfl bZ))) rfl rfl (BK.cons rfl (bS rfl (bS rfl bZ)) rfl rfl BK.nil))))))⟩
        · refine gDo eZ (decide_eq_false h30) ?_
          refine oMov (eS rfl (eS rfl (eS rfl (eS rfl (eS rfl (eS rfl (eS rfl (eS rfl (eS rfl (eS rfl (eS rfl (eS rfl (eS rfl (eS rfl (eS rfl (eS rfl (eS rfl (eS rfl (eS rfl (eS rfl (eS rfl (eS rfl (eS rfl eZ))))))))))))))))))))))) ?_
          refine gDo (eS rfl eZ) (decide_eq_false h30) ?_
          refine oMov eZ ?_
          rcases oite H with ⟨h31, H⟩ | ⟨h31, H⟩
          · refine gDo eZ h31 ?_
            refine oFaddrN (m := 0) (eS rfl (eS rfl (eS rfl (eS rfl (eS rfl (eS rfl (eS rfl (eS rfl (eS rfl (eS rfl (eS rfl (eS rfl (eS rfl (eS rfl (eS rfl (eS rfl (eS rfl (eS rfl (eS rfl (eS rfl (eS rfl (eS rfl eZ)))))))))))))))))))))) rfl ?_
            refine gDo (eS rfl eZ) h31 ?_
            refine oLoadV (q := 0) (c := (.d (.int .i64 a1.Epoch))) eZ (bS rfl (bS rfl (bS rfl (bS rfl (bS rfl bZ))))) rfl rfl ?_
            refine gDo (eS rfl (eS rfl eZ)) h31 ?_
            refine oEql eZ eC ?_
            refine gDo (eS rfl (eS rfl (eS rfl (eS rfl (eS rfl eZ))))) (decide_eq_false h30) ?_
            refine oPickT (eS rfl (eS rfl (eS rfl eZ))) h31 eZ ?_
            refine oPickF (eS rfl (eS rfl (eS rfl (eS rfl (eS rfl (eS rfl eZ)))))) (decide_eq_false h30) eZ ?_
            refine xNil ?_
            exact TQ.qn ⟨(decide (a1.Epoch = 1000000)), H, (wk_mk [] (SL.cons (eS rfl (eS rfl (eS rfl (eS rfl (eS rfl (eS rfl (eS rfl (eS rfl (eS rfl (eS rfl (eS rfl (eS rfl (eS rfl (eS rfl (eS rfl (eS rfl (eS rfl (eS rfl (eS rfl (eS rfl (eS rfl (eS rfl (eS rfl (eS rfl (eS rfl (eS rfl (eS rfl (eS rfl (eS rfl (eS rfl eZ)))))))))))))))))))))))))))))) rfl VWk.rfl (SL.cons (eS rfl (eS rfl (eS rfl (eS rfl (eS rfl (eS rfl (eS rfl (eS rfl (eS rfl (eS rfl (eS rfl (eS rfl (eS rfl (eS rfl (eS rfl (eS rfl (eS rfl (eS rfl (eS rfl (eS rfl (eS rfl (eS rfl (eS rfl (eS rfl (eS rfl (eS rfl (eS rfl eZ))))))))))))))))))))))))))) rfl VWk.rfl (SL.cons (eS rfl (eS rfl (eS rfl (eS rfl (eS rfl (eS rfl (eS rfl (eS rfl (eS rfl (eS rfl (eS rfl (eS rfl (eS rfl (eS rfl (eS rfl (eS rfl (eS rfl (eS rfl (eS rfl (eS rfl (eS rfl (eS rfl (eS rfl (eS rfl (eS rfl (eS rfl eZ)))))))))))))))))))))))))) rfl VWk.rfl (SL.cons (eS rfl (eS rfl (eS rfl (eS rfl (eS rfl (eS rfl (eS rfl (eS rfl (eS rfl (eS rfl (eS rfl (eS rfl (eS rfl (eS rfl (eS rfl (eS rfl (eS rfl (eS rfl (eS rfl eZ))))))))))))))))))) rfl VWk.rfl (SL.cons eZ rfl VWk.rfl SL.nil))))) (BL.keep rfl (BL.keep rfl (BL.keep rfl (BL.keep rfl (BL.keep rfl (BL.keep rfl BL.nil)))))) (BK.cons rfl (bS rfl (bS rfl (bS rfl (bS rfl (bS rfl bZ))))) rfl rfl (BK.cons rfl (bS rfl (bS rfl (bS rfl (bS rfl bZ)))) rfl rfl (BK.cons rfl bZ rfl (by first | rfl | simp) (BK.cons rfl (bS rfl (bS rfl (bS rfl bZ))) rfl rfl (BK.cons rfl (bS rfl (bS rfl bZ)) rfl rfl BK.nil))))))⟩
          · refine gSkip eZ (nt h31) rfl ?_
            refine gSkip (eS rfl eZ) (nt h31) rfl ?_
            refine gSkip (eS rfl (eS rfl eZ)) (nt h31) rfl ?_
            refine gDo (eS rfl (eS rfl (eS rfl (eS rfl (eS rfl eZ))))) (decide_eq_false h30) ?_
            refine oPickF (eS rfl (eS rfl (eS rfl eZ))) (nt h31) eC ?_
            refine oPickF (eS rfl (eS rfl (eS rfl (eS rfl (eS rfl (eS rfl eZ)))))) (decide_eq_false h30) eZ ?_
            refine xNil ?_
            exact TQ.qn ⟨false, H, (wk_mk [] (SL.cons (eS rfl (eS rfl (eS rfl (eS rfl (eS rfl (eS rfl (eS rfl (eS rfl (eS rfl (eS rfl (eS rfl (eS rfl (eS rfl (eS rfl (eS rfl (eS rfl (eS rfl (eS rfl (eS rfl (eS rfl (eS rfl (eS rfl (eS rfl (eS rfl (eS rfl (eS rfl (eS rfl (eS rfl (eS rfl (eS rfl eZ)))))))))))))))))))))))))))))) rfl VWk.rfl (SL.cons (eS rfl (eS rfl (eS rfl (eS rfl (eS rfl (eS rfl (eS rfl (eS rfl (eS rfl (eS rfl (eS rfl (eS rfl (eS rfl (eS rfl (eS rfl (eS rfl (eS rfl (eS rfl (eS rfl (eS rfl (eS rfl (eS rfl (eS rfl (eS rfl (eS rfl (eS rfl (eS rfl eZ))))))))))))))))))))))))))) rfl VWk.rfl (SL.cons (eS rfl (eS rfl (eS rfl (eS rfl (eS rfl (eS rfl (eS rfl (eS rfl (eS rfl (eS rfl (eS rfl (eS rfl (eS rfl (eS rfl (eS rfl (eS rfl (eS rfl (eS rfl (eS rfl (eS rfl (eS rfl (eS rfl (eS rfl (eS rfl (eS rfl (eS rfl eZ)))))))))))))))))))))))))) rfl VWk.rfl (SL.cons (eS rfl (eS rfl (eS rfl (eS rfl (eS rfl (eS rfl (eS rfl (eS rfl (eS rfl (eS rfl (eS rfl (eS rfl (eS rfl (eS rfl (eS rfl (eS rfl (eS rfl (eS rfl (eS rfl eZ))))))))))))))))))) rfl VWk.rfl (SL.cons eZ rfl VWk.rfl SL.nil))))) (BL.keep rfl (BL.keep rfl (BL.keep rfl (BL.keep rfl (BL.keep rfl (BL.keep rfl BL.nil)))))) (BK.cons rfl (bS rfl (bS rfl (bS rfl (bS rfl (bS rfl bZ))))) rfl rfl (BK.cons rfl (bS rfl (bS rfl (bS rfl (bS rfl bZ)))) rfl rfl (BK.cons rfl bZ rfl (by first | rfl | simp) (BK.cons rfl (bS rfl (bS rfl (bS rfl bZ))) rfl rfl (BK.cons rfl (bS rfl (bS rfl bZ)) rfl rfl BK.nil))))))⟩
  · refine AW.condT eZ (congrArg Bool.not (nt h6)) ?_
    refine AW.seq ?_
    refine AW.regs ?_
    refine oBuild (cs := [(.d (.int .i64 0)), .zs, (.d (.int .i64 0)), (.d (.int .i64 0)), (.d (.int .i64 0)), (.d (.int .i64 0)), (.d (.int .i64 0)), (.d (.int .i64 0)), .zs]) PsNil rfl ?_
    refine oStoreV (es := [(.d (.int .i64 0)), .zs, (.d (.int .i64 0)), (.d (.int .i64 0)), (.d (.int .i64 0)), (.d (.int .i64 0)), (.d (.int .i64 0)), (.d (.int .i64 0)), .zs]) (eS rfl (eS rfl (eS rfl (eS rfl (eS rfl eZ))))) eZ rfl rfl bZ rfl ?_
    refine oMov eC ?_
    refine xNil ?_
    refine TQ.qn ?_
    refine AW.ret ?_
    refine TQ.qr ?_
    obtain rfl := Option.some.inj H
    exact endsR (RL.cons (RV.cellA (es := [(.d (.int .i64 0)), .zs, (.d (.int .i64 0)), (.d (.int .i64 0)), (.d (.int .i64 0)), (.d (.int .i64 0)), (.d (.int .i64 0)), (.d (.int .i64 0)), .zs]) (eS rfl (eS rfl (eS rfl (eS rfl (eS rfl (eS rfl eZ)))))) bZ rfl) (VO.aggs (VOs.cons (VO.flat rfl) (VOs.cons VO.zs (VOs.cons (VO.flat rfl) (VOs.cons (VO.flat rfl) (VOs.cons (VO.flat rfl) (VOs.cons (VO.flat rfl) (VOs.cons (VO.flat rfl) (VOs.cons (VO.flat rfl) (VOs.cons VO.zs VOs.nil)))))))))) (RL.cons (RV.tmp eZ) (VO.flat rfl) RL.nil)) List.nodup_nil

theorem c_laws_eqPart {a1 : TPart} {a2 : TPart} {r : Bool} (H : m_laws_eqPart a1 a2 = some r) : Fn Try.prog k_laws_eqPart (lent [(.agg (d_TPart a1)), (.agg (d_TPart a2))]) true [(.bool r)] := by
  refine i_laws_eqPart_fn (Nat.le_of_ble_eq_true rfl) ?_
  rw [init_mk]
  refine AW.weaken (wk_mk [] (SL.cons (v := (.agg [(.d (.int .i64 a1.Lo)), (.d (.int .i64 a1.Hi)), (.d (.int .i64 a1.Owner))])) eZ rfl VWk.rfl (SL.cons (v := (.agg [(.d (.int .i64 a2.Lo)), (.d (.int .i64 a2.Hi)), (.d (.int .i64 a2.Owner))])) (eS rfl eZ) rfl VWk.rfl SL.nil)) BL.nil BK.nil) ?_
  unfold m_laws_eqPart at H
  unfold i_laws_eqPart
  refine AW.seq ?_
  refine AW.regs ?_
  refine oBox (n := 128) (m := 3) (cs := [(.d (.int .i64 a1.Lo)), (.d (.int .i64 a1.Hi)), (.d (.int .i64 a1.Owner))]) rfl eZ rfl rfl nZ ?_
  refine oBox (n := 192) (m := 3) (cs := [(.d (.int .i64 a2.Lo)), (.d (.int .i64 a2.Hi)), (.d (.int .i64 a2.Owner))]) rfl (eS rfl (eS rfl eZ)) rfl rfl (nS rfl nZ) ?_
  refine oMov eC ?_
  refine xNil ?_
  refine TQ.qn ?_
  refine AW.seq ?_
  refine AW.seq ?_
  refine AW.regs ?_
  refine oFaddrN (m := 0) (eS rfl (eS rfl eZ)) rfl ?_
  refine oLoadV (q := 0) (c := (.d (.int .i64 a1.Lo))) eZ (bS rfl bZ) rfl rfl ?_
  refine oFaddrN (m := 0) (eS rfl (eS rfl (eS rfl eZ))) rfl ?_
  refine oLoadV (q := 0) (c := (.d (.int .i64 a2.Lo))) eZ bZ rfl rfl ?_
  refine oNeq (eS rfl (eS rfl eZ)) eZ ?_
  refine xNil ?_
  refine TQ.qn ?_
  rcases oite H with ⟨h3, H⟩ | ⟨h3, H⟩
  · refine AW.condT eZ (decide_eq_true h3) ?_
    refine AW.seq ?_
    refine AW.regs ?_
    refine oMov eC ?_
    refine xNil ?_
    refine TQ.qn ?_
    refine AW.ret ?_
    refine TQ.qr ?_
    obtain rfl := Option.some.inj H
    exact endsR (RL.cons (RV.tmp eZ) (VO.flat rfl) RL.nil) List.nodup_nil
  · refine AW.condF eZ (decide_eq_false h3) ?_
    refine AW.skip ?_
    refine TQ.qn ?_
    refine AW.seq ?_
    refine AW.seq ?_
    refine AW.regs ?_
    refine oFaddrN (m := 1) (eS rfl (eS rfl (eS rfl (eS rfl (eS rfl (eS rfl (eS rfl eZ))))))) rfl ?_
    refine oLoadV (q := 1) (c := (.d (.int .i64 a1.Hi))) eZ (bS rfl bZ) rfl rfl ?_
    refine oFaddrN (m := 1) (eS rfl (eS rfl (eS rfl (eS rfl (eS rfl (eS rfl (eS rfl (eS rfl eZ)))))))) rfl ?_
    refine oLoadV (q := 1) (c := (.d (.int .i64 a2.Hi))) eZ bZ rfl rfl ?_
    refine oNeq (eS rfl (eS rfl eZ)) eZ ?_
    refine xNil ?_
    refine TQ.qn ?_
    rcases oite H with ⟨h4, H⟩ | ⟨h4, H⟩
    · refine AW.condT eZ (decide_eq_true h4) ?_
      refine AW.seq ?_
      refine AW.regs ?_
      refine oMov eC ?_
      refine xNil ?_
      refine TQ.qn ?_
      refine AW.weaken (wk_mk [192, 128] (SL.cons (k := 4) eZ rfl VWk.rfl SL.nil) (BL.drop rfl (BL.drop rfl BL.nil)) BK.nil) ?_
      refine AW.ret ?_
      refine TQ.qr ?_
      obtain rfl := Option.some.inj H
      exact endsR (RL.cons (RV.tmp eZ) (VO.flat rfl) RL.nil) List.nodup_nil
    · refine AW.condF eZ (decide_eq_false h4) ?_
      refine AW.skip ?_
      refine TQ.qn ?_
      refine AW.seq ?_
      refine AW.seq ?_
      refine AW.regs ?_
      refine oFaddrN (m := 2) (eS rfl (eS rfl (eS rfl (eS rfl (eS rfl (eS rfl (eS rfl (eS rfl (eS rfl (eS rfl (eS rfl (eS rfl eZ)))))))))))) rfl ?_
      refine oLoadV (q := 2) (c := (.d (.int .i64 a1.Owner))) eZ (bS rfl bZ) rfl rfl ?_
      refine oFaddrN (m := 2) (eS rfl (eS rfl (eS rfl (eS rfl (eS rfl (eS rfl (eS rfl (eS rfl (eS rfl (eS rfl (eS rfl (eS rfl (eS rfl eZ))))))))))))) rfl ?_
      refine oLoadV (q := 2) (c := (.d (.int .i64 a2.Owner))) eZ bZ rfl rfl ?_
      refine oNeq (eS rfl (eS rfl eZ)) eZ ?_
      refine xNil ?_
      refine TQ.qn ?_
      refine AW.weaken (wk_mk [192, 128] (SL.cons (k := 19) eZ rfl VWk.rfl SL.nil) (BL.drop rfl (BL.drop rfl BL.nil)) BK.nil) ?_
      rcases oite H with ⟨h5, H⟩ | ⟨h5, H⟩
      · refine AW.condT eZ (decide_eq_true h5) ?_
        refine AW.seq ?_
        refine AW.regs ?_
        refine oMov eC ?_
        refine xNil ?_
        refine TQ.qn ?_
        refine AW.ret ?_
        refine TQ.qr ?_
        obtain rfl := Option.some.inj H
        exact endsR (RL.cons (RV.tmp eZ) (VO.flat rfl) RL.nil) List.nodup_nil
      · refine AW.condF eZ (decide_eq_false h5) ?_
        refine AW.skip ?_
        refine TQ.qn ?_
        refine AW.seq ?_
        refine AW.regs ?_
        refine oMov eC ?_
        refine xNil ?_
        refine TQ.qn ?_
        refine AW.ret ?_
        obtain rfl := Option.some.inj H
        exact endsR (RL.cons (RV.tmp eZ) (VO.flat rfl) RL.nil) List.nodup_nil

theorem c_laws_eqPartS {a1 : (List TPart)} {a2 : (List TPart)} {r : Bool} (H : m_laws_eqPartS a1 a2 = some r) : Fn Try.prog k_laws_eqPartS (lent [(.sl 3 (List.map d_TPart a1)), (.sl 3 (List.map d_TPart a2))]) true [(.bool r)] := by
  refine i_laws_eqPartS_fn (Nat.le_of_ble_eq_true rfl) ?_
  rw [init_mk]
  refine AW.weaken (wk_mk [] (SL.cons (v := (.one (.d (.sl 3 (List.map d_TPart a1))))) eZ rfl VWk.rfl (SL.cons (v := (.one (.d (.sl 3 (List.map d_TPart a2))))) (eS rfl eZ) rfl VWk.rfl SL.nil)) BL.nil BK.nil) ?_
  unfold m_laws_eqPartS at H
  unfold i_laws_eqPartS
  refine AW.seq ?_
  refine AW.regs ?_
  refine oMov eC ?_
  refine xNil ?_
  refine TQ.qn ?_
  refine AW.seq ?_
  refine AW.seq ?_
  refine AW.regs ?_
  refine oMov (eS rfl eZ) ?_
  refine oLenD eZ (n := a1.length) (List.length_map _) ?_
  refine oMov (eS rfl (eS rfl (eS rfl (eS rfl eZ)))) ?_
  refine oLenD eZ (n := a2.length) (List.length_map _) ?_
  refine oNeq (eS rfl (eS rfl eZ)) eZ ?_
  refine xNil ?_
  refine TQ.qn ?_
  rcases oite H with ⟨h3, H⟩ | ⟨h3, H⟩
  · refine AW.condT eZ (decide_eq_true h3) ?_
    refine AW.seq ?_
    refine AW.regs ?_
    refine oMov eC ?_
    refine xNil ?_
    refine TQ.qn ?_
    refine AW.ret ?_
    refine TQ.qr ?_
    obtain rfl := Option.some.inj H
    exact endsR (RL.cons (RV.tmp eZ) (VO.flat rfl) RL.nil) List.nodup_nil
  · refine AW.condF eZ (decide_eq_false h3) ?_
    refine AW.skip ?_
    refine TQ.qn ?_
    refine AW.seqJ (fun t4 : Unit => laws_eqPartS_j4 t4 = some r) (fun t4 => mk [] [] noG) ?_ ?_
    · intro t4 H
      unfold laws_eqPartS_j4 at H
      refine AW.seq ?_
      refine AW.regs ?_
      refine oMov eC ?_
      refine xNil ?_
      refine TQ.qn ?_
      refine AW.ret ?_
      obtain rfl := Option.some.inj H
      exact endsR (RL.cons (RV.tmp eZ) (VO.flat rfl) RL.nil) List.nodup_nil
    · refine AW.seq ?_
      refine AW.regs ?_
      refine oMov eC ?_
      refine xNil ?_
      refine TQ.qn ?_
      refine AW.block ?_
      refine AW.iter (fun s6 : Int => mk [(0, (.one (.d (.sl 3 (List.map d_TPart a1))))), (1, (.one (.d (.sl 3 (List.map d_TPart a2))))), (5, (.one (.d (.int .i64 s6))))] [] noG) H (wk_mk [] (SL.cons (eS rfl (eS rfl (eS rfl (eS rfl (eS rfl (eS rfl (eS rfl eZ))))))) rfl VWk.rfl (SL.cons (eS rfl (eS rfl (eS rfl (eS rfl (eS rfl (eS rfl (eS rfl (eS rfl eZ)))))))) rfl VWk.rfl (SL.cons eZ rfl VWk.rfl SL.nil))) BL.nil BK.nil) ?_
      intro kb7 s6 H
      unfold laws_eqPartS_b6 at H
      refine AW.seq ?_
      refine AW.seq ?_
      refine AW.regs ?_
      refine oMov (eS rfl (eS rfl eZ)) ?_
      refine oMov (eS rfl eZ) ?_
      refine oLenD eZ (n := a1.length) (List.length_map _) ?_
      refine oLss (eS rfl (eS rfl eZ)) eZ ?_
      refine xNil ?_
      refine TQ.qn ?_
      rcases oite H with ⟨h8, H⟩ | ⟨h8, H⟩
      · refine AW.condT eZ (decide_eq_true h8) ?_
        refine AW.skip ?_
        refine TQ.qn ?_
        refine AW.seq ?_
        refine AW.block ?_
        refine AW.seq ?_
        refine AW.regd ?_
        refine oMov (eS rfl (eS rfl (eS rfl (eS rfl eZ)))) ?_
        refine oMov (eS rfl (eS rfl (eS rfl (eS rfl (eS rfl (eS rfl (eS rfl eZ))))))) ?_
        obtain ⟨v9, h10, H⟩ := obind H
        refine oAtD (eS rfl eZ) eZ h10 ?_
        refine oLoadBA (es := [(.d (.int .i64 v9.Lo)), (.d (.int .i64 v9.Hi)), (.d (.int .i64 v9.Owner))]) eZ rfl ?_
        refine oMov (eS rfl (eS rfl (eS rfl (eS rfl (eS rfl (eS rfl (eS rfl (eS rfl (eS rfl eZ))))))))) ?_
        refine oMov (eS rfl (eS rfl (eS rfl (eS rfl (eS rfl (eS rfl (eS rfl (eS rfl (eS rfl (eS rfl (eS rfl eZ))))))))))) ?_
        obtain ⟨v11, h12, H⟩ := obind H
        refine oAtD (eS rfl eZ) eZ h12 ?_
        refine oLoadBA (es := [(.d (.int .i64 v11.Lo)), (.d (.int .i64 v11.Hi)), (.d (.int .i64 v11.Owner))]) eZ rfl ?_
        obtain ⟨v13, h14, H⟩ := obind H
        refine oCall (u := (.one (.d (.bool v13)))) eC Cl.fn (c_laws_eqPart h14) (Evs.cons (eS rfl (eS rfl (eS rfl (eS rfl eZ)))) (Evs.cons eZ Evs.nil)) (VDs.cons (VD.agg rfl) (VDs.cons (VD.agg rfl) VDs.nil)) rfl ?_
        refine oInv eZ ?_
        refine xNil ?_
        refine TQ.qn ?_
        refine AW.weaken (wk_mk [] (SL.cons (k := 26) eZ rfl VWk.rfl (SL.cons (k := 0) (eS rfl (eS rfl (eS rfl (eS rfl (eS rfl (eS rfl (eS rfl (eS rfl (eS rfl (eS rfl (eS rfl (eS rfl (eS rfl (eS rfl eZ)))))))))))))) rfl VWk.rfl (SL.cons (k := 1) (eS rfl (eS rfl (eS rfl (eS rfl (eS rfl (eS rfl (eS rfl (eS rfl (eS rfl (eS rfl (eS rfl (eS rfl (eS rfl (eS rfl (eS rfl eZ))))))))))))))) rfl VWk.rfl (SL.cons (k := 5) (eS rfl (eS rfl (eS rfl (eS rfl (eS rfl (eS rfl (eS rfl (eS rfl (eS rfl (eS rfl (eS rfl (eS rfl (eS rfl (eS rfl (eS rfl (eS rfl eZ)))))))))))))))) rfl VWk.rfl SL.nil)))) BL.nil BK.nil) ?_
        rcases oite H with ⟨h15, H⟩ | ⟨h15, H⟩
        · refine AW.condF eZ (congrArg Bool.not h15) ?_
          refine AW.skip ?_
          refine BQ.qn ?_
          refine TQ.qn ?_
          refine AW.regs ?_
          refine oMov (eS rfl (eS rfl (eS rfl eZ))) ?_
          refine oAdd eZ eC ?_
          refine oMov eZ ?_
          refine xNil ?_
          exact TQ.qn ⟨(IntKind.wrap .i64 (s6 + 1)), H, (wk_mk [] (SL.cons (eS rfl (eS rfl (eS rfl (eS rfl eZ)))) rfl VWk.rfl (SL.cons (eS rfl (eS rfl (eS rfl (eS rfl (eS rfl eZ))))) rfl VWk.rfl (SL.cons eZ rfl VWk.rfl SL.nil))) BL.nil BK.nil)⟩
        · refine AW.condT eZ (congrArg Bool.not (nt h15)) ?_
          refine AW.seq ?_
          refine AW.regs ?_
          refine oMov eC ?_
          refine xNil ?_
          refine TQ.qn ?_
          refine AW.ret ?_
          refine BQ.qr ?_
          refine TQ.qr ?_
          refine TQ.qr ?_
          refine BQ.qr ?_
          refine TQ.qr ?_
          obtain rfl := Option.some.inj H
          exact endsR (RL.cons (RV.tmp eZ) (VO.flat rfl) RL.nil) List.nodup_nil
      · refine AW.condF eZ (decide_eq_false h8) ?_
        refine AW.exit ?_
        refine TQ.qe ?_
        refine TQ.qe ?_
        refine BQ.qe ?_
        exact TQ.qn ⟨(), H, (wk_mk [] SL.nil BL.nil BK.nil)⟩

theorem c_laws_eqCell {a1 : TCell} {a2 : TCell} {r : Bool} (H : m_laws_eqCell a1 a2 = some r) : Fn Try.prog k_laws_eqCell (lent [(.agg (d_TCell a1)), (.agg (d_TCell a2))]) true [(.bool r)] := by
  refine i_laws_eqCell_fn (Nat.le_of_ble_eq_true rfl) ?_
  rw [init_mk]
  refine AW.weaken (wk_mk [] (SL.cons (v := (.agg [(.d (.int .i64 a1.Key)), (.d (.int .i64 a1.Value))])) eZ rfl VWk.rfl (SL.cons (v := (.agg [(.d (.int .i64 a2.Key)), (.d (.int .i64 a2.Value))])) (eS rfl eZ) rfl VWk.rfl SL.nil)) BL.nil BK.nil) ?_
  unfold m_laws_eqCell at H
  unfold i_laws_eqCell
  refine AW.seq ?_
  refine AW.regs ?_
  refine oBox (n := 128) (m := 2) (cs := [(.d (.int .i64 a1.Key)), (.d (.int .i64 a1.Value))]) rfl eZ rfl rfl nZ ?_
  refine oBox (n := 192) (m := 2) (cs := [(.d (.int .i64 a2.Key)), (.d (.int .i64 a2.Value))]) rfl (eS rfl (eS rfl eZ)) rfl rfl (nS rfl nZ) ?_
  refine oMov eC ?_
  refine xNil ?_
  refine TQ.qn ?_
  refine AW.seq ?_
  refine AW.seq ?_
  refine AW.regs ?_
  refine oFaddrN (m := 0) (eS rfl (eS rfl eZ)) rfl ?_
  refine oLoadV (q := 0) (c := (.d (.int .i64 a1.Key))) eZ (bS rfl bZ) rfl rfl ?_
  refine oFaddrN (m := 0) (eS rfl (eS rfl (eS rfl eZ))) rfl ?_
  refine oLoadV (q := 0) (c := (.d (.int .i64 a2.Key))) eZ bZ rfl rfl ?_
  refine oNeq (eS rfl (eS rfl eZ)) eZ ?_
  refine xNil ?_
  refine TQ.qn ?_
  rcases oite H with ⟨h3, H⟩ | ⟨h3, H⟩
  · refine AW.condT eZ (decide_eq_true h3) ?_
    refine AW.seq ?_
    refine AW.regs ?_
    refine oMov eC ?_
    refine xNil ?_
    refine TQ.qn ?_
    refine AW.ret ?_
    refine TQ.qr ?_
    obtain rfl := Option.some.inj H
    exact endsR (RL.cons (RV.tmp eZ) (VO.flat rfl) RL.nil) List.nodup_nil
  · refine AW.condF eZ (decide_eq_false h3) ?_
    refine AW.skip ?_
    refine TQ.qn ?_
    refine AW.seq ?_
    refine AW.seq ?_
    refine AW.regs ?_
    refine oFaddrN (m := 1) (eS rfl (eS rfl (eS rfl (eS rfl (eS rfl (eS rfl (eS rfl eZ))))))) rfl ?_
    refine oLoadV (q := 1) (c := (.d (.int .i64 a1.Value))) eZ (bS rfl bZ) rfl rfl ?_
    refine oFaddrN (m := 1) (eS rfl (eS rfl (eS rfl (eS rfl (eS rfl (eS rfl (eS rfl (eS rfl eZ)))))))) rfl ?_
    refine oLoadV (q := 1) (c := (.d (.int .i64 a2.Value))) eZ bZ rfl rfl ?_
    refine oNeq (eS rfl (eS rfl eZ)) eZ ?_
    refine xNil ?_
    refine TQ.qn ?_
    rcases oite H with ⟨h4, H⟩ | ⟨h4, H⟩
    · refine AW.condT eZ (decide_eq_true h4) ?_
      refine AW.seq ?_
      refine AW.regs ?_
      refine oMov eC ?_
      refine xNil ?_
      refine TQ.qn ?_
      refine AW.weaken (wk_mk [192, 128] (SL.cons (k := 4) eZ rfl VWk.rfl SL.nil) (BL.drop rfl (BL.drop rfl BL.nil)) BK.nil) ?_
      refine AW.ret ?_
      refine TQ.qr ?_
      obtain rfl := Option.some.inj H
      exact endsR (RL.cons (RV.tmp eZ) (VO.flat rfl) RL.nil) List.nodup_nil
    · refine AW.condF eZ (decide_eq_false h4) ?_
      refine AW.skip ?_
      refine TQ.qn ?_
      refine AW.seq ?_
      refine AW.regs ?_
      refine oMov eC ?_
      refine xNil ?_
      refine TQ.qn ?_
      refine AW.weaken (wk_mk [192, 128] (SL.cons (k := 4) eZ rfl VWk.rfl SL.nil) (BL.drop rfl (BL.drop rfl BL.nil)) BK.nil) ?_
      refine AW.ret ?_
      obtain rfl := Option.some.inj H
      exact endsR (RL.cons (RV.tmp eZ) (VO.flat rfl) RL.nil) List.nodup_nil

theorem c_laws_eqCellS {a1 : (List TCell)} {a2 : (List TCell)} {r : Bool} (H : m_laws_eqCellS a1 a2 = some r) : Fn Try.prog k_laws_eqCellS (lent [(.sl 2 (List.map d_TCell a1)), (.sl 2 (List.map d_TCell a2))]) true [(.bool r)] := by
  refine i_laws_eqCellS_fn (Nat.le_of_ble_eq_true rfl) ?_
  rw [init_mk]
  refine AW.weaken (wk_mk [] (SL.cons (v := (.one (.d (.sl 2 (List.map d_TCell a1))))) eZ rfl VWk.rfl (SL.cons (v := (.one (.d (.sl 2 (List.map d_TCell a2))))) (eS rfl eZ) rfl VWk.rfl SL.nil)) BL.nil BK.nil) ?_
  unfold m_laws_eqCellS at H
  unfold i_laws_eqCellS
  refine AW.seq ?_
  refine AW.regs ?_
  refine oMov eC ?_
  refine xNil ?_
  refine TQ.qn ?_
  refine AW.seq ?_
  refine AW.seq ?_
  refine AW.regs ?_
  refine oMov (eS rfl eZ) ?_
  refine oLenD eZ (n := a1.length) (List.length_map _) ?_
  refine oMov (eS rfl (eS rfl (eS rfl (eS rfl eZ)))) ?_
  refine oLenD eZ (n := a2.length) (List.length_map _) ?_
  refine oNeq (eS rfl (eS rfl eZ)) eZ ?_
  refine xNil ?_
  refine TQ.qn ?_
  rcases oite H with ⟨h3, H⟩ | ⟨h3, H⟩
  · refine AW.condT eZ (decide_eq_true h3) ?_
    refine AW.seq ?_
    refine AW.regs ?_
    refine oMov eC ?_
    refine xNil ?_
    refine TQ.qn ?_
    refine AW.ret ?_
    refine TQ.qr ?_
    obtain rfl := Option.some.inj H
    exact endsR (RL.cons (RV.tmp eZ) (VO.flat rfl) RL.nil) List.nodup_nil
  · refine AW.condF eZ (decide_eq_false h3) ?_
    refine AW.skip ?_
    refine TQ.qn ?_
    refine AW.seqJ (fun t4 : Unit => laws_eqCellS_j4 t4 = some r) (fun t4 => mk [] [] noG) ?_ ?_
    · intro t4 H
      unfold laws_eqCellS_j4 at H
      refine AW.seq ?_
      refine AW.regs ?_
      refine oMov eC ?_
      refine xNil ?_
      refine TQ.qn ?_
      refine AW.ret ?_
      obtain rfl := Option.some.inj H
      exact endsR (RL.cons (RV.tmp eZ) (VO.flat rfl) RL.nil) List.nodup_nil
    · refine AW.seq ?_
      refine AW.regs ?_
      refine oMov eC ?_
      refine xNil ?_
      refine TQ.qn ?_
      refine AW.block ?_
      refine AW.iter (fun s6 : Int => mk [(0, (.one (.d (.sl 2 (List.map d_TCell a1))))), (1, (.one (.d (.sl 2 (List.map d_TCell a2))))), (5, (.one (.d (.int .i64 s6))))] [] noG) H (wk_mk [] (SL.cons (eS rfl (eS rfl (eS rfl (eS rfl (eS rfl (eS rfl (eS rfl eZ))))))) rfl VWk.rfl (SL.cons (eS rfl (eS rfl (eS rfl (eS rfl (eS rfl (eS rfl (eS rfl (eS rfl eZ)))))))) rfl VWk.rfl (SL.cons eZ rfl VWk.rfl SL.nil))) BL.nil BK.nil) ?_
      intro kb7 s6 H
      unfold laws_eqCellS_b6 at H
      refine AW.seq ?_
      refine AW.seq ?_
      refine AW.regs ?_
      refine oMov (eS rfl (eS rfl eZ)) ?_
      refine oMov (eS rfl eZ) ?_
      refine oLenD eZ (n := a1.length) (List.length_map _) ?_
      refine oLss (eS rfl (eS rfl eZ)) eZ ?_
      refine xNil ?_
      refine TQ.qn ?_
      rcases oite H with ⟨h8, H⟩ | ⟨h8, H⟩
      · refine AW.condT eZ (decide_eq_true h8) ?_
        refine AW.skip ?_
        refine TQ.qn ?_
        refine AW.seq ?_
        refine AW.block ?_
        refine AW.seq ?_
        refine AW.regd ?_
        refine oMov (eS rfl (eS rfl (eS rfl (eS rfl eZ)))) ?_
        refine oMov (eS rfl (eS rfl (eS rfl (eS rfl (eS rfl (eS rfl (eS rfl eZ))))))) ?_
        obtain ⟨v9, h10, H⟩ := obind H
        refine oAtD (eS rfl eZ) eZ h10 ?_
        refine oLoadBA (es := [(.d (.int .i64 v9.Key)), (.d (.int .i64 v9.Value))]) eZ rfl ?_
        refine oMov (eS rfl (eS rfl (eS rfl (eS rfl (eS rfl (eS rfl (eS rfl (eS rfl (eS rfl eZ))))))))) ?_
        refine oMov (eS rfl (eS rfl (eS rfl (eS rfl (eS rfl (eS rfl (eS rfl (eS rfl (eS rfl (eS rfl (eS rfl eZ))))))))))) ?_
        obtain ⟨v11, h12, H⟩ := obind H
        refine oAtD (eS rfl eZ) eZ h12 ?_
        refine oLoadBA (es := [(.d (.int .i64 v11.Key)), (.d (.int .i64 v11.Value))]) eZ rfl ?_
        obtain ⟨v13, h14, H⟩ := obind H
        refine oCall (u := (.one (.d (.bool v13)))) eC Cl.fn (c_laws_eqCell h14) (Evs.cons (eS rfl (eS rfl (eS rfl (eS rfl eZ)))) (Evs.cons eZ Evs.nil)) (VDs.cons (VD.agg rfl) (VDs.cons (VD.agg rfl) VDs.nil)) rfl ?_
        refine oInv eZ ?_
        refine xNil ?_
        refine TQ.qn ?_
        refine AW.weaken (wk_mk [] (SL.cons (k := 26) eZ rfl VWk.rfl (SL.cons (k := 0) (eS rfl (eS rfl (eS rfl (eS rfl (eS rfl (eS rfl (eS rfl (eS rfl (eS rfl (eS rfl (eS rfl (eS rfl (eS rfl (eS rfl eZ)))))))))))))) rfl VWk.rfl (SL.cons (k := 1) (eS rfl (eS rfl (eS rfl (eS rfl (eS rfl (eS rfl (eS rfl (eS rfl (eS rfl (eS rfl (eS rfl (eS rfl (eS rfl (eS rfl (eS rfl eZ))))))))))))))) rfl VWk.rfl (SL.cons (k := 5) (eS rfl (eS rfl (eS rfl (eS rfl (eS rfl (eS rfl (eS rfl (eS rfl (eS rfl (eS rfl (eS rfl (eS rfl (eS rfl (eS rfl (eS rfl (eS rfl eZ)))))))))))))))) rfl VWk.rfl SL.nil)))) BL.nil BK.nil) ?_
        rcases oite H with ⟨h15, H⟩ | ⟨h15, H⟩
        · refine AW.condF eZ (congrArg Bool.not h15) ?_
          refine AW.skip ?_
          refine BQ.qn ?_
          refine TQ.qn ?_
          refine AW.regs ?_
          refine oMov (eS rfl (eS rfl (eS rfl eZ))) ?_
          refine oAdd eZ eC ?_
          refine oMov eZ ?_
          refine xNil ?_
          exact TQ.qn ⟨(IntKind.wrap .i64 (s6 + 1)), H, (wk_mk [] (SL.cons (eS rfl (eS rfl (eS rfl (eS rfl eZ)))) rfl VWk.rfl (SL.cons (eS rfl (eS rfl (eS rfl (eS rfl (eS rfl eZ))))) rfl VWk.rfl (SL.cons eZ rfl VWk.rfl SL.nil))) BL.nil BK.nil)⟩
        · refine AW.condT eZ (congrArg Bool.not (nt h15)) ?_
          refine AW.seq ?_
          refine AW.regs ?_
          refine oMov eC ?_
          refine xNil ?_
          refine TQ.qn ?_
          refine AW.ret ?_
          refine BQ.qr ?_
          refine TQ.qr ?_
          refine TQ.qr ?_
          refine BQ.qr ?_
          refine TQ.qr ?_
          obtain rfl := Option.some.inj H
          exact endsR (RL.cons (RV.tmp eZ) (VO.flat rfl) RL.nil) List.nodup_nil
      · refine AW.condF eZ (decide_eq_false h8) ?_
        refine AW.exit ?_
        refine TQ.qe ?_
        refine TQ.qe ?_
        refine BQ.qe ?_
        exact TQ.qn ⟨(), H, (wk_mk [] SL.nil BL.nil BK.nil)⟩

theorem c_laws_eqMove {a1 : TMove} {a2 : TMove} {r : Bool} (H : m_laws_eqMove a1 a2 = some r) : Fn Try.prog k_laws_eqMove (lent [(.agg (d_TMove a1)), (.agg (d_TMove a2))]) true [(.bool r)] := by
  refine i_laws_eqMove_fn (Nat.le_of_ble_eq_true rfl) ?_
  rw [init_mk]
  refine AW.weaken (wk_mk [] (SL.cons (v := (.agg [(.d (.int .i64 a1.No)), (.d (.int .i64 a1.Stage)), (.d (.int .i64 a1.Lo)), (.d (.int .i64 a1.Hi)), (.d (.int .i64 a1.From)), (.d (.int .i64 a1.To)), (.d (.sl 2 (List.map d_TCell a1.Cells)))])) eZ rfl VWk.rfl (SL.cons (v := (.agg [(.d (.int .i64 a2.No)), (.d (.int .i64 a2.Stage)), (.d (.int .i64 a2.Lo)), (.d (.int .i64 a2.Hi)), (.d (.int .i64 a2.From)), (.d (.int .i64 a2.To)), (.d (.sl 2 (List.map d_TCell a2.Cells)))])) (eS rfl eZ) rfl VWk.rfl SL.nil)) BL.nil BK.nil) ?_
  unfold m_laws_eqMove at H
  unfold i_laws_eqMove
  refine AW.seq ?_
  refine AW.regs ?_
  refine oBox (n := 128) (m := 7) (cs := [(.d (.int .i64 a1.No)), (.d (.int .i64 a1.Stage)), (.d (.int .i64 a1.Lo)), (.d (.int .i64 a1.Hi)), (.d (.int .i64 a1.From)), (.d (.int .i64 a1.To)), (.d (.sl 2 (List.map d_TCell a1.Cells)))]) rfl eZ rfl rfl nZ ?_
  refine oBox (n := 192) (m := 7) (cs := [(.d (.int .i64 a2.No)), (.d (.int .i64 a2.Stage)), (.d (.int .i64 a2.Lo)), (.d (.int .i64 a2.Hi)), (.d (.int .i64 a2.From)), (.d (.int .i64 a2.To)), (.d (.sl 2 (List.map d_TCell a2.Cells)))]) rfl (eS rfl (eS rfl eZ)) rfl rfl (nS rfl nZ) ?_
  refine oMov eC ?_
  refine xNil ?_
  refine TQ.qn ?_
  refine AW.seq ?_
  refine AW.seq ?_
  refine AW.regs ?_
  refine oFaddrN (m := 0) (eS rfl (eS rfl eZ)) rfl ?_
  refine oLoadV (q := 0) (c := (.d (.int .i64 a1.No))) eZ (bS rfl bZ) rfl rfl ?_
  refine oFaddrN (m := 0) (eS rfl (eS rfl (eS rfl eZ))) rfl ?_
  refine oLoadV (q := 0) (c := (.d (.int .i64 a2.No))) eZ bZ rfl rfl ?_
  refine oNeq (eS rfl (eS rfl eZ)) eZ ?_
  refine xNil ?_
  refine TQ.qn ?_
  rcases oite H with ⟨h3, H⟩ | ⟨h3, H⟩
  · refine AW.condT eZ (decide_eq_true h3) ?_
    refine AW.seq ?_
    refine AW.regs ?_
    refine oMov eC ?_
    refine xNil ?_
    refine TQ.qn ?_
    refine AW.ret ?_
    refine TQ.qr ?_
    obtain rfl := Option.some.inj H
    exact endsR (RL.cons (RV.tmp eZ) (VO.flat rfl) RL.nil) List.nodup_nil
  · refine AW.condF eZ (decide_eq_false h3) ?_
    refine AW.skip ?_
    refine TQ.qn ?_
    refine AW.seq ?_
    refine AW.seq ?_
    refine AW.regs ?_
    refine oFaddrN (m := 1) (eS rfl (eS rfl (eS rfl (eS rfl (eS rfl (eS rfl (eS rfl eZ))))))) rfl ?_
    refine oLoadV (q := 1) (c := (.d (.int .i64 a1.Stage))) eZ (bS rfl bZ) rfl rfl ?_
    refine oFaddrN (m := 1) (eS rfl (eS rfl (eS rfl (eS rfl (eS rfl (eS rfl (eS rfl (eS rfl eZ)))))))) rfl ?_
    refine oLoadV (q := 1) (c := (.d (.int .i64 a2.Stage))) eZ bZ rfl rfl ?_
    refine oNeq (eS rfl (eS rfl eZ)) eZ ?_
    refine xNil ?_
    refine TQ.qn ?_
    rcases oite H with ⟨h4, H⟩ | ⟨h4, H⟩
    · refine AW.condT eZ (decide_eq_true h4) ?_
      refine AW.seq ?_
      refine AW.regs ?_
      refine oMov eC ?_
      refine xNil ?_
      refine TQ.qn ?_
      refine AW.weaken (wk_mk [192, 128] (SL.cons (k := 4) eZ rfl VWk.rfl SL.nil) (BL.drop rfl (BL.drop rfl BL.nil)) BK.nil) ?_
      refine AW.ret ?_
      refine TQ.qr ?_
      obtain rfl := Option.some.inj H
      exact endsR (RL.cons (RV.tmp eZ) (VO.flat rfl) RL.nil) List.nodup_nil
    · refine AW.condF eZ (decide_eq_false h4) ?_
      refine AW.skip ?_
      refine TQ.qn ?_
      refine AW.seq ?_
      refine AW.seq ?_
      refine AW.regs ?_
      refine oFaddrN (m := 2) (eS rfl (eS rfl (eS rfl (eS rfl (eS rfl (eS rfl (eS rfl (eS rfl (eS rfl (eS rfl (eS rfl (eS rfl eZ)))))))))))) rfl ?_
      refine oLoadV (q := 2) (c := (.d (.int .i64 a1.Lo))) eZ (bS rfl bZ) rfl rfl ?_
      refine oFaddrN (m := 2) (eS rfl (eS rfl (eS rfl (eS rfl (eS rfl (eS rfl (eS rfl (eS rfl (eS rfl (eS rfl (eS rfl (eS rfl (eS rfl eZ))))))))))))) rfl ?_
      refine oLoadV (q := 2) (c := (.d (.int .i64 a2.Lo))) eZ bZ rfl rfl ?_
      refine oNeq (eS rfl (eS rfl eZ)) eZ ?_
      refine xNil ?_
      refine TQ.qn ?_
      refine AW.weaken (wk_mk [] (SL.cons (k := 19) eZ rfl VWk.rfl (SL.cons (k := 3) (eS rfl (eS rfl (eS rfl (eS rfl (eS rfl (eS rfl (eS rfl (eS rfl (eS rfl (eS rfl (eS rfl (eS rfl (eS rfl (eS rfl (eS rfl (eS rfl eZ)))))))))))))))) rfl VWk.rfl (SL.cons (k := 2) (eS rfl (eS rfl (eS rfl (eS rfl (eS rfl (eS rfl (eS rfl (eS rfl (eS rfl (eS rfl (eS rfl (eS rfl (eS rfl (eS rfl (eS rfl (eS rfl (eS rfl eZ))))))))))))))))) rfl VWk.rfl SL.nil))) (BL.keep rfl (BL.keep rfl BL.nil)) (BK.cons (n := 192) rfl bZ rfl rfl (BK.cons (n := 128) rfl (bS rfl bZ) rfl rfl BK.nil))) ?_
      rcases oite H with ⟨h5, H⟩ | ⟨h5, H⟩
      · refine AW.condT eZ (decide_eq_true h5) ?_
        refine AW.seq ?_
        refine AW.regs ?_
        refine oMov eC ?_
        refine xNil ?_
        refine TQ.qn ?_
        refine AW.ret ?_
        refine TQ.qr ?_
        obtain rfl := Option.some.inj H
        exact endsR (RL.cons (RV.tmp eZ) (VO.flat rfl) RL.nil) List.nodup_nil
      · refine AW.condF eZ (decide_eq_false h5) ?_
        refine AW.skip ?_
        refine TQ.qn ?_
        refine AW.seq ?_
        refine AW.seq ?_
        refine AW.regs ?_
        refine oFaddrN (m := 3) (eS rfl (eS rfl eZ)) rfl ?_
        refine oLoadV (q := 3) (c := (.d (.int .i64 a1.Hi))) eZ (bS rfl bZ) rfl rfl ?_
        refine oFaddrN (m := 3) (eS rfl (eS rfl (eS rfl eZ))) rfl ?_
        refine oLoadV (q := 3) (c := (.d (.int .i64 a2.Hi))) eZ bZ rfl rfl ?_
        refine oNeq (eS rfl (eS rfl eZ)) eZ ?_
        refine xNil ?_
        refine TQ.qn ?_
        rcases oite H with ⟨h6, H⟩ | ⟨h6, H⟩
        · refine AW.condT eZ (decide_eq_true h6) ?_
          refine AW.seq ?_
          refine AW.regs ?_
          refine oMov eC ?_
          refine xNil ?_
          refine TQ.qn ?_
          refine AW.ret ?_
          refine TQ.qr ?_
          obtain rfl := Option.some.inj H
          exact endsR (RL.cons (RV.tmp eZ) (VO.flat rfl) RL.nil) List.nodup_nil
        · refine AW.condF eZ (decide_eq_false h6) ?_
          refine AW.skip ?_
          refine TQ.qn ?_
          refine AW.seq ?_
          refine AW.seq ?_
          refine AW.regs ?_
          refine oFaddrN (m := 4) (eS rfl (eS rfl (eS rfl (eS rfl (eS rfl (eS rfl (eS rfl eZ))))))) rfl ?_
          refine oLoadV (q := 4) (c := (.d (.int .i64 a1.From))) eZ (bS rfl bZ) rfl rfl ?_
          refine oFaddrN (m := 4) (eS rfl (eS rfl (eS rfl (eS rfl (eS rfl (eS rfl (eS rfl (eS rfl eZ)))))))) rfl ?_
          refine oLoadV (q := 4) (c := (.d (.int .i64 a2.From))) eZ bZ rfl rfl ?_
          refine oNeq (eS rfl (eS rfl eZ)) eZ ?_
          refine xNil ?_
          refine TQ.qn ?_
          rcases oite H with ⟨h7, H⟩ | ⟨h7, H⟩
          · refine AW.condT eZ (decide_eq_true h7) ?_
            refine AW.seq ?_
            refine AW.regs ?_
            refine oMov eC ?_
            refine xNil ?_
            refine TQ.qn ?_
            refine AW.ret ?_
            refine TQ.qr ?_
            obtain rfl := Option.some.inj H
            exact endsR (RL.cons (RV.tmp eZ) (VO.flat rfl) RL.nil) List.nodup_nil
          · refine AW.condF eZ (decide_eq_false h7) ?_
            refine AW.skip ?_
            refine TQ.qn ?_
            refine AW.seq ?_
            refine AW.seq ?_
            refine AW.regs ?_
            refine oFaddrN (m := 5) (eS rfl (eS rfl (eS rfl (eS rfl (eS rfl (eS rfl (eS rfl (eS rfl (eS rfl (eS rfl (eS rfl (eS rfl eZ)))))))))))) rfl ?_
            refine oLoadV (q := 5) (c := (.d (.int .i64 a1.To))) eZ (bS rfl bZ) rfl rfl ?_
            refine oFaddrN (m := 5) (eS rfl (eS rfl (eS rfl (eS rfl (eS rfl (eS rfl (eS rfl (eS rfl (eS rfl (eS rfl (eS rfl (eS rfl (eS rfl eZ))))))))))))) rfl ?_
            refine oLoadV (q := 5) (c := (.d (.int .i64 a2.To))) eZ bZ rfl rfl ?_
            refine oNeq (eS rfl (eS rfl eZ)) eZ ?_
            refine xNil ?_
            refine TQ.qn ?_
            refine AW.weaken (wk_mk [] (SL.cons (k := 34) eZ rfl VWk.rfl (SL.cons (k := 3) (eS rfl (eS rfl (eS rfl (eS rfl (eS rfl (eS rfl (eS rfl (eS rfl (eS rfl (eS rfl (eS rfl (eS rfl (eS rfl (eS rfl (eS rfl (eS rfl eZ)))))))))))))))) rfl VWk.rfl (SL.cons (k := 2) (eS rfl (eS rfl (eS rfl (eS rfl (eS rfl (eS rfl (eS rfl (eS rfl (eS rfl (eS rfl (eS rfl (eS rfl (eS rfl (eS rfl (eS rfl (eS rfl (eS rfl eZ))))))))))))))))) rfl VWk.rfl SL.nil))) (BL.keep rfl (BL.keep rfl BL.nil)) (BK.cons (n := 192) rfl bZ rfl rfl (BK.cons (n := 128) rfl (bS rfl bZ) rfl rfl BK.nil))) ?_
            rcases oite H with ⟨h8, H⟩ | ⟨h8, H⟩
            · refine AW.condT eZ (decide_eq_true h8) ?_
              refine AW.seq ?_
              refine AW.regs ?_
              refine oMov eC ?_
              refine xNil ?_
              refine TQ.qn ?_
              refine AW.ret ?_
              refine TQ.qr ?_
              obtain rfl := Option.some.inj H
              exact endsR (RL.cons (RV.tmp eZ) (VO.flat rfl) RL.nil) List.nodup_nil
            · refine AW.condF eZ (decide_eq_false h8) ?_
              refine AW.skip ?_
              refine TQ.qn ?_
              refine AW.seq ?_
              refine AW.seq ?_
              refine AW.regs ?_
              refine oFaddrN (m := 6) (eS rfl (eS rfl eZ)) rfl ?_
              refine oLoadV (q := 6) (c := (.d (.sl 2 (List.map d_TCell a1.Cells)))) eZ (bS rfl bZ) rfl rfl ?_
              refine oFaddrN (m := 6) (eS rfl (eS rfl (eS rfl eZ))) rfl ?_
              refine oLoadV (q := 6) (c := (.d (.sl 2 (List.map d_TCell a2.Cells)))) eZ bZ rfl rfl ?_
              obtain ⟨v9, h10, H⟩ := obind H
              refine oCall (u := (.one (.d (.bool v9)))) eC Cl.fn (c_laws_eqCellS h10) (Evs.cons (eS rfl (eS rfl eZ)) (Evs.cons eZ Evs.nil)) (VDs.cons VD.plain (VDs.cons VD.plain VDs.nil)) rfl ?_
              refine oInv eZ ?_
              refine xNil ?_
              refine TQ.qn ?_
              rcases oite H with ⟨h11, H⟩ | ⟨h11, H⟩
              · refine AW.condF eZ (congrArg Bool.not h11) ?_
                refine AW.skip ?_
                refine TQ.qn ?_
                refine AW.seq ?_
                refine AW.regs ?_
                refine oMov eC ?_
                refine xNil ?_
                refine TQ.qn ?_
                refine AW.ret ?_
                obtain rfl := Option.some.inj H
                exact endsR (RL.cons (RV.tmp eZ) (VO.flat rfl) RL.nil) List.nodup_nil
              · refine AW.condT eZ (congrArg Bool.not (nt h11)) ?_
                refine AW.seq ?_
                refine AW.regs ?_
                refine oMov eC ?_
                refine xNil ?_
                refine TQ.qn ?_
                refine AW.ret ?_
                refine TQ.qr ?_
                obtain rfl := Option.some.inj H
                exact endsR (RL.cons (RV.tmp eZ) (VO.flat rfl) RL.nil) List.nodup_nil

theorem c_laws_eqAtlas {a1 : TAtlas} {a2 : TAtlas} {r : Bool} (H : m_laws_eqAtlas a1 a2 = some r) : Fn Try.prog k_laws_eqAtlas (lent [(.agg (d_TAtlas a1)), (.agg (d_TAtlas a2))]) true [(.bool r)] := by
  refine i_laws_eqAtlas_fn (Nat.le_of_ble_eq_true rfl) ?_
  rw [init_mk]
  refine AW.weaken (wk_mk [] (SL.cons (v := (.agg [(.d (.int .i64 a1.Epoch)), (.d (.sl 3 (List.map d_TPart a1.Parts))), (.d (.int .i64 a1.Move.No)), (.d (.int .i64 a1.Move.Stage)), (.d (.int .i64 a1.Move.Lo)), (.d (.int .i64 a1.Move.Hi)), (.d (.int .i64 a1.Move.From)), (.d (.int .i64 a1.Move.To)), (.d (.sl 2 (List.map d_TCell a1.Move.Cells)))])) eZ rfl VWk.rfl (SL.cons (v := (.agg [(.d (.int .i64 a2.Epoch)), (.d (.sl 3 (List.map d_TPart a2.Parts))), (.d (.int .i64 a2.Move.No)), (.d (.int .i64 a2.Move.Stage)), (.d (.int .i64 a2.Move.Lo)), (.d (.int .i64 a2.Move.Hi)), (.d (.int .i64 a2.Move.From)), (.d (.int .i64 a2.Move.To)), (.d (.sl 2 (List.map d_TCell a2.Move.Cells)))])) (eS rfl eZ) rfl VWk.rfl SL.nil)) BL.nil BK.nil) ?_
  unfold m_laws_eqAtlas at H
  unfold i_laws_eqAtlas
  refine AW.seq ?_
  refine AW.regs ?_
  refine oBox (n := 128) (m := 9) (cs := [(.d (.int .i64 a1.Epoch)), (.d (.sl 3 (List.map d_TPart a1.Parts))), (.d (.int .i64 a1.Move.No)), (.d (.int .i64 a1.Move.Stage)), (.d (.int .i64 a1.Move.Lo)), (.d (.int .i64 a1.Move.Hi)), (.d (.int .i64 a1.Move.From)), (.d (.int .i64 a1.Move.To)), (.d (.sl 2 (List.map d_TCell a1.Move.Cells)))]) rfl eZ rfl rfl nZ ?_
  refine oBox (n := 192) (m := 9) (cs := [(.d (.int .i64 a2.Epoch)), (.d (.sl 3 (List.map d_TPart a2.Parts))), (.d (.int .i64 a2.Move.No)), (.d (.int .i64 a2.Move.Stage)), (.d (.int .i64 a2.Move.Lo)), (.d (.int .i64 a2.Move.Hi)), (.d (.int .i64 a2.Move.From)), (.d (.int .i64 a2.Move.To)), (.d (.sl 2 (List.map d_TCell a2.Move.Cells)))]) rfl (eS rfl (eS rfl eZ)) rfl rfl (nS rfl nZ) ?_
  refine oMov eC ?_
  refine xNil ?_
  refine TQ.qn ?_
  refine AW.seq ?_
  refine AW.seq ?_
  refine AW.regs ?_
  refine oFaddrN (m := 0) (eS rfl (eS rfl eZ)) rfl ?_
  refine oLoadV (q := 0) (c := (.d (.int .i64 a1.Epoch))) eZ (bS rfl bZ) rfl rfl ?_
  refine oFaddrN (m := 0) (eS rfl (eS rfl (eS rfl eZ))) rfl ?_
  refine oLoadV (q := 0) (c := (.d (.int .i64 a2.Epoch))) eZ bZ rfl rfl ?_
  refine oNeq (eS rfl (eS rfl eZ)) eZ ?_
  refine xNil ?_
  refine TQ.qn ?_
  rcases oite H with ⟨h3, H⟩ | ⟨h3, H⟩
  · refine AW.condT eZ (decide_eq_true h3) ?_
    refine AW.seq ?_
    refine AW.regs ?_
    refine oMov eC ?_
    refine xNil ?_
    refine TQ.qn ?_
    refine AW.ret ?_
    refine TQ.qr ?_
    obtain rfl := Option.some.inj H
    exact endsR (RL.cons (RV.tmp eZ) (VO.flat rfl) RL.nil) List.nodup_nil
  · refine AW.condF eZ (decide_eq_false h3) ?_
    refine AW.skip ?_
    refine TQ.qn ?_
    refine AW.seq ?_
    refine AW.seq ?_
    refine AW.regs ?_
    refine oFaddrN (m := 1) (eS rfl (eS rfl (eS rfl (eS rfl (eS rfl (eS rfl (eS rfl eZ))))))) rfl ?_
    refine oLoadV (q := 1) (c := (.d (.sl 3 (List.map d_TPart a1.Parts)))) eZ (bS rfl bZ) rfl rfl ?_
    refine oFaddrN (m := 1) (eS rfl (eS rfl (eS rfl (eS rfl (eS rfl (eS rfl (eS rfl (eS rfl eZ)))))))) rfl ?_
    refine oLoadV (q := 1) (c := (.d (.sl 3 (List.map d_TPart a2.Parts)))) eZ bZ rfl rfl ?_
    obtain ⟨v4, h5, H⟩ := obind H
    refine oCall (u := (.one (.d (.bool v4)))) eC Cl.fn (c_laws_eqPartS h5) (Evs.cons (eS rfl (eS rfl eZ)) (Evs.cons eZ Evs.nil)) (VDs.cons VD.plain (VDs.cons VD.plain VDs.nil)) rfl ?_
    refine oInv eZ ?_
    refine xNil ?_
    refine TQ.qn ?_
    refine AW.weaken (wk_mk [] (SL.cons (k := 15) eZ rfl VWk.rfl (SL.cons (k := 3) (eS rfl (eS rfl (eS rfl (eS rfl (eS rfl (eS rfl (eS rfl (eS rfl (eS rfl (eS rfl (eS rfl (eS rfl eZ)))))))))))) rfl VWk.rfl (SL.cons (k := 2) (eS rfl (eS rfl (eS rfl (eS rfl (eS rfl (eS rfl (eS rfl (eS rfl (eS rfl (eS rfl (eS rfl (eS rfl (eS rfl eZ))))))))))))) rfl VWk.rfl SL.nil))) (BL.keep rfl (BL.keep rfl BL.nil)) (BK.cons (n := 192) rfl bZ rfl rfl (BK.cons (n := 128) rfl (bS rfl bZ) rfl rfl BK.nil))) ?_
    rcases oite H with ⟨h6, H⟩ | ⟨h6, H⟩
    · refine AW.condF eZ (congrArg Bool.not h6) ?_
      refine AW.skip ?_
      refine TQ.qn ?_
      refine AW.seq ?_
      refine AW.seq ?_
      refine AW.regs ?_
      refine oFaddrN (m := 2) (eS rfl (eS rfl eZ)) rfl ?_
      refine oLoadVA (es := [(.d (.int .i64 a1.Move.No)), (.d (.int .i64 a1.Move.Stage)), (.d (.int .i64 a1.Move.Lo)), (.d (.int .i64 a1.Move.Hi)), (.d (.int .i64 a1.Move.From)), (.d (.int .i64 a1.Move.To)), (.d (.sl 2 (List.map d_TCell a1.Move.Cells)))]) eZ (bS rfl bZ) rfl ?_
      refine oFaddrN (m := 2) (eS rfl (eS rfl (eS rfl eZ))) rfl ?_
      refine oLoadVA (es := [(.d (.int .i64 a2.Move.No)), (.d (.int .i64 a2.Move.Stage)), (.d (.int .i64 a2.Move.Lo)), (.d (.int .i64 a2.Move.Hi)), (.d (.int .i64 a2.Move.From)), (.d (.int .i64 a2.Move.To)), (.d (.sl 2 (List.map d_TCell a2.Move.Cells)))]) eZ bZ rfl ?_
      obtain ⟨v7, h8, H⟩ := obind H
      refine oCall (u := (.one (.d (.bool v7)))) eC Cl.fn (c_laws_eqMove h8) (Evs.cons (eS rfl (eS rfl eZ)) (Evs.cons eZ Evs.nil)) (VDs.cons (VD.agg rfl) (VDs.cons (VD.agg rfl) VDs.nil)) rfl ?_
      refine oInv eZ ?_
      refine xNil ?_
      refine TQ.qn ?_
      rcases oite H with ⟨h9, H⟩ | ⟨h9, H⟩
      · refine AW.condF eZ (congrArg Bool.not h9) ?_
        refine AW.skip ?_
        refine TQ.qn ?_
        refine AW.seq ?_
        refine AW.regs ?_
        refine oMov eC ?_
        refine xNil ?_
        refine TQ.qn ?_
        refine AW.ret ?_
        obtain rfl := Option.some.inj H
        exact endsR (RL.cons (RV.tmp eZ) (VO.flat rfl) RL.nil) List.nodup_nil
      · refine AW.condT eZ (congrArg Bool.not (nt h9)) ?_
        refine AW.seq ?_
        refine AW.regs ?_
        refine oMov eC ?_
        refine xNil ?_
        refine TQ.qn ?_
        refine AW.ret ?_
        refine TQ.qr ?_
        obtain rfl := Option.some.inj H
        exact endsR (RL.cons (RV.tmp eZ) (VO.flat rfl) RL.nil) List.nodup_nil
    · refine AW.condT eZ (congrArg Bool.not (nt h6)) ?_
      refine AW.seq ?_
      refine AW.regs ?_
      refine oMov eC ?_
      refine xNil ?_
      refine TQ.qn ?_
      refine AW.ret ?_
      refine TQ.qr ?_
      obtain rfl := Option.some.inj H
      exact endsR (RL.cons (RV.tmp eZ) (VO.flat rfl) RL.nil) List.nodup_nil

theorem c_laws_markPartS {a1 : (List TPart)} {a2 : Int} {r : (Int × (List TPart))} (H : m_laws_markPartS a1 a2 = some r) : Fn Try.prog k_laws_markPartS [⟨(.sl 3 (List.map d_TPart a1)), .m (.sl 3 (List.map d_TPart r.2))⟩, ⟨(.int .i64 a2), .b⟩] true [(.int .i64 r.1)] := by
  refine i_laws_markPartS_fnM (Nat.le_of_ble_eq_true rfl) (fC nZ rfl fN) rfl ?_
  rw [initM_mk]
  refine AW.weaken (t := mk [(0, (.one (.sl 0 0 a1.length))), (1, (.one (.d (.int .i64 a2))))] [(0, (.data 3 (List.map d_TPart a1) true none))] (lk [(0, (.one (.sl 0 0 ((List.map d_TPart a1).length))))])) (wk_mkG (gl := [(0, (.one (.sl 0 0 ((List.map d_TPart a1).length))))]) [] (SL.cons (v := (.one (.sl 0 0 a1.length))) eZ rfl (VWk.one (CWk.len (List.length_map _))) (SL.cons (v := (.one (.d (.int .i64 a2)))) (eS rfl eZ) rfl VWk.rfl SL.nil)) (BL.keep rfl BL.nil) (BK.cons (n := 0) rfl bZ rfl rfl BK.nil) (GK.cons rfl GK.nil)) ?_
  unfold m_laws_markPartS at H
  unfold i_laws_markPartS
  refine AW.seq ?_
  refine AW.regs ?_
  refine oMov eC ?_
  refine xNil ?_
  refine TQ.qn ?_
  refine AW.seqJ (fun t3 : ((List TPart) × Int) => (laws_markPartS_j3 a1) t3 = some r) (fun t3 => mk [(1, (.one (.d (.int .i64 t3.2))))] [(0, (.data 3 (List.map d_TPart t3.1) true none))] (lk [(0, (.one (.sl 0 0 ((List.map d_TPart a1).length))))])) ?_ ?_
  · intro t3 H
    unfold laws_markPartS_j3 at H
    refine AW.seq ?_
    refine AW.regs ?_
    refine oMov eZ ?_
    refine oMov eZ ?_
    refine xNil ?_
    refine TQ.qn ?_
    refine AW.ret ?_
    obtain ⟨h5, H⟩ := oguard H
    obtain rfl := Option.some.inj H
    exact endsRM (RL.cons (RV.tmp eZ) (VO.flat rfl) RL.nil) (ML.mut eZ (VO.sl bZ (by first | (simp; done) | (simp; omega) | omega) (allFlat fun _ => rfl)) (ML.lent ML.nil)) (by decide)
  · refine AW.seq ?_
    refine AW.regs ?_
    refine oMov eC ?_
    refine xNil ?_
    refine TQ.qn ?_
    refine AW.block ?_
    refine AW.iter (fun s6 : ((List TPart) × Int × Int) => mk [(0, (.one (.sl 0 0 s6.1.length))), (1, (.one (.d (.int .i64 s6.2.1)))), (5, (.one (.d (.int .i64 s6.2.2))))] [(0, (.data 3 (List.map d_TPart s6.1) true none))] (lk [(0, (.one (.sl 0 0 ((List.map d_TPart a1).length))))])) H (wk_mkG [] (SL.cons (eS rfl (eS rfl eZ)) rfl VWk.rfl (SL.cons (eS rfl (eS rfl (eS rfl eZ))) rfl VWk.rfl (SL.cons eZ rfl VWk.rfl SL.nil))) (BL.keep rfl BL.nil) (BK.cons rfl bZ rfl rfl BK.nil) (GK.cons rfl GK.nil)) ?_
    intro kb7 s6 H
    unfold laws_markPartS_b6 at H
    refine AW.seq ?_
    refine AW.seq ?_
    refine AW.regs ?_
    refine oMov (eS rfl (eS rfl eZ)) ?_
    refine oMov (eS rfl eZ) ?_
    refine oLenN eZ ?_
    refine oLss (eS rfl (eS rfl eZ)) eZ ?_
    refine xNil ?_
    refine TQ.qn ?_
    rcases oite H with ⟨h8, H⟩ | ⟨h8, H⟩
    · refine AW.condT eZ (decide_eq_true h8) ?_
      refine AW.skip ?_
      refine TQ.qn ?_
      refine AW.seq ?_
      refine AW.block ?_
      refine AW.seq ?_
      refine AW.regs ?_
      refine oMov (eS rfl (eS rfl (eS rfl (eS rfl eZ)))) ?_
      refine oMov (eS rfl (eS rfl (eS rfl (eS rfl (eS rfl (eS rfl (eS rfl eZ))))))) ?_
      refine oMov (eS rfl (eS rfl (eS rfl (eS rfl (eS rfl (eS rfl (eS rfl eZ))))))) ?_
      obtain ⟨v9, h10, H⟩ := obind H
      refine oAtN (eS rfl (eS rfl eZ)) (eS rfl eZ) bZ rfl h10 ?_
      refine oFaddrN (m := 0) eZ rfl ?_
      refine oStoreD (t := v9) (t' := (TPart.mk s6.2.1 v9.Hi v9.Owner)) (es := [(.int .i64 s6.2.1)]) eZ (eS rfl (eS rfl eZ)) rfl rfl bZ (idx_at h10) rfl rfl ?_
      refine xNil ?_
      refine TQ.qn ?_
      refine AW.seq ?_
      refine AW.regs ?_
      refine oMov (eS rfl (eS rfl (eS rfl (eS rfl (eS rfl (eS rfl (eS rfl (eS rfl (eS rfl (eS rfl eZ)))))))))) ?_
      refine oAdd eZ eC ?_
      refine oMov eZ ?_
      refine xNil ?_
      refine TQ.qn ?_
      refine AW.seq ?_
      refine AW.regs ?_
      refine oMov (eS rfl (eS rfl (eS rfl (eS rfl (eS rfl (eS rfl (eS rfl (eS rfl (eS rfl (eS rfl (eS rfl (eS rfl eZ)))))))))))) ?_
      refine oMov (eS rfl (eS rfl (eS rfl (eS rfl (eS rfl (eS rfl (eS rfl (eS rfl (eS rfl (eS rfl (eS rfl (eS rfl (eS rfl (eS rfl (eS rfl eZ))))))))))))))) ?_
      refine oMov (eS rfl (eS rfl eZ)) ?_
      obtain ⟨v11, h12, H⟩ := obind H
      refine oAtN (eS rfl (eS rfl eZ)) (eS rfl eZ) bZ (by first | (simp; done) | (simp; omega) | omega) h12 ?_
      refine oFaddrN (m := 1) eZ rfl ?_
      refine oStoreD (t := v11) (t' := (TPart.mk v11.Lo (IntKind.wrap .i64 (s6.2.1 + 1)) v11.Owner)) (es := [(.int .i64 (IntKind.wrap .i64 (s6.2.1 + 1)))]) eZ (eS rfl (eS rfl eZ)) rfl rfl bZ (idx_at h12) rfl rfl ?_
      refine xNil ?_
      refine TQ.qn ?_
      refine AW.weaken (wk_mkG [] (SL.cons (k := 1) (eS rfl (eS rfl (eS rfl (eS rfl (eS rfl eZ))))) rfl VWk.rfl (SL.cons (k := 0) (eS rfl (eS rfl (eS rfl (eS rfl (eS rfl (eS rfl (eS rfl (eS rfl (eS rfl (eS rfl (eS rfl (eS rfl (eS rfl (eS rfl (eS rfl (eS rfl (eS rfl eZ))))))))))))))))) rfl VWk.rfl (SL.cons (k := 5) (eS rfl (eS rfl (eS rfl (eS rfl (eS rfl (eS rfl (eS rfl (eS rfl (eS rfl (eS rfl (eS rfl (eS rfl (eS rfl (eS rfl (eS rfl (eS rfl (eS rfl (eS rfl (eS rfl eZ))))))))))))))))))) rfl VWk.rfl SL.nil))) (BL.keep rfl (BL.keep rfl (BL.keep rfl BL.nil))) (BK.cons (n := 0) rfl bZ rfl rfl BK.nil) (GK.cons rfl GK.nil)) ?_
      refine AW.seq ?_
      refine AW.regs ?_
      refine oMov eZ ?_
      refine oAdd eZ eC ?_
      refine oMov eZ ?_
      refine xNil ?_
      refine TQ.qn ?_
      refine AW.seq ?_
      refine AW.regs ?_
      refine oMov (eS rfl (eS rfl (eS rfl (eS rfl eZ)))) ?_
      refine oMov (eS rfl (eS rfl (eS rfl (eS rfl (eS rfl (eS rfl eZ)))))) ?_
      refine oMov (eS rfl (eS rfl eZ)) ?_
      obtain ⟨v13, h14, H⟩ := obind H
      refine oAtN (eS rfl (eS rfl eZ)) (eS rfl eZ) bZ (by first | (simp; done) | (simp; omega) | omega) h14 ?_
      refine oFaddrN (m := 2) eZ rfl ?_
      refine oStoreD (t := v13) (t' := (TPart.mk v13.Lo v13.Hi (IntKind.wrap .i64 ((IntKind.wrap .i64 (s6.2.1 + 1)) + 1)))) (es := [(.int .i64 (IntKind.wrap .i64 ((IntKind.wrap .i64 (s6.2.1 + 1)) + 1)))]) eZ (eS rfl (eS rfl eZ)) rfl rfl bZ (idx_at h14) rfl rfl ?_
      refine xNil ?_
      refine TQ.qn ?_
      refine AW.regs ?_
      refine oMov (eS rfl (eS rfl (eS rfl (eS rfl (eS rfl eZ))))) ?_
      refine oAdd eZ eC ?_
      refine oMov eZ ?_
      refine xNil ?_
      refine BQ.qn ?_
      refine TQ.qn ?_
      refine AW.regs ?_
      refine oMov (eS rfl (eS rfl (eS rfl (eS rfl (eS rfl (eS rfl (eS rfl (eS rfl (eS rfl (eS rfl (eS rfl (eS rfl (eS rfl eZ))))))))))))) ?_
      refine oAdd eZ eC ?_
      refine oMov eZ ?_
      refine xNil ?_
      exact TQ.qn ⟨(((s6.1.set (Int.toNat s6.2.2) (TPart.mk s6.2.1 v9.Hi v9.Owner)).set (Int.toNat s6.2.2) (TPart.mk v11.Lo (IntKind.wrap .i64 (s6.2.1 + 1)) v11.Owner)).set (Int.toNat s6.2.2) (TPart.mk v13.Lo v13.Hi (IntKind.wrap .i64 ((IntKind.wrap .i64 (s6.2.1 + 1)) + 1))), (IntKind.wrap .i64 ((IntKind.wrap .i64 ((IntKind.wrap .i64 (s6.2.1 + 1)) + 1)) + 1)), (IntKind.wrap .i64 (s6.2.2 + 1))), H, (wk_mkG [] (SL.cons (eS rfl (eS rfl (eS rfl (eS rfl (eS rfl (eS rfl (eS rfl (eS rfl (eS rfl (eS rfl (eS rfl (eS rfl (eS rfl (eS rfl (eS rfl eZ))))))))))))))) rfl (VWk.one (CWk.len (by first | (simp; done) | (simp; omega) | omega))) (SL.cons (eS rfl (eS rfl (eS rfl eZ))) rfl VWk.rfl (SL.cons eZ rfl VWk.rfl SL.nil))) (BL.keep rfl (BL.keep rfl BL.nil)) (BK.cons rfl bZ rfl rfl BK.nil) (GK.cons rfl GK.nil))⟩
    · refine AW.condF eZ (decide_eq_false h8) ?_
      refine AW.exit ?_
      refine TQ.qe ?_
      refine TQ.qe ?_
      refine BQ.qe ?_
      exact TQ.qn ⟨(s6.1, s6.2.1), H, (wk_mkG [] (SL.cons (eS rfl (eS rfl (eS rfl (eS rfl (eS rfl eZ))))) rfl VWk.rfl SL.nil) (BL.keep rfl BL.nil) (BK.cons rfl bZ rfl rfl BK.nil) (GK.cons rfl GK.nil))⟩

theorem c_laws_markCellS {a1 : (List TCell)} {a2 : Int} {r : (Int × (List TCell))} (H : m_laws_markCellS a1 a2 = some r) : Fn Try.prog k_laws_markCellS [⟨(.sl 2 (List.map d_TCell a1)), .m (.sl 2 (List.map d_TCell r.2))⟩, ⟨(.int .i64 a2), .b⟩] true [(.int .i64 r.1)] := by
  refine i_laws_markCellS_fnM (Nat.le_of_ble_eq_true rfl) (fC nZ rfl fN) rfl ?_
  rw [initM_mk]
  refine AW.weaken (t := mk [(0, (.one (.sl 0 0 a1.length))), (1, (.one (.d (.int .i64 a2))))] [(0, (.data 2 (List.map d_TCell a1) true none))] (lk [(0, (.one (.sl 0 0 ((List.map d_TCell a1).length))))])) (wk_mkG (gl := [(0, (.one (.sl 0 0 ((List.map d_TCell a1).length))))]) [] (SL.cons (v := (.one (.sl 0 0 a1.length))) eZ rfl (VWk.one (CWk.len (List.length_map _))) (SL.cons (v := (.one (.d (.int .i64 a2)))) (eS rfl eZ) rfl VWk.rfl SL.nil)) (BL.keep rfl BL.nil) (BK.cons (n := 0) rfl bZ rfl rfl BK.nil) (GK.cons rfl GK.nil)) ?_
  unfold m_laws_markCellS at H
  unfold i_laws_markCellS
  refine AW.seq ?_
  refine AW.regs ?_
  refine oMov eC ?_
  refine xNil ?_
  refine TQ.qn ?_
  refine AW.seqJ (fun t3 : ((List TCell) × Int) => (laws_markCellS_j3 a1) t3 = some r) (fun t3 => mk [(1, (.one (.d (.int .i64 t3.2))))] [(0, (.data 2 (List.map d_TCell t3.1) true none))] (lk [(0, (.one (.sl 0 0 ((List.map d_TCell a1).length))))])) ?_ ?_
  · intro t3 H
    unfold laws_markCellS_j3 at H
    refine AW.seq ?_
    refine AW.regs ?_
    refine oMov eZ ?_
    refine oMov eZ ?_
    refine xNil ?_
    refine TQ.qn ?_
    refine AW.ret ?_
    obtain ⟨h5, H⟩ := oguard H
    obtain rfl := Option.some.inj H
    exact endsRM (RL.cons (RV.tmp eZ) (VO.flat rfl) RL.nil) (ML.mut eZ (VO.sl bZ (by first | (simp; done) | (simp; omega) | omega) (allFlat fun _ => rfl)) (ML.lent ML.nil)) (by decide)
  · refine AW.seq ?_
    refine AW.regs ?_
    refine oMov eC ?_
    refine xNil ?_
    refine TQ.qn ?_
    refine AW.block ?_
    refine AW.iter (fun s6 : ((List TCell) × Int × Int) => mk [(0, (.one (.sl 0 0 s6.1.length))), (1, (.one (.d (.int .i64 s6.2.1)))), (5, (.one (.d (.int .i64 s6.2.2))))] [(0, (.data 2 (List.map d_TCell s6.1) true none))] (lk [(0, (.one (.sl 0 0 ((List.map d_TCell a1).length))))])) H (wk_mkG [] (SL.cons (eS rfl (eS rfl eZ)) rfl VWk.rfl (SL.cons (eS rfl (eS rfl (eS rfl eZ))) rfl VWk.rfl (SL.cons eZ rfl VWk.rfl SL.nil))) (BL.keep rfl BL.nil) (BK.cons rfl bZ rfl rfl BK.nil) (GK.cons rfl GK.nil)) ?_
    intro kb7 s6 H
    unfold laws_markCellS_b6 at H
    refine AW.seq ?_
    refine AW.seq ?_
    refine AW.regs ?_
    refine oMov (eS rfl (eS rfl eZ)) ?_
    refine oMov (eS rfl eZ) ?_
    refine oLenN eZ ?_
    refine oLss (eS rfl (eS rfl eZ)) eZ ?_
    refine xNil ?_
    refine TQ.qn ?_
    rcases oite H with ⟨h8, H⟩ | ⟨h8, H⟩
    · refine AW.condT eZ (decide_eq_true h8) ?_
      refine AW.skip ?_
      refine TQ.qn ?_
      refine AW.seq ?_
      refine AW.block ?_
      refine AW.seq ?_
      refine AW.regs ?_
      refine oMov (eS rfl (eS rfl (eS rfl (eS rfl eZ)))) ?_
      refine oMov (eS rfl (eS rfl (eS rfl (eS rfl (eS rfl (eS rfl (eS rfl eZ))))))) ?_
      refine oMov (eS rfl (eS rfl (eS rfl (eS rfl (eS rfl (eS rfl (eS rfl eZ))))))) ?_
      obtain ⟨v9, h10, H⟩ := obind H
      refine oAtN (eS rfl (eS rfl eZ)) (eS rfl eZ) bZ rfl h10 ?_
      refine oFaddrN (m := 0) eZ rfl ?_
      refine oStoreD (t := v9) (t' := (TCell.mk s6.2.1 v9.Value)) (es := [(.int .i64 s6.2.1)]) eZ (eS rfl (eS rfl eZ)) rfl rfl bZ (idx_at h10) rfl rfl ?_
      refine xNil ?_
      refine TQ.qn ?_
      refine AW.seq ?_
      refine AW.regs ?_
      refine oMov (eS rfl (eS rfl (eS rfl (eS rfl (eS rfl (eS rfl (eS rfl (eS rfl (eS rfl (eS rfl eZ)))))))))) ?_
      refine oAdd eZ eC ?_
      refine oMov eZ ?_
      refine xNil ?_
      refine TQ.qn ?_
      refine AW.seq ?_
      refine AW.regs ?_
      refine oMov (eS rfl (eS rfl (eS rfl (eS rfl (eS rfl (eS rfl (eS rfl (eS rfl (eS rfl (eS rfl (eS rfl (eS rfl eZ)))))))))))) ?_
      refine oMov (eS rfl (eS rfl (eS rfl (eS rfl (eS rfl (eS rfl (eS rfl (eS rfl (eS rfl (eS rfl (eS rfl (eS rfl (eS rfl (eS rfl (eS rfl eZ))))))))))))))) ?_
      refine oMov (eS rfl (eS rfl eZ)) ?_
      obtain ⟨v11, h12, H⟩ := obind H
      refine oAtN (eS rfl (eS rfl eZ)) (eS rfl eZ) bZ (by first | (simp; done) | (simp; omega) | omega) h12 ?_
      refine oFaddrN (m := 1) eZ rfl ?_
      refine oStoreD (t := v11) (t' := (TCell.mk v11.Key (IntKind.wrap .i64 (s6.2.1 + 1)))) (es := [(.int .i64 (IntKind.wrap .i64 (s6.2.1 + 1)))]) eZ (eS rfl (eS rfl eZ)) rfl rfl bZ (idx_at h12) rfl rfl ?_
      refine xNil ?_
      refine TQ.qn ?_
      refine AW.weaken (wk_mkG [] (SL.cons (k := 1) (eS rfl (eS rfl (eS rfl (eS rfl (eS rfl eZ))))) rfl VWk.rfl (SL.cons (k := 0) (eS rfl (eS rfl (eS rfl (eS rfl (eS rfl (eS rfl (eS rfl (eS rfl (eS rfl (eS rfl (eS rfl (eS rfl (eS rfl (eS rfl (eS rfl (eS rfl (eS rfl eZ))))))))))))))))) rfl VWk.rfl (SL.cons (k := 5) (eS rfl (eS rfl (eS rfl (eS rfl (eS rfl (eS rfl (eS rfl (eS rfl (eS rfl (eS rfl (eS rfl (eS rfl (eS rfl (eS rfl (eS rfl (eS rfl (eS rfl (eS rfl (eS rfl eZ))))))))))))))))))) rfl VWk.rfl SL.nil))) (BL.keep rfl (BL.keep rfl (BL.keep rfl BL.nil))) (BK.cons (n := 0) rfl bZ rfl rfl BK.nil) (GK.cons rfl GK.nil)) ?_
      refine AW.regs ?_
      refine oMov eZ ?_
      refine oAdd eZ eC ?_
      refine oMov eZ ?_
      refine xNil ?_
      refine BQ.qn ?_
      refine TQ.qn ?_
      refine AW.regs ?_
      refine oMov (eS rfl (eS rfl (eS rfl (eS rfl (eS rfl eZ))))) ?_
      refine oAdd eZ eC ?_
      refine oMov eZ ?_
      refine xNil ?_
      exact TQ.qn ⟨((s6.1.set (Int.toNat s6.2.2) (TCell.mk s6.2.1 v9.Value)).set (Int.toNat s6.2.2) (TCell.mk v11.Key (IntKind.wrap .i64 (s6.2.1 + 1))), (IntKind.wrap .i64 ((IntKind.wrap .i64 (s6.2.1 + 1)) + 1)), (IntKind.wrap .i64 (s6.2.2 + 1))), H, (wk_mkG [] (SL.cons (eS rfl (eS rfl (eS rfl (eS rfl (eS rfl (eS rfl (eS rfl eZ))))))) rfl (VWk.one (CWk.len (by first | (simp; done) | (simp; omega) | omega))) (SL.cons (eS rfl (eS rfl (eS rfl eZ))) rfl VWk.rfl (SL.cons eZ rfl VWk.rfl SL.nil))) (BL.keep rfl BL.nil) (BK.cons rfl bZ rfl rfl BK.nil) (GK.cons rfl GK.nil))⟩
    · refine AW.condF eZ (decide_eq_false h8) ?_
      refine AW.exit ?_
      refine TQ.qe ?_
      refine TQ.qe ?_
      refine BQ.qe ?_
      exact TQ.qn ⟨(s6.1, s6.2.1), H, (wk_mkG [] (SL.cons (eS rfl (eS rfl (eS rfl (eS rfl (eS rfl eZ))))) rfl VWk.rfl SL.nil) (BL.keep rfl BL.nil) (BK.cons rfl bZ rfl rfl BK.nil) (GK.cons rfl GK.nil))⟩

theorem c_laws_markMove {a1 : TMove} {a2 : Int} {r : (Int × TMove)} (H : m_laws_markMove a1 a2 = some r) : Fn Try.prog k_laws_markMove [⟨(.agg (d_TMove a1)), .m (.agg (d_TMove r.2))⟩, ⟨(.int .i64 a2), .b⟩] true [(.int .i64 r.1)] := by
  refine i_laws_markMove_fnM (Nat.le_of_ble_eq_true rfl) (fC nZ rfl fN) rfl ?_
  rw [initM_mk]
  refine AW.weaken (t := mk [(0, (.agg [(.d (.int .i64 a1.No)), (.d (.int .i64 a1.Stage)), (.d (.int .i64 a1.Lo)), (.d (.int .i64 a1.Hi)), (.d (.int .i64 a1.From)), (.d (.int .i64 a1.To)), (.sl 6 0 a1.Cells.length)])), (1, (.one (.d (.int .i64 a2))))] [(6, (.data 2 (List.map d_TCell a1.Cells) true none))] (lk [(0, (.agg [(.d (.int .i64 a1.No)), (.d (.int .i64 a1.Stage)), (.d (.int .i64 a1.Lo)), (.d (.int .i64 a1.Hi)), (.d (.int .i64 a1.From)), (.d (.int .i64 a1.To)), (.sl 6 0 ((List.map d_TCell a1.Cells).length))]))])) (wk_mkG (gl := [(0, (.agg [(.d (.int .i64 a1.No)), (.d (.int .i64 a1.Stage)), (.d (.int .i64 a1.Lo)), (.d (.int .i64 a1.Hi)), (.d (.int .i64 a1.From)), (.d (.int .i64 a1.To)), (.sl 6 0 ((List.map d_TCell a1.Cells).length))]))]) [] (SL.cons (v := (.agg [(.d (.int .i64 a1.No)), (.d (.int .i64 a1.Stage)), (.d (.int .i64 a1.Lo)), (.d (.int .i64 a1.Hi)), (.d (.int .i64 a1.From)), (.d (.int .i64 a1.To)), (.sl 6 0 a1.Cells.length)])) eZ rfl (VWk.agg (CsWk.cons CWk.rfl (CsWk.cons CWk.rfl (CsWk.cons CWk.rfl (CsWk.cons CWk.rfl (CsWk.cons CWk.rfl (CsWk.cons CWk.rfl (CsWk.cons (CWk.len (List.length_map _)) CsWk.nil)))))))) (SL.cons (v := (.one (.d (.int .i64 a2)))) (eS rfl eZ) rfl VWk.rfl SL.nil)) (BL.keep rfl BL.nil) (BK.cons (n := 6) rfl bZ rfl rfl BK.nil) (GK.cons rfl GK.nil)) ?_
  unfold m_laws_markMove at H
  unfold i_laws_markMove
  refine AW.seq ?_
  refine AW.regs ?_
  refine oBox (n := 128) (m := 7) (cs := [(.d (.int .i64 a1.No)), (.d (.int .i64 a1.Stage)), (.d (.int .i64 a1.Lo)), (.d (.int .i64 a1.Hi)), (.d (.int .i64 a1.From)), (.d (.int .i64 a1.To)), (.sl 6 0 a1.Cells.length)]) rfl eZ rfl rfl (nS rfl nZ) ?_
  refine oMov eC ?_
  refine xNil ?_
  refine TQ.qn ?_
  refine AW.seq ?_
  refine AW.regm ?_
  refine rmOne ?_
  refine oFaddrN (m := 6) (eS rfl eZ) rfl ?_
  refine xNil ?_
  refine rmOne ?_
  refine oLoadV (q := 6) (c := (.sl 6 0 a1.Cells.length)) eZ bZ rfl rfl ?_
  refine xNil ?_
  refine rmOne ?_
  refine oMov (eS rfl (eS rfl (eS rfl (eS rfl (eS rfl eZ))))) ?_
  refine xNil ?_
  obtain ⟨v3, h4, H⟩ := obind H
  obtain ⟨h5, H⟩ := oguard H
  refine rmCallI (ON := [6]) (ls := []) (G := []) (E := [subKey 6]) (MB := [(6, (.data 2 (List.map d_TCell v3.2) true none))]) (u := (.one (.d (.int .i64 v3.1)))) eC Cl.fn (c_laws_markCellS h4) (Evs.cons (eS rfl eZ) (Evs.cons eZ Evs.nil)) (AO.mut (VO.sl (bS rfl bZ) (List.length_map _) (allFlat fun _ => rfl)) (AO.lent VD.plain rfl AO.nil)) rfl rfl rfl (SZ.cons (bS rfl bZ) (allFlat fun _ => rfl) SZ.nil) (erL.cons (v' := (.one (.d (.int .i64 a2)))) rfl (erL.cons (v' := (.one (.sl 6 0 a1.Cells.length))) rfl (erL.cons (v' := (.one (.ptr (.nm 128 0 6)))) rfl (erL.cons (v' := (.one (.d (.int .i64 0)))) rfl (erL.cons (v' := (.one (.ptr (.nm 128 0 0)))) rfl (erL.cons (v' := (.agg [(.d (.int .i64 a1.No)), (.d (.int .i64 a1.Stage)), (.d (.int .i64 a1.Lo)), (.d (.int .i64 a1.Hi)), (.d (.int .i64 a1.From)), (.d (.int .i64 a1.To)), (.sl 6 0 a1.Cells.length)])) rfl (erL.cons (v' := (.one (.d (.int .i64 a2)))) rfl erL.nil))))))) (erH.cons (v' := (.vars 7 [(.d (.int .i64 a1.No)), (.d (.int .i64 a1.Stage)), (.d (.int .i64 a1.Lo)), (.d (.int .i64 a1.Hi)), (.d (.int .i64 a1.From)), (.d (.int .i64 a1.To)), (.sl 6 0 a1.Cells.length)])) rfl rfl (erH.cons (v' := (.data 2 (List.map d_TCell a1.Cells) true none)) rfl rfl erH.nil)) (erL.cons (v' := (.agg [(.d (.int .i64 a1.No)), (.d (.int .i64 a1.Stage)), (.d (.int .i64 a1.Lo)), (.d (.int .i64 a1.Hi)), (.d (.int .i64 a1.From)), (.d (.int .i64 a1.To)), (.sl 6 0 ((List.map d_TCell a1.Cells).length))])) rfl erL.nil) rfl rfl ?_
  refine rmRest ?_
  refine oMov eZ ?_
  refine xNil ?_
  refine TQ.qn ?_
  refine AW.seq ?_
  refine AW.regs ?_
  refine oMov eZ ?_
  refine oMov eZ ?_
  refine xNil ?_
  refine TQ.qn ?_
  refine AW.ret ?_
  obtain ⟨h6, H⟩ := oguard H
  obtain rfl := Option.some.inj H
  exact endsRM (RL.cons (RV.tmp eZ) (VO.flat rfl) RL.nil) (ML.mut eZ (VO.aggs (VOs.cons (VO.flat rfl) (VOs.cons (VO.flat rfl) (VOs.cons (VO.flat rfl) (VOs.cons (VO.flat rfl) (VOs.cons (VO.flat rfl) (VOs.cons (VO.flat rfl) (VOs.cons (VO.sl bZ (by first | (simp; done) | (simp; omega) | omega) (allFlat fun _ => rfl)) VOs.nil)))))))) (ML.lent ML.nil)) (by decide)

theorem c_laws_markAtlas {a1 : TAtlas} {a2 : Int} {r : (Int × TAtlas)} (H : m_laws_markAtlas a1 a2 = some r) : Fn Try.prog k_laws_markAtlas [⟨(.agg (d_TAtlas a1)), .m (.agg (d_TAtlas r.2))⟩, ⟨(.int .i64 a2), .b⟩] true [(.int .i64 r.1)] := by
  refine i_laws_markAtlas_fnM (Nat.le_of_ble_eq_true rfl) (fC nZ rfl (fC nZ rfl fN)) rfl ?_
  rw [initM_mk]
  refine AW.weaken (t := mk [(0, (.agg [(.d (.int .i64 a1.Epoch)), (.sl 1 0 a1.Parts.length), (.d (.int .i64 a1.Move.No)), (.d (.int .i64 a1.Move.Stage)), (.d (.int .i64 a1.Move.Lo)), (.d (.int .i64 a1.Move.Hi)), (.d (.int .i64 a1.Move.From)), (.d (.int .i64 a1.Move.To)), (.sl 8 0 a1.Move.Cells.length)])), (1, (.one (.d (.int .i64 a2))))] [(8, (.data 2 (List.map d_TCell a1.Move.Cells) true none)), (1, (.data 3 (List.map d_TPart a1.Parts) true none))] (lk [(0, (.agg [(.d (.int .i64 a1.Epoch)), (.sl 1 0 ((List.map d_TPart a1.Parts).length)), (.d (.int .i64 a1.Move.No)), (.d (.int .i64 a1.Move.Stage)), (.d (.int .i64 a1.Move.Lo)), (.d (.int .i64 a1.Move.Hi)), (.d (.int .i64 a1.Move.From)), (.d (.int .i64 a1.Move.To)), (.sl 8 0 ((List.map d_TCell a1.Move.Cells).length))]))])) (wk_mkG (gl := [(0, (.agg [(.d (.int .i64 a1.Epoch)), (.sl 1 0 ((List.map d_TPart a1.Parts).length)), (.d (.int .i64 a1.Move.No)), (.d (.int .i64 a1.Move.Stage)), (.d (.int .i64 a1.Move.Lo)), (.d (.int .i64 a1.Move.Hi)), (.d (.int .i64 a1.Move.From)), (.d (.int .i64 a1.Move.To)), (.sl 8 0 ((List.map d_TCell a1.Move.Cells).length))]))]) [] (SL.cons (v := (.agg [(.d (.int .i64 a1.Epoch)), (.sl 1 0 a1.Parts.length), (.d (.int .i64 a1.Move.No)), (.d (.int .i64 a1.Move.Stage)), (.d (.int .i64 a1.Move.Lo)), (.d (.int .i64 a1.Move.Hi)), (.d (.int .i64 a1.Move.From)), (.d (.int .i64 a1.Move.To)), (.sl 8 0 a1.Move.Cells.length)])) eZ rfl (VWk.agg (CsWk.cons CWk.rfl (CsWk.cons (CWk.len (List.length_map _)) (CsWk.cons CWk.rfl (CsWk.cons CWk.rfl (CsWk.cons CWk.rfl (CsWk.cons CWk.rfl (CsWk.cons CWk.rfl (CsWk.cons CWk.rfl (CsWk.cons (CWk.len (List.length_map _)) CsWk.nil)))))))))) (SL.cons (v := (.one (.d (.int .i64 a2)))) (eS rfl eZ) rfl VWk.rfl SL.nil)) (BL.keep rfl (BL.keep rfl BL.nil)) (BK.cons (n := 8) rfl bZ rfl rfl (BK.cons (n := 1) rfl (bS rfl bZ) rfl rfl BK.nil)) (GK.cons rfl GK.nil)) ?_
  unfold m_laws_markAtlas at H
  unfold i_laws_markAtlas
  refine AW.seq ?_
  refine AW.regs ?_
  refine oBox (n := 128) (m := 9) (cs := [(.d (.int .i64 a1.Epoch)), (.sl 1 0 a1.Parts.length), (.d (.int .i64 a1.Move.No)), (.d (.int .i64 a1.Move.Stage)), (.d (.int .i64 a1.Move.Lo)), (.d (.int .i64 a1.Move.Hi)), (.d (.int .i64 a1.Move.From)), (.d (.int .i64 a1.Move.To)), (.sl 8 0 a1.Move.Cells.length)]) rfl eZ rfl rfl (nS rfl (nS rfl nZ)) ?_
  refine oMov eC ?_
  refine xNil ?_
  refine TQ.qn ?_
  refine AW.seq ?_
  refine AW.regm ?_
  refine rmOne ?_
  refine oFaddrN (m := 1) (eS rfl eZ) rfl ?_
  refine xNil ?_
  refine rmOne ?_
  refine oLoadV (q := 1) (c := (.sl 1 0 a1.Parts.length)) eZ bZ rfl rfl ?_
  refine xNil ?_
  refine rmOne ?_
  refine oMov (eS rfl (eS rfl (eS rfl (eS rfl (eS rfl eZ))))) ?_
  refine xNil ?_
  obtain ⟨v3, h4, H⟩ := obind H
  obtain ⟨h5, H⟩ := oguard H
  refine rmCallI (ON := [1]) (ls := []) (G := []) (E := [subKey 1]) (MB := [(1, (.data 3 (List.map d_TPart v3.2) true none))]) (u := (.one (.d (.int .i64 v3.1)))) eC Cl.fn (c_laws_markPartS h4) (Evs.cons (eS rfl eZ) (Evs.cons eZ Evs.nil)) (AO.mut (VO.sl (bS rfl (bS rfl bZ)) (List.length_map _) (allFlat fun _ => rfl)) (AO.lent VD.plain rfl AO.nil)) rfl rfl rfl (SZ.cons (bS rfl (bS rfl bZ)) (allFlat fun _ => rfl) SZ.nil) (erL.cons (v' := (.one (.d (.int .i64 a2)))) rfl (erL.cons (v' := (.one (.sl 1 0 a1.Parts.length))) rfl (erL.cons (v' := (.one (.ptr (.nm 128 0 1)))) rfl (erL.cons (v' := (.one (.d (.int .i64 0)))) rfl (erL.cons (v' := (.one (.ptr (.nm 128 0 0)))) rfl (erL.cons (v' := (.agg [(.d (.int .i64 a1.Epoch)), (.sl 1 0 a1.Parts.length), (.d (.int .i64 a1.Move.No)), (.d (.int .i64 a1.Move.Stage)), (.d (.int .i64 a1.Move.Lo)), (.d (.int .i64 a1.Move.Hi)), (.d (.int .i64 a1.Move.From)), (.d (.int .i64 a1.Move.To)), (.sl 8 0 a1.Move.Cells.length)])) rfl (erL.cons (v' := (.one (.d (.int .i64 a2)))) rfl erL.nil))))))) (erH.cons (v' := (.vars 9 [(.d (.int .i64 a1.Epoch)), (.sl 1 0 a1.Parts.length), (.d (.int .i64 a1.Move.No)), (.d (.int .i64 a1.Move.Stage)), (.d (.int .i64 a1.Move.Lo)), (.d (.int .i64 a1.Move.Hi)), (.d (.int .i64 a1.Move.From)), (.d (.int .i64 a1.Move.To)), (.sl 8 0 a1.Move.Cells.length)])) rfl rfl (erH.cons (v' := (.data 2 (List.map d_TCell a1.Move.Cells) true none)) rfl rfl (erH.cons (v' := (.data 3 (List.map d_TPart a1.Parts) true none)) rfl rfl erH.nil))) (erL.cons (v' := (.agg [(.d (.int .i64 a1.Epoch)), (.sl 1 0 ((List.map d_TPart a1.Parts).length)), (.d (.int .i64 a1.Move.No)), (.d (.int .i64 a1.Move.Stage)), (.d (.int .i64 a1.Move.Lo)), (.d (.int .i64 a1.Move.Hi)), (.d (.int .i64 a1.Move.From)), (.d (.int .i64 a1.Move.To)), (.sl 8 0 ((List.map d_TCell a1.Move.Cells).length))])) rfl erL.nil) rfl rfl ?_
  refine rmRest ?_
  refine oMov eZ ?_
  refine xNil ?_
  refine TQ.qn ?_
  refine AW.seq ?_
  refine AW.regm ?_
  refine rmOne ?_
  refine oFaddrN (m := 2) (eS rfl (eS rfl (eS rfl (eS rfl (eS rfl (eS rfl eZ)))))) rfl ?_
  refine xNil ?_
  refine rmOne ?_
  refine oLoadVA (es := [(.d (.int .i64 a1.Move.No)), (.d (.int .i64 a1.Move.Stage)), (.d (.int .i64 a1.Move.Lo)), (.d (.int .i64 a1.Move.Hi)), (.d (.int .i64 a1.Move.From)), (.d (.int .i64 a1.Move.To)), (.sl 8 0 a1.Move.Cells.length)]) eZ (bS rfl bZ) rfl ?_
  refine xNil ?_
  refine rmOne ?_
  refine oMov (eS rfl (eS rfl eZ)) ?_
  refine xNil ?_
  obtain ⟨v6, h7, H⟩ := obind H
  obtain ⟨h8, H⟩ := oguard H
  refine rmCallI (ON := [8]) (ls := []) (G := []) (E := [subKey 8]) (MB := [(8, (.data 2 (List.map d_TCell v6.2.Cells) true none))]) (u := (.one (.d (.int .i64 v6.1)))) eC Cl.fn (c_laws_markMove h7) (Evs.cons (eS rfl eZ) (Evs.cons eZ Evs.nil)) (AO.mut (VO.aggs (VOs.cons (VO.flat rfl) (VOs.cons (VO.flat rfl) (VOs.cons (VO.flat rfl) (VOs.cons (VO.flat rfl) (VOs.cons (VO.flat rfl) (VOs.cons (VO.flat rfl) (VOs.cons (VO.sl (bS rfl (bS rfl bZ)) (List.length_map _) (allFlat fun _ => rfl)) VOs.nil)))))))) (AO.lent VD.plain rfl AO.nil)) rfl rfl rfl (SZ.cons (bS rfl (bS rfl bZ)) (allFlat fun _ => rfl) SZ.nil) (erL.cons (v' := (.one (.d (.int .i64 v3.1)))) rfl (erL.cons (v' := (.agg [(.d (.int .i64 a1.Move.No)), (.d (.int .i64 a1.Move.Stage)), (.d (.int .i64 a1.Move.Lo)), (.d (.int .i64 a1.Move.Hi)), (.d (.int .i64 a1.Move.From)), (.d (.int .i64 a1.Move.To)), (.sl 8 0 a1.Move.Cells.length)])) rfl (erL.cons (v' := (.one (.ptr (.nm 128 0 2)))) rfl (erL.cons (v' := (.one (.d (.int .i64 v3.1)))) rfl (erL.cons (v' := (.one (.d (.int .i64 v3.1)))) rfl (erL.cons (v' := (.one (.d (.int .i64 a2)))) rfl (erL.cons (v' := (.one (.sl 1 0 a1.Parts.length))) rfl (erL.cons (v' := (.one (.ptr (.nm 128 0 1)))) rfl (erL.cons (v' := (.one (.d (.int .i64 0)))) rfl (erL.cons (v' := (.one (.ptr (.nm 128 0 0)))) rfl (erL.cons (v' := (.agg [(.d (.int .i64 a1.Epoch)), (.sl 1 0 a1.Parts.length), (.d (.int .i64 a1.Move.No)), (.d (.int .i64 a1.Move.Stage)), (.d (.int .i64 a1.Move.Lo)), (.d (.int .i64 a1.Move.Hi)), (.d (.int .i64 a1.Move.From)), (.d (.int .i64 a1.Move.To)), (.sl 8 0 a1.Move.Cells.length)])) rfl (erL.cons (v' := (.one (.d (.int .i64 a2)))) rfl erL.nil)))))))))))) (erH.cons (v' := (.data 3 (List.map d_TPart v3.2) true none)) rfl rfl (erH.cons (v' := (.vars 9 [(.d (.int .i64 a1.Epoch)), (.sl 1 0 a1.Parts.length), (.d (.int .i64 a1.Move.No)), (.d (.int .i64 a1.Move.Stage)), (.d (.int .i64 a1.Move.Lo)), (.d (.int .i64 a1.Move.Hi)), (.d (.int .i64 a1.Move.From)), (.d (.int .i64 a1.Move.To)), (.sl 8 0 a1.Move.Cells.length)])) rfl rfl (erH.cons (v' := (.data 2 (List.map d_TCell a1.Move.Cells) true none)) rfl rfl (erH.cons (v' := (.data 3 (List.map d_TPart a1.Parts) true none)) rfl rfl erH.nil)))) (erL.cons (v' := (.agg [(.d (.int .i64 a1.Epoch)), (.sl 1 0 ((List.map d_TPart a1.Parts).length)), (.d (.int .i64 a1.Move.No)), (.d (.int .i64 a1.Move.Stage)), (.d (.int .i64 a1.Move.Lo)), (.d (.int .i64 a1.Move.Hi)), (.d (.int .i64 a1.Move.From)), (.d (.int .i64 a1.Move.To)), (.sl 8 0 ((List.map d_TCell a1.Move.Cells).length))])) rfl erL.nil) rfl rfl ?_
  refine rmRest ?_
  refine oMov eZ ?_
  refine xNil ?_
  refine TQ.qn ?_
  refine AW.seq ?_
  refine AW.regs ?_
  refine oMov eZ ?_
  refine oMov eZ ?_
  refine xNil ?_
  refine TQ.qn ?_
  refine AW.weaken (wk_mkG [128] (SL.cons (k := 4) eZ rfl VWk.rfl SL.nil) (BL.keep rfl (BL.keep rfl (BL.drop rfl (BL.keep rfl (BL.keep rfl BL.nil))))) (BK.cons (n := 8) rfl bZ rfl rfl (BK.cons (n := 1) rfl (bS rfl bZ) rfl rfl BK.nil)) (GK.cons rfl GK.nil)) ?_
  refine AW.ret ?_
  obtain ⟨h9, H⟩ := oguard H
  obtain ⟨h10, H⟩ := oguard H
  obtain rfl := Option.some.inj H
  exact endsRM (RL.cons (RV.tmp eZ) (VO.flat rfl) RL.nil) (ML.mut eZ (VO.aggs (VOs.cons (VO.flat rfl) (VOs.cons (VO.sl (bS rfl bZ) (by first | (simp; done) | (simp; omega) | omega) (allFlat fun _ => rfl)) (VOs.cons (VO.flat rfl) (VOs.cons (VO.flat rfl) (VOs.cons (VO.flat rfl) (VOs.cons (VO.flat rfl) (VOs.cons (VO.flat rfl) (VOs.cons (VO.flat rfl) (VOs.cons (VO.sl bZ (by first | (simp; done) | (simp; omega) | omega) (allFlat fun _ => rfl)) VOs.nil)))))))))) (ML.lent ML.nil)) (by decide)

theorem c_laws_heldPartS {a1 : (List TPart)} {a2 : Int} {r : Int} (H : m_laws_heldPartS a1 a2 = some r) : Fn Try.prog k_laws_heldPartS (lent [(.sl 3 (List.map d_TPart a1)), (.int .i64 a2)]) true [(.int .i64 r)] := by
  refine i_laws_heldPartS_fn (Nat.le_of_ble_eq_true rfl) ?_
  rw [init_mk]
  refine AW.weaken (wk_mk [] (SL.cons (v := (.one (.d (.sl 3 (List.map d_TPart a1))))) eZ rfl VWk.rfl (SL.cons (v := (.one (.d (.int .i64 a2)))) (eS rfl eZ) rfl VWk.rfl SL.nil)) BL.nil BK.nil) ?_
  unfold m_laws_heldPartS at H
  unfold i_laws_heldPartS
  refine AW.seq ?_
  refine AW.regs ?_
  refine oMov eC ?_
  refine xNil ?_
  refine TQ.qn ?_
  refine AW.seqJ (fun t3 : Int => laws_heldPartS_j3 t3 = some r) (fun t3 => mk [(1, (.one (.d (.int .i64 t3))))] [] noG) ?_ ?_
  · intro t3 H
    unfold laws_heldPartS_j3 at H
    refine AW.seq ?_
    refine AW.regs ?_
    refine oMov eZ ?_
    refine oMov eZ ?_
    refine xNil ?_
    refine TQ.qn ?_
    refine AW.ret ?_
    obtain rfl := Option.some.inj H
    exact endsR (RL.cons (RV.tmp eZ) (VO.flat rfl) RL.nil) List.nodup_nil
  · refine AW.seq ?_
    refine AW.regs ?_
    refine oMov eC ?_
    refine xNil ?_
    refine TQ.qn ?_
    refine AW.block ?_
    refine AW.iter (fun s5 : (Int × Int) => mk [(0, (.one (.d (.sl 3 (List.map d_TPart a1))))), (1, (.one (.d (.int .i64 s5.1)))), (5, (.one (.d (.int .i64 s5.2))))] [] noG) H (wk_mk [] (SL.cons (eS rfl (eS rfl eZ)) rfl VWk.rfl (SL.cons (eS rfl (eS rfl (eS rfl eZ))) rfl VWk.rfl (SL.cons eZ rfl VWk.rfl SL.nil))) BL.nil BK.nil) ?_
    intro kb6 s5 H
    unfold laws_heldPartS_b5 at H
    refine AW.seq ?_
    refine AW.seq ?_
    refine AW.regs ?_
    refine oMov (eS rfl (eS rfl eZ)) ?_
    refine oMov (eS rfl eZ) ?_
    refine oLenD eZ (n := a1.length) (List.length_map _) ?_
    refine oLss (eS rfl (eS rfl eZ)) eZ ?_
    refine xNil ?_
    refine TQ.qn ?_
    rcases oite H with ⟨h7, H⟩ | ⟨h7, H⟩
    · refine AW.condT eZ (decide_eq_true h7) ?_
      refine AW.skip ?_
      refine TQ.qn ?_
      refine AW.seq ?_
      refine AW.block ?_
      refine AW.seq ?_
      refine AW.seq ?_
      refine AW.regs ?_
      refine oMov (eS rfl (eS rfl (eS rfl (eS rfl eZ)))) ?_
      refine oMov (eS rfl (eS rfl (eS rfl (eS rfl (eS rfl (eS rfl (eS rfl eZ))))))) ?_
      obtain ⟨v8, h9, H⟩ := obind H
      refine oAtD (eS rfl eZ) eZ h9 ?_
      refine oFaddrB (m := 0) eZ rfl ?_
      refine oLoadB (e := (.int .i64 v8.Lo)) eZ rfl ?_
      refine oMov (eS rfl (eS rfl (eS rfl (eS rfl (eS rfl (eS rfl (eS rfl (eS rfl (eS rfl (eS rfl eZ)))))))))) ?_
      refine oNeq (eS rfl eZ) eZ ?_
      refine xNil ?_
      refine TQ.qn ?_
      rcases oite H with ⟨h10, H⟩ | ⟨h10, H⟩
      · refine AW.condT eZ (decide_eq_true h10) ?_
        refine AW.seq ?_
        refine AW.regs ?_
        refine oMov eC ?_
        refine xNil ?_
        refine TQ.qn ?_
        refine AW.ret ?_
        refine TQ.qr ?_
        refine BQ.qr ?_
        refine TQ.qr ?_
        refine TQ.qr ?_
        refine BQ.qr ?_
        refine TQ.qr ?_
        obtain rfl := Option.some.inj H
        exact endsR (RL.cons (RV.tmp eZ) (VO.flat rfl) RL.nil) List.nodup_nil
      · refine AW.condF eZ (decide_eq_false h10) ?_
        refine AW.skip ?_
        refine TQ.qn ?_
        refine AW.seq ?_
        refine AW.regs ?_
        refine oMov (eS rfl (eS rfl (eS rfl (eS rfl (eS rfl (eS rfl (eS rfl (eS rfl (eS rfl (eS rfl (eS rfl (eS rfl eZ)))))))))))) ?_
        refine oAdd eZ eC ?_
        refine oMov eZ ?_
        refine xNil ?_
        refine TQ.qn ?_
        refine AW.weaken (wk_mk [] (SL.cons (k := 1) eZ rfl VWk.rfl (SL.cons (k := 0) (eS rfl (eS rfl (eS rfl (eS rfl (eS rfl (eS rfl (eS rfl (eS rfl (eS rfl (eS rfl (eS rfl (eS rfl (eS rfl (eS rfl eZ)))))))))))))) rfl VWk.rfl (SL.cons (k := 5) (eS rfl (eS rfl (eS rfl (eS rfl (eS rfl (eS rfl (eS rfl (eS rfl (eS rfl (eS rfl (eS rfl (eS rfl (eS rfl (eS rfl (eS rfl (eS rfl eZ)))))))))))))))) rfl VWk.rfl SL.nil))) BL.nil BK.nil) ?_
        refine AW.seq ?_
        refine AW.seq ?_
        refine AW.regs ?_
        refine oMov (eS rfl eZ) ?_
        refine oMov (eS rfl (eS rfl (eS rfl eZ))) ?_
        obtain ⟨v11, h12, H⟩ := obind H
        refine oAtD (eS rfl eZ) eZ h12 ?_
        refine oFaddrB (m := 1) eZ rfl ?_
        refine oLoadB (e := (.int .i64 v11.Hi)) eZ rfl ?_
        refine oMov (eS rfl (eS rfl (eS rfl (eS rfl (eS rfl eZ))))) ?_
        refine oNeq (eS rfl eZ) eZ ?_
        refine xNil ?_
        refine TQ.qn ?_
        rcases oite H with ⟨h13, H⟩ | ⟨h13, H⟩
        · refine AW.condT eZ (decide_eq_true h13) ?_
          refine AW.seq ?_
          refine AW.regs ?_
          refine oMov eC ?_
          refine xNil ?_
          refine TQ.qn ?_
          refine AW.ret ?_
          refine TQ.qr ?_
          refine BQ.qr ?_
          refine TQ.qr ?_
          refine TQ.qr ?_
          refine BQ.qr ?_
          refine TQ.qr ?_
          obtain rfl := Option.some.inj H
          exact endsR (RL.cons (RV.tmp eZ) (VO.flat rfl) RL.nil) List.nodup_nil
        · refine AW.condF eZ (decide_eq_false h13) ?_
          refine AW.skip ?_
          refine TQ.qn ?_
          refine AW.seq ?_
          refine AW.regs ?_
          refine oMov (eS rfl (eS rfl (eS rfl (eS rfl (eS rfl (eS rfl (eS rfl eZ))))))) ?_
          refine oAdd eZ eC ?_
          refine oMov eZ ?_
          refine xNil ?_
          refine TQ.qn ?_
          refine AW.seq ?_
          refine AW.seq ?_
          refine AW.regs ?_
          refine oMov (eS rfl (eS rfl (eS rfl (eS rfl (eS rfl (eS rfl (eS rfl (eS rfl (eS rfl (eS rfl (eS rfl eZ))))))))))) ?_
          refine oMov (eS rfl (eS rfl (eS rfl (eS rfl (eS rfl (eS rfl (eS rfl (eS rfl (eS rfl (eS rfl (eS rfl (eS rfl (eS rfl eZ))))))))))))) ?_
          obtain ⟨v14, h15, H⟩ := obind H
          refine oAtD (eS rfl eZ) eZ h15 ?_
          refine oFaddrB (m := 2) eZ rfl ?_
          refine oLoadB (e := (.int .i64 v14.Owner)) eZ rfl ?_
          refine oMov (eS rfl (eS rfl (eS rfl (eS rfl (eS rfl eZ))))) ?_
          refine oNeq (eS rfl eZ) eZ ?_
          refine xNil ?_
          refine TQ.qn ?_
          refine AW.weaken (wk_mk [] (SL.cons (k := 36) eZ rfl VWk.rfl (SL.cons (k := 1) (eS rfl (eS rfl (eS rfl (eS rfl (eS rfl (eS rfl (eS rfl eZ))))))) rfl VWk.rfl (SL.cons (k := 0) (eS rfl (eS rfl (eS rfl (eS rfl (eS rfl (eS rfl (eS rfl (eS rfl (eS rfl (eS rfl (eS rfl (eS rfl (eS rfl (eS rfl (eS rfl (eS rfl (eS rfl (eS rfl eZ)))))))))))))))))) rfl VWk.rfl (SL.cons (k := 5) (eS rfl (eS rfl (eS rfl (eS rfl (eS rfl (eS rfl (eS rfl (eS rfl (eS rfl (eS rfl (eS rfl (eS rfl (eS rfl (eS rfl (eS rfl (eS rfl (eS rfl (eS rfl (eS rfl eZ))))))))))))))))))) rfl VWk.rfl SL.nil)))) BL.nil BK.nil) ?_
          rcases oite H with ⟨h16, H⟩ | ⟨h16, H⟩
          · refine AW.condT eZ (decide_eq_true h16) ?_
            refine AW.seq ?_
            refine AW.regs ?_
            refine oMov eC ?_
            refine xNil ?_
            refine TQ.qn ?_
            refine AW.ret ?_
            refine TQ.qr ?_
            refine BQ.qr ?_
            refine TQ.qr ?_
            refine TQ.qr ?_
            refine BQ.qr ?_
            refine TQ.qr ?_
            obtain rfl := Option.some.inj H
            exact endsR (RL.cons (RV.tmp eZ) (VO.flat rfl) RL.nil) List.nodup_nil
          · refine AW.condF eZ (decide_eq_false h16) ?_
            refine AW.skip ?_
            refine TQ.qn ?_
            refine AW.regs ?_
            refine oMov (eS rfl eZ) ?_
            refine oAdd eZ eC ?_
            refine oMov eZ ?_
            refine xNil ?_
            refine BQ.qn ?_
            refine TQ.qn ?_
            refine AW.regs ?_
            refine oMov (eS rfl (eS rfl (eS rfl (eS rfl (eS rfl (eS rfl eZ)))))) ?_
            refine oAdd eZ eC ?_
            refine oMov eZ ?_
            refine xNil ?_
            exact TQ.qn ⟨((IntKind.wrap .i64 ((IntKind.wrap .i64 ((IntKind.wrap .i64 (s5.1 + 1)) + 1)) + 1)), (IntKind.wrap .i64 (s5.2 + 1))), H, (wk_mk [] (SL.cons (eS rfl (eS rfl (eS rfl (eS rfl (eS rfl (eS rfl (eS rfl (eS rfl eZ)))))))) rfl VWk.rfl (SL.cons (eS rfl (eS rfl (eS rfl eZ))) rfl VWk.rfl (SL.cons eZ rfl VWk.rfl SL.nil))) BL.nil BK.nil)⟩
    · refine AW.condF eZ (decide_eq_false h7) ?_
      refine AW.exit ?_
      refine TQ.qe ?_
      refine TQ.qe ?_
      refine BQ.qe ?_
      exact TQ.qn ⟨s5.1, H, (wk_mk [] (SL.cons (eS rfl (eS rfl (eS rfl (eS rfl (eS rfl eZ))))) rfl VWk.rfl SL.nil) BL.nil BK.nil)⟩

theorem c_laws_heldCellS {a1 : (List TCell)} {a2 : Int} {r : Int} (H : m_laws_heldCellS a1 a2 = some r) : Fn Try.prog k_laws_heldCellS (lent [(.sl 2 (List.map d_TCell a1)), (.int .i64 a2)]) true [(.int .i64 r)] := by
  refine i_laws_heldCellS_fn (Nat.le_of_ble_eq_true rfl) ?_
  rw [init_mk]
  refine AW.weaken (wk_mk [] (SL.cons (v := (.one (.d (.sl 2 (List.map d_TCell a1))))) eZ rfl VWk.rfl (SL.cons (v := (.one (.d (.int .i64 a2)))) (eS rfl eZ) rfl VWk.rfl SL.nil)) BL.nil BK.nil) ?_
  unfold m_laws_heldCellS at H
  unfold i_laws_heldCellS
  refine AW.seq ?_
  refine AW.regs ?_
  refine oMov eC ?_
  refine xNil ?_
  refine TQ.qn ?_
  refine AW.seqJ (fun t3 : Int => laws_heldCellS_j3 t3 = some r) (fun t3 => mk [(1, (.one (.d (.int .i64 t3))))] [] noG) ?_ ?_
  · intro t3 H
    unfold laws_heldCellS_j3 at H
    refine AW.seq ?_
    refine AW.regs ?_
    refine oMov eZ ?_
    refine oMov eZ ?_
    refine xNil ?_
    refine TQ.qn ?_
    refine AW.ret ?_
    obtain rfl := Option.some.inj H
    exact endsR (RL.cons (RV.tmp eZ) (VO.flat rfl) RL.nil) List.nodup_nil
  · refine AW.seq ?_
    refine AW.regs ?_
    refine oMov eC ?_
    refine xNil ?_
    refine TQ.qn ?_
    refine AW.block ?_
    refine AW.iter (fun s5 : (Int × Int) => mk [(0, (.one (.d (.sl 2 (List.map d_TCell a1))))), (1, (.one (.d (.int .i64 s5.1)))), (5, (.one (.d (.int .i64 s5.2))))] [] noG) H (wk_mk [] (SL.cons (eS rfl (eS rfl eZ)) rfl VWk.rfl (SL.cons (eS rfl (eS rfl (eS rfl eZ))) rfl VWk.rfl (SL.cons eZ rfl VWk.rfl SL.nil))) BL.nil BK.nil) ?_
    intro kb6 s5 H
    unfold laws_heldCellS_b5 at H
    refine AW.seq ?_
    refine AW.seq ?_
    refine AW.regs ?_
    refine oMov (eS rfl (eS rfl eZ)) ?_
    refine oMov (eS rfl eZ) ?_
    refine oLenD eZ (n := a1.length) (List.length_map _) ?_
    refine oLss (eS rfl (eS rfl eZ)) eZ ?_
    refine xNil ?_
    refine TQ.qn ?_
    rcases oite H with ⟨h7, H⟩ | ⟨h7, H⟩
    · refine AW.condT eZ (decide_eq_true h7) ?_
      refine AW.skip ?_
      refine TQ.qn ?_
      refine AW.seq ?_
      refine AW.block ?_
      refine AW.seq ?_
      refine AW.seq ?_
      refine AW.regs ?_
      refine oMov (eS rfl (eS rfl (eS rfl (eS rfl eZ)))) ?_
      refine oMov (eS rfl (eS rfl (eS rfl (eS rfl (eS rfl (eS rfl (eS rfl eZ))))))) ?_
      obtain ⟨v8, h9, H⟩ := obind H
      refine oAtD (eS rfl eZ) eZ h9 ?_
      refine oFaddrB (m := 0) eZ rfl ?_
      refine oLoadB (e := (.int .i64 v8.Key)) eZ rfl ?_
      refine oMov (eS rfl (eS rfl (eS rfl (eS rfl (eS rfl (eS rfl (eS rfl (eS rfl (eS rfl (eS rfl eZ)))))))))) ?_
      refine oNeq (eS rfl eZ) eZ ?_
      refine xNil ?_
      refine TQ.qn ?_
      rcases oite H with ⟨h10, H⟩ | ⟨h10, H⟩
      · refine AW.condT eZ (decide_eq_true h10) ?_
        refine AW.seq ?_
        refine AW.regs ?_
        refine oMov eC ?_
        refine xNil ?_
        refine TQ.qn ?_
        refine AW.ret ?_
        refine TQ.qr ?_
        refine BQ.qr ?_
        refine TQ.qr ?_
        refine TQ.qr ?_
        refine BQ.qr ?_
        refine TQ.qr ?_
        obtain rfl := Option.some.inj H
        exact endsR (RL.cons (RV.tmp eZ) (VO.flat rfl) RL.nil) List.nodup_nil
      · refine AW.condF eZ (decide_eq_false h10) ?_
        refine AW.skip ?_
        refine TQ.qn ?_
        refine AW.seq ?_
        refine AW.regs ?_
        refine oMov (eS rfl (eS rfl (eS rfl (eS rfl (eS rfl (eS rfl (eS rfl (eS rfl (eS rfl (eS rfl (eS rfl (eS rfl eZ)))))))))))) ?_
        refine oAdd eZ eC ?_
        refine oMov eZ ?_
        refine xNil ?_
        refine TQ.qn ?_
        refine AW.weaken (wk_mk [] (SL.cons (k := 1) eZ rfl VWk.rfl (SL.cons (k := 0) (eS rfl (eS rfl (eS rfl (eS rfl (eS rfl (eS rfl (eS rfl (eS rfl (eS rfl (eS rfl (eS rfl (eS rfl (eS rfl (eS rfl eZ)))))))))))))) rfl VWk.rfl (SL.cons (k := 5) (eS rfl (eS rfl (eS rfl (eS rfl (eS rfl (eS rfl (eS rfl (eS rfl (eS rfl (eS rfl (eS rfl (eS rfl (eS rfl (eS rfl (eS rfl (eS rfl eZ)))))))))))))))) rfl VWk.rfl SL.nil))) BL.nil BK.nil) ?_
        refine AW.seq ?_
        refine AW.seq ?_
        refine AW.regs ?_
        refine oMov (eS rfl eZ) ?_
        refine oMov (eS rfl (eS rfl (eS rfl eZ))) ?_
        obtain ⟨v11, h12, H⟩ := obind H
        refine oAtD (eS rfl eZ) eZ h12 ?_
        refine oFaddrB (m := 1) eZ rfl ?_
        refine oLoadB (e := (.int .i64 v11.Value)) eZ rfl ?_
        refine oMov (eS rfl (eS rfl (eS rfl (eS rfl (eS rfl eZ))))) ?_
        refine oNeq (eS rfl eZ) eZ ?_
        refine xNil ?_
        refine TQ.qn ?_
        rcases oite H with ⟨h13, H⟩ | ⟨h13, H⟩
        · refine AW.condT eZ (decide_eq_true h13) ?_
          refine AW.seq ?_
          refine AW.regs ?_
          refine oMov eC ?_
          refine xNil ?_
          refine TQ.qn ?_
          refine AW.ret ?_
          refine TQ.qr ?_
          refine BQ.qr ?_
          refine TQ.qr ?_
          refine TQ.qr ?_
          refine BQ.qr ?_
          refine TQ.qr ?_
          obtain rfl := Option.some.inj H
          exact endsR (RL.cons (RV.tmp eZ) (VO.flat rfl) RL.nil) List.nodup_nil
        · refine AW.condF eZ (decide_eq_false h13) ?_
          refine AW.skip ?_
          refine TQ.qn ?_
          refine AW.regs ?_
          refine oMov (eS rfl (eS rfl (eS rfl (eS rfl (eS rfl (eS rfl (eS rfl eZ))))))) ?_
          refine oAdd eZ eC ?_
          refine oMov eZ ?_
          refine xNil ?_
          refine BQ.qn ?_
          refine TQ.qn ?_
          refine AW.regs ?_
          refine oMov (eS rfl (eS rfl (eS rfl (eS rfl (eS rfl (eS rfl (eS rfl (eS rfl (eS rfl (eS rfl (eS rfl (eS rfl eZ)))))))))))) ?_
          refine oAdd eZ eC ?_
          refine oMov eZ ?_
          refine xNil ?_
          exact TQ.qn ⟨((IntKind.wrap .i64 ((IntKind.wrap .i64 (s5.1 + 1)) + 1)), (IntKind.wrap .i64 (s5.2 + 1))), H, (wk_mk [] (SL.cons (eS rfl (eS rfl (eS rfl (eS rfl (eS rfl (eS rfl (eS rfl (eS rfl (eS rfl (eS rfl (eS rfl (eS rfl (eS rfl (eS rfl eZ)))))))))))))) rfl VWk.rfl (SL.cons (eS rfl (eS rfl (eS rfl eZ))) rfl VWk.rfl (SL.cons eZ rfl VWk.rfl SL.nil))) BL.nil BK.nil)⟩
    · refine AW.condF eZ (decide_eq_false h7) ?_
      refine AW.exit ?_
      refine TQ.qe ?_
      refine TQ.qe ?_
      refine BQ.qe ?_
      exact TQ.qn ⟨s5.1, H, (wk_mk [] (SL.cons (eS rfl (eS rfl (eS rfl (eS rfl (eS rfl eZ))))) rfl VWk.rfl SL.nil) BL.nil BK.nil)⟩

theorem c_laws_heldMove {a1 : TMove} {a2 : Int} {r : Int} (H : m_laws_heldMove a1 a2 = some r) : Fn Try.prog k_laws_heldMove (lent [(.agg (d_TMove a1)), (.int .i64 a2)]) true [(.int .i64 r)] := by
  refine i_laws_heldMove_fn (Nat.le_of_ble_eq_true rfl) ?_
  rw [init_mk]
  refine AW.weaken (wk_mk [] (SL.cons (v := (.agg [(.d (.int .i64 a1.No)), (.d (.int .i64 a1.Stage)), (.d (.int .i64 a1.Lo)), (.d (.int .i64 a1.Hi)), (.d (.int .i64 a1.From)), (.d (.int .i64 a1.To)), (.d (.sl 2 (List.map d_TCell a1.Cells)))])) eZ rfl VWk.rfl (SL.cons (v := (.one (.d (.int .i64 a2)))) (eS rfl eZ) rfl VWk.rfl SL.nil)) BL.nil BK.nil) ?_
  unfold m_laws_heldMove at H
  unfold i_laws_heldMove
  refine AW.seq ?_
  refine AW.regs ?_
  refine oBox (n := 128) (m := 7) (cs := [(.d (.int .i64 a1.No)), (.d (.int .i64 a1.Stage)), (.d (.int .i64 a1.Lo)), (.d (.int .i64 a1.Hi)), (.d (.int .i64 a1.From)), (.d (.int .i64 a1.To)), (.d (.sl 2 (List.map d_TCell a1.Cells)))]) rfl eZ rfl rfl nZ ?_
  refine oMov eC ?_
  refine xNil ?_
  refine TQ.qn ?_
  refine AW.seq ?_
  refine AW.regs ?_
  refine oFaddrN (m := 6) (eS rfl eZ) rfl ?_
  refine oLoadV (q := 6) (c := (.d (.sl 2 (List.map d_TCell a1.Cells)))) eZ bZ rfl rfl ?_
  refine oMov (eS rfl (eS rfl (eS rfl (eS rfl (eS rfl eZ))))) ?_
  obtain ⟨v3, h4, H⟩ := obind H
  refine oCall (u := (.one (.d (.int .i64 v3)))) eC Cl.fn (c_laws_heldCellS h4) (Evs.cons (eS rfl eZ) (Evs.cons eZ Evs.nil)) (VDs.cons VD.plain (VDs.cons VD.plain VDs.nil)) rfl ?_
  refine oMov eZ ?_
  refine xNil ?_
  refine TQ.qn ?_
  refine AW.seq ?_
  refine AW.seq ?_
  refine AW.regs ?_
  refine oMov eZ ?_
  refine oLss eZ eC ?_
  refine xNil ?_
  refine TQ.qn ?_
  rcases oite H with ⟨h5, H⟩ | ⟨h5, H⟩
  · refine AW.condT eZ (decide_eq_true h5) ?_
    refine AW.seq ?_
    refine AW.regs ?_
    refine oMov eC ?_
    refine xNil ?_
    refine TQ.qn ?_
    refine AW.ret ?_
    refine TQ.qr ?_
    obtain rfl := Option.some.inj H
    exact endsR (RL.cons (RV.tmp eZ) (VO.flat rfl) RL.nil) List.nodup_nil
  · refine AW.condF eZ (decide_eq_false h5) ?_
    refine AW.skip ?_
    refine TQ.qn ?_
    refine AW.seq ?_
    refine AW.regs ?_
    refine oMov (eS rfl (eS rfl eZ)) ?_
    refine oMov eZ ?_
    refine xNil ?_
    refine TQ.qn ?_
    refine AW.ret ?_
    obtain rfl := Option.some.inj H
    exact endsR (RL.cons (RV.tmp eZ) (VO.flat rfl) RL.nil) List.nodup_nil

theorem c_laws_heldAtlas {a1 : TAtlas} {a2 : Int} {r : Int} (H : m_laws_heldAtlas a1 a2 = some r) : Fn Try.prog k_laws_heldAtlas (lent [(.agg (d_TAtlas a1)), (.int .i64 a2)]) true [(.int .i64 r)] := by
  refine i_laws_heldAtlas_fn (Nat.le_of_ble_eq_true rfl) ?_
  rw [init_mk]
  refine AW.weaken (wk_mk [] (SL.cons (v := (.agg [(.d (.int .i64 a1.Epoch)), (.d (.sl 3 (List.map d_TPart a1.Parts))), (.d (.int .i64 a1.Move.No)), (.d (.int .i64 a1.Move.Stage)), (.d (.int .i64 a1.Move.Lo)), (.d (.int .i64 a1.Move.Hi)), (.d (.int .i64 a1.Move.From)), (.d (.int .i64 a1.Move.To)), (.d (.sl 2 (List.map d_TCell a1.Move.Cells)))])) eZ rfl VWk.rfl (SL.cons (v := (.one (.d (.int .i64 a2)))) (eS rfl eZ) rfl VWk.rfl SL.nil)) BL.nil BK.nil) ?_
  unfold m_laws_heldAtlas at H
  unfold i_laws_heldAtlas
  refine AW.seq ?_
  refine AW.regs ?_
  refine oBox (n := 128) (m := 9) (cs := [(.d (.int .i64 a1.Epoch)), (.d (.sl 3 (List.map d_TPart a1.Parts))), (.d (.int .i64 a1.Move.No)), (.d (.int .i64 a1.Move.Stage)), (.d (.int .i64 a1.Move.Lo)), (.d (.int .i64 a1.Move.Hi)), (.d (.int .i64 a1.Move.From)), (.d (.int .i64 a1.Move.To)), (.d (.sl 2 (List.map d_TCell a1.Move.Cells)))]) rfl eZ rfl rfl nZ ?_
  refine oMov eC ?_
  refine xNil ?_
  refine TQ.qn ?_
  refine AW.seq ?_
  refine AW.regs ?_
  refine oFaddrN (m := 1) (eS rfl eZ) rfl ?_
  refine oLoadV (q := 1) (c := (.d (.sl 3 (List.map d_TPart a1.Parts)))) eZ bZ rfl rfl ?_
  refine oMov (eS rfl (eS rfl (eS rfl (eS rfl (eS rfl eZ))))) ?_
  obtain ⟨v3, h4, H⟩ := obind H
  refine oCall (u := (.one (.d (.int .i64 v3)))) eC Cl.fn (c_laws_heldPartS h4) (Evs.cons (eS rfl eZ) (Evs.cons eZ Evs.nil)) (VDs.cons VD.plain (VDs.cons VD.plain VDs.nil)) rfl ?_
  refine oMov eZ ?_
  refine xNil ?_
  refine TQ.qn ?_
  refine AW.seq ?_
  refine AW.seq ?_
  refine AW.regs ?_
  refine oMov eZ ?_
  refine oLss eZ eC ?_
  refine xNil ?_
  refine TQ.qn ?_
  rcases oite H with ⟨h5, H⟩ | ⟨h5, H⟩
  · refine AW.condT eZ (decide_eq_true h5) ?_
    refine AW.seq ?_
    refine AW.regs ?_
    refine oMov eC ?_
    refine xNil ?_
    refine TQ.qn ?_
    refine AW.ret ?_
    refine TQ.qr ?_
    obtain rfl := Option.some.inj H
    exact endsR (RL.cons (RV.tmp eZ) (VO.flat rfl) RL.nil) List.nodup_nil
  · refine AW.condF eZ (decide_eq_false h5) ?_
    refine AW.skip ?_
    refine TQ.qn ?_
    refine AW.seq ?_
    refine AW.regs ?_
    refine oFaddrN (m := 2) (eS rfl (eS rfl (eS rfl (eS rfl (eS rfl (eS rfl (eS rfl (eS rfl eZ)))))))) rfl ?_
    refine oLoadVA (es := [(.d (.int .i64 a1.Move.No)), (.d (.int .i64 a1.Move.Stage)), (.d (.int .i64 a1.Move.Lo)), (.d (.int .i64 a1.Move.Hi)), (.d (.int .i64 a1.Move.From)), (.d (.int .i64 a1.Move.To)), (.d (.sl 2 (List.map d_TCell a1.Move.Cells)))]) eZ bZ rfl ?_
    refine oMov (eS rfl (eS rfl (eS rfl (eS rfl eZ)))) ?_
    obtain ⟨v6, h7, H⟩ := obind H
    refine oCall (u := (.one (.d (.int .i64 v6)))) eC Cl.fn (c_laws_heldMove h7) (Evs.cons (eS rfl eZ) (Evs.cons eZ Evs.nil)) (VDs.cons (VD.agg rfl) (VDs.cons VD.plain VDs.nil)) rfl ?_
    refine oMov eZ ?_
    refine xNil ?_
    refine TQ.qn ?_
    refine AW.weaken (wk_mk [128] (SL.cons (k := 1) eZ rfl VWk.rfl SL.nil) (BL.drop rfl BL.nil) BK.nil) ?_
    refine AW.seq ?_
    refine AW.seq ?_
    refine AW.regs ?_
    refine oMov eZ ?_
    refine oLss eZ eC ?_
    refine xNil ?_
    refine TQ.qn ?_
    rcases oite H with ⟨h8, H⟩ | ⟨h8, H⟩
    · refine AW.condT eZ (decide_eq_true h8) ?_
      refine AW.seq ?_
      refine AW.regs ?_
      refine oMov eC ?_
      refine xNil ?_
      refine TQ.qn ?_
      refine AW.ret ?_
      refine TQ.qr ?_
      obtain rfl := Option.some.inj H
      exact endsR (RL.cons (RV.tmp eZ) (VO.flat rfl) RL.nil) List.nodup_nil
    · refine AW.condF eZ (decide_eq_false h8) ?_
      refine AW.skip ?_
      refine TQ.qn ?_
      refine AW.seq ?_
      refine AW.regs ?_
      refine oMov (eS rfl (eS rfl eZ)) ?_
      refine oMov eZ ?_
      refine xNil ?_
      refine TQ.qn ?_
      refine AW.ret ?_
      obtain rfl := Option.some.inj H
      exact endsR (RL.cons (RV.tmp eZ) (VO.flat rfl) RL.nil) List.nodup_nil

end Go.AW
