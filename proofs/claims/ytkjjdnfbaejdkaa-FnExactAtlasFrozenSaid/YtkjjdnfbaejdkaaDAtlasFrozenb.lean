/- That functions of the program compute what the plain functions say: printed by a program of the prover's own (tool/dec.py). Conditions: each theorem's own. -/
import Derived.Test.YtkjjdnfbaejdkaaMAtlasFrozen
import Derived.Test.YtkjjdnfbaejdkaaGAtlasFrozen
import Derived.Test.YtkjjdnfbaejdkaaDAtlasFrozena
set_option linter.unusedVariables false
set_option linter.unusedSimpArgs false
set_option maxRecDepth 100000
namespace Go.AW
open Go.Proofs

theorem c_impl_moveOk {a1 : TMove} {r : Bool} (H : m_impl_moveOk a1 = some r) : Fn Try.prog k_impl_moveOk (lent [(.agg (d_TMove a1))]) true [(.bool r)] := by
  refine i_impl_moveOk_fn (Nat.le_of_ble_eq_true rfl) ?_
  rw [init_mk]
  refine AW.weaken (wk_mk [] (SL.cons (v := (.agg [(.d (.int .i64 a1.No)), (.d (.int .i64 a1.Stage)), (.d (.int .i64 a1.Lo)), (.d (.int .i64 a1.Hi)), (.d (.int .i64 a1.From)), (.d (.int .i64 a1.To)), (.d (.sl 2 (List.map d_TCell a1.Cells)))])) eZ rfl VWk.rfl SL.nil) BL.nil BK.nil) ?_
  unfold m_impl_moveOk at H
  unfold i_impl_moveOk
  refine AW.seq ?_
  refine AW.regs ?_
  refine oBox (n := 64) (m := 7) (cs := [(.d (.int .i64 a1.No)), (.d (.int .i64 a1.Stage)), (.d (.int .i64 a1.Lo)), (.d (.int .i64 a1.Hi)), (.d (.int .i64 a1.From)), (.d (.int .i64 a1.To)), (.d (.sl 2 (List.map d_TCell a1.Cells)))]) rfl eZ rfl rfl nZ ?_
  refine oMov eC ?_
  refine xNil ?_
  refine TQ.qn ?_
  refine AW.seq ?_
  refine AW.seqJ (fun t2 : Bool => (impl_moveOk_j2 a1) t2 = some r) (fun t2 => mk [(1, (.one (.ptr (.nm 64 0 0)))), (12, (.one (.d (.bool t2))))] [(64, (.vars 7 [(.d (.int .i64 a1.No)), (.d (.int .i64 a1.Stage)), (.d (.int .i64 a1.Lo)), (.d (.int .i64 a1.Hi)), (.d (.int .i64 a1.From)), (.d (.int .i64 a1.To)), (.d (.sl 2 (List.map d_TCell a1.Cells)))]))] noG) ?_ ?_
  · intro t2 H
    unfold impl_moveOk_j2 at H
    rcases oite H with ⟨h4, H⟩ | ⟨h4, H⟩
    · refine AW.condT (eS rfl eZ) h4 ?_
      refine AW.seq ?_
      refine AW.regs ?_
      refine oMov eC ?_
      refine xNil ?_
      refine TQ.qn ?_
      refine AW.ret ?_
      refine TQ.qr ?_
      obtain rfl := Option.some.inj H
      exact endsR (RL.cons (RV.tmp eZ) (VO.flat rfl) RL.nil) List.nodup_nil
    · refine AW.condF (eS rfl eZ) (nt h4) ?_
      refine AW.skip ?_
      refine TQ.qn ?_
      refine AW.seq ?_
      refine AW.seq ?_
      refine AW.regs ?_
      refine oFaddrN (m := 1) eZ rfl ?_
      refine oLoadV (q := 1) (c := (.d (.int .i64 a1.Stage))) eZ bZ rfl rfl ?_
      refine oEql eZ eC ?_
      refine xNil ?_
      refine TQ.qn ?_
      rcases oite H with ⟨h5, H⟩ | ⟨h5, H⟩
      · refine AW.condT eZ (decide_eq_true h5) ?_
        refine AW.seq ?_
        refine AW.regs ?_
        refine oFaddrN (m := 2) (eS rfl (eS rfl (eS rfl eZ))) rfl ?_
        refine oLoadV (q := 2) (c := (.d (.int .i64 a1.Lo))) eZ bZ rfl rfl ?_
        refine oEql eZ eC ?_
        refine oMov eZ ?_
        rcases oite H with ⟨h6, H⟩ | ⟨h6, H⟩
        · refine gDo eZ (decide_eq_true h6) ?_
          refine oFaddrN (m := 3) (eS rfl (eS rfl (eS rfl (eS rfl (eS rfl (eS rfl (eS rfl eZ))))))) rfl ?_
          refine gDo (eS rfl eZ) (decide_eq_true h6) ?_
          refine oLoadV (q := 3) (c := (.d (.int .i64 a1.Hi))) eZ bZ rfl rfl ?_
          refine gDo (eS rfl (eS rfl eZ)) (decide_eq_true h6) ?_
          refine oEql eZ eC ?_
          refine oPickT (eS rfl (eS rfl (eS rfl eZ))) (decide_eq_true h6) eZ ?_
          refine oMov eZ ?_
          rcases oite H with ⟨h7, H⟩ | ⟨h7, H⟩
          · refine gDo eZ (decide_eq_true h7) ?_
            refine oFaddrN (m := 4) (eS rfl (eS rfl (eS rfl (eS rfl (eS rfl (eS rfl (eS rfl (eS rfl (eS rfl (eS rfl (eS rfl (eS rfl eZ)))))))))))) rfl ?_
            refine gDo (eS rfl eZ) (decide_eq_true h7) ?_
            refine oLoadV (q := 4) (c := (.d (.int .i64 a1.From))) eZ bZ rfl rfl ?_
            refine gDo (eS rfl (eS rfl eZ)) (decide_eq_true h7) ?_
            refine oEql eZ eC ?_
            refine oPickT (eS rfl (eS rfl (eS rfl eZ))) (decide_eq_true h7) eZ ?_
            refine oMov eZ ?_
            rcases oite H with ⟨h8, H⟩ | ⟨h8, H⟩
            · refine gDo eZ (decide_eq_true h8) ?_
              refine oFaddrN (m := 5) (eS rfl (eS rfl (eS rfl (eS rfl (eS rfl (eS rfl (eS rfl (eS rfl (eS rfl (eS rfl (eS rfl (eS rfl (eS rfl (eS rfl (eS rfl (eS rfl (eS rfl eZ))))))))))))))))) rfl ?_
              refine gDo (eS rfl eZ) (decide_eq_true h8) ?_
              refine oLoadV (q := 5) (c := (.d (.int .i64 a1.To))) eZ bZ rfl rfl ?_
              refine gDo (eS rfl (eS rfl eZ)) (decide_eq_true h8) ?_
              refine oEql eZ eC ?_
              refine oPickT (eS rfl (eS rfl (eS rfl eZ))) (decide_eq_true h8) eZ ?_
              refine oMov eZ ?_
              rcases oite H with ⟨h9, H⟩ | ⟨h9, H⟩
              · refine gDo eZ (decide_eq_true h9) ?_
                refine oFaddrN (m := 6) (eS rfl (eS rfl (eS rfl (eS rfl (eS rfl (eS rfl (eS rfl (eS rfl (eS rfl (eS rfl (eS rfl (eS rfl (eS rfl (eS rfl (eS rfl (eS rfl (eS rfl (eS rfl (eS rfl (eS rfl (eS rfl (eS rfl eZ)))))))))))))))))))))) rfl ?_
                refine gDo (eS rfl eZ) (decide_eq_true h9) ?_
                refine oLoadV (q := 6) (c := (.d (.sl 2 (List.map d_TCell a1.Cells)))) eZ bZ rfl rfl ?_
                refine gDo (eS rfl (eS rfl eZ)) (decide_eq_true h9) ?_
                refine oLenD eZ (n := a1.Cells.length) (List.length_map _) ?_
                refine gDo (eS rfl (eS rfl (eS rfl eZ))) (decide_eq_true h9) ?_
                refine oEql eZ eC ?_
                refine oPickT (eS rfl (eS rfl (eS rfl (eS rfl eZ)))) (decide_eq_true h9) eZ ?_
                refine oMov eZ ?_
                refine xNil ?_
                refine TQ.qn ?_
                refine AW.weaken (wk_mk [64] (SL.cons (k := 2) eZ rfl VWk.rfl SL.nil) (BL.drop rfl BL.nil) BK.nil) ?_
                refine AW.ret ?_
                refine TQ.qr ?_
                obtain rfl := Option.some.inj H
                exact endsR (RL.cons (RV.tmp eZ) (VO.flat rfl) RL.nil) List.nodup_nil
              · refine gSkip eZ (decide_eq_false h9) rfl ?_
                refine gSkip (eS rfl eZ) (decide_eq_false h9) rfl ?_
                refine gSkip (eS rfl (eS rfl eZ)) (decide_eq_false h9) rfl ?_
                refine gSkip (eS rfl (eS rfl (eS rfl eZ))) (decide_eq_false h9) rfl ?_
                refine oPickF (eS rfl (eS rfl (eS rfl (eS rfl eZ)))) (decide_eq_false h9) eC ?_
                refine oMov eZ ?_
                refine xNil ?_
                refine TQ.qn ?_
                refine AW.weaken (wk_mk [64] (SL.cons (k := 2) eZ rfl VWk.rfl SL.nil) (BL.drop rfl BL.nil) BK.nil) ?_
                refine AW.ret ?_
                refine TQ.qr ?_
                obtain rfl := Option.some.inj H
                exact endsR (RL.cons (RV.tmp eZ) (VO.flat rfl) RL.nil) List.nodup_nil
            · refine gSkip eZ (decide_eq_false h8) rfl ?_
              refine gSkip (eS rfl eZ) (decide_eq_false h8) rfl ?_
              refine gSkip (eS rfl (eS rfl eZ)) (decide_eq_false h8) rfl ?_
              refine oPickF (eS rfl (eS rfl (eS rfl eZ))) (decide_eq_false h8) eC ?_
              refine oMov eZ ?_
              refine gSkip eZ rfl rfl ?_
              refine gSkip (eS rfl eZ) rfl rfl ?_
              refine gSkip (eS rfl (eS rfl eZ)) rfl rfl ?_
              refine gSkip (eS rfl (eS rfl (eS rfl eZ))) rfl rfl ?_
              refine oPickF (eS rfl (eS rfl (eS rfl (eS rfl eZ)))) rfl eC ?_
              refine oMov eZ ?_
              refine xNil ?_
              refine TQ.qn ?_
              refine AW.weaken (wk_mk [64] (SL.cons (k := 2) eZ rfl VWk.rfl SL.nil) (BL.drop rfl BL.nil) BK.nil) ?_
              refine AW.ret ?_
              refine TQ.qr ?_
              obtain rfl := Option.some.inj H
              exact endsR (RL.cons (RV.tmp eZ) (VO.flat rfl) RL.nil) List.nodup_nil
          · refine gSkip eZ (decide_eq_false h7) rfl ?_
            refine gSkip (eS rfl eZ) (decide_eq_false h7) rfl ?_
            refine gSkip (eS rfl (eS rfl eZ)) (decide_eq_false h7) rfl ?_
            refine oPickF (eS rfl (eS rfl (eS rfl eZ))) (decide_eq_false h7) eC ?_
            refine oMov eZ ?_
            refine gSkip eZ rfl rfl ?_
            refine gSkip (eS rfl eZ) rfl rfl ?_
            refine gSkip (eS rfl (eS rfl eZ)) rfl rfl ?_
            refine oPickF (eS rfl (eS rfl (eS rfl eZ))) rfl eC ?_
            refine oMov eZ ?_
            refine gSkip eZ rfl rfl ?_
            refine gSkip (eS rfl eZ) rfl rfl ?_
            refine gSkip (eS rfl (eS rfl eZ)) rfl rfl ?_
            refine gSkip (eS rfl (eS rfl (eS rfl eZ))) rfl rfl ?_
            refine oPickF (eS rfl (eS rfl (eS rfl (eS rfl eZ)))) rfl eC ?_
            refine oMov eZ ?_
            refine xNil ?_
            refine TQ.qn ?_
            refine AW.weaken (wk_mk [64] (SL.cons (k := 2) eZ rfl VWk.rfl SL.nil) (BL.drop rfl BL.nil) BK.nil) ?_
            refine AW.ret ?_
            refine TQ.qr ?_
            obtain rfl := Option.some.inj H
            exact endsR (RL.cons (RV.tmp eZ) (VO.flat rfl) RL.nil) List.nodup_nil
        · refine gSkip eZ (decide_eq_false h6) rfl ?_
          refine gSkip (eS rfl eZ) (decide_eq_false h6) rfl ?_
          refine gSkip (eS rfl (eS rfl eZ)) (decide_eq_false h6) rfl ?_
          refine oPickF (eS rfl (eS rfl (eS rfl eZ))) (decide_eq_false h6) eC ?_
          refine oMov eZ ?_
          refine gSkip eZ rfl rfl ?_
          refine gSkip (eS rfl eZ) rfl rfl ?_
          refine gSkip (eS rfl (eS rfl eZ)) rfl rfl ?_
          refine oPickF (eS rfl (eS rfl (eS rfl eZ))) rfl eC ?_
          refine oMov eZ ?_
          refine gSkip eZ rfl rfl ?_
          refine gSkip (eS rfl eZ) rfl rfl ?_
          refine gSkip (eS rfl (eS rfl eZ)) rfl rfl ?_
          refine oPickF (eS rfl (eS rfl (eS rfl eZ))) rfl eC ?_
          refine oMov eZ ?_
          refine gSkip eZ rfl rfl ?_
          refine gSkip (eS rfl eZ) rfl rfl ?_
          refine gSkip (eS rfl (eS rfl eZ)) rfl rfl ?_
          refine gSkip (eS rfl (eS rfl (eS rfl eZ))) rfl rfl ?_
          refine oPickF (eS rfl (eS rfl (eS rfl (eS rfl eZ)))) rfl eC ?_
          refine oMov eZ ?_
          refine xNil ?_
          refine TQ.qn ?_
          refine AW.weaken (wk_mk [64] (SL.cons (k := 2) eZ rfl VWk.rfl SL.nil) (BL.drop rfl BL.nil) BK.nil) ?_
          refine AW.ret ?_
          refine TQ.qr ?_
          obtain rfl := Option.some.inj H
          exact endsR (RL.cons (RV.tmp eZ) (VO.flat rfl) RL.nil) List.nodup_nil
      · refine AW.condF eZ (decide_eq_false h5) ?_
        refine AW.skip ?_
        refine TQ.qn ?_
        refine AW.seq ?_
        refine AW.regd ?_
        refine oFaddrN (m := 0) (eS rfl (eS rfl (eS rfl eZ))) rfl ?_
        refine oLoadV (q := 0) (c := (.d (.int .i64 a1.No))) eZ bZ rfl rfl ?_
        refine oGeq eZ eC ?_
        refine oMov eZ ?_
        rcases oite H with ⟨h10, H⟩ | ⟨h10, H⟩
        · refine gDo eZ (decide_eq_true h10) ?_
          refine oLoadVA (es := [(.d (.int .i64 a1.No)), (.d (.int .i64 a1.Stage)), (.d (.int .i64 a1.Lo)), (.d (.int .i64 a1.Hi)), (.d (.int .i64 a1.From)), (.d (.int .i64 a1.To)), (.d (.sl 2 (List.map d_TCell a1.Cells)))]) (eS rfl (eS rfl (eS rfl (eS rfl (eS rfl (eS rfl (eS rfl eZ))))))) bZ rfl ?_
          refine gDo (eS rfl eZ) (decide_eq_true h10) ?_
          obtain ⟨v11, h12, H⟩ := obind H
          refine oCall (u := (.agg [(.d (.int .i64 v11.Lo)), (.d (.int .i64 v11.Hi))])) eC Cl.fn (c_impl_Move_keys h12) (Evs.cons eZ Evs.nil) (VDs.cons (VD.agg rfl) VDs.nil) rfl ?_
          refine gDo (eS rfl (eS rfl eZ)) (decide_eq_true h10) ?_
          obtain ⟨v13, h14, H⟩ := obind H
          refine oCall (u := (.one (.d (.bool v13)))) eC Cl.fn (c_impl_RangeOk h14) (Evs.cons eZ Evs.nil) (VDs.cons (VD.agg rfl) VDs.nil) rfl ?_
          refine oPickT (eS rfl (eS rfl (eS rfl eZ))) (decide_eq_true h10) eZ ?_
          refine oMov eZ ?_
          rcases oite H with ⟨h15, H⟩ | ⟨h15, H⟩
          · refine gDo eZ h15 ?_
            refine oFaddrN (m := 4) (eS rfl (eS rfl (eS rfl (eS rfl (eS rfl (eS rfl (eS rfl (eS rfl (eS rfl (eS rfl (eS rfl (eS rfl eZ)))))))))))) rfl ?_
            refine gDo (eS rfl eZ) h15 ?_
            refine oLoadV (q := 4) (c := (.d (.int .i64 a1.From))) eZ bZ rfl rfl ?_
            refine gDo (eS rfl (eS rfl eZ)) h15 ?_
            obtain ⟨v16, h17, H⟩ := obind H
            refine oCall (u := (.one (.d (.bool v16)))) eC Cl.fn (c_impl_isGroup h17) (Evs.cons eZ Evs.nil) (VDs.cons VD.plain VDs.nil) rfl ?_
            refine oPickT (eS rfl (eS rfl (eS rfl eZ))) h15 eZ ?_
            refine oMov eZ ?_
            rcases oite H with ⟨h18, H⟩ | ⟨h18, H⟩
            · refine gDo eZ h18 ?_
              refine oFaddrN (m := 5) (eS rfl (eS rfl (eS rfl (eS rfl (eS rfl (eS rfl (eS rfl (eS rfl (eS rfl (eS rfl (eS rfl (eS rfl (eS rfl (eS rfl (eS rfl (eS rfl (eS rfl eZ))))))))))))))))) rfl ?_
              refine gDo (eS rfl eZ) h18 ?_
              refine oLoadV (q := 5) (c := (.d (.int .i64 a1.To))) eZ bZ rfl rfl ?_
              refine gDo (eS rfl (eS rfl eZ)) h18 ?_
              obtain ⟨v19, h20, H⟩ := obind H
              refine oCall (u := (.one (.d (.bool v19)))) eC Cl.fn (c_impl_isGroup h20) (Evs.cons eZ Evs.nil) (VDs.cons VD.plain VDs.nil) rfl ?_
              refine oPickT (eS rfl (eS rfl (eS rfl eZ))) h18 eZ ?_
              refine oMov eZ ?_
              rcases oite H with ⟨h21, H⟩ | ⟨h21, H⟩
              · refine gDo eZ h21 ?_
                refine oFaddrN (m := 4) (eS rfl (eS rfl (eS rfl (eS rfl (eS rfl (eS rfl (eS rfl (eS rfl (eS rfl (eS rfl (eS rfl (eS rfl (eS rfl (eS rfl (eS rfl (eS rfl (eS rfl (eS rfl (eS rfl (eS rfl (eS rfl (eS rfl eZ)))))))))))))))))))))) rfl ?_
                refine gDo (eS rfl eZ) h21 ?_
                refine oLoadV (q := 4) (c := (.d (.int .i64 a1.From))) eZ bZ rfl rfl ?_
                refine gDo (eS rfl (eS rfl eZ)) h21 ?_
                refine oFaddrN (m := 5) (eS rfl (eS rfl (eS rfl (eS rfl (eS rfl (eS rfl (eS rfl (eS rfl (eS rfl (eS rfl (eS rfl (eS rfl (eS rfl (eS rfl (eS rfl (eS rfl (eS rfl (eS rfl (eS rfl (eS rfl (eS rfl (eS rfl (eS rfl (eS rfl eZ)))))))))))))))))))))))) rfl ?_
                refine gDo (eS rfl (eS rfl (eS rfl eZ))) h21 ?_
                refine oLoadV (q := 5) (c := (.d (.int .i64 a1.To))) eZ bZ rfl rfl ?_
                refine gDo (eS rfl (eS rfl (eS rfl (eS rfl eZ)))) h21 ?_
                refine oNeq (eS rfl (eS rfl eZ)) eZ ?_
                refine oPickT (eS rfl (eS rfl (eS rfl (eS rfl (eS rfl eZ))))) h21 eZ ?_
                refine oMov eZ ?_
                rcases oite H with ⟨h22, H⟩ | ⟨h22, H⟩
                · refine gDo eZ (decide_eq_true h22) ?_
                  refine oFaddrN (m := 6) (eS rfl (eS rfl (eS rfl (eS rfl (eS rfl (eS rfl (eS rfl (eS rfl (eS rfl (eS rfl (eS rfl (eS rfl (eS rfl (eS rfl (eS rfl (eS rfl (eS rfl (eS rfl (eS rfl (eS rfl (eS rfl (eS rfl (eS rfl (eS rfl (eS rfl (eS rfl (eS rfl (eS rfl (eS rfl eZ))))))))))))))))))))))))))))) rfl ?_
                  refine gDo (eS rfl eZ) (decide_eq_true h22) ?_
                  refine oLoadV (q := 6) (c := (.d (.sl 2 (List.map d_TCell a1.Cells)))) eZ (hB rfl bZ) rfl rfl ?_
                  refine gDo (eS rfl (eS rfl eZ)) (decide_eq_true h22) ?_
                  refine oLoadVA (es := [(.d (.int .i64 a1.No)), (.d (.int .i64 a1.Stage)), (.d (.int .i64 a1.Lo)), (.d (.int .i64 a1.Hi)), (.d (.int .i64 a1.From)), (.d (.int .i64 a1.To)), (.d (.sl 2 (List.map d_TCell a1.Cells)))]) (eS rfl (eS rfl (eS rfl (eS rfl (eS rfl (eS rfl (eS rfl (eS rfl (eS rfl (eS rfl (eS rfl (eS rfl (eS rfl (eS rfl (eS rfl (eS rfl (eS rfl (eS rfl (eS rfl (eS rfl (eS rfl (eS rfl (eS rfl (eS rfl (eS rfl (eS rfl (eS rfl (eS rfl (eS rfl (eS rfl (eS rfl eZ))))))))))))))))))))))))))))))) bZ rfl ?_
                  refine gDo (eS rfl (eS rfl (eS rfl eZ))) (decide_eq_true h22) ?_
                  obtain ⟨v23, h24, H⟩ := obind H
                  refine oCall (u := (.agg [(.d (.int .i64 v23.Lo)), (.d (.int .i64 v23.Hi))])) eC Cl.fn (c_impl_Move_keys h24) (Evs.cons eZ Evs.nil) (VDs.cons (VD.agg rfl) VDs.nil) rfl ?_
                  refine gDo (eS rfl (eS rfl (eS rfl (eS rfl eZ)))) (decide_eq_true h22) ?_
                  obtain ⟨v25, h26, H⟩ := obind H
                  refine oCall (u := (.one (.d (.bool v25)))) eC Cl.fn (c_impl_cellsIn h26) (Evs.cons (eS rfl (eS rfl eZ)) (Evs.cons eZ Evs.nil)) (VDs.cons VD.plain (VDs.cons (VD.agg rfl) VDs.nil)) rfl ?_
                  refine oPickT (eS rfl (eS rfl (eS rfl (eS rfl (eS rfl eZ))))) (decide_eq_true h22) eZ ?_
                  refine oMov eZ ?_
                  rcases oite H with ⟨h27, H⟩ | ⟨h27, H⟩
                  · refine gDo eZ h27 ?_
                    refine oFaddrN (m := 1) (eS rfl (eS rfl (eS rfl (eS rfl (eS rfl (eS rfl (eS rfl (eS rfl (eS rfl (eS rfl (eS rfl (eS rfl (eS rfl (eS rfl (eS rfl (eS rfl (eS rfl (eS rfl (eS rfl (eS rfl (eS rfl (eS rfl (eS rfl (eS rfl (eS rfl (eS rfl (eS rfl (eS rfl (eS rfl (eS rfl (eS rfl (eS rfl (eS rfl (eS rfl (eS rfl (eS rfl eZ)))))))))))))))))))))))))))))))))))) rfl ?_
                    refine gDo (eS rfl eZ) h27 ?_
                    refine oLoadV (q := 1) (c := (.d (.int .i64 a1.Stage))) eZ bZ rfl rfl ?_
                    refine gDo (eS rfl (eS rfl eZ)) h27 ?_
                    refine oEql eZ eC ?_
                    refine gDo (eS rfl (eS rfl (eS rfl eZ))) h27 ?_
                    refine oMov eZ ?_
                    rcases oite H with ⟨h28, H⟩ | ⟨h28, H⟩
                    · refine gSkip eZ (decide_eq_true h28) rfl ?_
                      refine gSkip (eS rfl eZ) (decide_eq_true h28) rfl ?_
                      refine gSkip (eS rfl (eS rfl eZ)) (decide_eq_true h28) rfl ?_
                      refine gSkip (eS rfl (eS rfl (eS rfl eZ))) (decide_eq_true h28) rfl ?_
                      refine gDo (eS rfl (eS rfl (eS rfl (eS rfl (eS rfl (eS rfl (eS rfl (eS rfl eZ)))))))) h27 ?_
                      refine oPickT (eS rfl (eS rfl (eS rfl (eS rfl eZ)))) (decide_eq_true h28) eC ?_
                      refine oPickT (eS rfl (eS rfl (eS rfl (eS rfl (eS rfl (eS rfl (eS rfl (eS rfl (eS rfl eZ))))))))) h27 eZ ?_
                      refine oMov eZ ?_
                      refine xNil ?_
                      refine TQ.qn ?_
                      refine AW.weaken (wk_mk [64] (SL.cons (k := 2) eZ rfl VWk.rfl SL.nil) (BL.drop rfl BL.nil) BK.nil) ?_
                      refine AW.ret ?_
                      obtain rfl := Option.some.inj H
                      exact endsR (RL.cons (RV.tmp eZ) (VO.flat rfl) RL.nil) List.nodup_nil
                    · refine gDo eZ (decide_eq_false h28) ?_
                      refine oFaddrN (m := 6) (eS rfl (eS rfl (eS rfl (eS rfl (eS rfl (eS rfl (eS rfl (eS rfl (eS rfl (eS rfl (eS rfl (eS rfl (eS rfl (eS rfl (eS rfl (eS rfl (eS rfl (eS rfl (eS rfl (eS rfl (eS rfl (eS rfl (eS rfl (eS rfl (eS rfl (eS rfl (eS rfl (eS rfl (eS rfl (eS rfl (eS rfl (eS rfl (eS rfl (eS rfl (eS rfl (eS rfl (eS rfl (eS rfl (eS rfl (eS rfl eZ)))))))))))))))))))))))))))))))))))))))) rfl ?_
                      refine gDo (eS rfl eZ) (decide_eq_false h28) ?_
                      refine oLoadV (q := 6) (c := (.d (.sl 2 (List.map d_TCell a1.Cells)))) eZ bZ rfl rfl ?_
                      refine gDo (eS rfl (eS rfl eZ)) (decide_eq_false h28) ?_
                      refine oLenD eZ (n := a1.Cells.length) (List.length_map _) ?_
                      refine gDo (eS rfl (eS rfl (eS rfl eZ))) (decide_eq_false h28) ?_
                      refine oEql eZ eC ?_
                      refine gDo (eS rfl (eS rfl (eS rfl (eS rfl (eS rfl (eS rfl (eS rfl (eS rfl eZ)))))))) h27 ?_
                      refine oPickF (eS rfl (eS rfl (eS rfl (eS rfl eZ)))) (decide_eq_false h28) eZ ?_
                      refine oPickT (eS rfl (eS rfl (eS rfl (eS rfl (eS rfl (eS rfl (eS rfl (eS rfl (eS rfl eZ))))))))) h27 eZ ?_
                      refine oMov eZ ?_
                      refine xNil ?_
                      refine TQ.qn ?_
                      refine AW.weaken (wk_mk [64] (SL.cons (k := 2) eZ rfl VWk.rfl SL.nil) (BL.drop rfl BL.nil) BK.nil) ?_
                      refine AW.ret ?_
                      obtain rfl := Option.some.inj H
                      exact endsR (RL.cons (RV.tmp eZ) (VO.flat rfl) RL.nil) List.nodup_nil
                  · refine gSkip eZ (nt h27) rfl ?_
                    refine gSkip (eS rfl eZ) (nt h27) rfl ?_
                    refine gSkip (eS rfl (eS rfl eZ)) (nt h27) rfl ?_
                    refine gSkip (eS rfl (eS rfl (eS rfl eZ))) (nt h27) rfl ?_
                    refine gSkipU eZ rfl ?_
                    refine gSkipU (eS rfl eZ) rfl ?_
                    refine gSkipU (eS rfl (eS rfl eZ)) rfl ?_
                    refine gSkipU (eS rfl (eS rfl (eS rfl eZ))) rfl ?_
                    refine gSkip (eS rfl (eS rfl (eS rfl (eS rfl (eS rfl (eS rfl (eS rfl (eS rfl eZ)))))))) (nt h27) rfl ?_
                    refine oPickF (eS rfl (eS rfl (eS rfl (eS rfl (eS rfl (eS rfl (eS rfl (eS rfl (eS rfl eZ))))))))) (nt h27) eC ?_
                    refine oMov eZ ?_
                    refine xNil ?_
                    refine TQ.qn ?_
                    refine AW.weaken (wk_mk [64] (SL.cons (k := 2) eZ rfl VWk.rfl SL.nil) (BL.drop rfl BL.nil) BK.nil) ?_
                    refine AW.ret ?_
                    obtain rfl := Option.some.inj H
                    exact endsR (RL.cons (RV.tmp eZ) (VO.flat rfl) RL.nil) List.nodup_nil
                · refine gSkip eZ (decide_eq_false h22) rfl ?_
                  refine gSkip (eS rfl eZ) (decide_eq_false h22) rfl ?_
                  refine gSkip (eS rfl (eS rfl eZ)) (decide_eq_false h22) rfl ?_
                  refine gSkip (eS rfl (eS rfl (eS rfl eZ))) (decide_eq_false h22) rfl ?_
                  refine gSkip (eS rfl (eS rfl (eS rfl (eS rfl eZ)))) (decide_eq_false h22) rfl ?_
                  refine oPickF (eS rfl (eS rfl (eS rfl (eS rfl (eS rfl eZ))))) (decide_eq_false h22) eC ?_
                  refine oMov eZ ?_
                  refine gSkip eZ rfl rfl ?_
                  refine gSkip (eS rfl eZ) rfl rfl ?_
                  refine gSkip (eS rfl (eS rfl eZ)) rfl rfl ?_
                  refine gSkip (eS rfl (eS rfl (eS rfl eZ))) rfl rfl ?_
                  refine gSkipU eZ rfl ?_
                  refine gSkipU (eS rfl eZ) rfl ?_
                  refine gSkipU (eS rfl (eS rfl eZ)) rfl ?_
                  refine gSkipU (eS rfl (eS rfl (eS rfl eZ))) rfl ?_
                  refine gSkip (eS rfl (eS rfl (eS rfl (eS rfl (eS rfl (eS rfl (eS rfl (eS rfl eZ)))))))) rfl rfl ?_
                  refine oPickF (eS rfl (eS rfl (eS rfl (eS rfl (eS rfl (eS rfl (eS rfl (eS rfl (eS rfl eZ))))))))) rfl eC ?_
                  refine oMov eZ ?_
                  refine xNil ?_
                  refine TQ.qn ?_
                  refine AW.weaken (wk_mk [64] (SL.cons (k := 2) eZ rfl VWk.rfl SL.nil) (BL.drop rfl BL.nil) BK.nil) ?_
                  refine AW.ret ?_
                  obtain rfl := Option.some.inj H
                  exact endsR (RL.cons (RV.tmp eZ) (VO.flat rfl) RL.nil) List.nodup_nil
              · refine gSkip eZ (nt h21) rfl ?_
                refine gSkip (eS rfl eZ) (nt h21) rfl ?_
                refine gSkip (eS rfl (eS rfl eZ)) (nt h21) rfl ?_
                refine gSkip (eS rfl (eS rfl (eS rfl eZ))) (nt h21) rfl ?_
                refine gSkip (eS rfl (eS rfl (eS rfl (eS rfl eZ)))) (nt h21) rfl ?_
                refine oPickF (eS rfl (eS rfl (eS rfl (eS rfl (eS rfl eZ))))) (nt h21) eC ?_
                refine oMov eZ ?_
                refine gSkip eZ rfl rfl ?_
                refine gSkip (eS rfl eZ) rfl rfl ?_
                refine gSkip (eS rfl (eS rfl eZ)) rfl rfl ?_
                refine gSkip (eS rfl (eS rfl (eS rfl eZ))) rfl rfl ?_
                refine gSkip (eS rfl (eS rfl (eS rfl (eS rfl eZ)))) rfl rfl ?_
                refine oPickF (eS rfl (eS rfl (eS rfl (eS rfl (eS rfl eZ))))) rfl eC ?_
                refine oMov eZ ?_
                refine gSkip eZ rfl rfl ?_
                refine gSkip (eS rfl eZ) rfl rfl ?_
                refine gSkip (eS rfl (eS rfl eZ)) rfl rfl ?_
                refine gSkip (eS rfl (eS rfl (eS rfl eZ))) rfl rfl ?_
                refine gSkipU eZ rfl ?_
                refine gSkipU (eS rfl eZ) rfl ?_
                refine gSkipU (eS rfl (eS rfl eZ)) rfl ?_
                refine gSkipU (eS rfl (eS rfl (eS rfl eZ))) rfl ?_
                refine gSkip (eS rfl (eS rfl (eS rfl (eS rfl (eS rfl (eS rfl (eS rfl (eS rfl eZ)))))))) rfl rfl ?_
                refine oPickF (eS rfl (eS rfl (eS rfl (eS rfl (eS rfl (eS rfl (eS rfl (eS rfl (eS rfl eZ))))))))) rfl eC ?_
                refine oMov eZ ?_
                refine xNil ?_
                refine TQ.qn ?_
                refine AW.weaken (wk_mk [64] (SL.cons (k := 2) eZ rfl VWk.rfl SL.nil) (BL.drop rfl BL.nil) BK.nil) ?_
                refine AW.ret ?_
                obtain rfl := Option.some.inj H
                exact endsR (RL.cons (RV.tmp eZ) (VO.flat rfl) RL.nil) List.nodup_nil
            · refine gSkip eZ (nt h18) rfl ?_
              refine gSkip (eS rfl eZ) (nt h18) rfl ?_
              refine gSkip (eS rfl (eS rfl eZ)) (nt h18) rfl ?_
              refine oPickF (eS rfl (eS rfl (eS rfl eZ))) (nt h18) eC ?_
              refine oMov eZ ?_
              refine gSkip eZ rfl rfl ?_
              refine gSkip (eS rfl eZ) rfl rfl ?_
              refine gSkip (eS rfl (eS rfl eZ)) rfl rfl ?_
              refine gSkip (eS rfl (eS rfl (eS rfl eZ))) rfl rfl ?_
              refine gSkip (eS rfl (eS rfl (eS rfl (eS rfl eZ)))) rfl rfl ?_
              refine oPickF (eS rfl (eS rfl (eS rfl (eS rfl (eS rfl eZ))))) rfl eC ?_
              refine oMov eZ ?_
              refine gSkip eZ rfl rfl ?_
              refine gSkip (eS rfl eZ) rfl rfl ?_
              refine gSkip (eS rfl (eS rfl eZ)) rfl rfl ?_
              refine gSkip (eS rfl (eS rfl (eS rfl eZ))) rfl rfl ?_
              refine gSkip (eS rfl (eS rfl (eS rfl (eS rfl eZ)))) rfl rfl ?_
              refine oPickF (eS rfl (eS rfl (eS rfl (eS rfl (eS rfl eZ))))) rfl eC ?_
              refine oMov eZ ?_
              refine gSkip eZ rfl rfl ?_
              refine gSkip (eS rfl eZ) rfl rfl ?_
              refine gSkip (eS rfl (eS rfl eZ)) rfl rfl ?_
              refine gSkip (eS rfl (eS rfl (eS rfl eZ))) rfl rfl ?_
              refine gSkipU eZ rfl ?_
              refine gSkipU (eS rfl eZ) rfl ?_
              refine gSkipU (eS rfl (eS rfl eZ)) rfl ?_
              refine gSkipU (eS rfl (eS rfl (eS rfl eZ))) rfl ?_
              refine gSkip (eS rfl (eS rfl (eS rfl (eS rfl (eS rfl (eS rfl (eS rfl (eS rfl eZ)))))))) rfl rfl ?_
              refine oPickF (eS rfl (eS rfl (eS rfl (eS rfl (eS rfl (eS rfl (eS rfl (eS rfl (eS rfl eZ))))))))) rfl eC ?_
              refine oMov eZ ?_
              refine xNil ?_
              refine TQ.qn ?_
              refine AW.weaken (wk_mk [64] (SL.cons (k := 2) eZ rfl VWk.rfl SL.nil) (BL.drop rfl BL.nil) BK.nil) ?_
              refine AW.ret ?_
              obtain rfl := Option.some.inj H
              exact endsR (RL.cons (RV.tmp eZ) (VO.flat rfl) RL.nil) List.nodup_nil
          · refine gSkip eZ (nt h15) rfl ?_
            refine gSkip (eS rfl eZ) (nt h15) rfl ?_
            refine gSkip (eS rfl (eS rfl eZ)) (nt h15) rfl ?_
            refine oPickF (eS rfl (eS rfl (eS rfl eZ))) (nt h15) eC ?_
            refine oMov eZ ?_
            refine gSkip eZ rfl rfl ?_
            refine gSkip (eS rfl eZ) rfl rfl ?_
            refine gSkip (eS rfl (eS rfl eZ)) rfl rfl ?_
            refine oPickF (eS rfl (eS rfl (eS rfl eZ))) rfl eC ?_
            refine oMov eZ ?_
            refine gSkip eZ rfl rfl ?_
            refine gSkip (eS rfl eZ) rfl rfl ?_
            refine gSkip (eS rfl (eS rfl eZ)) rfl rfl ?_
            refine gSkip (eS rfl (eS rfl (eS rfl eZ))) rfl rfl ?_
            refine gSkip (eS rfl (eS rfl (eS rfl (eS rfl eZ)))) rfl rfl ?_
            refine oPickF (eS rfl (eS rfl (eS rfl (eS rfl (eS rfl eZ))))) rfl eC ?_
            refine oMov eZ ?_
            refine gSkip eZ rfl rfl ?_
            refine gSkip (eS rfl eZ) rfl rfl ?_
            refine gSkip (eS rfl (eS rfl eZ)) rfl rfl ?_
            refine gSkip (eS rfl (eS rfl (eS rfl eZ))) rfl rfl ?_
            refine gSkip (eS rfl (eS rfl (eS rfl (eS rfl eZ)))) rfl rfl ?_
            refine oPickF (eS rfl (eS rfl (eS rfl (eS rfl (eS rfl eZ))))) rfl eC ?_
            refine oMov eZ ?_
            refine gSkip eZ rfl rfl ?_
            refine gSkip (eS rfl eZ) rfl rfl ?_
            refine gSkip (eS rfl (eS rfl eZ)) rfl rfl ?_
            refine gSkip (eS rfl (eS rfl (eS rfl eZ))) rfl rfl ?_
            refine gSkipU eZ rfl ?_
            refine gSkipU (eS rfl eZ) rfl ?_
            refine gSkipU (eS rfl (eS rfl eZ)) rfl ?_
            refine gSkipU (eS rfl (eS rfl (eS rfl eZ))) rfl ?_
            refine gSkip (eS rfl (eS rfl (eS rfl (eS rfl (eS rfl (eS rfl (eS rfl (eS rfl eZ)))))))) rfl rfl ?_
            refine oPickF (eS rfl (eS rfl (eS rfl (eS rfl (eS rfl (eS rfl (eS rfl (eS rfl (eS rfl eZ))))))))) rfl eC ?_
            refine oMov eZ ?_
            refine xNil ?_
            refine TQ.qn ?_
            refine AW.weaken (wk_mk [64] (SL.cons (k := 2) eZ rfl VWk.rfl SL.nil) (BL.drop rfl BL.nil) BK.nil) ?_
            refine AW.ret ?_
            obtain rfl := Option.some.inj H
            exact endsR (RL.cons (RV.tmp eZ) (VO.flat rfl) RL.nil) List.nodup_nil
        · refine gSkip eZ (decide_eq_false h10) rfl ?_
          refine gSkip (eS rfl eZ) (decide_eq_false h10) rfl ?_
          refine gSkip (eS rfl (eS rfl eZ)) (decide_eq_false h10) rfl ?_
          refine oPickF (eS rfl (eS rfl (eS rfl eZ))) (decide_eq_false h10) eC ?_
          refine oMov eZ ?_
          refine gSkip eZ rfl rfl ?_
          refine gSkip (eS rfl eZ) rfl rfl ?_
          refine gSkip (eS rfl (eS rfl eZ)) rfl rfl ?_
          refine oPickF (eS rfl (eS rfl (eS rfl eZ))) rfl eC ?_
          refine oMov eZ ?_
          refine gSkip eZ rfl rfl ?_
          refine gSkip (eS rfl eZ) rfl rfl ?_
          refine gSkip (eS rfl (eS rfl eZ)) rfl rfl ?_
          refine oPickF (eS rfl (eS rfl (eS rfl eZ))) rfl eC ?_
          refine oMov eZ ?_
          refine gSkip eZ rfl rfl ?_
          refine gSkip (eS rfl eZ) rfl rfl ?_
          refine gSkip (eS rfl (eS rfl eZ)) rfl rfl ?_
          refine gSkip (eS rfl (eS rfl (eS rfl eZ))) rfl rfl ?_
          refine gSkip (eS rfl (eS rfl (eS rfl (eS rfl eZ)))) rfl rfl ?_
          refine oPickF (eS rfl (eS rfl (eS rfl (eS rfl (eS rfl eZ))))) rfl eC ?_
          refine oMov eZ ?_
          refine gSkip eZ rfl rfl ?_
          refine gSkip (eS rfl eZ) rfl rfl ?_
          refine gSkip (eS rfl (eS rfl eZ)) rfl rfl ?_
          refine gSkip (eS rfl (eS rfl (eS rfl eZ))) rfl rfl ?_
          refine gSkip (eS rfl (eS rfl (eS rfl (eS rfl eZ)))) rfl rfl ?_
          refine oPickF (eS rfl (eS rfl (eS rfl (eS rfl (eS rfl eZ))))) rfl eC ?_
          refine oMov eZ ?_
          refine gSkip eZ rfl rfl ?_
          refine gSkip (eS rfl eZ) rfl rfl ?_
          refine gSkip (eS rfl (eS rfl eZ)) rfl rfl ?_
          refine gSkip (eS rfl (eS rfl (eS rfl eZ))) rfl rfl ?_
          refine gSkipU eZ rfl ?_
          refine gSkipU (eS rfl eZ) rfl ?_
          refine gSkipU (eS rfl (eS rfl eZ)) rfl ?_
          refine gSkipU (eS rfl (eS rfl (eS rfl eZ))) rfl ?_
          refine gSkip (eS rfl (eS rfl (eS rfl (eS rfl (eS rfl (eS rfl (eS rfl (eS rfl eZ)))))))) rfl rfl ?_
          refine oPickF (eS rfl (eS rfl (eS rfl (eS rfl (eS rfl (eS rfl (eS rfl (eS rfl (eS rfl eZ))))))))) rfl eC ?_
          refine oMov eZ ?_
          refine xNil ?_
          refine TQ.qn ?_
          refine AW.weaken (wk_mk [64] (SL.cons (k := 2) eZ rfl VWk.rfl SL.nil) (BL.drop rfl BL.nil) BK.nil) ?_
          refine AW.ret ?_
          obtain rfl := Option.some.inj H
          exact endsR (RL.cons (RV.tmp eZ) (VO.flat rfl) RL.nil) List.nodup_nil
  · refine AW.regs ?_
    refine oFaddrN (m := 0) (eS rfl eZ) rfl ?_
    refine oLoadV (q := 0) (c := (.d (.int .i64 a1.No))) eZ bZ rfl rfl ?_
    obtain ⟨v29, h30, H⟩ := obind H
    refine oCall (u := (.one (.d (.bool v29)))) eC Cl.fn (c_impl_from h30) (Evs.cons eZ (Evs.cons eC (Evs.cons eC Evs.nil))) (VDs.cons VD.plain (VDs.cons VD.plain (VDs.cons VD.plain VDs.nil))) rfl ?_
    refine oInv eZ ?_
    refine oMov eZ ?_
    rcases oite H with ⟨h31, H⟩ | ⟨h31, H⟩
    · refine gDo eZ (congrArg Bool.not h31) ?_
      refine oFaddrN (m := 1) (eS rfl (eS rfl (eS rfl (eS rfl (eS rfl (eS rfl eZ)))))) rfl ?_
      refine gDo (eS rfl eZ) (congrArg Bool.not h31) ?_
      refine oLoadV (q := 1) (c := (.d (.int .i64 a1.Stage))) eZ bZ rfl rfl ?_
      refine gDo (eS rfl (eS rfl eZ)) (congrArg Bool.not h31) ?_
      obtain ⟨v32, h33, H⟩ := obind H
      refine oCall (u := (.one (.d (.bool v32)))) eC Cl.fn (c_impl_from h33) (Evs.cons eZ (Evs.cons eC (Evs.cons eC Evs.nil))) (VDs.cons VD.plain (VDs.cons VD.plain (VDs.cons VD.plain VDs.nil))) rfl ?_
      refine gDo (eS rfl (eS rfl (eS rfl eZ))) (congrArg Bool.not h31) ?_
      refine oInv eZ ?_
      refine oPickF (eS rfl (eS rfl (eS rfl (eS rfl eZ)))) (congrArg Bool.not h31) eZ ?_
      refine xNil ?_
      exact TQ.qn ⟨(!v32), H, (wk_mk [] (SL.cons (eS rfl (eS rfl (eS rfl (eS rfl (eS rfl (eS rfl (eS rfl (eS rfl (eS rfl (eS rfl (eS rfl eZ))))))))))) rfl VWk.rfl (SL.cons eZ rfl VWk.rfl SL.nil)) (BL.keep rfl BL.nil) (BK.cons rfl bZ rfl rfl BK.nil))⟩
    · refine gSkip eZ (congrArg Bool.not (nt h31)) rfl ?_
      refine gSkip (eS rfl eZ) (congrArg Bool.not (nt h31)) rfl ?_
      refine gSkip (eS rfl (eS rfl eZ)) (congrArg Bool.not (nt h31)) rfl ?_
      refine gSkip (eS rfl (eS rfl (eS rfl eZ))) (congrArg Bool.not (nt h31)) rfl ?_
      refine oPickT (eS rfl (eS rfl (eS rfl (eS rfl eZ)))) (congrArg Bool.not (nt h31)) eC ?_
      refine xNil ?_
      exact TQ.qn ⟨true, H, (wk_mk [] (SL.cons (eS rfl (eS rfl (eS rfl (eS rfl (eS rfl (eS rfl (eS rfl (eS rfl (eS rfl (eS rfl (eS rfl eZ))))))))))) rfl VWk.rfl (SL.cons eZ rfl VWk.rfl SL.nil)) (BL.keep rfl BL.nil) (BK.cons rfl bZ rfl rfl BK.nil))⟩

theorem c_impl_AtlasOk {a1 : TAtlas} {r : Bool} (H : m_impl_AtlasOk a1 = some r) : Fn Try.prog k_impl_AtlasOk (lent [(.agg (d_TAtlas a1))]) true [(.bool r)] := by
  refine i_impl_AtlasOk_fn (Nat.le_of_ble_eq_true rfl) ?_
  rw [init_mk]
  refine AW.weaken (wk_mk [] (SL.cons (v := (.agg [(.d (.int .i64 a1.Epoch)), (.d (.sl 3 (List.map d_TPart a1.Parts))), (.d (.int .i64 a1.Move.No)), (.d (.int .i64 a1.Move.Stage)), (.d (.int .i64 a1.Move.Lo)), (.d (.int .i64 a1.Move.Hi)), (.d (.int .i64 a1.Move.From)), (.d (.int .i64 a1.Move.To)), (.d (.sl 2 (List.map d_TCell a1.Move.Cells)))])) eZ rfl VWk.rfl SL.nil) BL.nil BK.nil) ?_
  unfold m_impl_AtlasOk at H
  unfold i_impl_AtlasOk
  refine AW.seq ?_
  refine AW.regs ?_
  refine oBox (n := 64) (m := 9) (cs := [(.d (.int .i64 a1.Epoch)), (.d (.sl 3 (List.map d_TPart a1.Parts))), (.d (.int .i64 a1.Move.No)), (.d (.int .i64 a1.Move.Stage)), (.d (.int .i64 a1.Move.Lo)), (.d (.int .i64 a1.Move.Hi)), (.d (.int .i64 a1.Move.From)), (.d (.int .i64 a1.Move.To)), (.d (.sl 2 (List.map d_TCell a1.Move.Cells)))]) rfl eZ rfl rfl nZ ?_
  refine oMov eC ?_
  refine xNil ?_
  refine TQ.qn ?_
  refine AW.seq ?_
  refine AW.regs ?_
  refine oFaddrN (m := 0) (eS rfl eZ) rfl ?_
  refine oLoadV (q := 0) (c := (.d (.int .i64 a1.Epoch))) eZ bZ rfl rfl ?_
  obtain ⟨v2, h3, H⟩ := obind H
  refine oCall (u := (.one (.d (.bool v2)))) eC Cl.fn (c_impl_from h3) (Evs.cons eZ (Evs.cons eC (Evs.cons eC Evs.nil))) (VDs.cons VD.plain (VDs.cons VD.plain (VDs.cons VD.plain VDs.nil))) rfl ?_
  refine oMov eZ ?_
  rcases oite H with ⟨h4, H⟩ | ⟨h4, H⟩
  · refine gDo eZ h4 ?_
    refine oFaddrN (m := 1) (eS rfl (eS rfl (eS rfl (eS rfl (eS rfl eZ))))) rfl ?_
    refine gDo (eS rfl eZ) h4 ?_
    refine oLoadV (q := 1) (c := (.d (.sl 3 (List.map d_TPart a1.Parts)))) eZ bZ rfl rfl ?_
    refine gDo (eS rfl (eS rfl eZ)) h4 ?_
    obtain ⟨v5, h6, H⟩ := obind H
    refine oCall (u := (.one (.d (.bool v5)))) eC Cl.fn (c_impl_PartsOk h6) (Evs.cons eZ Evs.nil) (VDs.cons VD.plain VDs.nil) rfl ?_
    refine oPickT (eS rfl (eS rfl (eS rfl eZ))) h4 eZ ?_
    refine oMov eZ ?_
    rcases oite H with ⟨h7, H⟩ | ⟨h7, H⟩
    · refine gDo eZ h7 ?_
      refine oFaddrN (m := 2) (eS rfl (eS rfl (eS rfl (eS rfl (eS rfl (eS rfl (eS rfl (eS rfl (eS rfl (eS rfl eZ)))))))))) rfl ?_
      refine gDo (eS rfl eZ) h7 ?_
      refine oLoadVA (es := [(.d (.int .i64 a1.Move.No)), (.d (.int .i64 a1.Move.Stage)), (.d (.int .i64 a1.Move.Lo)), (.d (.int .i64 a1.Move.Hi)), (.d (.int .i64 a1.Move.From)), (.d (.int .i64 a1.Move.To)), (.d (.sl 2 (List.map d_TCell a1.Move.Cells)))]) eZ bZ rfl ?_
      refine gDo (eS rfl (eS rfl eZ)) h7 ?_
      obtain ⟨v8, h9, H⟩ := obind H
      refine oCall (u := (.one (.d (.bool v8)))) eC Cl.fn (c_impl_moveOk h9) (Evs.cons eZ Evs.nil) (VDs.cons (VD.agg rfl) VDs.nil) rfl ?_
      refine oPickT (eS rfl (eS rfl (eS rfl eZ))) h7 eZ ?_
      refine oMov eZ ?_
      refine xNil ?_
      refine TQ.qn ?_
      refine AW.weaken (wk_mk [64] (SL.cons (k := 2) eZ rfl VWk.rfl SL.nil) (BL.drop rfl BL.nil) BK.nil) ?_
      refine AW.ret ?_
      obtain rfl := Option.some.inj H
      exact endsR (RL.cons (RV.tmp eZ) (VO.flat rfl) RL.nil) List.nodup_nil
    · refine gSkip eZ (nt h7) rfl ?_
      refine gSkip (eS rfl eZ) (nt h7) rfl ?_
      refine gSkip (eS rfl (eS rfl eZ)) (nt h7) rfl ?_
      refine oPickF (eS rfl (eS rfl (eS rfl eZ))) (nt h7) eC ?_
      refine oMov eZ ?_
      refine xNil ?_
      refine TQ.qn ?_
      refine AW.weaken (wk_mk [64] (SL.cons (k := 2) eZ rfl VWk.rfl SL.nil) (BL.drop rfl BL.nil) BK.nil) ?_
      refine AW.ret ?_
      obtain rfl := Option.some.inj H
      exact endsR (RL.cons (RV.tmp eZ) (VO.flat rfl) RL.nil) List.nodup_nil
  · refine gSkip eZ (nt h4) rfl ?_
    refine gSkip (eS rfl eZ) (nt h4) rfl ?_
    refine gSkip (eS rfl (eS rfl eZ)) (nt h4) rfl ?_
    refine oPickF (eS rfl (eS rfl (eS rfl eZ))) (nt h4) eC ?_
    refine oMov eZ ?_
    refine gSkip eZ rfl rfl ?_
    refine gSkip (eS rfl eZ) rfl rfl ?_
    refine gSkip (eS rfl (eS rfl eZ)) rfl rfl ?_
    refine oPickF (eS rfl (eS rfl (eS rfl eZ))) rfl eC ?_
    refine oMov eZ ?_
    refine xNil ?_
    refine TQ.qn ?_
    refine AW.weaken (wk_mk [64] (SL.cons (k := 2) eZ rfl VWk.rfl SL.nil) (BL.drop rfl BL.nil) BK.nil) ?_
    refine AW.ret ?_
    obtain rfl := Option.some.inj H
    exact endsR (RL.cons (RV.tmp eZ) (VO.flat rfl) RL.nil) List.nodup_nil

theorem c_slices_Clone_Part {a1 : (List TPart)} {r : (List TPart)} (H : m_slices_Clone_Part a1 = some r) : Fn Try.prog k_slices_Clone___impl_Part_impl_Part_ (lent [(.sl 3 (List.map d_TPart a1))]) true [(.sl 3 (List.map d_TPart r))] := by
  refine i_slices_Clone___impl_Part_impl_Part__fn (Nat.le_of_ble_eq_true rfl) ?_
  rw [init_mk]
  refine AW.weaken (wk_mk [] (SL.cons (v := (.one (.d (.sl 3 (List.map d_TPart a1))))) eZ rfl VWk.rfl SL.nil) BL.nil BK.nil) ?_
  unfold m_slices_Clone_Part at H
  unfold i_slices_Clone___impl_Part_impl_Part_
  refine AW.seq ?_
  refine AW.regs ?_
  refine oMov eC ?_
  refine xNil ?_
  refine TQ.qn ?_
  refine AW.seqJ (fun t2 : Unit => (slices_Clone_Part_j2 a1) t2 = some r) (fun t2 => mk [(0, (.one (.d (.sl 3 (List.map d_TPart a1)))))] [] noG) ?_ ?_
  · intro t2 H
    unfold slices_Clone_Part_j2 at H
    refine AW.seq ?_
    refine AW.regs ?_
    refine oBsliceZ (m := 320) rfl nZ ?_
    refine oMov (eS rfl eZ) ?_
    obtain ⟨h4, H⟩ := oguard H
    refine oAppZ (f := d_TPart) (m := 448) (own := true) (ys := a1) (q := a1.length) rfl rfl (eS rfl eZ) eZ (El.lent fun _ _ => rfl) rfl h4 (by decide) nZ ?_
    refine oMov eZ ?_
    refine xNil ?_
    refine TQ.qn ?_
    refine AW.ret ?_
    obtain rfl := Option.some.inj H
    exact endsR (RL.cons (RV.tmp eZ) (VO.sl bZ (List.length_map _) (allFlat fun _ => rfl)) RL.nil) (by decide)
  · refine AW.seq ?_
    refine AW.regs ?_
    refine oMov (eS rfl eZ) ?_
    rcases oite H with ⟨h5, H⟩ | ⟨h5, H⟩
    · refine oNilD0 eZ h5 ?_
      refine xNil ?_
      refine TQ.qn ?_
      refine AW.condU eZ ?_ ?_
      · have H : (some ([] : (List TPart))) = some r := by rw [← H]; simp [List.eq_nil_of_length_eq_zero h5, slices_Clone_Part_j2]
        refine AW.seq ?_
        refine AW.regs ?_
        refine oMov eC ?_
        refine xNil ?_
        refine TQ.qn ?_
        refine AW.ret ?_
        refine TQ.qr ?_
        obtain rfl := Option.some.inj H
        exact endsR (RL.cons (RV.tmp eZ) VO.zs RL.nil) List.nodup_nil
      · refine AW.skip ?_
        exact TQ.qn ⟨(), H, (wk_mk [] (SL.cons (eS rfl (eS rfl (eS rfl eZ))) rfl VWk.rfl SL.nil) BL.nil BK.nil)⟩
    · refine oNilD eZ h5 ?_
      refine xNil ?_
      refine TQ.qn ?_
      refine AW.condF eZ rfl ?_
      refine AW.skip ?_
      exact TQ.qn ⟨(), H, (wk_mk [] (SL.cons (eS rfl (eS rfl (eS rfl eZ))) rfl VWk.rfl SL.nil) BL.nil BK.nil)⟩

theorem c_slices_Clone_Cell {a1 : (List TCell)} {r : (List TCell)} (H : m_slices_Clone_Cell a1 = some r) : Fn Try.prog k_slices_Clone___impl_Cell_impl_Cell_ (lent [(.sl 2 (List.map d_TCell a1))]) true [(.sl 2 (List.map d_TCell r))] := by
  refine i_slices_Clone___impl_Cell_impl_Cell__fn (Nat.le_of_ble_eq_true rfl) ?_
  rw [init_mk]
  refine AW.weaken (wk_mk [] (SL.cons (v := (.one (.d (.sl 2 (List.map d_TCell a1))))) eZ rfl VWk.rfl SL.nil) BL.nil BK.nil) ?_
  unfold m_slices_Clone_Cell at H
  unfold i_slices_Clone___impl_Cell_impl_Cell_
  refine AW.seq ?_
  refine AW.regs ?_
  refine oMov eC ?_
  refine xNil ?_
  refine TQ.qn ?_
  refine AW.seqJ (fun t2 : Unit => (slices_Clone_Cell_j2 a1) t2 = some r) (fun t2 => mk [(0, (.one (.d (.sl 2 (List.map d_TCell a1)))))] [] noG) ?_ ?_
  · intro t2 H
    unfold slices_Clone_Cell_j2 at H
    refine AW.seq ?_
    refine AW.regs ?_
    refine oBsliceZ (m := 320) rfl nZ ?_
    refine oMov (eS rfl eZ) ?_
    obtain ⟨h4, H⟩ := oguard H
    refine oAppZ (f := d_TCell) (m := 448) (own := true) (ys := a1) (q := a1.length) rfl rfl (eS rfl eZ) eZ (El.lent fun _ _ => rfl) rfl h4 (by decide) nZ ?_
    refine oMov eZ ?_
    refine xNil ?_
    refine TQ.qn ?_
    refine AW.ret ?_
    obtain rfl := Option.some.inj H
    exact endsR (RL.cons (RV.tmp eZ) (VO.sl bZ (List.length_map _) (allFlat fun _ => rfl)) RL.nil) (by decide)
  · refine AW.seq ?_
    refine AW.regs ?_
    refine oMov (eS rfl eZ) ?_
    rcases oite H with ⟨h5, H⟩ | ⟨h5, H⟩
    · refine oNilD0 eZ h5 ?_
      refine xNil ?_
      refine TQ.qn ?_
      refine AW.condU eZ ?_ ?_
      · have H : (some ([] : (List TCell))) = some r := by rw [← H]; simp [List.eq_nil_of_length_eq_zero h5, slices_Clone_Cell_j2]
        refine AW.seq ?_
        refine AW.regs ?_
        refine oMov eC ?_
        refine xNil ?_
        refine TQ.qn ?_
        refine AW.ret ?_
        refine TQ.qr ?_
        obtain rfl := Option.some.inj H
        exact endsR (RL.cons (RV.tmp eZ) VO.zs RL.nil) List.nodup_nil
      · refine AW.skip ?_
        exact TQ.qn ⟨(), H, (wk_mk [] (SL.cons (eS rfl (eS rfl (eS rfl eZ))) rfl VWk.rfl SL.nil) BL.nil BK.nil)⟩
    · refine oNilD eZ h5 ?_
      refine xNil ?_
      refine TQ.qn ?_
      refine AW.condF eZ rfl ?_
      refine AW.skip ?_
      exact TQ.qn ⟨(), H, (wk_mk [] (SL.cons (eS rfl (eS rfl (eS rfl eZ))) rfl VWk.rfl SL.nil) BL.nil BK.nil)⟩

theorem c_impl_copyAtlas {a1 : TAtlas} {r : TAtlas} (H : m_impl_copyAtlas a1 = some r) : Fn Try.prog k_impl_copyAtlas (lent [(.agg (d_TAtlas a1))]) true [(.agg (d_TAtlas r))] := by
  refine i_impl_copyAtlas_fn (Nat.le_of_ble_eq_true rfl) ?_
  rw [init_mk]
  refine AW.weaken (wk_mk [] (SL.cons (v := (.agg [(.d (.int .i64 a1.Epoch)), (.d (.sl 3 (List.map d_TPart a1.Parts))), (.d (.int .i64 a1.Move.No)), (.d (.int .i64 a1.Move.Stage)), (.d (.int .i64 a1.Move.Lo)), (.d (.int .i64 a1.Move.Hi)), (.d (.int .i64 a1.Move.From)), (.d (.int .i64 a1.Move.To)), (.d (.sl 2 (List.map d_TCell a1.Move.Cells)))])) eZ rfl VWk.rfl SL.nil) BL.nil BK.nil) ?_
  unfold m_impl_copyAtlas at H
  unfold i_impl_copyAtlas
  refine AW.seq ?_
  refine AW.regs ?_
  refine oBox (n := 64) (m := 9) (cs := [(.d (.int .i64 a1.Epoch)), (.d (.sl 3 (List.map d_TPart a1.Parts))), (.d (.int .i64 a1.Move.No)), (.d (.int .i64 a1.Move.Stage)), (.d (.int .i64 a1.Move.Lo)), (.d (.int .i64 a1.Move.Hi)), (.d (.int .i64 a1.Move.From)), (.d (.int .i64 a1.Move.To)), (.d (.sl 2 (List.map d_TCell a1.Move.Cells)))]) rfl eZ rfl rfl nZ ?_
  refine oVar (n := 128) (m := 9) rfl rfl (nS rfl nZ) ?_
  refine xNil ?_
  refine TQ.qn ?_
  refine AW.seq ?_
  refine AW.regs ?_
  refine oFaddrN (m := 1) (eS rfl eZ) rfl ?_
  refine oLoadV (q := 1) (c := (.d (.sl 3 (List.map d_TPart a1.Parts)))) eZ (bS rfl bZ) rfl rfl ?_
  obtain ⟨v2, h3, H⟩ := obind H
  refine oCallN (u := (.one (.sl 320 0 v2.length))) (bs := [(320, (.data 3 (List.map d_TPart v2) true none))]) eC Cl.fn (c_slices_Clone_Part h3) (Evs.cons eZ Evs.nil) (VDs.cons VD.plain VDs.nil) (by simp [bindR, bindV, bindVs, bindC, bindCs]) rfl (fC (nS rfl (nS rfl nZ)) rfl (fC (nS rfl (nS rfl nZ)) rfl fN)) ?_
  refine oFaddrN (m := 1) (eS rfl (eS rfl (eS rfl (eS rfl eZ)))) rfl ?_
  refine oStoreV (es := [(.d (.int .i64 a1.Epoch)), (.sl 320 0 v2.length), (.d (.int .i64 a1.Move.No)), (.d (.int .i64 a1.Move.Stage)), (.d (.int .i64 a1.Move.Lo)), (.d (.int .i64 a1.Move.Hi)), (.d (.int .i64 a1.Move.From)), (.d (.int .i64 a1.Move.To)), (.d (.sl 2 (List.map d_TCell a1.Move.Cells)))]) eZ (eS rfl eZ) rfl rfl (bS rfl (bS rfl bZ)) rfl ?_
  refine xNil ?_
  refine TQ.qn ?_
  refine AW.seq ?_
  refine AW.regs ?_
  refine oFaddrN (m := 2) (eS rfl (eS rfl (eS rfl (eS rfl (eS rfl eZ))))) rfl ?_
  refine oFaddrN (m := 8) eZ rfl ?_
  refine oLoadV (q := 8) (c := (.d (.sl 2 (List.map d_TCell a1.Move.Cells)))) eZ bZ rfl rfl ?_
  obtain ⟨v4, h5, H⟩ := obind H
  refine oCallN (u := (.one (.sl 640 0 v4.length))) (bs := [(640, (.data 2 (List.map d_TCell v4) true none))]) eC Cl.fn (c_slices_Clone_Cell h5) (Evs.cons eZ Evs.nil) (VDs.cons VD.plain VDs.nil) (by simp [bindR, bindV, bindVs, bindC, bindCs]) rfl (fC (nS rfl (nS rfl (nS rfl (nS rfl nZ)))) rfl (fC (nS rfl (nS rfl (nS rfl (nS rfl nZ)))) rfl fN)) ?_
  refine oFaddrN (m := 2) (eS rfl (eS rfl (eS rfl (eS rfl (eS rfl (eS rfl (eS rfl (eS rfl (eS rfl eZ))))))))) rfl ?_
  refine oFaddrN (m := 8) eZ rfl ?_
  refine oStoreV (es := [(.d (.int .i64 a1.Epoch)), (.sl 320 0 v2.length), (.d (.int .i64 a1.Move.No)), (.d (.int .i64 a1.Move.Stage)), (.d (.int .i64 a1.Move.Lo)), (.d (.int .i64 a1.Move.Hi)), (.d (.int .i64 a1.Move.From)), (.d (.int .i64 a1.Move.To)), (.sl 640 0 v4.length)]) eZ (eS rfl (eS rfl eZ)) rfl rfl (bS rfl bZ) rfl ?_
  refine xNil ?_
  refine TQ.qn ?_
  refine AW.seq ?_
  refine AW.regs ?_
  refine oLoadVA (es := [(.d (.int .i64 a1.Epoch)), (.sl 320 0 v2.length), (.d (.int .i64 a1.Move.No)), (.d (.int .i64 a1.Move.Stage)), (.d (.int .i64 a1.Move.Lo)), (.d (.int .i64 a1.Move.Hi)), (.d (.int .i64 a1.Move.From)), (.d (.int .i64 a1.Move.To)), (.sl 640 0 v4.length)]) (eS rfl (eS rfl (eS rfl (eS rfl (eS rfl (eS rfl (eS rfl (eS rfl (eS rfl (eS rfl (eS rfl eZ))))))))))) bZ rfl ?_
  refine oStoreV (es := [(.d (.int .i64 a1.Epoch)), (.sl 320 0 v2.length), (.d (.int .i64 a1.Move.No)), (.d (.int .i64 a1.Move.Stage)), (.d (.int .i64 a1.Move.Lo)), (.d (.int .i64 a1.Move.Hi)), (.d (.int .i64 a1.Move.From)), (.d (.int .i64 a1.Move.To)), (.sl 640 0 v4.length)]) (eS rfl (eS rfl (eS rfl (eS rfl (eS rfl (eS rfl (eS rfl (eS rfl (eS rfl (eS rfl (eS rfl eZ))))))))))) eZ rfl rfl (bS rfl (bS rfl (bS rfl (bS rfl bZ)))) rfl ?_
  refine xNil ?_
  refine TQ.qn ?_
  refine AW.ret ?_
  obtain rfl := Option.some.inj H
  exact endsR (RL.cons (RV.cellA (es := [(.d (.int .i64 a1.Epoch)), (.sl 320 0 v2.length), (.d (.int .i64 a1.Move.No)), (.d (.int .i64 a1.Move.Stage)), (.d (.int .i64 a1.Move.Lo)), (.d (.int .i64 a1.Move.Hi)), (.d (.int .i64 a1.Move.From)), (.d (.int .i64 a1.Move.To)), (.sl 640 0 v4.length)]) (eS rfl (eS rfl (eS rfl (eS rfl (eS rfl (eS rfl (eS rfl (eS rfl (eS rfl (eS rfl (eS rfl eZ))))))))))) bZ rfl) (VO.aggs (VOs.cons (VO.flat rfl) (VOs.cons (VO.sl (bS rfl (bS rfl (bS rfl (bS rfl bZ)))) (List.length_map _) (allFlat fun _ => rfl)) (VOs.cons (VO.flat rfl) (VOs.cons (VO.flat rfl) (VOs.cons (VO.flat rfl) (VOs.cons (VO.flat rfl) (VOs.cons (VO.flat rfl) (VOs.cons (VO.flat rfl) (VOs.cons (VO.sl (bS rfl (bS rfl bZ)) (List.length_map _) (allFlat fun _ => rfl)) VOs.nil)))))))))) RL.nil) (by decide)

theorem c_impl_MoveRank {a1 : TMove} {r : Int} (H : m_impl_MoveRank a1 = some r) : Fn Try.prog k_impl_MoveRank (lent [(.agg (d_TMove a1))]) true [(.int .i64 r)] := by
  refine i_impl_MoveRank_fn (Nat.le_of_ble_eq_true rfl) ?_
  rw [init_mk]
  refine AW.weaken (wk_mk [] (SL.cons (v := (.agg [(.d (.int .i64 a1.No)), (.d (.int .i64 a1.Stage)), (.d (.int .i64 a1.Lo)), (.d (.int .i64 a1.Hi)), (.d (.int .i64 a1.From)), (.d (.int .i64 a1.To)), (.d (.sl 2 (List.map d_TCell a1.Cells)))])) eZ rfl VWk.rfl SL.nil) BL.nil BK.nil) ?_
  unfold m_impl_MoveRank at H
  unfold i_impl_MoveRank
  refine AW.seq ?_
  refine AW.regs ?_
  refine oBox (n := 64) (m := 7) (cs := [(.d (.int .i64 a1.No)), (.d (.int .i64 a1.Stage)), (.d (.int .i64 a1.Lo)), (.d (.int .i64 a1.Hi)), (.d (.int .i64 a1.From)), (.d (.int .i64 a1.To)), (.d (.sl 2 (List.map d_TCell a1.Cells)))]) rfl eZ rfl rfl nZ ?_
  refine oMov eC ?_
  refine xNil ?_
  refine TQ.qn ?_
  refine AW.seq ?_
  refine AW.seqJ (fun t2 : Bool => (impl_MoveRank_j2 a1) t2 = some r) (fun t2 => mk [(1, (.one (.ptr (.nm 64 0 0)))), (12, (.one (.d (.bool t2))))] [(64, (.vars 7 [(.d (.int .i64 a1.No)), (.d (.int .i64 a1.Stage)), (.d (.int .i64 a1.Lo)), (.d (.int .i64 a1.Hi)), (.d (.int .i64 a1.From)), (.d (.int .i64 a1.To)), (.d (.sl 2 (List.map d_TCell a1.Cells)))]))] noG) ?_ ?_
  · intro t2 H
    unfold impl_MoveRank_j2 at H
    rcases oite H with ⟨h4, H⟩ | ⟨h4, H⟩
    · refine AW.condT (eS rfl eZ) h4 ?_
      refine AW.seq ?_
      refine AW.regs ?_
      refine oMov eC ?_
      refine xNil ?_
      refine TQ.qn ?_
      refine AW.ret ?_
      refine TQ.qr ?_
      obtain rfl := Option.some.inj H
      exact endsR (RL.cons (RV.tmp eZ) (VO.flat rfl) RL.nil) List.nodup_nil
    · refine AW.condF (eS rfl eZ) (nt h4) ?_
      refine AW.skip ?_
      refine TQ.qn ?_
      refine AW.seq ?_
      refine AW.regs ?_
      refine oFaddrN (m := 0) eZ rfl ?_
      refine oLoadV (q := 0) (c := (.d (.int .i64 a1.No))) eZ bZ rfl rfl ?_
      refine oSub eZ eC ?_
      refine oMul eC eZ ?_
      refine oFaddrN (m := 1) (eS rfl (eS rfl (eS rfl (eS rfl eZ)))) rfl ?_
      refine oLoadV (q := 1) (c := (.d (.int .i64 a1.Stage))) eZ bZ rfl rfl ?_
      refine oMin eZ eC ?_
      refine oAdd (eS rfl (eS rfl (eS rfl eZ))) eZ ?_
      refine oMov eZ ?_
      refine xNil ?_
      refine TQ.qn ?_
      refine AW.ret ?_
      obtain rfl := Option.some.inj H
      exact endsR (RL.cons (RV.tmp eZ) (VO.flat rfl) RL.nil) List.nodup_nil
  · refine AW.regs ?_
    refine oFaddrN (m := 0) (eS rfl eZ) rfl ?_
    refine oLoadV (q := 0) (c := (.d (.int .i64 a1.No))) eZ bZ rfl rfl ?_
    obtain ⟨v5, h6, H⟩ := obind H
    refine oCall (u := (.one (.d (.bool v5)))) eC Cl.fn (c_impl_from h6) (Evs.cons eZ (Evs.cons eC (Evs.cons eC Evs.nil))) (VDs.cons VD.plain (VDs.cons VD.plain (VDs.cons VD.plain VDs.nil))) rfl ?_
    refine oInv eZ ?_
    refine oMov eZ ?_
    rcases oite H with ⟨h7, H⟩ | ⟨h7, H⟩
    · refine gDo eZ (congrArg Bool.not h7) ?_
      refine oFaddrN (m := 1) (eS rfl (eS rfl (eS rfl (eS rfl (eS rfl (eS rfl eZ)))))) rfl ?_
      refine gDo (eS rfl eZ) (congrArg Bool.not h7) ?_
      refine oLoadV (q := 1) (c := (.d (.int .i64 a1.Stage))) eZ bZ rfl rfl ?_
      refine gDo (eS rfl (eS rfl eZ)) (congrArg Bool.not h7) ?_
      obtain ⟨v8, h9, H⟩ := obind H
      refine oCall (u := (.one (.d (.bool v8)))) eC Cl.fn (c_impl_from h9) (Evs.cons eZ (Evs.cons eC (Evs.cons eC Evs.nil))) (VDs.cons VD.plain (VDs.cons VD.plain (VDs.cons VD.plain VDs.nil))) rfl ?_
      refine gDo (eS rfl (eS rfl (eS rfl eZ))) (congrArg Bool.not h7) ?_
      refine oInv eZ ?_
      refine oPickF (eS rfl (eS rfl (eS rfl (eS rfl eZ)))) (congrArg Bool.not h7) eZ ?_
      refine xNil ?_
      exact TQ.qn ⟨(!v8), H, (wk_mk [] (SL.cons (eS rfl (eS rfl (eS rfl (eS rfl (eS rfl (eS rfl (eS rfl (eS rfl (eS rfl (eS rfl (eS rfl eZ))))))))))) rfl VWk.rfl (SL.cons eZ rfl VWk.rfl SL.nil)) (BL.keep rfl BL.nil) (BK.cons rfl bZ rfl rfl BK.nil))⟩
    · refine gSkip eZ (congrArg Bool.not (nt h7)) rfl ?_
      refine gSkip (eS rfl eZ) (congrArg Bool.not (nt h7)) rfl ?_
      refine gSkip (eS rfl (eS rfl eZ)) (congrArg Bool.not (nt h7)) rfl ?_
      refine gSkip (eS rfl (eS rfl (eS rfl eZ))) (congrArg Bool.not (nt h7)) rfl ?_
      refine oPickT (eS rfl (eS rfl (eS rfl (eS rfl eZ)))) (congrArg Bool.not (nt h7)) eC ?_
      refine xNil ?_
      exact TQ.qn ⟨true, H, (wk_mk [] (SL.cons (eS rfl (eS rfl (eS rfl (eS rfl (eS rfl (eS rfl (eS rfl (eS rfl (eS rfl (eS rfl (eS rfl eZ))))))))))) rfl VWk.rfl (SL.cons eZ rfl VWk.rfl SL.nil)) (BL.keep rfl BL.nil) (BK.cons rfl bZ rfl rfl BK.nil))⟩

theorem c_impl_AtlasFrozen {a1 : TAtlas} {a2 : Int} {a3 : (List TCell)} {r : (TAtlas × Int)} (H : m_impl_AtlasFrozen a1 a2 a3 = some r) : Fn Try.prog k_impl_AtlasFrozen (lent [(.agg (d_TAtlas a1)), (.int .i64 a2), (.sl 2 (List.map d_TCell a3))]) true [(.agg (d_TAtlas r.1)), (.int .i64 r.2)] := by
  refine i_impl_AtlasFrozen_fn (Nat.le_of_ble_eq_true rfl) ?_
  rw [init_mk]
  refine AW.weaken (wk_mk [] (SL.cons (v := (.agg [(.d (.int .i64 a1.Epoch)), (.d (.sl 3 (List.map d_TPart a1.Parts))), (.d (.int .i64 a1.Move.No)), (.d (.int .i64 a1.Move.Stage)), (.d (.int .i64 a1.Move.Lo)), (.d (.int .i64 a1.Move.Hi)), (.d (.int .i64 a1.Move.From)), (.d (.int .i64 a1.Move.To)), (.d (.sl 2 (List.map d_TCell a1.Move.Cells)))])) eZ rfl VWk.rfl (SL.cons (v := (.one (.d (.int .i64 a2)))) (eS rfl eZ) rfl VWk.rfl (SL.cons (v := (.one (.d (.sl 2 (List.map d_TCell a3))))) (eS rfl (eS rfl eZ)) rfl VWk.rfl SL.nil))) BL.nil BK.nil) ?_
  unfold m_impl_AtlasFrozen at H
  unfold i_impl_AtlasFrozen
  refine AW.seq ?_
  refine AW.regs ?_
  refine oBox (n := 192) (m := 9) (cs := [(.d (.int .i64 a1.Epoch)), (.d (.sl 3 (List.map d_TPart a1.Parts))), (.d (.int .i64 a1.Move.No)), (.d (.int .i64 a1.Move.Stage)), (.d (.int .i64 a1.Move.Lo)), (.d (.int .i64 a1.Move.Hi)), (.d (.int .i64 a1.Move.From)), (.d (.int .i64 a1.Move.To)), (.d (.sl 2 (List.map d_TCell a1.Move.Cells)))]) rfl eZ rfl rfl nZ ?_
  refine oVar (n := 384) (m := 9) rfl rfl (nS rfl nZ) ?_
  refine oMov eC ?_
  refine xNil ?_
  refine TQ.qn ?_
  refine AW.seq ?_
  refine AW.seq ?_
  refine AW.regs ?_
  refine oLoadVA (es := [(.d (.int .i64 a1.Epoch)), (.d (.sl 3 (List.map d_TPart a1.Parts))), (.d (.int .i64 a1.Move.No)), (.d (.int .i64 a1.Move.Stage)), (.d (.int .i64 a1.Move.Lo)), (.d (.int .i64 a1.Move.Hi)), (.d (.int .i64 a1.Move.From)), (.d (.int .i64 a1.Move.To)), (.d (.sl 2 (List.map d_TCell a1.Move.Cells)))]) (eS rfl (eS rfl eZ)) (bS rfl bZ) rfl ?_
  obtain ⟨v4, h5, H⟩ := obind H
  refine oCall (u := (.one (.d (.bool v4)))) eC Cl.fn (c_impl_AtlasOk h5) (Evs.cons eZ Evs.nil) (VDs.cons (VD.agg rfl) VDs.nil) rfl ?_
  refine oInv eZ ?_
  refine xNil ?_
  refine TQ.qn ?_
  rcases oite H with ⟨h6, H⟩ | ⟨h6, H⟩
  · refine AW.condF eZ (congrArg Bool.not h6) ?_
    refine AW.skip ?_
    refine TQ.qn ?_
    refine AW.seq ?_
    refine AW.regs ?_
    refine oLoadVA (es := [(.d (.int .i64 a1.Epoch)), (.d (.sl 3 (List.map d_TPart a1.Parts))), (.d (.int .i64 a1.Move.No)), (.d (.int .i64 a1.Move.Stage)), (.d (.int .i64 a1.Move.Lo)), (.d (.int .i64 a1.Move.Hi)), (.d (.int .i64 a1.Move.From)), (.d (.int .i64 a1.Move.To)), (.d (.sl 2 (List.map d_TCell a1.Move.Cells)))]) (eS rfl (eS rfl (eS rfl (eS rfl (eS rfl eZ))))) (bS rfl bZ) rfl ?_
    obtain ⟨v7, h8, H⟩ := obind H
    refine oCallN (u := (.agg [(.d (.int .i64 v7.Epoch)), (.sl 897 0 v7.Parts.length), (.d (.int .i64 v7.Move.No)), (.d (.int .i64 v7.Move.Stage)), (.d (.int .i64 v7.Move.Lo)), (.d (.int .i64 v7.Move.Hi)), (.d (.int .i64 v7.Move.From)), (.d (.int .i64 v7.Move.To)), (.sl 904 0 v7.Move.Cells.length)])) (bs := [(897, (.data 3 (List.map d_TPart v7.Parts) true none)), (904, (.data 2 (List.map d_TCell v7.Move.Cells) true none))]) eC Cl.fn (c_impl_copyAtlas h8) (Evs.cons eZ Evs.nil) (VDs.cons (VD.agg rfl) VDs.nil) (by simp [bindR, bindV, bindVs, bindC, bindCs]) rfl (fC (nS rfl (nS rfl nZ)) rfl (fC (nS rfl (nS rfl nZ)) rfl (fC (nS rfl (nS rfl nZ)) rfl fN))) ?_
    refine oVar (n := 512) (m := 9) rfl rfl (nS rfl (nS rfl (nS rfl (nS rfl nZ)))) ?_
    refine oStoreV (es := [(.d (.int .i64 v7.Epoch)), (.sl 897 0 v7.Parts.length), (.d (.int .i64 v7.Move.No)), (.d (.int .i64 v7.Move.Stage)), (.d (.int .i64 v7.Move.Lo)), (.d (.int .i64 v7.Move.Hi)), (.d (.int .i64 v7.Move.From)), (.d (.int .i64 v7.Move.To)), (.sl 904 0 v7.Move.Cells.length)]) eZ (eS rfl eZ) rfl rfl bZ rfl ?_
    refine xNil ?_
    refine TQ.qn ?_
    refine AW.seq ?_
    refine AW.seqJ (fun t9 : Bool => (impl_AtlasFrozen_j9 v7 a3) t9 = some r) (fun t9 => mk [(2, (.one (.d (.sl 2 (List.map d_TCell a3))))), (6, (.one (.ptr (.nm 384 0 0)))), (8, (.one (.ptr (.nm 512 0 0)))), (33, (.one (.d (.bool t9))))] [(384, (.vars 9 [(.d (.int .i64 0)), .zs, (.d (.int .i64 0)), (.d (.int .i64 0)), (.d (.int .i64 0)), (.d (.int .i64 0)), (.d (.int .i64 0)), (.d (.int .i64 0)), .zs])), (512, (.vars 9 [(.d (.int .i64 v7.Epoch)), (.sl 897 0 v7.Parts.length), (.d (.int .i64 v7.Move.No)), (.d (.int .i64 v7.Move.Stage)), (.d (.int .i64 v7.Move.Lo)), (.d (.int .i64 v7.Move.Hi)), (.d (.int .i64 v7.Move.From)), (.d (.int .i64 v7.Move.To)), (.sl 904 0 v7.Move.Cells.length)])), (897, (.data 3 (List.map d_TPart v7.Parts) true none)), (904, (.data 2 (List.map d_TCell v7.Move.Cells) true none))] noG) ?_ ?_
    · intro t9 H
      unfold impl_AtlasFrozen_j9 at H
      rcases oite H with ⟨h11, H⟩ | ⟨h11, H⟩
      · refine AW.condT (eS rfl (eS rfl (eS rfl eZ))) h11 ?_
        refine AW.seq ?_
        refine AW.regs ?_
        refine oLoadVA (es := [(.d (.int .i64 v7.Epoch)), (.sl 897 0 v7.Parts.length), (.d (.int .i64 v7.Move.No)), (.d (.int .i64 v7.Move.Stage)), (.d (.int .i64 v7.Move.Lo)), (.d (.int .i64 v7.Move.Hi)), (.d (.int .i64 v7.Move.From)), (.d (.int .i64 v7.Move.To)), (.sl 904 0 v7.Move.Cells.length)]) (eS rfl (eS rfl eZ)) (bS rfl bZ) rfl ?_
        refine oStoreV (es := [(.d (.int .i64 v7.Epoch)), (.sl 897 0 v7.Parts.length), (.d (.int .i64 v7.Move.No)), (.d (.int .i64 v7.Move.Stage)), (.d (.int .i64 v7.Move.Lo)), (.d (.int .i64 v7.Move.Hi)), (.d (.int .i64 v7.Move.From)), (.d (.int .i64 v7.Move.To)), (.sl 904 0 v7.Move.Cells.length)]) (eS rfl (eS rfl eZ)) eZ rfl rfl bZ rfl ?_
        refine oMov eC ?_
        refine xNil ?_
        refine TQ.qn ?_
        refine AW.ret ?_
        refine TQ.qr ?_
        obtain rfl := Option.some.inj H
        exact endsR (RL.cons (RV.cellA (es := [(.d (.int .i64 v7.Epoch)), (.sl 897 0 v7.Parts.length), (.d (.int .i64 v7.Move.No)), (.d (.int .i64 v7.Move.Stage)), (.d (.int .i64 v7.Move.Lo)), (.d (.int .i64 v7.Move.Hi)), (.d (.int .i64 v7.Move.From)), (.d (.int .i64 v7.Move.To)), (.sl 904 0 v7.Move.Cells.length)]) (eS rfl (eS rfl (eS rfl eZ))) bZ rfl) (VO.aggs (VOs.cons (VO.flat rfl) (VOs.cons (VO.sl (bS rfl (bS rfl (bS rfl bZ))) (List.length_map _) (allFlat fun _ => rfl)) (VOs.cons (VO.flat rfl) (VOs.cons (VO.flat rfl) (VOs.cons (VO.flat rfl) (VOs.cons (VO.flat rfl) (VOs.cons (VO.flat rfl) (VOs.cons (VO.flat rfl) (VOs.cons (VO.sl (bS rfl (bS rfl (bS rfl (bS rfl bZ)))) (List.length_map _) (allFlat fun _ => rfl)) VOs.nil)))))))))) (RL.cons (RV.tmp eZ) (VO.flat rfl) RL.nil)) (by decide)
      · refine AW.condF (eS rfl (eS rfl (eS rfl eZ))) (nt h11) ?_
        refine AW.skip ?_
        refine TQ.qn ?_
        refine AW.seq ?_
        refine AW.regs ?_
        refine oFaddrN (m := 2) (eS rfl (eS rfl eZ)) rfl ?_
        refine oFaddrN (m := 3) eZ rfl ?_
        refine oStoreV (es := [(.d (.int .i64 v7.Epoch)), (.sl 897 0 v7.Parts.length), (.d (.int .i64 v7.Move.No)), (.d (.int .i64 2)), (.d (.int .i64 v7.Move.Lo)), (.d (.int .i64 v7.Move.Hi)), (.d (.int .i64 v7.Move.From)), (.d (.int .i64 v7.Move.To)), (.sl 904 0 v7.Move.Cells.length)]) eZ eC rfl rfl (bS rfl bZ) rfl ?_
        refine xNil ?_
        refine TQ.qn ?_
        refine AW.seq ?_
        refine AW.regs ?_
        refine oMov (eS rfl (eS rfl eZ)) ?_
        obtain ⟨v12, h13, H⟩ := obind H
        refine oCallN (u := (.one (.sl 2432 0 v12.length))) (bs := [(2432, (.data 2 (List.map d_TCell v12) true none))]) eC Cl.fn (c_slices_Clone_Cell h13) (Evs.cons eZ Evs.nil) (VDs.cons VD.plain VDs.nil) (by simp [bindR, bindV, bindVs, bindC, bindCs]) rfl (fC (nS rfl (nS rfl (nS rfl (nS rfl (nS rfl nZ))))) rfl (fC (nS rfl (nS rfl (nS rfl (nS rfl (nS rfl nZ))))) rfl fN)) ?_
        refine oFaddrN (m := 2) (eS rfl (eS rfl (eS rfl (eS rfl (eS rfl (eS rfl eZ)))))) rfl ?_
        refine oFaddrN (m := 8) eZ rfl ?_
        refine oStoreV (es := [(.d (.int .i64 v7.Epoch)), (.sl 897 0 v7.Parts.length), (.d (.int .i64 v7.Move.No)), (.d (.int .i64 2)), (.d (.int .i64 v7.Move.Lo)), (.d (.int .i64 v7.Move.Hi)), (.d (.int .i64 v7.Move.From)), (.d (.int .i64 v7.Move.To)), (.sl 2432 0 v12.length)]) eZ (eS rfl (eS rfl eZ)) rfl rfl (bS rfl bZ) rfl ?_
        refine xNil ?_
        refine TQ.qn ?_
        refine AW.seq ?_
        refine AW.regs ?_
        refine oLoadVA (es := [(.d (.int .i64 v7.Epoch)), (.sl 897 0 v7.Parts.length), (.d (.int .i64 v7.Move.No)), (.d (.int .i64 2)), (.d (.int .i64 v7.Move.Lo)), (.d (.int .i64 v7.Move.Hi)), (.d (.int .i64 v7.Move.From)), (.d (.int .i64 v7.Move.To)), (.sl 2432 0 v12.length)]) (eS rfl (eS rfl (eS rfl (eS rfl (eS rfl (eS rfl (eS rfl (eS rfl eZ)))))))) bZ rfl ?_
        refine oStoreV (es := [(.d (.int .i64 v7.Epoch)), (.sl 897 0 v7.Parts.length), (.d (.int .i64 v7.Move.No)), (.d (.int .i64 2)), (.d (.int .i64 v7.Move.Lo)), (.d (.int .i64 v7.Move.Hi)), (.d (.int .i64 v7.Move.From)), (.d (.int .i64 v7.Move.To)), (.sl 2432 0 v12.length)]) (eS rfl (eS rfl (eS rfl (eS rfl (eS rfl (eS rfl (eS rfl (eS rfl eZ)))))))) eZ rfl rfl (bS rfl (bS rfl (bS rfl bZ))) rfl ?_
        refine oMov eC ?_
        refine xNil ?_
        refine TQ.qn ?_
        refine AW.ret ?_
        obtain rfl := Option.some.inj H
        exact endsR (RL.cons (RV.cellA (es := [(.d (.int .i64 v7.Epoch)), (.sl 897 0 v7.Parts.length), (.d (.int .i64 v7.Move.No)), (.d (.int .i64 2)), (.d (.int .i64 v7.Move.Lo)), (.d (.int .i64 v7.Move.Hi)), (.d (.int .i64 v7.Move.From)), (.d (.int .i64 v7.Move.To)), (.sl 2432 0 v12.length)]) (eS rfl (eS rfl (eS rfl (eS rfl (eS rfl (eS rfl (eS rfl (eS rfl (eS rfl eZ))))))))) bZ rfl) (VO.aggs (VOs.cons (VO.flat rfl) (VOs.cons (VO.sl (bS rfl (bS rfl (bS rfl (bS rfl (bS rfl (bS rfl bZ)))))) (List.length_map _) (allFlat fun _ => rfl)) (VOs.cons (VO.flat rfl) (VOs.cons (VO.flat rfl) (VOs.cons (VO.flat rfl) (VOs.cons (VO.flat rfl) (VOs.cons (VO.flat rfl) (VOs.cons (VO.flat rfl) (VOs.cons (VO.sl (bS rfl (bS rfl bZ)) (List.length_map _) (allFlat fun _ => rfl)) VOs.nil)))))))))) (RL.cons (RV.tmp eZ) (VO.flat rfl) RL.nil)) (by decide)
    · refine AW.regs ?_
      refine oFaddrN (m := 2) (eS rfl (eS rfl (eS rfl (eS rfl (eS rfl (eS rfl (eS rfl (eS rfl eZ)))))))) rfl ?_
      refine oFaddrN (m := 3) eZ rfl ?_
      refine oLoadV (q := 3) (c := (.d (.int .i64 a1.Move.Stage))) eZ (bS rfl (bS rfl (bS rfl (bS rfl (bS rfl bZ))))) rfl rfl ?_
      refine oNeq eZ eC ?_
      refine oMov eZ ?_
      rcases oite H with ⟨h14, H⟩ | ⟨h14, H⟩
      · refine gSkip eZ (decide_eq_true h14) rfl ?_
        refine gSkip (eS rfl eZ) (decide_eq_true h14) rfl ?_
        refine gSkip (eS rfl (eS rfl eZ)) (decide_eq_true h14) rfl ?_
        refine gSkip (eS rfl (eS rfl (eS rfl eZ))) (decide_eq_true h14) rfl ?_
        refine gSkip (eS rfl (eS rfl (eS rfl (eS rfl eZ)))) (decide_eq_true h14) rfl ?_
        refine oPickT (eS rfl (eS rfl (eS rfl (eS rfl (eS rfl eZ))))) (decide_eq_true h14) eC ?_
        refine oMov eZ ?_
        refine gSkip eZ rfl rfl ?_
        refine gSkip (eS rfl eZ) rfl rfl ?_
        refine gSkip (eS rfl (eS rfl eZ)) rfl rfl ?_
        refine gSkip (eS rfl (eS rfl (eS rfl eZ))) rfl rfl ?_
        refine gSkip (eS rfl (eS rfl (eS rfl (eS rfl eZ)))) rfl rfl ?_
        refine gSkip (eS rfl (eS rfl (eS rfl (eS rfl (eS rfl eZ))))) rfl rfl ?_
        refine oPickT (eS rfl (eS rfl (eS rfl (eS rfl (eS rfl (eS rfl eZ)))))) rfl eC ?_
        refine xNil ?_
        exact TQ.qn ⟨true, H, (wk_mk [192] (SL.cons (eS rfl (eS rfl (eS rfl (eS rfl (eS rfl (eS rfl (eS rfl (eS rfl (eS rfl (eS rfl (eS rfl (eS rfl (eS rfl (eS rfl (eS rfl (eS rfl (eS rfl (eS rfl (eS rfl (eS rfl (eS rfl (eS rfl (eS rfl (eS rfl (eS rfl (eS rfl (eS rfl (eS rfl (eS rfl (eS rfl eZ)))))))))))))))))))))))))))))) rfl VWk.rfl (SL.cons (eS rfl (eS rfl (eS rfl (eS rfl (eS rfl (eS rfl (eS rfl (eS rfl (eS rfl (eS rfl (eS rfl (eS rfl (eS rfl (eS rfl (eS rfl (eS rfl (eS rfl (eS rfl (eS rfl (eS rfl (eS rfl (eS rfl (eS rfl (eS rfl (eS rfl (eS rfl eZ)))))))))))))))))))))))))) rfl VWk.rfl (SL.cons (eS rfl (eS rfl (eS rfl (eS rfl (eS rfl (eS rfl (eS rfl (eS rfl (eS rfl (eS rfl (eS rfl (eS rfl (eS rfl (eS rfl (eS rfl (eS rfl (eS rfl (eS rfl (eS rfl eZ))))))))))))))))))) rfl VWk.rfl (SL.cons eZ rfl VWk.rfl SL.nil)))) (BL.keep rfl (BL.keep rfl (BL.keep rfl (BL.keep rfl (BL.keep rfl (BL.drop rfl BL.nil)))))) (BK.cons rfl (bS rfl (bS rfl (bS rfl (bS rfl bZ)))) rfl rfl (BK.cons rfl bZ rfl (by first | rfl | simp) (BK.cons rfl (bS rfl (bS rfl (bS rfl bZ))) rfl rfl (BK.cons rfl (bS rfl (bS rfl bZ)) rfl rfl BK.nil)))))⟩
      · refine gDo eZ (decide_eq_false h14) ?_
        refine oFaddrN (m := 2) (eS rfl (eS rfl (eS rfl (eS rfl (eS rfl (eS rfl (eS rfl (eS rfl (eS rfl (eS rfl (eS rfl (eS rfl (eS rfl eZ))))))))))))) rfl ?_
        refine gDo (eS rfl eZ) (decide_eq_false h14) ?_
        refine oLoadVA (es := [(.d (.int .i64 a1.Move.No)), (.d (.int .i64 a1.Move.Stage)), (.d (.int .i64 a1.Move.Lo)), (.d (.int .i64 a1.Move.Hi)), (.d (.int .i64 a1.Move.From)), (.d (.int .i64 a1.Move.To)), (.d (.sl 2 (List.map d_TCell a1.Move.Cells)))]) eZ (bS rfl (bS rfl (bS rfl (bS rfl (bS rfl bZ))))) rfl ?_
        refine gDo (eS rfl (eS rfl eZ)) (decide_eq_false h14) ?_
        obtain ⟨v15, h16, H⟩ := obind H
        refine oCall (u := (.one (.d (.int .i64 v15)))) eC Cl.fn (c_impl_MoveRank h16) (Evs.cons eZ Evs.nil) (VDs.cons (VD.agg rfl) VDs.nil) rfl ?_
        refine gDo (eS rfl (eS rfl (eS rfl eZ))) (decide_eq_false h14) ?_
        refine oMov (eS rfl (eS rfl (eS rfl (eS rfl (eS rfl (eS rfl (eS rfl (eS rfl (eS rfl (eS rfl (eS rfl (eS rfl (eS rfl (eS rfl (eS rfl (eS rfl (eS rfl (eS rfl eZ)))))))))))))))))) ?_
        refine gDo (eS rfl (eS rfl (eS rfl (eS rfl eZ)))) (decide_eq_false h14) ?_
        refine oNeq (eS rfl eZ) eZ ?_
        refine oPickF (eS rfl (eS rfl (eS rfl (eS rfl (eS rfl eZ))))) (decide_eq_false h14) eZ ?_
        refine oMov eZ ?_
        rcases oite H with ⟨h17, H⟩ | ⟨h17, H⟩
        · refine gSkip eZ (decide_eq_true h17) rfl ?_
          refine gSkip (eS rfl eZ) (decide_eq_true h17) rfl ?_
          refine gSkip (eS rfl (eS rfl eZ)) (decide_eq_true h17) rfl ?_
          refine gSkip (eS rfl (eS rfl (eS rfl eZ))) (decide_eq_true h17) rfl ?_
          refine gSkip (eS rfl (eS rfl (eS rfl (eS rfl eZ)))) (decide_eq_true h17) rfl ?_
          refine gSkip (eS rfl (eS rfl (eS rfl (eS rfl (eS rfl eZ))))) (decide_eq_true h17) rfl ?_
          refine oPickT (eS rfl (eS rfl (eS rfl (eS rfl (eS rfl (eS rfl eZ)))))) (decide_eq_true h17) eC ?_
          refine xNil ?_
          exact TQ.qn ⟨true, H, (wk_mk [192] (SL.cons (eS rfl (eS rfl (eS rfl (eS rfl (eS rfl (eS rfl (eS rfl (eS rfl (eS rfl (eS rfl (eS rfl (eS rfl (eS rfl (eS rfl (eS rfl (eS rfl (eS rfl (eS rfl (eS rfl (eS rfl (eS rfl (eS rfl (eS rfl (eS rfl (eS rfl (eS rfl (eS rfl (eS rfl (eS rfl (eS rfl eZ)))))))))))))))))))))))))))))) rfl VWk.rfl (SL.cons (eS rfl (eS rfl (eS rfl (eS rfl (eS rfl (eS rfl (eS rfl (eS rfl (eS rfl (eS rfl (eS rfl (eS rfl (eS rfl (eS rfl (eS rfl (eS rfl (eS rfl (eS rfl (eS rfl (eS rfl (eS rfl (eS rfl (eS rfl (eS rfl (eS rfl (eS rfl eZ)))))))))))))))))))))))))) rfl VWk.rfl (SL.cons (eS rfl (eS rfl (eS rfl (eS rfl (eS rfl (eS rfl (eS rfl (eS rfl (eS rfl (eS rfl (eS rfl (eS rfl (eS rfl (eS rfl (eS rfl (eS rfl (eS rfl (eS rfl (eS rfl eZ))))))))))))))))))) rfl VWk.rfl (SL.cons eZ rfl VWk.rfl SL.nil)))) (BL.keep rfl (BL.keep rfl (BL.keep rfl (BL.keep rfl (BL.keep rfl (BL.drop rfl BL.nil)))))) (BK.cons rfl (bS rfl (bS rfl (bS rfl (bS rfl bZ)))) rfl rfl (BK.cons rfl bZ rfl (by first | rfl | simp) (BK.cons rfl (bS rfl (bS rfl (bS rfl bZ))) rfl rfl (BK.cons rfl (bS rfl (bS rfl bZ)) rfl rfl BK.nil)))))⟩
        · refine gDo eZ (decide_eq_false h17) ?_
          refine oMov (eS rfl (eS rfl (eS rfl (eS rfl (eS rfl (eS rfl (eS rfl (eS rfl (eS rfl (eS rfl (eS rfl (eS rfl (eS rfl (eS rfl (eS rfl (eS rfl (eS rfl (eS rfl (eS rfl (eS rfl (eS rfl (eS rfl (eS rfl eZ))))))))))))))))))))))) ?_
          refine gDo (eS rfl eZ) (decide_eq_false h17) ?_
          refine oFaddrN (m := 2) (eS rfl (eS rfl (eS rfl (eS rfl (eS rfl (eS rfl (eS rfl (eS rfl (eS rfl (eS rfl (eS rfl (eS rfl (eS rfl (eS rfl (eS rfl (eS rfl (eS rfl (eS rfl (eS rfl (eS rfl (eS rfl eZ))))))))))))))))))))) rfl ?_
          refine gDo (eS rfl (eS rfl eZ)) (decide_eq_false h17) ?_
          refine oLoadVA (es := [(.d (.int .i64 a1.Move.No)), (.d (.int .i64 a1.Move.Stage)), (.d (.int .i64 a1.Move.Lo)), (.d (.int .i64 a1.Move.Hi)), (.d (.int .i64 a1.Move.From)), (.d (.int .i64 a1.Move.To)), (.d (.sl 2 (List.map d_TCell a1.Move.Cells)))]) eZ (bS rfl (bS rfl (bS rfl (bS rfl (bS rfl bZ))))) rfl ?_
          refine gDo (eS rfl (eS rfl (eS rfl eZ))) (decide_eq_false h17) ?_
          obtain ⟨v18, h19, H⟩ := obind H
          refine oCall (u := (.agg [(.d (.int .i64 v18.Lo)), (.d (.int .i64 v18.Hi))])) eC Cl.fn (c_impl_Move_keys h19) (Evs.cons eZ Evs.nil) (VDs.cons (VD.agg rfl) VDs.nil) rfl ?_
          refine gDo (eS rfl (eS rfl (eS rfl (eS rfl eZ)))) (decide_eq_false h17) ?_
          obtain ⟨v20, h21, H⟩ := obind H
          refine oCall (u := (.one (.d (.bool v20)))) eC Cl.fn (c_impl_cellsIn h21) (Evs.cons (eS rfl (eS rfl (eS rfl eZ))) (Evs.cons eZ Evs.nil)) (VDs.cons VD.plain (VDs.cons (VD.agg rfl) VDs.nil)) rfl ?_
          refine gDo (eS rfl (eS rfl (eS rfl (eS rfl (eS rfl eZ))))) (decide_eq_false h17) ?_
          refine oInv eZ ?_
          refine oPickF (eS rfl (eS rfl (eS rfl (eS rfl (eS rfl (eS rfl eZ)))))) (decide_eq_false h17) eZ ?_
          refine xNil ?_
          exact TQ.qn ⟨(!v20), H, (wk_mk [192] (SL.cons (eS rfl (eS rfl (eS rfl (eS rfl (eS rfl (eS rfl (eS rfl (eS rfl (eS rfl (eS rfl (eS rfl (eS rfl (eS rfl (eS rfl (eS rfl (eS rfl (eS rfl (eS rfl (eS rfl (eS rfl (eS rfl (eS rfl (eS rfl (eS rfl (eS rfl (eS rfl (eS rfl (eS rfl (eS rfl (eS rfl eZ)))))))))))))))))))))))))))))) rfl VWk.rfl (SL.cons (eS rfl (eS rfl (eS rfl (eS rfl (eS rfl (eS rfl (eS rfl (eS rfl (eS rfl (eS rfl (eS rfl (eS rfl (eS rfl (eS rfl (eS rfl (eS rfl (eS rfl (eS rfl (eS rfl (eS rfl (eS rfl (eS rfl (eS rfl (eS rfl (eS rfl (eS rfl eZ)))))))))))))))))))))))))) rfl VWk.rfl (SL.cons (eS rfl (eS rfl (eS rfl (eS rfl (eS rfl (eS rfl (eS rfl (eS rfl (eS rfl (eS rfl (eS rfl (eS rfl (eS rfl (eS rfl (eS rfl (eS rfl (eS rfl (eS rfl (eS rfl eZ))))))))))))))))))) rfl VWk.rfl (SL.cons eZ rfl VWk.rfl SL.nil)))) (BL.keep rfl (BL.keep rfl (BL.keep rfl (BL.keep rfl (BL.keep rfl (BL.drop rfl BL.nil)))))) (BK.cons rfl (bS rfl (bS rfl (bS rfl (bS rfl bZ)))) rfl rfl (BK.cons rfl bZ rfl (by first | rfl | simp) (BK.cons rfl (bS rfl (bS rfl (bS rfl bZ))) rfl rfl (BK.cons rfl (bS rfl (bS rfl bZ)) rfl rfl BK.nil)))))⟩
  · refine AW.condT eZ (congrArg Bool.not (nt h6)) ?_
    refine AW.seq ?_
    refine AW.regs ?_
    refine oBuild (cs := [(.d (.int .i64 0)), .zs, (.d (.int .i64 0)), (.d (.int .i64 0)), (.d (.int .i64 0)), (.d (.int .i64 0)), (.d (.int .i64 0)), (.d (.int .i64 0)), .zs]) PsNil rfl ?_
    refine oStoreV (es := [(.d (.int .i64 0)), .zs, (.d (.int .i64 0)), (.d (.int .i64 0)), (.d (.int .i64 0)), (.d (.int .i64 0)), (.d (.int .i64 0)), (.d (.int .i64 0)), .zs]) (eS rfl (eS rfl (eS rfl (eS rfl (eS rfl eZ))))) eZ rfl rfl bZ rfl ?_
    refine oMov eC ?_
    refine xNil ?_
    refine TQ.qn ?_
    refine AW.ret ?_
    refine TQ.qr ?_
    obtain rfl := Option.some.inj H
    exact endsR (RL.cons (RV.cellA (es := [(.d (.int .i64 0)), .zs, (.d (.int .i64 0)), (.d (.int .i64 0)), (.d (.int .i64 0)), (.d (.int .i64 0)), (.d (.int .i64 0)), (.d (.int .i64 0)), .zs]) (eS rfl (eS rfl (eS rfl (eS rfl (eS rfl (eS rfl eZ)))))) bZ rfl) (VO.aggs (VOs.cons (VO.flat rfl) (VOs.cons VO.zs (VOs.cons (VO.flat rfl) (VOs.cons (VO.flat rfl) (VOs.cons (VO.flat rfl) (VOs.cons (VO.flat rfl) (VOs.cons (VO.flat rfl) (VOs.cons (VO.flat rfl) (VOs.cons VO.zs VOs.nil)))))))))) (RL.cons (RV.tmp eZ) (VO.flat rfl) RL.nil)) List.nodup_nil

theorem c_laws_eqPart {a1 : TPart} {a2 : TPart} {r : Bool} (H : m_laws_eqPart a1 a2 = some r) : Fn Try.prog k_laws_eqPart (lent [(.agg (d_TPart a1)), (.agg (d_TPart a2))]) true [(.bool r)] := by
  refine i_laws_eqPart_fn (Nat.le_of_ble_eq_true rfl) ?_
  rw [init_mk]
  refine AW.weaken (wk_mk [] (SL.cons (v := (.agg [(.d (.int .i64 a1.Lo)), (.d (.int .i64 a1.Hi)), (.d (.int .i64 a1.Owner))])) eZ rfl VWk.rfl (SL.cons (v := (.agg [(.d (.int .i64 a2.Lo)), (.d (.int .i64 a2.Hi)), (.d (.int .i64 a2.Owner))])) (eS rfl eZ) rfl VWk.rfl SL.nil)) BL.nil BK.nil) ?_
  unfold m_laws_eqPart at H
  unfold i_laws_eqPart
  refine AW.seq ?_
  refine AW.regs ?_
  refine oBox (n := 128) (m := 3) (cs := [(.d (.int .i64 a1.Lo)), (.d (.int .i64 a1.Hi)), (.d (.int .i64 a1.Owner))]) rfl eZ rfl rfl nZ ?_
  refine oBox (n := 192) (m := 3) (cs := [(.d (.int .i64 a2.Lo)), (.d (.int .i64 a2.Hi)), (.d (.int .i64 a2.Owner))]) rfl (eS rfl (eS rfl eZ)) rfl rfl (nS rfl nZ) ?_
  refine oMov eC ?_
  refine xNil ?_
  refine TQ.qn ?_
  refine AW.seq ?_
  refine AW.seq ?_
  refine AW.regs ?_
  refine oFaddrN (m := 0) (eS rfl (eS rfl eZ)) rfl ?_
  refine oLoadV (q := 0) (c := (.d (.int .i64 a1.Lo))) eZ (bS rfl bZ) rfl rfl ?_
  refine oFaddrN (m := 0) (eS rfl (eS rfl (eS rfl eZ))) rfl ?_
  refine oLoadV (q := 0) (c := (.d (.int .i64 a2.Lo))) eZ bZ rfl rfl ?_
  refine oNeq (eS rfl (eS rfl eZ)) eZ ?_
  refine xNil ?_
  refine TQ.qn ?_
  rcases oite H with ⟨h3, H⟩ | ⟨h3, H⟩
  · refine AW.condT eZ (decide_eq_true h3) ?_
    refine AW.seq ?_
    refine AW.regs ?_
    refine oMov eC ?_
    refine xNil ?_
    refine TQ.qn ?_
    refine AW.ret ?_
    refine TQ.qr ?_
    obtain rfl := Option.some.inj H
    exact endsR (RL.cons (RV.tmp eZ) (VO.flat rfl) RL.nil) List.nodup_nil
  · refine AW.condF eZ (decide_eq_false h3) ?_
    refine AW.skip ?_
    refine TQ.qn ?_
    refine AW.seq ?_
    refine AW.seq ?_
    refine AW.regs ?_
    refine oFaddrN (m := 1) (eS rfl (eS rfl (eS rfl (eS rfl (eS rfl (eS rfl (eS rfl eZ))))))) rfl ?_
    refine oLoadV (q := 1) (c := (.d (.int .i64 a1.Hi))) eZ (bS rfl bZ) rfl rfl ?_
    refine oFaddrN (m := 1) (eS rfl (eS rfl (eS rfl (eS rfl (eS rfl (eS rfl (eS rfl (eS rfl eZ)))))))) rfl ?_
    refine oLoadV (q := 1) (c := (.d (.int .i64 a2.Hi))) eZ bZ rfl rfl ?_
    refine oNeq (eS rfl (eS rfl eZ)) eZ ?_
    refine xNil ?_
    refine TQ.qn ?_
    rcases oite H with ⟨h4, H⟩ | ⟨h4, H⟩
    · refine AW.condT eZ (decide_eq_true h4) ?_
      refine AW.seq ?_
      refine AW.regs ?_
      refine oMov eC ?_
      refine xNil ?_
      refine TQ.qn ?_
      refine AW.weaken (wk_mk [192, 128] (SL.cons (k := 4) eZ rfl VWk.rfl SL.nil) (BL.drop rfl (BL.drop rfl BL.nil)) BK.nil) ?_
      refine AW.ret ?_
      refine TQ.qr ?_
      obtain rfl := Option.some.inj H
      exact endsR (RL.cons (RV.tmp eZ) (VO.flat rfl) RL.nil) List.nodup_nil
    · refine AW.condF eZ (decide_eq_false h4) ?_
      refine AW.skip ?_
      refine TQ.qn ?_
      refine AW.seq ?_
      refine AW.seq ?_
      refine AW.regs ?_
      refine oFaddrN (m := 2) (eS rfl (eS rfl (eS rfl (eS rfl (eS rfl (eS rfl (eS rfl (eS rfl (eS rfl (eS rfl (eS rfl (eS rfl eZ)))))))))))) rfl ?_
      refine oLoadV (q := 2) (c := (.d (.int .i64 a1.Owner))) eZ (bS rfl bZ) rfl rfl ?_
      refine oFaddrN (m := 2) (eS rfl (eS rfl (eS rfl (eS rfl (eS rfl (eS rfl (eS rfl (eS rfl (eS rfl (eS rfl (eS rfl (eS rfl (eS rfl eZ))))))))))))) rfl ?_
      refine oLoadV (q := 2) (c := (.d (.int .i64 a2.Owner))) eZ bZ rfl rfl ?_
      refine oNeq (eS rfl (eS rfl eZ)) eZ ?_
      refine xNil ?_
      refine TQ.qn ?_
      refine AW.weaken (wk_mk [192, 128] (SL.cons (k := 19) eZ rfl VWk.rfl SL.nil) (BL.drop rfl (BL.drop rfl BL.nil)) BK.nil) ?_
      rcases oite H with ⟨h5, H⟩ | ⟨h5, H⟩
      · refine AW.condT eZ (decide_eq_true h5) ?_
        refine AW.seq ?_
        refine AW.regs ?_
        refine oMov eC ?_
        refine xNil ?_
        refine TQ.qn ?_
        refine AW.ret ?_
        refine TQ.qr ?_
        obtain rfl := Option.some.inj H
        exact endsR (RL.cons (RV.tmp eZ) (VO.flat rfl) RL.nil) List.nodup_nil
      · refine AW.condF eZ (decide_eq_false h5) ?_
        refine AW.skip ?_
        refine TQ.qn ?_
        refine AW.seq ?_
        refine AW.regs ?_
        refine oMov eC ?_
        refine xNil ?_
        refine TQ.qn ?_
        refine AW.ret ?_
        obtain rfl := Option.some.inj H
        exact endsR (RL.cons (RV.tmp eZ) (VO.flat rfl) RL.nil) List.nodup_nil

theorem c_laws_eqPartS {a1 : (List TPart)} {a2 : (List TPart)} {r : Bool} (H : m_laws_eqPartS a1 a2 = some r) : Fn Try.prog k_laws_eqPartS (lent [(.sl 3 (List.map d_TPart a1)), (.sl 3 (List.map d_TPart a2))]) true [(.bool r)] := by
  refine i_laws_eqPartS_fn (Nat.le_of_ble_eq_true rfl) ?_
  rw [init_mk]
  refine AW.weaken (wk_mk [] (SL.cons (v := (.one (.d (.sl 3 (List.map d_TPart a1))))) eZ rfl VWk.rfl (SL.cons (v := (.one (.d (.sl 3 (List.map d_TPart a2))))) (eS rfl eZ) rfl VWk.rfl SL.nil)) BL.nil BK.nil) ?_
  unfold m_laws_eqPartS at H
  unfold i_laws_eqPartS
  refine AW.seq ?_
  refine AW.regs ?_
  refine oMov eC ?_
  refine xNil ?_
  refine TQ.qn ?_
  refine AW.seq ?_
  refine AW.seq ?_
  refine AW.regs ?_
  refine oMov (eS rfl eZ) ?_
  refine oLenD eZ (n := a1.length) (List.length_map _) ?_
  refine oMov (eS rfl (eS rfl (eS rfl (eS rfl eZ)))) ?_
  refine oLenD eZ (n := a2.length) (List.length_map _) ?_
  refine oNeq (eS rfl (eS rfl eZ)) eZ ?_
  refine xNil ?_
  refine TQ.qn ?_
  rcases oite H with ⟨h3, H⟩ | ⟨h3, H⟩
  · refine AW.condT eZ (decide_eq_true h3) ?_
    refine AW.seq ?_
    refine AW.regs ?_
    refine oMov eC ?_
    refine xNil ?_
    refine TQ.qn ?_
    refine AW.ret ?_
    refine TQ.qr ?_
    obtain rfl := Option.some.inj H
    exact endsR (RL.cons (RV.tmp eZ) (VO.flat rfl) RL.nil) List.nodup_nil
  · refine AW.condF eZ (decide_eq_false h3) ?_
    refine AW.skip ?_
    refine TQ.qn ?_
    refine AW.seqJ (fun t4 : Unit => laws_eqPartS_j4 t4 = some r) (fun t4 => mk [] [] noG) ?_ ?_
    · intro t4 H
      unfold laws_eqPartS_j4 at H
      refine AW.seq ?_
      refine AW.regs ?_
      refine oMov eC ?_
      refine xNil ?_
      refine TQ.qn ?_
      refine AW.ret ?_
      obtain rfl := Option.some.inj H
      exact endsR (RL.cons (RV.tmp eZ) (VO.flat rfl) RL.nil) List.nodup_nil
    · refine AW.seq ?_
      refine AW.regs ?_
      refine oMov eC ?_
      refine xNil ?_
      refine TQ.qn ?_
      refine AW.block ?_
      refine AW.iter (fun s6 : Int => mk [(0, (.one (.d (.sl 3 (List.map d_TPart a1))))), (1, (.one (.d (.sl 3 (List.map d_TPart a2))))), (5, (.one (.d (.int .i64 s6))))] [] noG) H (wk_mk [] (SL.cons (eS rfl (eS rfl (eS rfl (eS rfl (eS rfl (eS rfl (eS rfl eZ))))))) rfl VWk.rfl (SL.cons (eS rfl (eS rfl (eS rfl (eS rfl (eS rfl (eS rfl (eS rfl (eS rfl eZ)))))))) rfl VWk.rfl (SL.cons eZ rfl VWk.rfl SL.nil))) BL.nil BK.nil) ?_
      intro kb7 s6 H
      unfold laws_eqPartS_b6 at H
      refine AW.seq ?_
      refine AW.seq ?_
      refine AW.regs ?_
      refine oMov (eS rfl (eS rfl eZ)) ?_
      refine oMov (eS rfl eZ) ?_
      refine oLenD eZ (n := a1.length) (List.length_map _) ?_
      refine oLss (eS rfl (eS rfl eZ)) eZ ?_
      refine xNil ?_
      refine TQ.qn ?_
      rcases oite H with ⟨h8, H⟩ | ⟨h8, H⟩
      · refine AW.condT eZ (decide_eq_true h8) ?_
        refine AW.skip ?_
        refine TQ.qn ?_
        refine AW.seq ?_
        refine AW.block ?_
        refine AW.seq ?_
        refine AW.regd ?_
        refine oMov (eS rfl (eS rfl (eS rfl (eS rfl eZ)))) ?_
        refine oMov (eS rfl (eS rfl (eS rfl (eS rfl (eS rfl (eS rfl (eS rfl eZ))))))) ?_
        obtain ⟨v9, h10, H⟩ := obind H
        refine oAtD (eS rfl eZ) eZ h10 ?_
        refine oLoadBA (es := [(.d (.int .i64 v9.Lo)), (.d (.int .i64 v9.Hi)), (.d (.int .i64 v9.Owner))]) eZ rfl ?_
        refine oMov (eS rfl (eS rfl (eS rfl (eS rfl (eS rfl (eS rfl (eS rfl (eS rfl (eS rfl eZ))))))))) ?_
        refine oMov (eS rfl (eS rfl (eS rfl (eS rfl (eS rfl (eS rfl (eS rfl (eS rfl (eS rfl (eS rfl (eS rfl eZ))))))))))) ?_
        obtain ⟨v11, h12, H⟩ := obind H
        refine oAtD (eS rfl eZ) eZ h12 ?_
        refine oLoadBA (es := [(.d (.int .i64 v11.Lo)), (.d (.int .i64 v11.Hi)), (.d (.int .i64 v11.Owner))]) eZ rfl ?_
        obtain ⟨v13, h14, H⟩ := obind H
        refine oCall (u := (.one (.d (.bool v13)))) eC Cl.fn (c_laws_eqPart h14) (Evs.cons (eS rfl (eS rfl (eS rfl (eS rfl eZ)))) (Evs.cons eZ Evs.nil)) (VDs.cons (VD.agg rfl) (VDs.cons (VD.agg rfl) VDs.nil)) rfl ?_
        refine oInv eZ ?_
        refine xNil ?_
        refine TQ.qn ?_
        refine AW.weaken (wk_mk [] (SL.cons (k := 26) eZ rfl VWk.rfl (SL.cons (k := 0) (eS rfl (eS rfl (eS rfl (eS rfl (eS rfl (eS rfl (eS rfl (eS rfl (eS rfl (eS rfl (eS rfl (eS rfl (eS rfl (eS rfl eZ)))))))))))))) rfl VWk.rfl (SL.cons (k := 1) (eS rfl (eS rfl (eS rfl (eS rfl (eS rfl (eS rfl (eS rfl (eS rfl (eS rfl (eS rfl (eS rfl (eS rfl (eS rfl (eS rfl (eS rfl eZ))))))))))))))) rfl VWk.rfl (SL.cons (k := 5) (eS rfl (eS rfl (eS rfl (eS rfl (eS rfl (eS rfl (eS rfl (eS rfl (eS rfl (eS rfl (eS rfl (eS rfl (eS rfl (eS rfl (eS rfl (eS rfl eZ)))))))))))))))) rfl VWk.rfl SL.nil)))) BL.nil BK.nil) ?_
        rcases oite H with ⟨h15, H⟩ | ⟨h15, H⟩
        · refine AW.condF eZ (congrArg Bool.not h15) ?_
          refine AW.skip ?_
          refine BQ.qn ?_
          refine TQ.qn ?_
          refine AW.regs ?_
          refine oMov (eS rfl (eS rfl (eS rfl eZ))) ?_
          refine oAdd eZ eC ?_
          refine oMov eZ ?_
          refine xNil ?_
          exact TQ.qn ⟨(IntKind.wrap .i64 (s6 + 1)), H, (wk_mk [] (SL.cons (eS rfl (eS rfl (eS rfl (eS rfl eZ)))) rfl VWk.rfl (SL.cons (eS rfl (eS rfl (eS rfl (eS rfl (eS rfl eZ))))) rfl VWk.rfl (SL.cons eZ rfl VWk.rfl SL.nil))) BL.nil BK.nil)⟩
        · refine AW.condT eZ (congrArg Bool.not (nt h15)) ?_
          refine AW.seq ?_
          refine AW.regs ?_
          refine oMov eC ?_
          refine xNil ?_
          refine TQ.qn ?_
          refine AW.ret ?_
          refine BQ.qr ?_
          refine TQ.qr ?_
          refine TQ.qr ?_
          refine BQ.qr ?_
          refine TQ.qr ?_
          obtain rfl := Option.some.inj H
          exact endsR (RL.cons (RV.tmp eZ) (VO.flat rfl) RL.nil) List.nodup_nil
      · refine AW.condF eZ (decide_eq_false h8) ?_
        refine AW.exit ?_
        refine TQ.qe ?_
        refine TQ.qe ?_
        refine BQ.qe ?_
        exact TQ.qn ⟨(), H, (wk_mk [] SL.nil BL.nil BK.nil)⟩

theorem c_laws_eqCell {a1 : TCell} {a2 : TCell} {r : Bool} (H : m_laws_eqCell a1 a2 = some r) : Fn Try.prog k_laws_eqCell (lent [(.agg (d_TCell a1)), (.agg (d_TCell a2))]) true [(.bool r)] := by
  refine i_laws_eqCell_fn (Nat.le_of_ble_eq_true rfl) ?_
  rw [init_mk]
  refine AW.weaken (wk_mk [] (SL.cons (v := (.agg [(.d (.int .i64 a1.Key)), (.d (.int .i64 a1.Value))])) eZ rfl VWk.rfl (SL.cons (v := (.agg [(.d (.int .i64 a2.Key)), (.d (.int .i64 a2.Value))])) (eS rfl eZ) rfl VWk.rfl SL.nil)) BL.nil BK.nil) ?_
  unfold m_laws_eqCell at H
  unfold i_laws_eqCell
  refine AW.seq ?_
  refine AW.regs ?_
  refine oBox (n := 128) (m := 2) (cs := [(.d (.int .i64 a1.Key)), (.d (.int .i64 a1.Value))]) rfl eZ rfl rfl nZ ?_
  refine oBox (n := 192) (m := 2) (cs := [(.d (.int .i64 a2.Key)), (.d (.int .i64 a2.Value))]) rfl (eS rfl (eS rfl eZ)) rfl rfl (nS rfl nZ) ?_
  refine oMov eC ?_
  refine xNil ?_
  refine TQ.qn ?_
  refine AW.seq ?_
  refine AW.seq ?_
  refine AW.regs ?_
  refine oFaddrN (m := 0) (eS rfl (eS rfl eZ)) rfl ?_
  refine oLoadV (q := 0) (c := (.d (.int .i64 a1.Key))) eZ (bS rfl bZ) rfl rfl ?_
  refine oFaddrN (m := 0) (eS rfl (eS rfl (eS rfl eZ))) rfl ?_
  refine oLoadV (q := 0) (c := (.d (.int .i64 a2.Key))) eZ bZ rfl rfl ?_
  refine oNeq (eS rfl (eS rfl eZ)) eZ ?_
  refine xNil ?_
  refine TQ.qn ?_
  rcases oite H with ⟨h3, H⟩ | ⟨h3, H⟩
  · refine AW.condT eZ (decide_eq_true h3) ?_
    refine AW.seq ?_
    refine AW.regs ?_
    refine oMov eC ?_
    refine xNil ?_
    refine TQ.qn ?_
    refine AW.ret ?_
    refine TQ.qr ?_
    obtain rfl := Option.some.inj H
    exact endsR (RL.cons (RV.tmp eZ) (VO.flat rfl) RL.nil) List.nodup_nil
  · refine AW.condF eZ (decide_eq_false h3) ?_
    refine AW.skip ?_
    refine TQ.qn ?_
    refine AW.seq ?_
    refine AW.seq ?_
    refine AW.regs ?_
    refine oFaddrN (m := 1) (eS rfl (eS rfl (eS rfl (eS rfl (eS rfl (eS rfl (eS rfl eZ))))))) rfl ?_
    refine oLoadV (q := 1) (c := (.d (.int .i64 a1.Value))) eZ (bS rfl bZ) rfl rfl ?_
    refine oFaddrN (m := 1) (eS rfl (eS rfl (eS rfl (eS rfl (eS rfl (eS rfl (eS rfl (eS rfl eZ)))))))) rfl ?_
    refine oLoadV (q := 1) (c := (.d (.int .i64 a2.Value))) eZ bZ rfl rfl ?_
    refine oNeq (eS rfl (eS rfl eZ)) eZ ?_
    refine xNil ?_
    refine TQ.qn ?_
    rcases oite H with ⟨h4, H⟩ | ⟨h4, H⟩
    · refine AW.condT eZ (decide_eq_true h4) ?_
      refine AW.seq ?_
      refine AW.regs ?_
      refine oMov eC ?_
      refine xNil ?_
      refine TQ.qn ?_
      refine AW.weaken (wk_mk [192, 128] (SL.cons (k := 4) eZ rfl VWk.rfl SL.nil) (BL.drop rfl (BL.drop rfl BL.nil)) BK.nil) ?_
      refine AW.ret ?_
      refine TQ.qr ?_
      obtain rfl := Option.some.inj H
      exact endsR (RL.cons (RV.tmp eZ) (VO.flat rfl) RL.nil) List.nodup_nil
    · refine AW.condF eZ (decide_eq_false h4) ?_
      refine AW.skip ?_
      refine TQ.qn ?_
      refine AW.seq ?_
      refine AW.regs ?_
      refine oMov eC ?_
      refine xNil ?_
      refine TQ.qn ?_
      refine AW.weaken (wk_mk [192, 128] (SL.cons (k := 4) eZ rfl VWk.rfl SL.nil) (BL.drop rfl (BL.drop rfl BL.nil)) BK.nil) ?_
      refine AW.ret ?_
      obtain rfl := Option.some.inj H
      exact endsR (RL.cons (RV.tmp eZ) (VO.flat rfl) RL.nil) List.nodup_nil

theorem c_laws_eqCellS {a1 : (List TCell)} {a2 : (List TCell)} {r : Bool} (H : m_laws_eqCellS a1 a2 = some r) : Fn Try.prog k_laws_eqCellS (lent [(.sl 2 (List.map d_TCell a1)), (.sl 2 (List.map d_TCell a2))]) true [(.bool r)] := by
  refine i_laws_eqCellS_fn (Nat.le_of_ble_eq_true rfl) ?_
  rw [init_mk]
  refine AW.weaken (wk_mk [] (SL.cons (v := (.one (.d (.sl 2 (List.map d_TCell a1))))) eZ rfl VWk.rfl (SL.cons (v := (.one (.d (.sl 2 (List.map d_TCell a2))))) (eS rfl eZ) rfl VWk.rfl SL.nil)) BL.nil BK.nil) ?_
  unfold m_laws_eqCellS at H
  unfold i_laws_eqCellS
  refine AW.seq ?_
  refine AW.regs ?_
  refine oMov eC ?_
  refine xNil ?_
  refine TQ.qn ?_
  refine AW.seq ?_
  refine AW.seq ?_
  refine AW.regs ?_
  refine oMov (eS rfl eZ) ?_
  refine oLenD eZ (n := a1.length) (List.length_map _) ?_
  refine oMov (eS rfl (eS rfl (eS rfl (eS rfl eZ)))) ?_
  refine oLenD eZ (n := a2.length) (List.length_map _) ?_
  refine oNeq (eS rfl (eS rfl eZ)) eZ ?_
  refine xNil ?_
  refine TQ.qn ?_
  rcases oite H with ⟨h3, H⟩ | ⟨h3, H⟩
  · refine AW.condT eZ (decide_eq_true h3) ?_
    refine AW.seq ?_
    refine AW.regs ?_
    refine oMov eC ?_
    refine xNil ?_
    refine TQ.qn ?_
    refine AW.ret ?_
    refine TQ.qr ?_
    obtain rfl := Option.some.inj H
    exact endsR (RL.cons (RV.tmp eZ) (VO.flat rfl) RL.nil) List.nodup_nil
  · refine AW.condF eZ (decide_eq_false h3) ?_
    refine AW.skip ?_
    refine TQ.qn ?_
    refine AW.seqJ (fun t4 : Unit => laws_eqCellS_j4 t4 = some r) (fun t4 => mk [] [] noG) ?_ ?_
    · intro t4 H
      unfold laws_eqCellS_j4 at H
      refine AW.seq ?_
      refine AW.regs ?_
      refine oMov eC ?_
      refine xNil ?_
      refine TQ.qn ?_
      refine AW.ret ?_
      obtain rfl := Option.some.inj H
      exact endsR (RL.cons (RV.tmp eZ) (VO.flat rfl) RL.nil) List.nodup_nil
    · refine AW.seq ?_
      refine AW.regs ?_
      refine oMov eC ?_
      refine xNil ?_
      refine TQ.qn ?_
      refine AW.block ?_
      refine AW.iter (fun s6 : Int => mk [(0, (.one (.d (.sl 2 (List.map d_TCell a1))))), (1, (.one (.d (.sl 2 (List.map d_TCell a2))))), (5, (.one (.d (.int .i64 s6))))] [] noG) H (wk_mk [] (SL.cons (eS rfl (eS rfl (eS rfl (eS rfl (eS rfl (eS rfl (eS rfl eZ))))))) rfl VWk.rfl (SL.cons (eS rfl (eS rfl (eS rfl (eS rfl (eS rfl (eS rfl (eS rfl (eS rfl eZ)))))))) rfl VWk.rfl (SL.cons eZ rfl VWk.rfl SL.nil))) BL.nil BK.nil) ?_
      intro kb7 s6 H
      unfold laws_eqCellS_b6 at H
      refine AW.seq ?_
      refine AW.seq ?_
      refine AW.regs ?_
      refine oMov (eS rfl (eS rfl eZ)) ?_
      refine oMov (eS rfl eZ) ?_
      refine oLenD eZ (n := a1.length) (List.length_map _) ?_
      refine oLss (eS rfl (eS rfl eZ)) eZ ?_
      refine xNil ?_
      refine TQ.qn ?_
      rcases oite H with ⟨h8, H⟩ | ⟨h8, H⟩
      · refine AW.condT eZ (decide_eq_true h8) ?_
        refine AW.skip ?_
        refine TQ.qn ?_
        refine AW.seq ?_
        refine AW.block ?_
        refine AW.seq ?_
        refine AW.regd ?_
        refine oMov (eS rfl (eS rfl (eS rfl (eS rfl eZ)))) ?_
        refine oMov (eS rfl (eS rfl (eS rfl (eS rfl (eS rfl (eS rfl (eS rfl eZ))))))) ?_
        obtain ⟨v9, h10, H⟩ := obind H
        refine oAtD (eS rfl eZ) eZ h10 ?_
        refine oLoadBA (es := [(.d (.int .i64 v9.Key)), (.d (.int .i64 v9.Value))]) eZ rfl ?_
        refine oMov (eS rfl (eS rfl (eS rfl (eS rfl (eS rfl (eS rfl (eS rfl (eS rfl (eS rfl eZ))))))))) ?_
        refine oMov (eS rfl (eS rfl (eS rfl (eS rfl (eS rfl (eS rfl (eS rfl (eS rfl (eS rfl (eS rfl (eS rfl eZ))))))))))) ?_
        obtain ⟨v11, h12, H⟩ := obind H
        refine oAtD (eS rfl eZ) eZ h12 ?_
        refine oLoadBA (es := [(.d (.int .i64 v11.Key)), (.d (.int .i64 v11.Value))]) eZ rfl ?_
        obtain ⟨v13, h14, H⟩ := obind H
        refine oCall (u := (.one (.d (.bool v13)))) eC Cl.fn (c_laws_eqCell h14) (Evs.cons (eS rfl (eS rfl (eS rfl (eS rfl eZ)))) (Evs.cons eZ Evs.nil)) (VDs.cons (VD.agg rfl) (VDs.cons (VD.agg rfl) VDs.nil)) rfl ?_
        refine oInv eZ ?_
        refine xNil ?_
        refine TQ.qn ?_
        refine AW.weaken (wk_mk [] (SL.cons (k := 26) eZ rfl VWk.rfl (SL.cons (k := 0) (eS rfl (eS rfl (eS rfl (eS rfl (eS rfl (eS rfl (eS rfl (eS rfl (eS rfl (eS rfl (eS rfl (eS rfl (eS rfl (eS rfl eZ)))))))))))))) rfl VWk.rfl (SL.cons (k := 1) (eS rfl (eS rfl (eS rfl (eS rfl (eS rfl (eS rfl (eS rfl (eS rfl (eS rfl (eS rfl (eS rfl (eS rfl (eS rfl (eS rfl (eS rfl eZ))))))))))))))) rfl VWk.rfl (SL.cons (k := 5) (eS rfl (eS rfl (eS rfl (eS rfl (eS rfl (eS rfl (eS rfl (eS rfl (eS rfl (eS rfl (eS rfl (eS rfl (eS rfl (eS rfl (eS rfl (eS rfl eZ)))))))))))))))) rfl VWk.rfl SL.nil)))) BL.nil BK.nil) ?_
        rcases oite H with ⟨h15, H⟩ | ⟨h15, H⟩
        · refine AW.condF eZ (congrArg Bool.not h15) ?_
          refine AW.skip ?_
          refine BQ.qn ?_
          refine TQ.qn ?_
          refine AW.regs ?_
          refine oMov (eS rfl (eS rfl (eS rfl eZ))) ?_
          refine oAdd eZ eC ?_
          refine oMov eZ ?_
          refine xNil ?_
          exact TQ.qn ⟨(IntKind.wrap .i64 (s6 + 1)), H, (wk_mk [] (SL.cons (eS rfl (eS rfl (eS rfl (eS rfl eZ)))) rfl VWk.rfl (SL.cons (eS rfl (eS rfl (eS rfl (eS rfl (eS rfl eZ))))) rfl VWk.rfl (SL.cons eZ rfl VWk.rfl SL.nil))) BL.nil BK.nil)⟩
        · refine AW.condT eZ (congrArg Bool.not (nt h15)) ?_
          refine AW.seq ?_
          refine AW.regs ?_
          refine oMov eC ?_
          refine xNil ?_
          refine TQ.qn ?_
          refine AW.ret ?_
          refine BQ.qr ?_
          refine TQ.qr ?_
          refine TQ.qr ?_
          refine BQ.qr ?_
          refine TQ.qr ?_
          obtain rfl := Option.some.inj H
          exact endsR (RL.cons (RV.tmp eZ) (VO.flat rfl) RL.nil) List.nodup_nil
      · refine AW.condF eZ (decide_eq_false h8) ?_
        refine AW.exit ?_
        refine TQ.qe ?_
        refine TQ.qe ?_
        refine BQ.qe ?_
        exact TQ.qn ⟨(), H, (wk_mk [] SL.nil BL.nil BK.nil)⟩

theorem c_laws_eqMove {a1 : TMove} {a2 : TMove} {r : Bool} (H : m_laws_eqMove a1 a2 = some r) : Fn Try.prog k_laws_eqMove (lent [(.agg (d_TMove a1)), (.agg (d_TMove a2))]) true [(.bool r)] := by
  refine i_laws_eqMove_fn (Nat.le_of_ble_eq_true rfl) ?_
  rw [init_mk]
  refine AW.weaken (wk_mk [] (SL.cons (v := (.agg [(.d (.int .i64 a1.No)), (.d (.int .i64 a1.Stage)), (.d (.int .i64 a1.Lo)), (.d (.int .i64 a1.Hi)), (.d (.int .i64 a1.From)), (.d (.int .i64 a1.To)), (.d (.sl 2 (List.map d_TCell a1.Cells)))])) eZ rfl VWk.rfl (SL.cons (v := (.agg [(.d (.int .i64 a2.No)), (.d (.int .i64 a2.Stage)), (.d (.int .i64 a2.Lo)), (.d (.int .i64 a2.Hi)), (.d (.int .i64 a2.From)), (.d (.int .i64 a2.To)), (.d (.sl 2 (List.map d_TCell a2.Cells)))])) (eS rfl eZ) rfl VWk.rfl SL.nil)) BL.nil BK.nil) ?_
  unfold m_laws_eqMove at H
  unfold i_laws_eqMove
  refine AW.seq ?_
  refine AW.regs ?_
  refine oBox (n := 128) (m := 7) (cs := [(.d (.int .i64 a1.No)), (.d (.int .i64 a1.Stage)), (.d (.int .i64 a1.Lo)), (.d (.int .i64 a1.Hi)), (.d (.int .i64 a1.From)), (.d (.int .i64 a1.To)), (.d (.sl 2 (List.map d_TCell a1.Cells)))]) rfl eZ rfl rfl nZ ?_
  refine oBox (n := 192) (m := 7) (cs := [(.d (.int .i64 a2.No)), (.d (.int .i64 a2.Stage)), (.d (.int .i64 a2.Lo)), (.d (.int .i64 a2.Hi)), (.d (.int .i64 a2.From)), (.d (.int .i64 a2.To)), (.d (.sl 2 (List.map d_TCell a2.Cells)))]) rfl (eS rfl (eS rfl eZ)) rfl rfl (nS rfl nZ) ?_
  refine oMov eC ?_
  refine xNil ?_
  refine TQ.qn ?_
  refine AW.seq ?_
  refine AW.seq ?_
  refine AW.regs ?_
  refine oFaddrN (m := 0) (eS rfl (eS rfl eZ)) rfl ?_
  refine oLoadV (q := 0) (c := (.d (.int .i64 a1.No))) eZ (bS rfl bZ) rfl rfl ?_
  refine oFaddrN (m := 0) (eS rfl (eS rfl (eS rfl eZ))) rfl ?_
  refine oLoadV (q := 0) (c := (.d (.int .i64 a2.No))) eZ bZ rfl rfl ?_
  refine oNeq (eS rfl (eS rfl eZ)) eZ ?_
  refine xNil ?_
  refine TQ.qn ?_
  rcases oite H with ⟨h3, H⟩ | ⟨h3, H⟩
  · refine AW.condT eZ (decide_eq_true h3) ?_
    refine AW.seq ?_
    refine AW.regs ?_
    refine oMov eC ?_
    refine xNil ?_
    refine TQ.qn ?_
    refine AW.ret ?_
    refine TQ.qr ?_
    obtain rfl := Option.some.inj H
    exact endsR (RL.cons (RV.tmp eZ) (VO.flat rfl) RL.nil) List.nodup_nil
  · refine AW.condF eZ (decide_eq_false h3) ?_
    refine AW.skip ?_
    refine TQ.qn ?_
    refine AW.seq ?_
    refine AW.seq ?_
    refine AW.regs ?_
    refine oFaddrN (m := 1) (eS rfl (eS rfl (eS rfl (eS rfl (eS rfl (eS rfl (eS rfl eZ))))))) rfl ?_
    refine oLoadV (q := 1) (c := (.d (.int .i64 a1.Stage))) eZ (bS rfl bZ) rfl rfl ?_
    refine oFaddrN (m := 1) (eS rfl (eS rfl (eS rfl (eS rfl (eS rfl (eS rfl (eS rfl (eS rfl eZ)))))))) rfl ?_
    refine oLoadV (q := 1) (c := (.d (.int .i64 a2.Stage))) eZ bZ rfl rfl ?_
    refine oNeq (eS rfl (eS rfl eZ)) eZ ?_
    refine xNil ?_
    refine TQ.qn ?_
    rcases oite H with ⟨h4, H⟩ | ⟨h4, H⟩
    · refine AW.condT eZ (decide_eq_true h4) ?_
      refine AW.seq ?_
      refine AW.regs ?_
      refine oMov eC ?_
      refine xNil ?_
      refine TQ.qn ?_
      refine AW.weaken (wk_mk [192, 128] (SL.cons (k := 4) eZ rfl VWk.rfl SL.nil) (BL.drop rfl (BL.drop rfl BL.nil)) BK.nil) ?_
      refine AW.ret ?_
      refine TQ.qr ?_
      obtain rfl := Option.some.inj H
      exact endsR (RL.cons (RV.tmp eZ) (VO.flat rfl) RL.nil) List.nodup_nil
    · refine AW.condF eZ (decide_eq_false h4) ?_
      refine AW.skip ?_
      refine TQ.qn ?_
      refine AW.seq ?_
      refine AW.seq ?_
      refine AW.regs ?_
      refine oFaddrN (m := 2) (eS rfl (eS rfl (eS rfl (eS rfl (eS rfl (eS rfl (eS rfl (eS rfl (eS rfl (eS rfl (eS rfl (eS rfl eZ)))))))))))) rfl ?_
      refine oLoadV (q := 2) (c := (.d (.int .i64 a1.Lo))) eZ (bS rfl bZ) rfl rfl ?_
      refine oFaddrN (m := 2) (eS rfl (eS rfl (eS rfl (eS rfl (eS rfl (eS rfl (eS rfl (eS rfl (eS rfl (eS rfl (eS rfl (eS rfl (eS rfl eZ))))))))))))) rfl ?_
      refine oLoadV (q := 2) (c := (.d (.int .i64 a2.Lo))) eZ bZ rfl rfl ?_
      refine oNeq (eS rfl (eS rfl eZ)) eZ ?_
      refine xNil ?_
      refine TQ.qn ?_
      refine AW.weaken (wk_mk [] (SL.cons (k := 19) eZ rfl VWk.rfl (SL.cons (k := 3) (eS rfl (eS rfl (eS rfl (eS rfl (eS rfl (eS rfl (eS rfl (eS rfl (eS rfl (eS rfl (eS rfl (eS rfl (eS rfl (eS rfl (eS rfl (eS rfl eZ)))))))))))))))) rfl VWk.rfl (SL.cons (k := 2) (eS rfl (eS rfl (eS rfl (eS rfl (eS rfl (eS rfl (eS rfl (eS rfl (eS rfl (eS rfl (eS rfl (eS rfl (eS rfl (eS rfl (eS rfl (eS rfl (eS rfl eZ))))))))))))))))) rfl VWk.rfl SL.nil))) (BL.keep rfl (BL.keep rfl BL.nil)) (BK.cons (n := 192) rfl bZ rfl rfl (BK.cons (n := 128) rfl (bS rfl bZ) rfl rfl BK.nil))) ?_
      rcases oite H with ⟨h5, H⟩ | ⟨h5, H⟩
      · refine AW.condT eZ (decide_eq_true h5) ?_
        refine AW.seq ?_
        refine AW.regs ?_
        refine oMov eC ?_
        refine xNil ?_
        refine TQ.qn ?_
        refine AW.ret ?_
        refine TQ.qr ?_
        obtain rfl := Option.some.inj H
        exact endsR (RL.cons (RV.tmp eZ) (VO.flat rfl) RL.nil) List.nodup_nil
      · refine AW.condF eZ (decide_eq_false h5) ?_
        refine AW.skip ?_
        refine TQ.qn ?_
        refine AW.seq ?_
        refine AW.seq ?_
        refine AW.regs ?_
        refine oFaddrN (m := 3) (eS rfl (eS rfl eZ)) rfl ?_
        refine oLoadV (q := 3) (c := (.d (.int .i64 a1.Hi))) eZ (bS rfl bZ) rfl rfl ?_
        refine oFaddrN (m := 3) (eS rfl (eS rfl (eS rfl eZ))) rfl ?_
        refine oLoadV (q := 3) (c := (.d (.int .i64 a2.Hi))) eZ bZ rfl rfl ?_
        refine oNeq (eS rfl (eS rfl eZ)) eZ ?_
        refine xNil ?_
        refine TQ.qn ?_
        rcases oite H with ⟨h6, H⟩ | ⟨h6, H⟩
        · refine AW.condT eZ (decide_eq_true h6) ?_
          refine AW.seq ?_
          refine AW.regs ?_
          refine oMov eC ?_
          refine xNil ?_
          refine TQ.qn ?_
          refine AW.ret ?_
          refine TQ.qr ?_
          obtain rfl := Option.some.inj H
          exact endsR (RL.cons (RV.tmp eZ) (VO.flat rfl) RL.nil) List.nodup_nil
        · refine AW.condF eZ (decide_eq_false h6) ?_
          refine AW.skip ?_
          refine TQ.qn ?_
          refine AW.seq ?_
          refine AW.seq ?_
          refine AW.regs ?_
          refine oFaddrN (m := 4) (eS rfl (eS rfl (eS rfl (eS rfl (eS rfl (eS rfl (eS rfl eZ))))))) rfl ?_
          refine oLoadV (q := 4) (c := (.d (.int .i64 a1.From))) eZ (bS rfl bZ) rfl rfl ?_
          refine oFaddrN (m := 4) (eS rfl (eS rfl (eS rfl (eS rfl (eS rfl (eS rfl (eS rfl (eS rfl eZ)))))))) rfl ?_
          refine oLoadV (q := 4) (c := (.d (.int .i64 a2.From))) eZ bZ rfl rfl ?_
          refine oNeq (eS rfl (eS rfl eZ)) eZ ?_
          refine xNil ?_
          refine TQ.qn ?_
          rcases oite H with ⟨h7, H⟩ | ⟨h7, H⟩
          · refine AW.condT eZ (decide_eq_true h7) ?_
            refine AW.seq ?_
            refine AW.regs ?_
            refine oMov eC ?_
            refine xNil ?_
            refine TQ.qn ?_
            refine AW.ret ?_
            refine TQ.qr ?_
            obtain rfl := Option.some.inj H
            exact endsR (RL.cons (RV.tmp eZ) (VO.flat rfl) RL.nil) List.nodup_nil
          · refine AW.condF eZ (decide_eq_false h7) ?_
            refine AW.skip ?_
            refine TQ.qn ?_
            refine AW.seq ?_
            refine AW.seq ?_
            refine AW.regs ?_
            refine oFaddrN (m := 5) (eS rfl (eS rfl (eS rfl (eS rfl (eS rfl (eS rfl (eS rfl (eS rfl (eS rfl (eS rfl (eS rfl (eS rfl eZ)))))))))))) rfl ?_
            refine oLoadV (q := 5) (c := (.d (.int .i64 a1.To))) eZ (bS rfl bZ) rfl rfl ?_
            refine oFaddrN (m := 5) (eS rfl (eS rfl (eS rfl (eS rfl (eS rfl (eS rfl (eS rfl (eS rfl (eS rfl (eS rfl (eS rfl (eS rfl (eS rfl eZ))))))))))))) rfl ?_
            refine oLoadV (q := 5) (c := (.d (.int .i64 a2.To))) eZ bZ rfl rfl ?_
            refine oNeq (eS rfl (eS rfl eZ)) eZ ?_
            refine xNil ?_
            refine TQ.qn ?_
            refine AW.weaken (wk_mk [] (SL.cons (k := 34) eZ rfl VWk.rfl (SL.cons (k := 3) (eS rfl (eS rfl (eS rfl (eS rfl (eS rfl (eS rfl (eS rfl (eS rfl (eS rfl (eS rfl (eS rfl (eS rfl (eS rfl (eS rfl (eS rfl (eS rfl eZ)))))))))))))))) rfl VWk.rfl (SL.cons (k := 2) (eS rfl (eS rfl (eS rfl (eS rfl (eS rfl (eS rfl (eS rfl (eS rfl (eS rfl (eS rfl (eS rfl (eS rfl (eS rfl (eS rfl (eS rfl (eS rfl (eS rfl eZ))))))))))))))))) rfl VWk.rfl SL.nil))) (BL.keep rfl (BL.keep rfl BL.nil)) (BK.cons (n := 192) rfl bZ rfl rfl (BK.cons (n := 128) rfl (bS rfl bZ) rfl rfl BK.nil))) ?_
            rcases oite H with ⟨h8, H⟩ | ⟨h8, H⟩
            · refine AW.condT eZ (decide_eq_true h8) ?_
              refine AW.seq ?_
              refine AW.regs ?_
              refine oMov eC ?_
              refine xNil ?_
              refine TQ.qn ?_
              refine AW.ret ?_
              refine TQ.qr ?_
              obtain rfl := Option.some.inj H
              exact endsR (RL.cons (RV.tmp eZ) (VO.flat rfl) RL.nil) List.nodup_nil
            · refine AW.condF eZ (decide_eq_false h8) ?_
              refine AW.skip ?_
              refine TQ.qn ?_
              refine AW.seq ?_
              refine AW.seq ?_
              refine AW.regs ?_
              refine oFaddrN (m := 6) (eS rfl (eS rfl eZ)) rfl ?_
              refine oLoadV (q := 6) (c := (.d (.sl 2 (List.map d_TCell a1.Cells)))) eZ (bS rfl bZ) rfl rfl ?_
              refine oFaddrN (m := 6) (eS rfl (eS rfl (eS rfl eZ))) rfl ?_
              refine oLoadV (q := 6) (c := (.d (.sl 2 (List.map d_TCell a2.Cells)))) eZ bZ rfl rfl ?_
              obtain ⟨v9, h10, H⟩ := obind H
              refine oCall (u := (.one (.d (.bool v9)))) eC Cl.fn (c_laws_eqCellS h10) (Evs.cons (eS rfl (eS rfl eZ)) (Evs.cons eZ Evs.nil)) (VDs.cons VD.plain (VDs.cons VD.plain VDs.nil)) rfl ?_
              refine oInv eZ ?_
              refine xNil ?_
              refine TQ.qn ?_
              rcases oite H with ⟨h11, H⟩ | ⟨h11, H⟩
              · refine AW.condF eZ (congrArg Bool.not h11) ?_
                refine AW.skip ?_
                refine TQ.qn ?_
                refine AW.seq ?_
                refine AW.regs ?_
                refine oMov eC ?_
                refine xNil ?_
                refine TQ.qn ?_
                refine AW.ret ?_
                obtain rfl := Option.some.inj H
                exact endsR (RL.cons (RV.tmp eZ) (VO.flat rfl) RL.nil) List.nodup_nil
              · refine AW.condT eZ (congrArg Bool.not (nt h11)) ?_
                refine AW.seq ?_
                refine AW.regs ?_
                refine oMov eC ?_
                refine xNil ?_
                refine TQ.qn ?_
                refine AW.ret ?_
                refine TQ.qr ?_
                obtain rfl := Option.some.inj H
                exact endsR (RL.cons (RV.tmp eZ) (VO.flat rfl) RL.nil) List.nodup_nil

theorem c_laws_eqAtlas {a1 : TAtlas} {a2 : TAtlas} {r : Bool} (H : m_laws_eqAtlas a1 a2 = some r) : Fn Try.prog k_laws_eqAtlas (lent [(.agg (d_TAtlas a1)), (.agg (d_TAtlas a2))]) true [(.bool r)] := by
  refine i_laws_eqAtlas_fn (Nat.le_of_ble_eq_true rfl) ?_
  rw [init_mk]
  refine AW.weaken (wk_mk [] (SL.cons (v := (.agg [(.d (.int .i64 a1.Epoch)), (.d (.sl 3 (List.map d_TPart a1.Parts))), (.d (.int .i64 a1.Move.No)), (.d (.int .i64 a1.Move.Stage)), (.d (.int .i64 a1.Move.Lo)), (.d (.int .i64 a1.Move.Hi)), (.d (.int .i64 a1.Move.From)), (.d (.int .i64 a1.Move.To)), (.d (.sl 2 (List.map d_TCell a1.Move.Cells)))])) eZ rfl VWk.rfl (SL.cons (v := (.agg [(.d (.int .i64 a2.Epoch)), (.d (.sl 3 (List.map d_TPart a2.Parts))), (.d (.int .i64 a2.Move.No)), (.d (.int .i64 a2.Move.Stage)), (.d (.int .i64 a2.Move.Lo)), (.d (.int .i64 a2.Move.Hi)), (.d (.int .i64 a2.Move.From)), (.d (.int .i64 a2.Move.To)), (.d (.sl 2 (List.map d_TCell a2.Move.Cells)))])) (eS rfl eZ) rfl VWk.rfl SL.nil)) BL.nil BK.nil) ?_
  unfold m_laws_eqAtlas at H
  unfold i_laws_eqAtlas
  refine AW.seq ?_
  refine AW.regs ?_
  refine oBox (n := 128) (m := 9) (cs := [(.d (.int .i64 a1.Epoch)), (.d (.sl 3 (List.map d_TPart a1.Parts))), (.d (.int .i64 a1.Move.No)), (.d (.int .i64 a1.Move.Stage)), (.d (.int .i64 a1.Move.Lo)), (.d (.int .i64 a1.Move.Hi)), (.d (.int .i64 a1.Move.From)), (.d (.int .i64 a1.Move.To)), (.d (.sl 2 (List.map d_TCell a1.Move.Cells)))]) rfl eZ rfl rfl nZ ?_
  refine oBox (n := 192) (m := 9) (cs := [(.d (.int .i64 a2.Epoch)), (.d (.sl 3 (List.map d_TPart a2.Parts))), (.d (.int .i64 a2.Move.No)), (.d (.int .i64 a2.Move.Stage)), (.d (.int .i64 a2.Move.Lo)), (.d (.int .i64 a2.Move.Hi)), (.d (.int .i64 a2.Move.From)), (.d (.int .i64 a2.Move.To)), (.d (.sl 2 (List.map d_TCell a2.Move.Cells)))]) rfl (eS rfl (eS rfl eZ)) rfl rfl (nS rfl nZ) ?_
  refine oMov eC ?_
  refine xNil ?_
  refine TQ.qn ?_
  refine AW.seq ?_
  refine AW.seq ?_
  refine AW.regs ?_
  refine oFaddrN (m := 0) (eS rfl (eS rfl eZ)) rfl ?_
  refine oLoadV (q := 0) (c := (.d (.int .i64 a1.Epoch))) eZ (bS rfl bZ) rfl rfl ?_
  refine oFaddrN (m := 0) (eS rfl (eS rfl (eS rfl eZ))) rfl ?_
  refine oLoadV (q := 0) (c := (.d (.int .i64 a2.Epoch))) eZ bZ rfl rfl ?_
  refine oNeq (eS rfl (eS rfl eZ)) eZ ?_
  refine xNil ?_
  refine TQ.qn ?_
  rcases oite H with ⟨h3, H⟩ | ⟨h3, H⟩
  · refine AW.condT eZ (decide_eq_true h3) ?_
    refine AW.seq ?_
    refine AW.regs ?_
    refine oMov eC ?_
    refine xNil ?_
    refine TQ.qn ?_
    refine AW.ret ?_
    refine TQ.qr ?_
    obtain rfl := Option.some.inj H
    exact endsR (RL.cons (RV.tmp eZ) (VO.flat rfl) RL.nil) List.nodup_nil
  · refine AW.condF eZ (decide_eq_false h3) ?_
    refine AW.skip ?_
    refine TQ.qn ?_
    refine AW.seq ?_
    refine AW.seq ?_
    refine AW.regs ?_
    refine oFaddrN (m := 1) (eS rfl (eS rfl (eS rfl (eS rfl (eS rfl (eS rfl (eS rfl eZ))))))) rfl ?_
    refine oLoadV (q := 1) (c := (.d (.sl 3 (List.map d_TPart a1.Parts)))) eZ (bS rfl bZ) rfl rfl ?_
    refine oFaddrN (m := 1) (eS rfl (eS rfl (eS rfl (eS rfl (eS rfl (eS rfl (eS rfl (eS rfl eZ)))))))) rfl ?_
    refine oLoadV (q := 1) (c := (.d (.sl 3 (List.map d_TPart a2.Parts)))) eZ bZ rfl rfl ?_
    obtain ⟨v4, h5, H⟩ := obind H
    refine oCall (u := (.one (.d (.bool v4)))) eC Cl.fn (c_laws_eqPartS h5) (Evs.cons (eS rfl (eS rfl eZ)) (Evs.cons eZ Evs.nil)) (VDs.cons VD.plain (VDs.cons VD.plain VDs.nil)) rfl ?_
    refine oInv eZ ?_
    refine xNil ?_
    refine TQ.qn ?_
    refine AW.weaken (wk_mk [] (SL.cons (k := 15) eZ rfl VWk.rfl (SL.cons (k := 3) (eS rfl (eS rfl (eS rfl (eS rfl (eS rfl (eS rfl (eS rfl (eS rfl (eS rfl (eS rfl (eS rfl (eS rfl eZ)))))))))))) rfl VWk.rfl (SL.cons (k := 2) (eS rfl (eS rfl (eS rfl (eS rfl (eS rfl (eS rfl (eS rfl (eS rfl (eS rfl (eS rfl (eS rfl (eS rfl (eS rfl eZ))))))))))))) rfl VWk.rfl SL.nil))) (BL.keep rfl (BL.keep rfl BL.nil)) (BK.cons (n := 192) rfl bZ rfl rfl (BK.cons (n := 128) rfl (bS rfl bZ) rfl rfl BK.nil))) ?_
    rcases oite H with ⟨h6, H⟩ | ⟨h6, H⟩
    · refine AW.condF eZ (congrArg Bool.not h6) ?_
      refine AW.skip ?_
      refine TQ.qn ?_
      refine AW.seq ?_
      refine AW.seq ?_
      refine AW.regs ?_
      refine oFaddrN (m := 2) (eS rfl (eS rfl eZ)) rfl ?_
      refine oLoadVA (es := [(.d (.int .i64 a1.Move.No)), (.d (.int .i64 a1.Move.Stage)), (.d (.int .i64 a1.Move.Lo)), (.d (.int .i64 a1.Move.Hi)), (.d (.int .i64 a1.Move.From)), (.d (.int .i64 a1.Move.To)), (.d (.sl 2 (List.map d_TCell a1.Move.Cells)))]) eZ (bS rfl bZ) rfl ?_
      refine oFaddrN (m := 2) (eS rfl (eS rfl (eS rfl eZ))) rfl ?_
      refine oLoadVA (es := [(.d (.int .i64 a2.Move.No)), (.d (.int .i64 a2.Move.Stage)), (.d (.int .i64 a2.Move.Lo)), (.d (.int .i64 a2.Move.Hi)), (.d (.int .i64 a2.Move.From)), (.d (.int .i64 a2.Move.To)), (.d (.sl 2 (List.map d_TCell a2.Move.Cells)))]) eZ bZ rfl ?_
      obtain ⟨v7, h8, H⟩ := obind H
      refine oCall (u := (.one (.d (.bool v7)))) eC Cl.fn (c_laws_eqMove h8) (Evs.cons (eS rfl (eS rfl eZ)) (Evs.cons eZ Evs.nil)) (VDs.cons (VD.agg rfl) (VDs.cons (VD.agg rfl) VDs.nil)) rfl ?_
      refine oInv eZ ?_
      refine xNil ?_
      refine TQ.qn ?_
      rcases oite H with ⟨h9, H⟩ | ⟨h9, H⟩
      · refine AW.condF eZ (congrArg Bool.not h9) ?_
        refine AW.skip ?_
        refine TQ.qn ?_
        refine AW.seq ?_
        refine AW.regs ?_
        refine oMov eC ?_
        refine xNil ?_
        refine TQ.qn ?_
        refine AW.ret ?_
        obtain rfl := Option.some.inj H
        exact endsR (RL.cons (RV.tmp eZ) (VO.flat rfl) RL.nil) List.nodup_nil
      · refine AW.condT eZ (congrArg Bool.not (nt h9)) ?_
        refine AW.seq ?_
        refine AW.regs ?_
        refine oMov eC ?_
        refine xNil ?_
        refine TQ.qn ?_
        refine AW.ret ?_
        refine TQ.qr ?_
        obtain rfl := Option.some.inj H
        exact endsR (RL.cons (RV.tmp eZ) (VO.flat rfl) RL.nil) List.nodup_nil
    · refine AW.condT eZ (congrArg Bool.not (nt h6)) ?_
      refine AW.seq ?_
      refine AW.regs ?_
      refine oMov eC ?_
      refine xNil ?_
      refine TQ.qn ?_
      refine AW.ret ?_
      refine TQ.qr ?_
      obtain rfl := Option.some.inj H
      exact endsR (RL.cons (RV.tmp eZ) (VO.flat rfl) RL.nil) List.nodup_nil

theorem c_laws_markPartS {a1 : (List TPart)} {a2 : Int} {r : (Int × (List TPart))} (H : m_laws_markPartS a1 a2 = some r) : Fn Try.prog k_laws_markPartS [⟨(.sl 3 (List.map d_TPart a1)), .m (.sl 3 (List.map d_TPart r.2))⟩, ⟨(.int .i64 a2), .b⟩] true [(.int .i64 r.1)] := by
  refine i_laws_markPartS_fnM (Nat.le_of_ble_eq_true rfl) (fC nZ rfl fN) rfl ?_
  rw [initM_mk]
  refine AW.weaken (t := mk [(0, (.one (.sl 0 0 a1.length))), (1, (.one (.d (.int .i64 a2))))] [(0, (.data 3 (List.map d_TPart a1) true none))] (lk [(0, (.one (.sl 0 0 ((List.map d_TPart a1).length))))])) (wk_mkG (gl := [(0, (.one (.sl 0 0 ((List.map d_TPart a1).length))))]) [] (SL.cons (v := (.one (.sl 0 0 a1.length))) eZ rfl (VWk.one (CWk.len (List.length_map _))) (SL.cons (v := (.one (.d (.int .i64 a2)))) (eS rfl eZ) rfl VWk.rfl SL.nil)) (BL.keep rfl BL.nil) (BK.cons (n := 0) rfl bZ rfl rfl BK.nil) (GK.cons rfl GK.nil)) ?_
  unfold m_laws_markPartS at H
  unfold i_laws_markPartS
  refine AW.seq ?_
  refine AW.regs ?_
  refine oMov eC ?_
  refine xNil ?_
  refine TQ.qn ?_
  refine AW.seqJ (fun t3 : ((List TPart) × Int) => (laws_markPartS_j3 a1) t3 = some r) (fun t3 => mk [(1, (.one (.d (.int .i64 t3.2))))] [(0, (.data 3 (List.map d_TPart t3.1) true none))] (lk [(0, (.one (.sl 0 0 ((List.map d_TPart a1).length))))])) ?_ ?_
  · intro t3 H
    unfold laws_markPartS_j3 at H
    refine AW.seq ?_
    refine AW.regs ?_
    refine oMov eZ ?_
    refine oMov eZ ?_
    refine xNil ?_
    refine TQ.qn ?_
    refine AW.ret ?_
    obtain ⟨h5, H⟩ := oguard H
    obtain rfl := Option.some.inj H
    exact endsRM (RL.cons (RV.tmp eZ) (VO.flat rfl) RL.nil) (ML.mut eZ (VO.sl bZ (by first | (simp; done) | (simp; omega) | omega) (allFlat fun _ => rfl)) (ML.lent ML.nil)) (by decide)
  · refine AW.seq ?_
    refine AW.regs ?_
    refine oMov eC ?_
    refine xNil ?_
    refine TQ.qn ?_
    refine AW.block ?_
    refine AW.iter (fun s6 : ((List TPart) × Int × Int) => mk [(0, (.one (.sl 0 0 s6.1.length))), (1, (.one (.d (.int .i64 s6.2.1)))), (5, (.one (.d (.int .i64 s6.2.2))))] [(0, (.data 3 (List.map d_TPart s6.1) true none))] (lk [(0, (.one (.sl 0 0 ((List.map d_TPart a1).length))))])) H (wk_mkG [] (SL.cons (eS rfl (eS rfl eZ)) rfl VWk.rfl (SL.cons (eS rfl (eS rfl (eS rfl eZ))) rfl VWk.rfl (SL.cons eZ rfl VWk.rfl SL.nil))) (BL.keep rfl BL.nil) (BK.cons rfl bZ rfl rfl BK.nil) (GK.cons rfl GK.nil)) ?_
    intro kb7 s6 H
    unfold laws_markPartS_b6 at H
    refine AW.seq ?_
    refine AW.seq ?_
    refine AW.regs ?_
    refine oMov (eS rfl (eS rfl eZ)) ?_
    refine oMov (eS rfl eZ) ?_
    refine oLenN eZ ?_
    refine oLss (eS rfl (eS rfl eZ)) eZ ?_
    refine xNil ?_
    refine TQ.qn ?_
    rcases oite H with ⟨h8, H⟩ | ⟨h8, H⟩
    · refine AW.condT eZ (decide_eq_true h8) ?_
      refine AW.skip ?_
      refine TQ.qn ?_
      refine AW.seq ?_
      refine AW.block ?_
      refine AW.seq ?_
      refine AW.regs ?_
      refine oMov (eS rfl (eS rfl (eS rfl (eS rfl eZ)))) ?_
      refine oMov (eS rfl (eS rfl (eS rfl (eS rfl (eS rfl (eS rfl (eS rfl eZ))))))) ?_
      refine oMov (eS rfl (eS rfl (eS rfl (eS rfl (eS rfl (eS rfl (eS rfl eZ))))))) ?_
      obtain ⟨v9, h10, H⟩ := obind H
      refine oAtN (eS rfl (eS rfl eZ)) (eS rfl eZ) bZ rfl h10 ?_
      refine oFaddrN (m := 0) eZ rfl ?_
      refine oStoreD (t := v9) (t' := (TPart.mk s6.2.1 v9.Hi v9.Owner)) (es := [(.int .i64 s6.2.1)]) eZ (eS rfl (eS rfl eZ)) rfl rfl bZ (idx_at h10) rfl rfl ?_
      refine xNil ?_
      refine TQ.qn ?_
      refine AW.seq ?_
      refine AW.regs ?_
      refine oMov (eS rfl (eS rfl (eS rfl (eS rfl (eS rfl (eS rfl (eS rfl (eS rfl (eS rfl (eS rfl eZ)))))))))) ?_
      refine oAdd eZ eC ?_
      refine oMov eZ ?_
      refine xNil ?_
      refine TQ.qn ?_
      refine AW.seq ?_
      refine AW.regs ?_
      refine oMov (eS rfl (eS rfl (eS rfl (eS rfl (eS rfl (eS rfl (eS rfl (eS rfl (eS rfl (eS rfl (eS rfl (eS rfl eZ)))))))))))) ?_
      refine oMov (eS rfl (eS rfl (eS rfl (eS rfl (eS rfl (eS rfl (eS rfl (eS rfl (eS rfl (eS rfl (eS rfl (eS rfl (eS rfl (eS rfl (eS rfl eZ))))))))))))))) ?_
      refine oMov (eS rfl (eS rfl eZ)) ?_
      obtain ⟨v11, h12, H⟩ := obind H
      refine oAtN (eS rfl (eS rfl eZ)) (eS rfl eZ) bZ (by first | (simp; done) | (simp; omega) | omega) h12 ?_
      refine oFaddrN (m := 1) eZ rfl ?_
      refine oStoreD (t := v11) (t' := (TPart.mk v11.Lo (IntKind.wrap .i64 (s6.2.1 + 1)) v11.Owner)) (es := [(.int .i64 (IntKind.wrap .i64 (s6.2.1 + 1)))]) eZ (eS rfl (eS rfl eZ)) rfl rfl bZ (idx_at h12) rfl rfl ?_
      refine xNil ?_
      refine TQ.qn ?_
      refine AW.weaken (wk_mkG [] (SL.cons (k := 1) (eS rfl (eS rfl (eS rfl (eS rfl (eS rfl eZ))))) rfl VWk.rfl (SL.cons (k := 0) (eS rfl (eS rfl (eS rfl (eS rfl (eS rfl (eS rfl (eS rfl (eS rfl (eS rfl (eS rfl (eS rfl (eS rfl (eS rfl (eS rfl (eS rfl (eS rfl (eS rfl eZ))))))))))))))))) rfl VWk.rfl (SL.cons (k := 5) (eS rfl (eS rfl (eS rfl (eS rfl (eS rfl (eS rfl (eS rfl (eS rfl (eS rfl (eS rfl (eS rfl (eS rfl (eS rfl (eS rfl (eS rfl (eS rfl (eS rfl (eS rfl (eS rfl eZ))))))))))))))))))) rfl VWk.rfl SL.nil))) (BL.keep rfl (BL.keep rfl (BL.keep rfl BL.nil))) (BK.cons (n := 0) rfl bZ rfl rfl BK.nil) (GK.cons rfl GK.nil)) ?_
      refine AW.seq ?_
      refine AW.regs ?_
      refine oMov eZ ?_
      refine oAdd eZ eC ?_
      refine oMov eZ ?_
      refine xNil ?_
      refine TQ.qn ?_
      refine AW.seq ?_
      refine AW.regs ?_
      refine oMov (eS rfl (eS rfl (eS rfl (eS rfl eZ)))) ?_
      refine oMov (eS rfl (eS rfl (eS rfl (eS rfl (eS rfl (eS rfl eZ)))))) ?_
      refine oMov (eS rfl (eS rfl eZ)) ?_
      obtain ⟨v13, h14, H⟩ := obind H
      refine oAtN (eS rfl (eS rfl eZ)) (eS rfl eZ) bZ (by first | (simp; done) | (simp; omega) | omega) h14 ?_
      refine oFaddrN (m := 2) eZ rfl ?_
      refine oStoreD (t := v13) (t' := (TPart.mk v13.Lo v13.Hi (IntKind.wrap .i64 ((IntKind.wrap .i64 (s6.2.1 + 1)) + 1)))) (es := [(.int .i64 (IntKind.wrap .i64 ((IntKind.wrap .i64 (s6.2.1 + 1)) + 1)))]) eZ (eS rfl (eS rfl eZ)) rfl rfl bZ (idx_at h14) rfl rfl ?_
      refine xNil ?_
      refine TQ.qn ?_
      refine AW.regs ?_
      refine oMov (eS rfl (eS rfl (eS rfl (eS rfl (eS rfl eZ))))) ?_
      refine oAdd eZ eC ?_
      refine oMov eZ ?_
      refine xNil ?_
      refine BQ.qn ?_
      refine TQ.qn ?_
      refine AW.regs ?_
      refine oMov (eS rfl (eS rfl (eS rfl (eS rfl (eS rfl (eS rfl (eS rfl (eS rfl (eS rfl (eS rfl (eS rfl (eS rfl (eS rfl eZ))))))))))))) ?_
      refine oAdd eZ eC ?_
      refine oMov eZ ?_
      refine xNil ?_
      exact TQ.qn ⟨(((s6.1.set (Int.toNat s6.2.2) (TPart.mk s6.2.1 v9.Hi v9.Owner)).set (Int.toNat s6.2.2) (TPart.mk v11.Lo (IntKind.wrap .i64 (s6.2.1 + 1)) v11.Owner)).set (Int.toNat s6.2.2) (TPart.mk v13.Lo v13.Hi (IntKind.wrap .i64 ((IntKind.wrap .i64 (s6.2.1 + 1)) + 1))), (IntKind.wrap .i64 ((IntKind.wrap .i64 ((IntKind.wrap .i64 (s6.2.1 + 1)) + 1)) + 1)), (IntKind.wrap .i64 (s6.2.2 + 1))), H, (wk_mkG [] (SL.cons (eS rfl (eS rfl (eS rfl (eS rfl (eS rfl (eS rfl (eS rfl (eS rfl (eS rfl (eS rfl (eS rfl (eS rfl (eS rfl (eS rfl (eS rfl eZ))))))))))))))) rfl (VWk.one (CWk.len (by first | (simp; done) | (simp; omega) | omega))) (SL.cons (eS rfl (eS rfl (eS rfl eZ))) rfl VWk.rfl (SL.cons eZ rfl VWk.rfl SL.nil))) (BL.keep rfl (BL.keep rfl BL.nil)) (BK.cons rfl bZ rfl rfl BK.nil) (GK.cons rfl GK.nil))⟩
    · refine AW.condF eZ (decide_eq_false h8) ?_
      refine AW.exit ?_
      refine TQ.qe ?_
      refine TQ.qe ?_
      refine BQ.qe ?_
      exact TQ.qn ⟨(s6.1, s6.2.1), H, (wk_mkG [] (SL.cons (eS rfl (eS rfl (eS rfl (eS rfl (eS rfl eZ))))) rfl VWk.rfl SL.nil) (BL.keep rfl BL.nil) (BK.cons rfl bZ rfl rfl BK.nil) (GK.cons rfl GK.nil))⟩

theorem c_laws_markCellS {a1 : (List TCell)} {a2 : Int} {r : (Int × (List TCell))} (H : m_laws_markCellS a1 a2 = some r) : Fn Try.prog k_laws_markCellS [⟨(.sl 2 (List.map d_TCell a1)), .m (.sl 2 (List.map d_TCell r.2))⟩, ⟨(.int .i64 a2), .b⟩] true [(.int .i64 r.1)] := by
  refine i_laws_markCellS_fnM (Nat.le_of_ble_eq_true rfl) (fC nZ rfl fN) rfl ?_
  rw [initM_mk]
  refine AW.weaken (t := mk [(0, (.one (.sl 0 0 a1.length))), (1, (.one (.d (.int .i64 a2))))] [(0, (.data 2 (List.map d_TCell a1) true none))] (lk [(0, (.one (.sl 0 0 ((List.map d_TCell a1).length))))])) (wk_mkG (gl := [(0, (.one (.sl 0 0 ((List.map d_TCell a1).length))))]) [] (SL.cons (v := (.one (.sl 0 0 a1.length))) eZ rfl (VWk.one (CWk.len (List.length_map _))) (SL.cons (v := (.one (.d (.int .i64 a2)))) (eS rfl eZ) rfl VWk.rfl SL.nil)) (BL.keep rfl BL.nil) (BK.cons (n := 0) rfl bZ rfl rfl BK.nil) (GK.cons rfl GK.nil)) ?_
  unfold m_laws_markCellS at H
  unfold i_laws_markCellS
  refine AW.seq ?_
  refine AW.regs ?_
  refine oMov eC ?_
  refine xNil ?_
  refine TQ.qn ?_
  refine AW.seqJ (fun t3 : ((List TCell) × Int) => (laws_markCellS_j3 a1) t3 = some r) (fun t3 => mk [(1, (.one (.d (.int .i64 t3.2))))] [(0, (.data 2 (List.map d_TCell t3.1) true none))] (lk [(0, (.one (.sl 0 0 ((List.map d_TCell a1).length))))])) ?_ ?_
  · intro t3 H
    unfold laws_markCellS_j3 at H
    refine AW.seq ?_
    refine AW.regs ?_
    refine oMov eZ ?_
    refine oMov eZ ?_
    refine xNil ?_
    refine TQ.qn ?_
    refine AW.ret ?_
    obtain ⟨h5, H⟩ := oguard H
    obtain rfl := Option.some.inj H
    exact endsRM (RL.cons (RV.tmp eZ) (VO.flat rfl) RL.nil) (ML.mut eZ (VO.sl bZ (by first | (simp; done) | (simp; omega) | omega) (allFlat fun _ => rfl)) (ML.lent ML.nil)) (by decide)
  · refine AW.seq ?_
    refine AW.regs ?_
    refine oMov eC ?_
    refine xNil ?_
    refine TQ.qn ?_
    refine AW.block ?_
    refine AW.iter (fun s6 : ((List TCell) × Int × Int) => mk [(0, (.one (.sl 0 0 s6.1.length))), (1, (.one (.d (.int .i64 s6.2.1)))), (5, (.one (.d (.int .i64 s6.2.2))))] [(0, (.data 2 (List.map d_TCell s6.1) true none))] (lk [(0, (.one (.sl 0 0 ((List.map d_TCell a1).length))))])) H (wk_mkG [] (SL.cons (eS rfl (eS rfl eZ)) rfl VWk.rfl (SL.cons (eS rfl (eS rfl (eS rfl eZ))) rfl VWk.rfl (SL.cons eZ rfl VWk.rfl SL.nil))) (BL.keep rfl BL.nil) (BK.cons rfl bZ rfl rfl BK.nil) (GK.cons rfl GK.nil)) ?_
    intro kb7 s6 H
    unfold laws_markCellS_b6 at H
    refine AW.seq ?_
    refine AW.seq ?_
    refine AW.regs ?_
    refine oMov (eS rfl (eS rfl eZ)) ?_
    refine oMov (eS rfl eZ) ?_
    refine oLenN eZ ?_
    refine oLss (eS rfl (eS rfl eZ)) eZ ?_
    refine xNil ?_
    refine TQ.qn ?_
    rcases oite H with ⟨h8, H⟩ | ⟨h8, H⟩
    · refine AW.condT eZ (decide_eq_true h8) ?_
      refine AW.skip ?_
      refine TQ.qn ?_
      refine AW.seq ?_
      refine AW.block ?_
      refine AW.seq ?_
      refine AW.regs ?_
      refine oMov (eS rfl (eS rfl (eS rfl (eS rfl eZ)))) ?_
      refine oMov (eS rfl (eS rfl (eS rfl (eS rfl (eS rfl (eS rfl (eS rfl eZ))))))) ?_
      refine oMov (eS rfl (eS rfl (eS rfl (eS rfl (eS rfl (eS rfl (eS rfl eZ))))))) ?_
      obtain ⟨v9, h10, H⟩ := obind H
      refine oAtN (eS rfl (eS rfl eZ)) (eS rfl eZ) bZ rfl h10 ?_
      refine oFaddrN (m := 0) eZ rfl ?_
      refine oStoreD (t := v9) (t' := (TCell.mk s6.2.1 v9.Value)) (es := [(.int .i64 s6.2.1)]) eZ (eS rfl (eS rfl eZ)) rfl rfl bZ (idx_at h10) rfl rfl ?_
      refine xNil ?_
      refine TQ.qn ?_
      refine AW.seq ?_
      refine AW.regs ?_
      refine oMov (eS rfl (eS rfl (eS rfl (eS rfl (eS rfl (eS rfl (eS rfl (eS rfl (eS rfl (eS rfl eZ)))))))))) ?_
      refine oAdd eZ eC ?_
      refine oMov eZ ?_
      refine xNil ?_
      refine TQ.qn ?_
      refine AW.seq ?_
      refine AW.regs ?_
      refine oMov (eS rfl (eS rfl (eS rfl (eS rfl (eS rfl (eS rfl (eS rfl (eS rfl (eS rfl (eS rfl (eS rfl (eS rfl eZ)))))))))))) ?_
      refine oMov (eS rfl (eS rfl (eS rfl (eS rfl (eS rfl (eS rfl (eS rfl (eS rfl (eS rfl (eS rfl (eS rfl (eS rfl (eS rfl (eS rfl (eS rfl eZ))))))))))))))) ?_
      refine oMov (eS rfl (eS rfl eZ)) ?_
      obtain ⟨v11, h12, H⟩ := obind H
      refine oAtN (eS rfl (eS rfl eZ)) (eS rfl eZ) bZ (by first | (simp; done) | (simp; omega) | omega) h12 ?_
      refine oFaddrN (m := 1) eZ rfl ?_
      refine oStoreD (t := v11) (t' := (TCell.mk v11.Key (IntKind.wrap .i64 (s6.2.1 + 1)))) (es := [(.int .i64 (IntKind.wrap .i64 (s6.2.1 + 1)))]) eZ (eS rfl (eS rfl eZ)) rfl rfl bZ (idx_at h12) rfl rfl ?_
      refine xNil ?_
      refine TQ.qn ?_
      refine AW.weaken (wk_mkG [] (SL.cons (k := 1) (eS rfl (eS rfl (eS rfl (eS rfl (eS rfl eZ))))) rfl VWk.rfl (SL.cons (k := 0) (eS rfl (eS rfl (eS rfl (eS rfl (eS rfl (eS rfl (eS rfl (eS rfl (eS rfl (eS rfl (eS rfl (eS rfl (eS rfl (eS rfl (eS rfl (eS rfl (eS rfl eZ))))))))))))))))) rfl VWk.rfl (SL.cons (k := 5) (eS rfl (eS rfl (eS rfl (eS rfl (eS rfl (eS rfl (eS rfl (eS rfl (eS rfl (eS rfl (eS rfl (eS rfl (eS rfl (eS rfl (eS rfl (eS rfl (eS rfl (eS rfl (eS rfl eZ))))))))))))))))))) rfl VWk.rfl SL.nil))) (BL.keep rfl (BL.keep rfl (BL.keep rfl BL.nil))) (BK.cons (n := 0) rfl bZ rfl rfl BK.nil) (GK.cons rfl GK.nil)) ?_
      refine AW.regs ?_
      refine oMov eZ ?_
      refine oAdd eZ eC ?_
      refine oMov eZ ?_
      refine xNil ?_
      refine BQ.qn ?_
      refine TQ.qn ?_
      refine AW.regs ?_
      refine oMov (eS rfl (eS rfl (eS rfl (eS rfl (eS rfl eZ))))) ?_
      refine oAdd eZ eC ?_
      refine oMov eZ ?_
      refine xNil ?_
      exact TQ.qn ⟨((s6.1.set (Int.toNat s6.2.2) (TCell.mk s6.2.1 v9.Value)).set (Int.toNat s6.2.2) (TCell.mk v11.Key (IntKind.wrap .i64 (s6.2.1 + 1))), (IntKind.wrap .i64 ((IntKind.wrap .i64 (s6.2.1 + 1)) + 1)), (IntKind.wrap .i64 (s6.2.2 + 1))), H, (wk_mkG [] (SL.cons (eS rfl (eS rfl (eS rfl (eS rfl (eS rfl (eS rfl (eS rfl eZ))))))) rfl (VWk.one (CWk.len (by first | (simp; done) | (simp; omega) | omega))) (SL.cons (eS rfl (eS rfl (eS rfl eZ))) rfl VWk.rfl (SL.cons eZ rfl VWk.rfl SL.nil))) (BL.keep rfl BL.nil) (BK.cons rfl bZ rfl rfl BK.nil) (GK.cons rfl GK.nil))⟩
    · refine AW.condF eZ (decide_eq_false h8) ?_
      refine AW.exit ?_
      refine TQ.qe ?_
      refine TQ.qe ?_
      refine BQ.qe ?_
      exact TQ.qn ⟨(s6.1, s6.2.1), H, (wk_mkG [] (SL.cons (eS rfl (eS rfl (eS rfl (eS rfl (eS rfl eZ))))) rfl VWk.rfl SL.nil) (BL.keep rfl BL.nil) (BK.cons rfl bZ rfl rfl BK.nil) (GK.cons rfl GK.nil))⟩

theorem c_laws_markMove {a1 : TMove} {a2 : Int} {r : (Int × TMove)} (H : m_laws_markMove a1 a2 = some r) : Fn Try.prog k_laws_markMove [⟨(.agg (d_TMove a1)), .m (.agg (d_TMove r.2))⟩, ⟨(.int .i64 a2), .b⟩] true [(.int .i64 r.1)] := by
  refine i_laws_markMove_fnM (Nat.le_of_ble_eq_true rfl) (fC nZ rfl fN) rfl ?_
  rw [initM_mk]
  refine AW.weaken (t := mk [(0, (.agg [(.d (.int .i64 a1.No)), (.d (.int .i64 a1.Stage)), (.d (.int .i64 a1.Lo)), (.d (.int .i64 a1.Hi)), (.d (.int .i64 a1.From)), (.d (.int .i64 a1.To)), (.sl 6 0 a1.Cells.length)])), (1, (.one (.d (.int .i64 a2))))] [(6, (.data 2 (List.map d_TCell a1.Cells) true none))] (lk [(0, (.agg [(.d (.int .i64 a1.No)), (.d (.int .i64 a1.Stage)), (.d (.int .i64 a1.Lo)), (.d (.int .i64 a1.Hi)), (.d (.int .i64 a1.From)), (.d (.int .i64 a1.To)), (.sl 6 0 ((List.map d_TCell a1.Cells).length))]))])) (wk_mkG (gl := [(0, (.agg [(.d (.int .i64 a1.No)), (.d (.int .i64 a1.Stage)), (.d (.int .i64 a1.Lo)), (.d (.int .i64 a1.Hi)), (.d (.int .i64 a1.From)), (.d (.int .i64 a1.To)), (.sl 6 0 ((List.map d_TCell a1.Cells).length))]))]) [] (SL.cons (v := (.agg [(.d (.int .i64 a1.No)), (.d (.int .i64 a1.Stage)), (.d (.int .i64 a1.Lo)), (.d (.int .i64 a1.Hi)), (.d (.int .i64 a1.From)), (.d (.int .i64 a1.To)), (.sl 6 0 a1.Cells.length)])) eZ rfl (VWk.agg (CsWk.cons CWk.rfl (CsWk.cons CWk.rfl (CsWk.cons CWk.rfl (CsWk.cons CWk.rfl (CsWk.cons CWk.rfl (CsWk.cons CWk.rfl (CsWk.cons (CWk.len (List.length_map _)) CsWk.nil)))))))) (SL.cons (v := (.one (.d (.int .i64 a2)))) (eS rfl eZ) rfl VWk.rfl SL.nil)) (BL.keep rfl BL.nil) (BK.cons (n := 6) rfl bZ rfl rfl BK.nil) (GK.cons rfl GK.nil)) ?_
  unfold m_laws_markMove at H
  unfold i_laws_markMove
  refine AW.seq ?_
  refine AW.regs ?_
  refine oBox (n := 128) (m := 7) (cs := [(.d (.int .i64 a1.No)), (.d (.int .i64 a1.Stage)), (.d (.int .i64 a1.Lo)), (.d (.int .i64 a1.Hi)), (.d (.int .i64 a1.From)), (.d (.int .i64 a1.To)), (.sl 6 0 a1.Cells.length)]) rfl eZ rfl rfl (nS rfl nZ) ?_
  refine oMov eC ?_
  refine xNil ?_
  refine TQ.qn ?_
  refine AW.seq ?_
  refine AW.regm ?_
  refine rmOne ?_
  refine oFaddrN (m := 6) (eS rfl eZ) rfl ?_
  refine xNil ?_
  refine rmOne ?_
  refine oLoadV (q := 6) (c := (.sl 6 0 a1.Cells.length)) eZ bZ rfl rfl ?_
  refine xNil ?_
  refine rmOne ?_
  refine oMov (eS rfl (eS rfl (eS rfl (eS rfl (eS rfl eZ))))) ?_
  refine xNil ?_
  obtain ⟨v3, h4, H⟩ := obind H
  obtain ⟨h5, H⟩ := oguard H
  refine rmCallI (ON := [6]) (ls := []) (G := []) (E := [subKey 6]) (MB := [(6, (.data 2 (List.map d_TCell v3.2) true none))]) (u := (.one (.d (.int .i64 v3.1)))) eC Cl.fn (c_laws_markCellS h4) (Evs.cons (eS rfl eZ) (Evs.cons eZ Evs.nil)) (AO.mut (VO.sl (bS rfl bZ) (List.length_map _) (allFlat fun _ => rfl)) (AO.lent VD.plain rfl AO.nil)) rfl rfl rfl (SZ.cons (bS rfl bZ) (allFlat fun _ => rfl) SZ.nil) (erL.cons (v' := (.one (.d (.int .i64 a2)))) rfl (erL.cons (v' := (.one (.sl 6 0 a1.Cells.length))) rfl (erL.cons (v' := (.one (.ptr (.nm 128 0 6)))) rfl (erL.cons (v' := (.one (.d (.int .i64 0)))) rfl (erL.cons (v' := (.one (.ptr (.nm 128 0 0)))) rfl (erL.cons (v' := (.agg [(.d (.int .i64 a1.No)), (.d (.int .i64 a1.Stage)), (.d (.int .i64 a1.Lo)), (.d (.int .i64 a1.Hi)), (.d (.int .i64 a1.From)), (.d (.int .i64 a1.To)), (.sl 6 0 a1.Cells.length)])) rfl (erL.cons (v' := (.one (.d (.int .i64 a2)))) rfl erL.nil))))))) (erH.cons (v' := (.vars 7 [(.d (.int .i64 a1.No)), (.d (.int .i64 a1.Stage)), (.d (.int .i64 a1.Lo)), (.d (.int .i64 a1.Hi)), (.d (.int .i64 a1.From)), (.d (.int .i64 a1.To)), (.sl 6 0 a1.Cells.length)])) rfl rfl (erH.cons (v' := (.data 2 (List.map d_TCell a1.Cells) true none)) rfl rfl erH.nil)) (erL.cons (v' := (.agg [(.d (.int .i64 a1.No)), (.d (.int .i64 a1.Stage)), (.d (.int .i64 a1.Lo)), (.d (.int .i64 a1.Hi)), (.d (.int .i64 a1.From)), (.d (.int .i64 a1.To)), (.sl 6 0 ((List.map d_TCell a1.Cells).length))])) rfl erL.nil) rfl rfl ?_
  refine rmRest ?_
  refine oMov eZ ?_
  refine xNil ?_
  refine TQ.qn ?_
  refine AW.seq ?_
  refine AW.regs ?_
  refine oMov eZ ?_
  refine oMov eZ ?_
  refine xNil ?_
  refine TQ.qn ?_
  refine AW.ret ?_
  obtain ⟨h6, H⟩ := oguard H
  obtain rfl := Option.some.inj H
  exact endsRM (RL.cons (RV.tmp eZ) (VO.flat rfl) RL.nil) (ML.mut eZ (VO.aggs (VOs.cons (VO.flat rfl) (VOs.cons (VO.flat rfl) (VOs.cons (VO.flat rfl) (VOs.cons (VO.flat rfl) (VOs.cons (VO.flat rfl) (VOs.cons (VO.flat rfl) (VOs.cons (VO.sl bZ (by first | (simp; done) | (simp; omega) | omega) (allFlat fun _ => rfl)) VOs.nil)))))))) (ML.lent ML.nil)) (by decide)

theorem c_laws_markAtlas {a1 : TAtlas} {a2 : Int} {r : (Int × TAtlas)} (H : m_laws_markAtlas a1 a2 = some r) : Fn Try.prog k_laws_markAtlas [⟨(.agg (d_TAtlas a1)), .m (.agg (d_TAtlas r.2))⟩, ⟨(.int .i64 a2), .b⟩] true [(.int .i64 r.1)] := by
  refine i_laws_markAtlas_fnM (Nat.le_of_ble_eq_true rfl) (fC nZ rfl (fC nZ rfl fN)) rfl ?_
  rw [initM_mk]
  refine AW.weaken (t := mk [(0, (.agg [(.d (.int .i64 a1.Epoch)), (.sl 1 0 a1.Parts.length), (.d (.int .i64 a1.Move.No)), (.d (.int .i64 a1.Move.Stage)), (.d (.int .i64 a1.Move.Lo)), (.d (.int .i64 a1.Move.Hi)), (.d (.int .i64 a1.Move.From)), (.d (.int .i64 a1.Move.To)), (.sl 8 0 a1.Move.Cells.length)])), (1, (.one (.d (.int .i64 a2))))] [(8, (.data 2 (List.map d_TCell a1.Move.Cells) true none)), (1, (.data 3 (List.map d_TPart a1.Parts) true none))] (lk [(0, (.agg [(.d (.int .i64 a1.Epoch)), (.sl 1 0 ((List.map d_TPart a1.Parts).length)), (.d (.int .i64 a1.Move.No)), (.d (.int .i64 a1.Move.Stage)), (.d (.int .i64 a1.Move.Lo)), (.d (.int .i64 a1.Move.Hi)), (.d (.int .i64 a1.Move.From)), (.d (.int .i64 a1.Move.To)), (.sl 8 0 ((List.map d_TCell a1.Move.Cells).length))]))])) (wk_mkG (gl := [(0, (.agg [(.d (.int .i64 a1.Epoch)), (.sl 1 0 ((List.map d_TPart a1.Parts).length)), (.d (.int .i64 a1.Move.No)), (.d (.int .i64 a1.Move.Stage)), (.d (.int .i64 a1.Move.Lo)), (.d (.int .i64 a1.Move.Hi)), (.d (.int .i64 a1.Move.From)), (.d (.int .i64 a1.Move.To)), (.sl 8 0 ((List.map d_TCell a1.Move.Cells).length))]))]) [] (SL.cons (v := (.agg [(.d (.int .i64 a1.Epoch)), (.sl 1 0 a1.Parts.length), (.d (.int .i64 a1.Move.No)), (.d (.int .i64 a1.Move.Stage)), (.d (.int .i64 a1.Move.Lo)), (.d (.int .i64 a1.Move.Hi)), (.d (.int .i64 a1.Move.From)), (.d (.int .i64 a1.Move.To)), (.sl 8 0 a1.Move.Cells.length)])) eZ rfl (VWk.agg (CsWk.cons CWk.rfl (CsWk.cons (CWk.len (List.length_map _)) (CsWk.cons CWk.rfl (CsWk.cons CWk.rfl (CsWk.cons CWk.rfl (CsWk.cons CWk.rfl (CsWk.cons CWk.rfl (CsWk.cons CWk.rfl (CsWk.cons (CWk.len (List.length_map _)) CsWk.nil)))))))))) (SL.cons (v := (.one (.d (.int .i64 a2)))) (eS rfl eZ) rfl VWk.rfl SL.nil)) (BL.keep rfl (BL.keep rfl BL.nil)) (BK.cons (n := 8) rfl bZ rfl rfl (BK.cons (n := 1) rfl (bS rfl bZ) rfl rfl BK.nil)) (GK.cons rfl GK.nil)) ?_
  unfold m_laws_markAtlas at H
  unfold i_laws_markAtlas
  refine AW.seq ?_
  refine AW.regs ?_
  refine oBox (n := 128) (m := 9) (cs := [(.d (.int .i64 a1.Epoch)), (.sl 1 0 a1.Parts.length), (.d (.int .i64 a1.Move.No)), (.d (.int .i64 a1.Move.Stage)), (.d (.int .i64 a1.Move.Lo)), (.d (.int .i64 a1.Move.Hi)), (.d (.int .i64 a1.Move.From)), (.d (.int .i64 a1.Move.To)), (.sl 8 0 a1.Move.Cells.length)]) rfl eZ rfl rfl (nS rfl (nS rfl nZ)) ?_
  refine oMov eC ?_
  refine xNil ?_
  refine TQ.qn ?_
  refine AW.seq ?_
  refine AW.regm ?_
  refine rmOne ?_
  refine oFaddrN (m := 1) (eS rfl eZ) rfl ?_
  refine xNil ?_
  refine rmOne ?_
  refine oLoadV (q := 1) (c := (.sl 1 0 a1.Parts.length)) eZ bZ rfl rfl ?_
  refine xNil ?_
  refine rmOne ?_
  refine oMov (eS rfl (eS rfl (eS rfl (eS rfl (eS rfl eZ))))) ?_
  refine xNil ?_
  obtain ⟨v3, h4, H⟩ := obind H
  obtain ⟨h5, H⟩ := oguard H
  refine rmCallI (ON := [1]) (ls := []) (G := []) (E := [subKey 1]) (MB := [(1, (.data 3 (List.map d_TPart v3.2) true none))]) (u := (.one (.d (.int .i64 v3.1)))) eC Cl.fn (c_laws_markPartS h4) (Evs.cons (eS rfl eZ) (Evs.cons eZ Evs.nil)) (AO.mut (VO.sl (bS rfl (bS rfl bZ)) (List.length_map _) (allFlat fun _ => rfl)) (AO.lent VD.plain rfl AO.nil)) rfl rfl rfl (SZ.cons (bS rfl (bS rfl bZ)) (allFlat fun _ => rfl) SZ.nil) (erL.cons (v' := (.one (.d (.int .i64 a2)))) rfl (erL.cons (v' := (.one (.sl 1 0 a1.Parts.length))) rfl (erL.cons (v' := (.one (.ptr (.nm 128 0 1)))) rfl (erL.cons (v' := (.one (.d (.int .i64 0)))) rfl (erL.cons (v' := (.one (.ptr (.nm 128 0 0)))) rfl (erL.cons (v' := (.agg [(.d (.int .i64 a1.Epoch)), (.sl 1 0 a1.Parts.length), (.d (.int .i64 a1.Move.No)), (.d (.int .i64 a1.Move.Stage)), (.d (.int .i64 a1.Move.Lo)), (.d (.int .i64 a1.Move.Hi)), (.d (.int .i64 a1.Move.From)), (.d (.int .i64 a1.Move.To)), (.sl 8 0 a1.Move.Cells.length)])) rfl (erL.cons (v' := (.one (.d (.int .i64 a2)))) rfl erL.nil))))))) (erH.cons (v' := (.vars 9 [(.d (.int .i64 a1.Epoch)), (.sl 1 0 a1.Parts.length), (.d (.int .i64 a1.Move.No)), (.d (.int .i64 a1.Move.Stage)), (.d (.int .i64 a1.Move.Lo)), (.d (.int .i64 a1.Move.Hi)), (.d (.int .i64 a1.Move.From)), (.d (.int .i64 a1.Move.To)), (.sl 8 0 a1.Move.Cells.length)])) rfl rfl (erH.cons (v' := (.data 2 (List.map d_TCell a1.Move.Cells) true none)) rfl rfl (erH.cons (v' := (.data 3 (List.map d_TPart a1.Parts) true none)) rfl rfl erH.nil))) (erL.cons (v' := (.agg [(.d (.int .i64 a1.Epoch)), (.sl 1 0 ((List.map d_TPart a1.Parts).length)), (.d (.int .i64 a1.Move.No)), (.d (.int .i64 a1.Move.Stage)), (.d (.int .i64 a1.Move.Lo)), (.d (.int .i64 a1.Move.Hi)), (.d (.int .i64 a1.Move.From)), (.d (.int .i64 a1.Move.To)), (.sl 8 0 ((List.map d_TCell a1.Move.Cells).length))])) rfl erL.nil) rfl rfl ?_
  refine rmRest ?_
  refine oMov eZ ?_
  refine xNil ?_
  refine TQ.qn ?_
  refine AW.seq ?_
  refine AW.regm ?_
  refine rmOne ?_
  refine oFaddrN (m := 2) (eS rfl (eS rfl (eS rfl (eS rfl (eS rfl (eS rfl eZ)))))) rfl ?_
  refine xNil ?_
  refine rmOne ?_
  refine oLoadVA (es := [(.d (.int .i64 a1.Move.No)), (.d (.int .i64 a1.Move.Stage)), (.d (.int .i64 a1.Move.Lo)), (.d (.int .i64 a1.Move.Hi)), (.d (.int .i64 a1.Move.From)), (.d (.int .i64 a1.Move.To)), (.sl 8 0 a1.Move.Cells.length)]) eZ (bS rfl bZ) rfl ?_
  refine xNil ?_
  refine rmOne ?_
  refine oMov (eS rfl (eS rfl eZ)) ?_
  refine xNil ?_
  obtain ⟨v6, h7, H⟩ := obind H
  obtain ⟨h8, H⟩ := oguard H
  refine rmCallI (ON := [8]) (ls := []) (G := []) (E := [subKey 8]) (MB := [(8, (.data 2 (List.map d_TCell v6.2.Cells) true none))]) (u := (.one (.d (.int .i64 v6.1)))) eC Cl.fn (c_laws_markMove h7) (Evs.cons (eS rfl eZ) (Evs.cons eZ Evs.nil)) (AO.mut (VO.aggs (VOs.cons (VO.flat rfl) (VOs.cons (VO.flat rfl) (VOs.cons (VO.flat rfl) (VOs.cons (VO.flat rfl) (VOs.cons (VO.flat rfl) (VOs.cons (VO.flat rfl) (VOs.cons (VO.sl (bS rfl (bS rfl bZ)) (List.length_map _) (allFlat fun _ => rfl)) VOs.nil)))))))) (AO.lent VD.plain rfl AO.nil)) rfl rfl rfl (SZ.cons (bS rfl (bS rfl bZ)) (allFlat fun _ => rfl) SZ.nil) (erL.cons (v' := (.one (.d (.int .i64 v3.1)))) rfl (erL.cons (v' := (.agg [(.d (.int .i64 a1.Move.No)), (.d (.int .i64 a1.Move.Stage)), (.d (.int .i64 a1.Move.Lo)), (.d (.int .i64 a1.Move.Hi)), (.d (.int .i64 a1.Move.From)), (.d (.int .i64 a1.Move.To)), (.sl 8 0 a1.Move.Cells.length)])) rfl (erL.cons (v' := (.one (.ptr (.nm 128 0 2)))) rfl (erL.cons (v' := (.one (.d (.int .i64 v3.1)))) rfl (erL.cons (v' := (.one (.d (.int .i64 v3.1)))) rfl (erL.cons (v' := (.one (.d (.int .i64 a2)))) rfl (erL.cons (v' := (.one (.sl 1 0 a1.Parts.length))) rfl (erL.cons (v' := (.one (.ptr (.nm 128 0 1)))) rfl (erL.cons (v' := (.one (.d (.int .i64 0)))) rfl (erL.cons (v' := (.one (.ptr (.nm 128 0 0)))) rfl (erL.cons (v' := (.agg [(.d (.int .i64 a1.Epoch)), (.sl 1 0 a1.Parts.length), (.d (.int .i64 a1.Move.No)), (.d (.int .i64 a1.Move.Stage)), (.d (.int .i64 a1.Move.Lo)), (.d (.int .i64 a1.Move.Hi)), (.d (.int .i64 a1.Move.From)), (.d (.int .i64 a1.Move.To)), (.sl 8 0 a1.Move.Cells.length)])) rfl (erL.cons (v' := (.one (.d (.int .i64 a2)))) rfl erL.nil)))))))))))) (erH.cons (v' := (.data 3 (List.map d_TPart v3.2) true none)) rfl rfl (erH.cons (v' := (.vars 9 [(.d (.int .i64 a1.Epoch)), (.sl 1 0 a1.Parts.length), (.d (.int .i64 a1.Move.No)), (.d (.int .i64 a1.Move.Stage)), (.d (.int .i64 a1.Move.Lo)), (.d (.int .i64 a1.Move.Hi)), (.d (.int .i64 a1.Move.From)), (.d (.int .i64 a1.Move.To)), (.sl 8 0 a1.Move.Cells.length)])) rfl rfl (erH.cons (v' := (.data 2 (List.map d_TCell a1.Move.Cells) true none)) rfl rfl (erH.cons (v' := (.data 3 (List.map d_TPart a1.Parts) true none)) rfl rfl erH.nil)))) (erL.cons (v' := (.agg [(.d (.int .i64 a1.Epoch)), (.sl 1 0 ((List.map d_TPart a1.Parts).length)), (.d (.int .i64 a1.Move.No)), (.d (.int .i64 a1.Move.Stage)), (.d (.int .i64 a1.Move.Lo)), (.d (.int .i64 a1.Move.Hi)), (.d (.int .i64 a1.Move.From)), (.d (.int .i64 a1.Move.To)), (.sl 8 0 ((List.map d_TCell a1.Move.Cells).length))])) rfl erL.nil) rfl rfl ?_
  refine rmRest ?_
  refine oMov eZ ?_
  refine xNil ?_
  refine TQ.qn ?_
  refine AW.seq ?_
  refine AW.regs ?_
  refine oMov eZ ?_
  refine oMov eZ ?_
  refine xNil ?_
  refine TQ.qn ?_
  refine AW.weaken (wk_mkG [128] (SL.cons (k := 4) eZ rfl VWk.rfl SL.nil) (BL.keep rfl (BL.keep rfl (BL.drop rfl (BL.keep rfl (BL.keep rfl BL.nil))))) (BK.cons (n := 8) rfl bZ rfl rfl (BK.cons (n := 1) rfl (bS rfl bZ) rfl rfl BK.nil)) (GK.cons rfl GK.nil)) ?_
  refine AW.ret ?_
  obtain ⟨h9, H⟩ := oguard H
  obtain ⟨h10, H⟩ := oguard H
  obtain rfl := Option.some.inj H
  exact endsRM (RL.cons (RV.tmp eZ) (VO.flat rfl) RL.nil) (ML.mut eZ (VO.aggs (VOs.cons (VO.flat rfl) (VOs.cons (VO.sl (bS rfl bZ) (by first | (simp; done) | (simp; omega) | omega) (allFlat fun _ => rfl)) (VOs.cons (VO.flat rfl) (VOs.cons (VO.flat rfl) (VOs.cons (VO.flat rfl) (VOs.cons (VO.flat rfl) (VOs.cons (VO.flat rfl) (VOs.cons (VO.flat rfl) (VOs.cons (VO.sl bZ (by first | (simp; done) | (simp; omega) | omega) (allFlat fun _ => rfl)) VOs.nil)))))))))) (ML.lent ML.nil)) (by decide)

theorem c_laws_heldPartS {a1 : (List TPart)} {a2 : Int} {r : Int} (H : m_laws_heldPartS a1 a2 = some r) : Fn Try.prog k_laws_heldPartS (lent [(.sl 3 (List.map d_TPart a1)), (.int .i64 a2)]) true [(.int .i64 r)] := by
  refine i_laws_heldPartS_fn (Nat.le_of_ble_eq_true rfl) ?_
  rw [init_mk]
  refine AW.weaken (wk_mk [] (SL.cons (v := (.one (.d (.sl 3 (List.map d_TPart a1))))) eZ rfl VWk.rfl (SL.cons (v := (.one (.d (.int .i64 a2)))) (eS rfl eZ) rfl VWk.rfl SL.nil)) BL.nil BK.nil) ?_
  unfold m_laws_heldPartS at H
  unfold i_laws_heldPartS
  refine AW.seq ?_
  refine AW.regs ?_
  refine oMov eC ?_
  refine xNil ?_
  refine TQ.qn ?_
  refine AW.seqJ (fun t3 : Int => laws_heldPartS_j3 t3 = some r) (fun t3 => mk [(1, (.one (.d (.int .i64 t3))))] [] noG) ?_ ?_
  · intro t3 H
    unfold laws_heldPartS_j3 at H
    refine AW.seq ?_
    refine AW.regs ?_
    refine oMov eZ ?_
    refine oMov eZ ?_
    refine xNil ?_
    refine TQ.qn ?_
    refine AW.ret ?_
    obtain rfl := Option.some.inj H
    exact endsR (RL.cons (RV.tmp eZ) (VO.flat rfl) RL.nil) List.nodup_nil
  · refine AW.seq ?_
    refine AW.regs ?_
    refine oMov eC ?_
    refine xNil ?_
    refine TQ.qn ?_
    refine AW.block ?_
    refine AW.iter (fun s5 : (Int × Int) => mk [(0, (.one (.d (.sl 3 (List.map d_TPart a1))))), (1, (.one (.d (.int .i64 s5.1)))), (5, (.one (.d (.int .i64 s5.2))))] [] noG) H (wk_mk [] (SL.cons (eS rfl (eS rfl eZ)) rfl VWk.rfl (SL.cons (eS rfl (eS rfl (eS rfl eZ))) rfl VWk.rfl (SL.cons eZ rfl VWk.rfl SL.nil))) BL.nil BK.nil) ?_
    intro kb6 s5 H
    unfold laws_heldPartS_b5 at H
    refine AW.seq ?_
    refine AW.seq ?_
    refine AW.regs ?_
    refine oMov (eS rfl (eS rfl eZ)) ?_
    refine oMov (eS rfl eZ) ?_
    refine oLenD eZ (n := a1.length) (List.length_map _) ?_
    refine oLss (eS rfl (eS rfl eZ)) eZ ?_
    refine xNil ?_
    refine TQ.qn ?_
    rcases oite H with ⟨h7, H⟩ | ⟨h7, H⟩
    · refine AW.condT eZ (decide_eq_true h7) ?_
      refine AW.skip ?_
      refine TQ.qn ?_
      refine AW.seq ?_
      refine AW.block ?_
      refine AW.seq ?_
      refine AW.seq ?_
      refine AW.regs ?_
      refine oMov (eS rfl (eS rfl (eS rfl (eS rfl eZ)))) ?_
      refine oMov (eS rfl (eS rfl (eS rfl (eS rfl (eS rfl (eS rfl (eS rfl eZ))))))) ?_
      obtain ⟨v8, h9, H⟩ := obind H
      refine oAtD (eS rfl eZ) eZ h9 ?_
      refine oFaddrB (m := 0) eZ rfl ?_
      refine oLoadB (e := (.int .i64 v8.Lo)) eZ rfl ?_
      refine oMov (eS rfl (eS rfl (eS rfl (eS rfl (eS rfl (eS rfl (eS rfl (eS rfl (eS rfl (eS rfl eZ)))))))))) ?_
      refine oNeq (eS rfl eZ) eZ ?_
      refine xNil ?_
      refine TQ.qn ?_
      rcases oite H with ⟨h10, H⟩ | ⟨h10, H⟩
      · refine AW.condT eZ (decide_eq_true h10) ?_
        refine AW.seq ?_
        refine AW.regs ?_
        refine oMov eC ?_
        refine xNil ?_
        refine TQ.qn ?_
        refine AW.ret ?_
        refine TQ.qr ?_
        refine BQ.qr ?_
        refine TQ.qr ?_
        refine TQ.qr ?_
        refine BQ.qr ?_
        refine TQ.qr ?_
        obtain rfl := Option.some.inj H
        exact endsR (RL.cons (RV.tmp eZ) (VO.flat rfl) RL.nil) List.nodup_nil
      · refine AW.condF eZ (decide_eq_false h10) ?_
        refine AW.skip ?_
        refine TQ.qn ?_
        refine AW.seq ?_
        refine AW.regs ?_
        refine oMov (eS rfl (eS rfl (eS rfl (eS rfl (eS rfl (eS rfl (eS rfl (eS rfl (eS rfl (eS rfl (eS rfl (eS rfl eZ)))))))))))) ?_
        refine oAdd eZ eC ?_
        refine oMov eZ ?_
        refine xNil ?_
        refine TQ.qn ?_
        refine AW.weaken (wk_mk [] (SL.cons (k := 1) eZ rfl VWk.rfl (SL.cons (k := 0) (eS rfl (eS rfl (eS rfl (eS rfl (eS rfl (eS rfl (eS rfl (eS rfl (eS rfl (eS rfl (eS rfl (eS rfl (eS rfl (eS rfl eZ)))))))))))))) rfl VWk.rfl (SL.cons (k := 5) (eS rfl (eS rfl (eS rfl (eS rfl (eS rfl (eS rfl (eS rfl (eS rfl (eS rfl (eS rfl (eS rfl (eS rfl (eS rfl (eS rfl (eS rfl (eS rfl eZ)))))))))))))))) rfl VWk.rfl SL.nil))) BL.nil BK.nil) ?_
        refine AW.seq ?_
        refine AW.seq ?_
        refine AW.regs ?_
        refine oMov (eS rfl eZ) ?_
        refine oMov (eS rfl (eS rfl (eS rfl eZ))) ?_
        obtain ⟨v11, h12, H⟩ := obind H
        refine oAtD (eS rfl eZ) eZ h12 ?_
        refine oFaddrB (m := 1) eZ rfl ?_
        refine oLoadB (e := (.int .i64 v11.Hi)) eZ rfl ?_
        refine oMov (eS rfl (eS rfl (eS rfl (eS rfl (eS rfl eZ))))) ?_
        refine oNeq (eS rfl eZ) eZ ?_
        refine xNil ?_
        refine TQ.qn ?_
        rcases oite H with ⟨h13, H⟩ | ⟨h13, H⟩
        · refine AW.condT eZ (decide_eq_true h13) ?_
          refine AW.seq ?_
          refine AW.regs ?_
          refine oMov eC ?_
          refine xNil ?_
          refine TQ.qn ?_
          refine AW.ret ?_
          refine TQ.qr ?_
          refine BQ.qr ?_
          refine TQ.qr ?_
          refine TQ.qr ?_
          refine BQ.qr ?_
          refine TQ.qr ?_
          obtain rfl := Option.some.inj H
          exact endsR (RL.cons (RV.tmp eZ) (VO.flat rfl) RL.nil) List.nodup_nil
        · refine AW.condF eZ (decide_eq_false h13) ?_
          refine AW.skip ?_
          refine TQ.qn ?_
          refine AW.seq ?_
          refine AW.regs ?_
          refine oMov (eS rfl (eS rfl (eS rfl (eS rfl (eS rfl (eS rfl (eS rfl eZ))))))) ?_
          refine oAdd eZ eC ?_
          refine oMov eZ ?_
          refine xNil ?_
          refine TQ.qn ?_
          refine AW.seq ?_
          refine AW.seq ?_
          refine AW.regs ?_
          refine oMov (eS rfl (eS rfl (eS rfl (eS rfl (eS rfl (eS rfl (eS rfl (eS rfl (eS rfl (eS rfl (eS rfl eZ))))))))))) ?_
          refine oMov (eS rfl (eS rfl (eS rfl (eS rfl (eS rfl (eS rfl (eS rfl (eS rfl (eS rfl (eS rfl (eS rfl (eS rfl (eS rfl eZ))))))))))))) ?_
          obtain ⟨v14, h15, H⟩ := obind H
          refine oAtD (eS rfl eZ) eZ h15 ?_
          refine oFaddrB (m := 2) eZ rfl ?_
          refine oLoadB (e := (.int .i64 v14.Owner)) eZ rfl ?_
          refine oMov (eS rfl (eS rfl (eS rfl (eS rfl (eS rfl eZ))))) ?_
          refine oNeq (eS rfl eZ) eZ ?_
          refine xNil ?_
          refine TQ.qn ?_
          refine AW.weaken (wk_mk [] (SL.cons (k := 36) eZ rfl VWk.rfl (SL.cons (k := 1) (eS rfl (eS rfl (eS rfl (eS rfl (eS rfl (eS rfl (eS rfl eZ))))))) rfl VWk.rfl (SL.cons (k := 0) (eS rfl (eS rfl (eS rfl (eS rfl (eS rfl (eS rfl (eS rfl (eS rfl (eS rfl (eS rfl (eS rfl (eS rfl (eS rfl (eS rfl (eS rfl (eS rfl (eS rfl (eS rfl eZ)))))))))))))))))) rfl VWk.rfl (SL.cons (k := 5) (eS rfl (eS rfl (eS rfl (eS rfl (eS rfl (eS rfl (eS rfl (eS rfl (eS rfl (eS rfl (eS rfl (eS rfl (eS rfl (eS rfl (eS rfl (eS rfl (eS rfl (eS rfl (eS rfl eZ))))))))))))))))))) rfl VWk.rfl SL.nil)))) BL.nil BK.nil) ?_
          rcases oite H with ⟨h16, H⟩ | ⟨h16, H⟩
          · refine AW.condT eZ (decide_eq_true h16) ?_
            refine AW.seq ?_
            refine AW.regs ?_
            refine oMov eC ?_
            refine xNil ?_
            refine TQ.qn ?_
            refine AW.ret ?_
            refine TQ.qr ?_
            refine BQ.qr ?_
            refine TQ.qr ?_
            refine TQ.qr ?_
            refine BQ.qr ?_
            refine TQ.qr ?_
            obtain rfl := Option.some.inj H
            exact endsR (RL.cons (RV.tmp eZ) (VO.flat rfl) RL.nil) List.nodup_nil
          · refine AW.condF eZ (decide_eq_false h16) ?_
            refine AW.skip ?_
            refine TQ.qn ?_
            refine AW.regs ?_
            refine oMov (eS rfl eZ) ?_
            refine oAdd eZ eC ?_
            refine oMov eZ ?_
            refine xNil ?_
            refine BQ.qn ?_
            refine TQ.qn ?_
            refine AW.regs ?_
            refine oMov (eS rfl (eS rfl (eS rfl (eS rfl (eS rfl (eS rfl eZ)))))) ?_
            refine oAdd eZ eC ?_
            refine oMov eZ ?_
            refine xNil ?_
            exact TQ.qn ⟨((IntKind.wrap .i64 ((IntKind.wrap .i64 ((IntKind.wrap .i64 (s5.1 + 1)) + 1)) + 1)), (IntKind.wrap .i64 (s5.2 + 1))), H, (wk_mk [] (SL.cons (eS rfl (eS rfl (eS rfl (eS rfl (eS rfl (eS rfl (eS rfl (eS rfl eZ)))))))) rfl VWk.rfl (SL.cons (eS rfl (eS rfl (eS rfl eZ))) rfl VWk.rfl (SL.cons eZ rfl VWk.rfl SL.nil))) BL.nil BK.nil)⟩
    · refine AW.condF eZ (decide_eq_false h7) ?_
      refine AW.exit ?_
      refine TQ.qe ?_
      refine TQ.qe ?_
      refine BQ.qe ?_
      exact TQ.qn ⟨s5.1, H, (wk_mk [] (SL.cons (eS rfl (eS rfl (eS rfl (eS rfl (eS rfl eZ))))) rfl VWk.rfl SL.nil) BL.nil BK.nil)⟩

theorem c_laws_heldCellS {a1 : (List TCell)} {a2 : Int} {r : Int} (H : m_laws_heldCellS a1 a2 = some r) : Fn Try.prog k_laws_heldCellS (lent [(.sl 2 (List.map d_TCell a1)), (.int .i64 a2)]) true [(.int .i64 r)] := by
  refine i_laws_heldCellS_fn (Nat.le_of_ble_eq_true rfl) ?_
  rw [init_mk]
  refine AW.weaken (wk_mk [] (SL.cons (v := (.one (.d (.sl 2 (List.map d_TCell a1))))) eZ rfl VWk.rfl (SL.cons (v := (.one (.d (.int .i64 a2)))) (eS rfl eZ) rfl VWk.rfl SL.nil)) BL.nil BK.nil) ?_
  unfold m_laws_heldCellS at H
  unfold i_laws_heldCellS
  refine AW.seq ?_
  refine AW.regs ?_
  refine oMov eC ?_
  refine xNil ?_
  refine TQ.qn ?_
  refine AW.seqJ (fun t3 : Int => laws_heldCellS_j3 t3 = some r) (fun t3 => mk [(1, (.one (.d (.int .i64 t3))))] [] noG) ?_ ?_
  · intro t3 H
    unfold laws_heldCellS_j3 at H
    refine AW.seq ?_
    refine AW.regs ?_
    refine oMov eZ ?_
    refine oMov eZ ?_
    refine xNil ?_
    refine TQ.qn ?_
    refine AW.ret ?_
    obtain rfl := Option.some.inj H
    exact endsR (RL.cons (RV.tmp eZ) (VO.flat rfl) RL.nil) List.nodup_nil
  · refine AW.seq ?_
    refine AW.regs ?_
    refine oMov eC ?_
    refine xNil ?_
    refine TQ.qn ?_
    refine AW.block ?_
    refine AW.iter (fun s5 : (Int × Int) => mk [(0, (.one (.d (.sl 2 (List.map d_TCell a1))))), (1, (.one (.d (.int .i64 s5.1)))), (5, (.one (.d (.int .i64 s5.2))))] [] noG) H (wk_mk [] (SL.cons (eS rfl (eS rfl eZ)) rfl VWk.rfl (SL.cons (eS rfl (eS rfl (eS rfl eZ))) rfl VWk.rfl (SL.cons eZ rfl VWk.rfl SL.nil))) BL.nil BK.nil) ?_
    intro kb6 s5 H
    unfold laws_heldCellS_b5 at H
    refine AW.seq ?_
    refine AW.seq ?_
    refine AW.regs ?_
    refine oMov (eS rfl (eS rfl eZ)) ?_
    refine oMov (eS rfl eZ) ?_
    refine oLenD eZ (n := a1.length) (List.length_map _) ?_
    refine oLss (eS rfl (eS rfl eZ)) eZ ?_
    refine xNil ?_
    refine TQ.qn ?_
    rcases oite H with ⟨h7, H⟩ | ⟨h7, H⟩
    · refine AW.condT eZ (decide_eq_true h7) ?_
      refine AW.skip ?_
      refine TQ.qn ?_
      refine AW.seq ?_
      refine AW.block ?_
      refine AW.seq ?_
      refine AW.seq ?_
      refine AW.regs ?_
      refine oMov (eS rfl (eS rfl (eS rfl (eS rfl eZ)))) ?_
      refine oMov (eS rfl (eS rfl (eS rfl (eS rfl (eS rfl (eS rfl (eS rfl eZ))))))) ?_
      obtain ⟨v8, h9, H⟩ := obind H
      refine oAtD (eS rfl eZ) eZ h9 ?_
      refine oFaddrB (m := 0) eZ rfl ?_
      refine oLoadB (e := (.int .i64 v8.Key)) eZ rfl ?_
      refine oMov (eS rfl (eS rfl (eS rfl (eS rfl (eS rfl (eS rfl (eS rfl (eS rfl (eS rfl (eS rfl eZ)))))))))) ?_
      refine oNeq (eS rfl eZ) eZ ?_
      refine xNil ?_
      refine TQ.qn ?_
      rcases oite H with ⟨h10, H⟩ | ⟨h10, H⟩
      · refine AW.condT eZ (decide_eq_true h10) ?_
        refine AW.seq ?_
        refine AW.regs ?_
        refine oMov eC ?_
        refine xNil ?_
        refine TQ.qn ?_
        refine AW.ret ?_
        refine TQ.qr ?_
        refine BQ.qr ?_
        refine TQ.qr ?_
        refine TQ.qr ?_
        refine BQ.qr ?_
        refine TQ.qr ?_
        obtain rfl := Option.some.inj H
        exact endsR (RL.cons (RV.tmp eZ) (VO.flat rfl) RL.nil) List.nodup_nil
      · refine AW.condF eZ (decide_eq_false h10) ?_
        refine AW.skip ?_
        refine TQ.qn ?_
        refine AW.seq ?_
        refine AW.regs ?_
        refine oMov (eS rfl (eS rfl (eS rfl (eS rfl (eS rfl (eS rfl (eS rfl (eS rfl (eS rfl (eS rfl (eS rfl (eS rfl eZ)))))))))))) ?_
        refine oAdd eZ eC ?_
        refine oMov eZ ?_
        refine xNil ?_
        refine TQ.qn ?_
        refine AW.weaken (wk_mk [] (SL.cons (k := 1) eZ rfl VWk.rfl (SL.cons (k := 0) (eS rfl (eS rfl (eS rfl (eS rfl (eS rfl (eS rfl (eS rfl (eS rfl (eS rfl (eS rfl (eS rfl (eS rfl (eS rfl (eS rfl eZ)))))))))))))) rfl VWk.rfl (SL.cons (k := 5) (eS rfl (eS rfl (eS rfl (eS rfl (eS rfl (eS rfl (eS rfl (eS rfl (eS rfl (eS rfl (eS rfl (eS rfl (eS rfl (eS rfl (eS rfl (eS rfl eZ)))))))))))))))) rfl VWk.rfl SL.nil))) BL.nil BK.nil) ?_
        refine AW.seq ?_
        refine AW.seq ?_
        refine AW.regs ?_
        refine oMov (eS rfl eZ) ?_
        refine oMov (eS rfl (eS rfl (eS rfl eZ))) ?_
        obtain ⟨v11, h12, H⟩ := obind H
        refine oAtD (eS rfl eZ) eZ h12 ?_
        refine oFaddrB (m := 1) eZ rfl ?_
        refine oLoadB (e := (.int .i64 v11.Value)) eZ rfl ?_
        refine oMov (eS rfl (eS rfl (eS rfl (eS rfl (eS rfl eZ))))) ?_
        refine oNeq (eS rfl eZ) eZ ?_
        refine xNil ?_
        refine TQ.qn ?_
        rcases oite H with ⟨h13, H⟩ | ⟨h13, H⟩
        · refine AW.condT eZ (decide_eq_true h13) ?_
          refine AW.seq ?_
          refine AW.regs ?_
          refine oMov eC ?_
          refine xNil ?_
          refine TQ.qn ?_
          refine AW.ret ?_
          refine TQ.qr ?_
          refine BQ.qr ?_
          refine TQ.qr ?_
          refine TQ.qr ?_
          refine BQ.qr ?_
          refine TQ.qr ?_
          obtain rfl := Option.some.inj H
          exact endsR (RL.cons (RV.tmp eZ) (VO.flat rfl) RL.nil) List.nodup_nil
        · refine AW.condF eZ (decide_eq_false h13) ?_
          refine AW.skip ?_
          refine TQ.qn ?_
          refine AW.regs ?_
          refine oMov (eS rfl (eS rfl (eS rfl (eS rfl (eS rfl (eS rfl (eS rfl eZ))))))) ?_
          refine oAdd eZ eC ?_
          refine oMov eZ ?_
          refine xNil ?_
          refine BQ.qn ?_
          refine TQ.qn ?_
          refine AW.regs ?_
          refine oMov (eS rfl (eS rfl (eS rfl (eS rfl (eS rfl (eS rfl (eS rfl (eS rfl (eS rfl (eS rfl (eS rfl (eS rfl eZ)))))))))))) ?_
          refine oAdd eZ eC ?_
          refine oMov eZ ?_
          refine xNil ?_
          exact TQ.qn ⟨((IntKind.wrap .i64 ((IntKind.wrap .i64 (s5.1 + 1)) + 1)), (IntKind.wrap .i64 (s5.2 + 1))), H, (wk_mk [] (SL.cons (eS rfl (eS rfl (eS rfl (eS rfl (eS rfl (eS rfl (eS rfl (eS rfl (eS rfl (eS rfl (eS rfl (eS rfl (eS rfl (eS rfl eZ)))))))))))))) rfl VWk.rfl (SL.cons (eS rfl (eS rfl (eS rfl eZ))) rfl VWk.rfl (SL.cons eZ rfl VWk.rfl SL.nil))) BL.nil BK.nil)⟩
    · refine AW.condF eZ (decide_eq_false h7) ?_
      refine AW.exit ?_
      refine TQ.qe ?_
      refine TQ.qe ?_
      refine BQ.qe ?_
      exact TQ.qn ⟨s5.1, H, (wk_mk [] (SL.cons (eS rfl (eS rfl (eS rfl (eS rfl (eS rfl eZ))))) rfl VWk.rfl SL.nil) BL.nil BK.nil)⟩

theorem c_laws_heldMove {a1 : TMove} {a2 : Int} {r : Int} (H : m_laws_heldMove a1 a2 = some r) : Fn Try.prog k_laws_heldMove (lent [(.agg (d_TMove a1)), (.int .i64 a2)]) true [(.int .i64 r)] := by
  refine i_laws_heldMove_fn (Nat.le_of_ble_eq_true rfl) ?_
  rw [init_mk]
  refine AW.weaken (wk_mk [] (SL.cons (v := (.agg [(.d (.int .i64 a1.No)), (.d (.int .i64 a1.Stage)), (.d (.int .i64 a1.Lo)), (.d (.int .i64 a1.Hi)), (.d (.int .i64 a1.From)), (.d (.int .i64 a1.To)), (.d (.sl 2 (List.map d_TCell a1.Cells)))])) eZ rfl VWk.rfl (SL.cons (v := (.one (.d (.int .i64 a2)))) (eS rfl eZ) rfl VWk.rfl SL.nil)) BL.nil BK.nil) ?_
  unfold m_laws_heldMove at H
  unfold i_laws_heldMove
  refine AW.seq ?_
  refine AW.regs ?_
  refine oBox (n := 128) (m := 7) (cs := [(.d (.int .i64 a1.No)), (.d (.int .i64 a1.Stage)), (.d (.int .i64 a1.Lo)), (.d (.int .i64 a1.Hi)), (.d (.int .i64 a1.From)), (.d (.int .i64 a1.To)), (.d (.sl 2 (List.map d_TCell a1.Cells)))]) rfl eZ rfl rfl nZ ?_
  refine oMov eC ?_
  refine xNil ?_
  refine TQ.qn ?_
  refine AW.seq ?_
  refine AW.regs ?_
  refine oFaddrN (m := 6) (eS rfl eZ) rfl ?_
  refine oLoadV (q := 6) (c := (.d (.sl 2 (List.map d_TCell a1.Cells)))) eZ bZ rfl rfl ?_
  refine oMov (eS rfl (eS rfl (eS rfl (eS rfl (eS rfl eZ))))) ?_
  obtain ⟨v3, h4, H⟩ := obind H
  refine oCall (u := (.one (.d (.int .i64 v3)))) eC Cl.fn (c_laws_heldCellS h4) (Evs.cons (eS rfl eZ) (Evs.cons eZ Evs.nil)) (VDs.cons VD.plain (VDs.cons VD.plain VDs.nil)) rfl ?_
  refine oMov eZ ?_
  refine xNil ?_
  refine TQ.qn ?_
  refine AW.seq ?_
  refine AW.seq ?_
  refine AW.regs ?_
  refine oMov eZ ?_
  refine oLss eZ eC ?_
  refine xNil ?_
  refine TQ.qn ?_
  rcases oite H with ⟨h5, H⟩ | ⟨h5, H⟩
  · refine AW.condT eZ (decide_eq_true h5) ?_
    refine AW.seq ?_
    refine AW.regs ?_
    refine oMov eC ?_
    refine xNil ?_
    refine TQ.qn ?_
    refine AW.ret ?_
    refine TQ.qr ?_
    obtain rfl := Option.some.inj H
    exact endsR (RL.cons (RV.tmp eZ) (VO.flat rfl) RL.nil) List.nodup_nil
  · refine AW.condF eZ (decide_eq_false h5) ?_
    refine AW.skip ?_
    refine TQ.qn ?_
    refine AW.seq ?_
    refine AW.regs ?_
    refine oMov (eS rfl (eS rfl eZ)) ?_
    refine oMov eZ ?_
    refine xNil ?_
    refine TQ.qn ?_
    refine AW.ret ?_
    obtain rfl := Option.some.inj H
    exact endsR (RL.cons (RV.tmp eZ) (VO.flat rfl) RL.nil) List.nodup_nil

theorem c_laws_heldAtlas {a1 : TAtlas} {a2 : Int} {r : Int} (H : m_laws_heldAtlas a1 a2 = some r) : Fn Try.prog k_laws_heldAtlas (lent [(.agg (d_TAtlas a1)), (.int .i64 a2)]) true [(.int .i64 r)] := by
  refine i_laws_heldAtlas_fn (Nat.le_of_ble_eq_true rfl) ?_
  rw [init_mk]
  refine AW.weaken (wk_mk [] (SL.cons (v := (.agg [(.d (.int .i64 a1.Epoch)), (.d (.sl 3 (List.map d_TPart a1.Parts))), (.d (.int .i64 a1.Move.No)), (.d (.int .i64 a1.Move.Stage)), (.d (.int .i64 a1.Move.Lo)), (.d (.int .i64 a1.Move.Hi)), (.d (.int .i64 a1.Move.From)), (.d (.int .i64 a1.Move.To)), (.d (.sl 2 (List.map d_TCell a1.Move.Cells)))])) eZ rfl VWk.rfl (SL.cons (v := (.one (.d (.int .i64 a2)))) (eS rfl eZ) rfl VWk.rfl SL.nil)) BL.nil BK.nil) ?_
  unfold m_laws_heldAtlas at H
  unfold i_laws_heldAtlas
  refine AW.seq ?_
  refine AW.regs ?_
  refine oBox (n := 128) (m := 9) (cs := [(.d (.int .i64 a1.Epoch)), (.d (.sl 3 (List.map d_TPart a1.Parts))), (.d (.int .i64 a1.Move.No)), (.d (.int .i64 a1.Move.Stage)), (.d (.int .i64 a1.Move.Lo)), (.d (.int .i64 a1.Move.Hi)), (.d (.int .i64 a1.Move.From)), (.d (.int .i64 a1.Move.To)), (.d (.sl 2 (List.map d_TCell a1.Move.Cells)))]) rfl eZ rfl rfl nZ ?_
  refine oMov eC ?_
  refine xNil ?_
  refine TQ.qn ?_
  refine AW.seq ?_
  refine AW.regs ?_
  refine oFaddrN (m := 1) (eS rfl eZ) rfl ?_
  refine oLoadV (q := 1) (c := (.d (.sl 3 (List.map d_TPart a1.Parts)))) eZ bZ rfl rfl ?_
  refine oMov (eS rfl (eS rfl (eS rfl (eS rfl (eS rfl eZ))))) ?_
  obtain ⟨v3, h4, H⟩ := obind H
  refine oCall (u := (.one (.d (.int .i64 v3)))) eC Cl.fn (c_laws_heldPartS h4) (Evs.cons (eS rfl eZ) (Evs.cons eZ Evs.nil)) (VDs.cons VD.plain (VDs.cons VD.plain VDs.nil)) rfl ?_
  refine oMov eZ ?_
  refine xNil ?_
  refine TQ.qn ?_
  refine AW.seq ?_
  refine AW.seq ?_
  refine AW.regs ?_
  refine oMov eZ ?_
  refine oLss eZ eC ?_
  refine xNil ?_
  refine TQ.qn ?_
  rcases oite H with ⟨h5, H⟩ | ⟨h5, H⟩
  · refine AW.condT eZ (decide_eq_true h5) ?_
    refine AW.seq ?_
    refine AW.regs ?_
    refine oMov eC ?_
    refine xNil ?_
    refine TQ.qn ?_
    refine AW.ret ?_
    refine TQ.qr ?_
    obtain rfl := Option.some.inj H
    exact endsR (RL.cons (RV.tmp eZ) (VO.flat rfl) RL.nil) List.nodup_nil
  · refine AW.condF eZ (decide_eq_false h5) ?_
    refine AW.skip ?_
    refine TQ.qn ?_
    refine AW.seq ?_
    refine AW.regs ?_
    refine oFaddrN (m := 2) (eS rfl (eS rfl (eS rfl (eS rfl (eS rfl (eS rfl (eS rfl (eS rfl eZ)))))))) rfl ?_
    refine oLoadVA (es := [(.d (.int .i64 a1.Move.No)), (.d (.int .i64 a1.Move.Stage)), (.d (.int .i64 a1.Move.Lo)), (.d (.int .i64 a1.Move.Hi)), (.d (.int .i64 a1.Move.From)), (.d (.int .i64 a1.Move.To)), (.d (.sl 2 (List.map d_TCell a1.Move.Cells)))]) eZ bZ rfl ?_
    refine oMov (eS rfl (eS rfl (eS rfl (eS rfl eZ)))) ?_
    obtain ⟨v6, h7, H⟩ := obind H
    refine oCall (u := (.one (.d (.int .i64 v6)))) eC Cl.fn (c_laws_heldMove h7) (Evs.cons (eS rfl eZ) (Evs.cons eZ Evs.nil)) (VDs.cons (VD.agg rfl) (VDs.cons VD.plain VDs.nil)) rfl ?_
    refine oMov eZ ?_
    refine xNil ?_
    refine TQ.qn ?_
    refine AW.weaken (wk_mk [128] (SL.cons (k := 1) eZ rfl VWk.rfl SL.nil) (BL.drop rfl BL.nil) BK.nil) ?_
    refine AW.seq ?_
    refine AW.seq ?_
    refine AW.regs ?_
    refine oMov eZ ?_
    refine oLss eZ eC ?_
    refine xNil ?_
    refine TQ.qn ?_
    rcases oite H with ⟨h8, H⟩ | ⟨h8, H⟩
    · refine AW.condT eZ (decide_eq_true h8) ?_
      refine AW.seq ?_
      refine AW.regs ?_
      refine oMov eC ?_
      refine xNil ?_
      refine TQ.qn ?_
      refine AW.ret ?_
      refine TQ.qr ?_
      obtain rfl := Option.some.inj H
      exact endsR (RL.cons (RV.tmp eZ) (VO.flat rfl) RL.nil) List.nodup_nil
    · refine AW.condF eZ (decide_eq_false h8) ?_
      refine AW.skip ?_
      refine TQ.qn ?_
      refine AW.seq ?_
      refine AW.regs ?_
      refine oMov (eS rfl (eS rfl eZ)) ?_
      refine oMov eZ ?_
      refine xNil ?_
      refine TQ.qn ?_
      refine AW.ret ?_
      obtain rfl := Option.some.inj H
      exact endsR (RL.cons (RV.tmp eZ) (VO.flat rfl) RL.nil) List.nodup_nil

theorem c_laws_FnExactAtlasFrozen {a1 : TAtlas} {a2 : Int} {a3 : (List TCell)} {r : Bool} (H : m_laws_FnExactAtlasFrozen a1 a2 a3 = some r) : Fn Try.prog k_laws_FnExactAtlasFrozen (lent [(.agg (d_TAtlas a1)), (.int .i64 a2), (.sl 2 (List.map d_TCell a3))]) true [(.bool r)] := by
  refine i_laws_FnExactAtlasFrozen_fn (Nat.le_of_ble_eq_true rfl) ?_
  rw [init_mk]
  refine AW.weaken (t := mk [(0, (.agg [(.d (.int .i64 a1.Epoch)), (.d (.sl 3 (List.map d_TPart a1.Parts))), (.d (.int .i64 a1.Move.No)), (.d (.int .i64 a1.Move.Stage)), (.d (.int .i64 a1.Move.Lo)), (.d (.int .i64 a1.Move.Hi)), (.d (.int .i64 a1.Move.From)), (.d (.int .i64 a1.Move.To)), (.d (.sl 2 (List.map d_TCell a1.Move.Cells)))])), (1, (.one (.d (.int .i64 a2)))), (2, (.one (.d (.sl 2 (List.map d_TCell a3)))))] [] (lk [])) (wk_mk [] (SL.cons (v := (.agg [(.d (.int .i64 a1.Epoch)), (.d (.sl 3 (List.map d_TPart a1.Parts))), (.d (.int .i64 a1.Move.No)), (.d (.int .i64 a1.Move.Stage)), (.d (.int .i64 a1.Move.Lo)), (.d (.int .i64 a1.Move.Hi)), (.d (.int .i64 a1.Move.From)), (.d (.int .i64 a1.Move.To)), (.d (.sl 2 (List.map d_TCell a1.Move.Cells)))])) eZ rfl VWk.rfl (SL.cons (v := (.one (.d (.int .i64 a2)))) (eS rfl eZ) rfl VWk.rfl (SL.cons (v := (.one (.d (.sl 2 (List.map d_TCell a3))))) (eS rfl (eS rfl eZ)) rfl VWk.rfl SL.nil))) BL.nil BK.nil) ?_
  unfold m_laws_FnExactAtlasFrozen at H
  unfold i_laws_FnExactAtlasFrozen
  refine AW.seq ?_
  refine AW.regs ?_
  refine oBox (n := 192) (m := 9) (cs := [(.d (.int .i64 a1.Epoch)), (.d (.sl 3 (List.map d_TPart a1.Parts))), (.d (.int .i64 a1.Move.No)), (.d (.int .i64 a1.Move.Stage)), (.d (.int .i64 a1.Move.Lo)), (.d (.int .i64 a1.Move.Hi)), (.d (.int .i64 a1.Move.From)), (.d (.int .i64 a1.Move.To)), (.d (.sl 2 (List.map d_TCell a1.Move.Cells)))]) rfl eZ rfl rfl nZ ?_
  refine oMov eC ?_
  refine xNil ?_
  refine TQ.qn ?_
  refine AW.seq ?_
  refine AW.regs ?_
  refine oMov eC ?_
  refine xNil ?_
  refine TQ.qn ?_
  refine AW.seq ?_
  refine AW.regs ?_
  refine oLoadVA (es := [(.d (.int .i64 a1.Epoch)), (.d (.sl 3 (List.map d_TPart a1.Parts))), (.d (.int .i64 a1.Move.No)), (.d (.int .i64 a1.Move.Stage)), (.d (.int .i64 a1.Move.Lo)), (.d (.int .i64 a1.Move.Hi)), (.d (.int .i64 a1.Move.From)), (.d (.int .i64 a1.Move.To)), (.d (.sl 2 (List.map d_TCell a1.Move.Cells)))]) (eS rfl (eS rfl eZ)) bZ rfl ?_
  refine oMov (eS rfl eZ) ?_
  obtain ⟨v4, h5, H⟩ := obind H
  refine oCall (u := (.one (.d (.int .i64 v4)))) eC Cl.fn (c_laws_szAtlas h5) (Evs.cons (eS rfl eZ) (Evs.cons eZ Evs.nil)) (VDs.cons (VD.agg rfl) (VDs.cons VD.plain VDs.nil)) rfl ?_
  refine oMov eZ ?_
  refine xNil ?_
  refine TQ.qn ?_
  refine AW.seq ?_
  refine AW.seq ?_
  refine AW.regs ?_
  refine oMov eZ ?_
  refine oLss eZ eC ?_
  refine xNil ?_
  refine TQ.qn ?_
  rcases oite H with ⟨h6, H⟩ | ⟨h6, H⟩
  · refine AW.condT eZ (decide_eq_true h6) ?_
    refine AW.seq ?_
    refine AW.regs ?_
    refine oMov eC ?_
    refine xNil ?_
    refine TQ.qn ?_
    refine AW.ret ?_
    refine TQ.qr ?_
    obtain rfl := Option.some.inj H
    exact endsR (RL.cons (RV.tmp eZ) (VO.flat rfl) RL.nil) List.nodup_nil
  · refine AW.condF eZ (decide_eq_false h6) ?_
    refine AW.skip ?_
    refine TQ.qn ?_
    refine AW.seq ?_
    refine AW.regs ?_
    refine oMov (eS rfl (eS rfl (eS rfl (eS rfl (eS rfl (eS rfl (eS rfl (eS rfl (eS rfl (eS rfl (eS rfl eZ))))))))))) ?_
    refine oMov (eS rfl (eS rfl (eS rfl eZ))) ?_
    obtain ⟨v7, h8, H⟩ := obind H
    refine oCall (u := (.one (.d (.int .i64 v7)))) eC Cl.fn (c_laws_szCellS h8) (Evs.cons (eS rfl eZ) (Evs.cons eZ Evs.nil)) (VDs.cons VD.plain (VDs.cons VD.plain VDs.nil)) rfl ?_
    refine oMov eZ ?_
    refine xNil ?_
    refine TQ.qn ?_
    refine AW.weaken (wk_mkG [] (SL.cons (k := 7) eZ rfl VWk.rfl (SL.cons (k := 3) (eS rfl (eS rfl (eS rfl (eS rfl (eS rfl (eS rfl (eS rfl (eS rfl (eS rfl (eS rfl (eS rfl (eS rfl eZ)))))))))))) rfl VWk.rfl (SL.cons (k := 1) (eS rfl (eS rfl (eS rfl (eS rfl (eS rfl (eS rfl (eS rfl (eS rfl (eS rfl (eS rfl (eS rfl (eS rfl (eS rfl (eS rfl eZ)))))))))))))) rfl VWk.rfl (SL.cons (k := 2) (eS rfl (eS rfl (eS rfl (eS rfl (eS rfl (eS rfl (eS rfl (eS rfl (eS rfl (eS rfl (eS rfl (eS rfl (eS rfl (eS rfl (eS rfl eZ))))))))))))))) rfl VWk.rfl SL.nil)))) (BL.keep rfl BL.nil) (BK.cons (n := 192) rfl bZ rfl rfl BK.nil) GK.nil) ?_
    refine AW.seq ?_
    refine AW.seq ?_
    refine AW.regs ?_
    refine oMov eZ ?_
    refine oLss eZ eC ?_
    refine xNil ?_
    refine TQ.qn ?_
    rcases oite H with ⟨h9, H⟩ | ⟨h9, H⟩
    · refine AW.condT eZ (decide_eq_true h9) ?_
      refine AW.seq ?_
      refine AW.regs ?_
      refine oMov eC ?_
      refine xNil ?_
      refine TQ.qn ?_
      refine AW.ret ?_
      refine TQ.qr ?_
      obtain rfl := Option.some.inj H
      exact endsR (RL.cons (RV.tmp eZ) (VO.flat rfl) RL.nil) List.nodup_nil
    · refine AW.condF eZ (decide_eq_false h9) ?_
      refine AW.skip ?_
      refine TQ.qn ?_
      refine AW.seq ?_
      refine AW.regs ?_
      refine oLoadVA (es := [(.d (.int .i64 a1.Epoch)), (.d (.sl 3 (List.map d_TPart a1.Parts))), (.d (.int .i64 a1.Move.No)), (.d (.int .i64 a1.Move.Stage)), (.d (.int .i64 a1.Move.Lo)), (.d (.int .i64 a1.Move.Hi)), (.d (.int .i64 a1.Move.From)), (.d (.int .i64 a1.Move.To)), (.d (.sl 2 (List.map d_TCell a1.Move.Cells)))]) (eS rfl (eS rfl (eS rfl eZ))) bZ rfl ?_
      obtain ⟨v10, h11, H⟩ := obind H
      refine oCall (u := (.agg [(.d (.int .i64 v10.Epoch)), (.d (.sl 3 (List.map d_TPart v10.Parts))), (.d (.int .i64 v10.Move.No)), (.d (.int .i64 v10.Move.Stage)), (.d (.int .i64 v10.Move.Lo)), (.d (.int .i64 v10.Move.Hi)), (.d (.int .i64 v10.Move.From)), (.d (.int .i64 v10.Move.To)), (.d (.sl 2 (List.map d_TCell v10.Move.Cells)))])) eC Cl.fn (c_laws_toAtlas h11) (Evs.cons eZ Evs.nil) (VDs.cons (VD.agg rfl) VDs.nil) rfl ?_
      refine oMov (eS rfl (eS rfl (eS rfl (eS rfl (eS rfl (eS rfl eZ)))))) ?_
      refine oMov (eS rfl (eS rfl (eS rfl (eS rfl (eS rfl (eS rfl (eS rfl (eS rfl eZ)))))))) ?_
      obtain ⟨v12, h13, H⟩ := obind H
      refine oCall (u := (.one (.d (.sl 2 (List.map d_TCell v12))))) eC Cl.fn (c_laws_toCellS h13) (Evs.cons eZ Evs.nil) (VDs.cons VD.plain VDs.nil) rfl ?_
      obtain ⟨v14, h15, H⟩ := obind H
      refine oCall (u := (.tup [(.agg [(.d (.int .i64 v14.1.Epoch)), (.d (.sl 3 (List.map d_TPart v14.1.Parts))), (.d (.int .i64 v14.1.Move.No)), (.d (.int .i64 v14.1.Move.Stage)), (.d (.int .i64 v14.1.Move.Lo)), (.d (.int .i64 v14.1.Move.Hi)), (.d (.int .i64 v14.1.Move.From)), (.d (.int .i64 v14.1.Move.To)), (.d (.sl 2 (List.map d_TCell v14.1.Move.Cells)))]), (.one (.d (.int .i64 v14.2)))])) eC Cl.fn (c_spec_AtlasFrozen h15) (Evs.cons (eS rfl (eS rfl (eS rfl eZ))) (Evs.cons (eS rfl (eS rfl eZ)) (Evs.cons eZ Evs.nil))) (VDs.cons (VD.agg rfl) (VDs.cons VD.plain (VDs.cons VD.plain VDs.nil))) rfl ?_
      refine oMov eZ ?_
      refine oExt (v := (.agg [(.d (.int .i64 v14.1.Epoch)), (.d (.sl 3 (List.map d_TPart v14.1.Parts))), (.d (.int .i64 v14.1.Move.No)), (.d (.int .i64 v14.1.Move.Stage)), (.d (.int .i64 v14.1.Move.Lo)), (.d (.int .i64 v14.1.Move.Hi)), (.d (.int .i64 v14.1.Move.From)), (.d (.int .i64 v14.1.Move.To)), (.d (.sl 2 (List.map d_TCell v14.1.Move.Cells)))])) eZ rfl ?_
      refine oExt (v := (.one (.d (.int .i64 v14.2)))) (eS rfl eZ) rfl ?_
      refine oVar (n := 512) (m := 9) rfl rfl (nS rfl nZ) ?_
      refine oStoreV (es := [(.d (.int .i64 v14.1.Epoch)), (.d (.sl 3 (List.map d_TPart v14.1.Parts))), (.d (.int .i64 v14.1.Move.No)), (.d (.int .i64 v14.1.Move.Stage)), (.d (.int .i64 v14.1.Move.Lo)), (.d (.int .i64 v14.1.Move.Hi)), (.d (.int .i64 v14.1.Move.From)), (.d (.int .i64 v14.1.Move.To)), (.d (.sl 2 (List.map d_TCell v14.1.Move.Cells)))]) eZ (eS rfl (eS rfl eZ)) rfl rfl bZ rfl ?_
      refine oMov (eS rfl eZ) ?_
      refine xNil ?_
      refine TQ.qn ?_
      refine AW.weaken (wk_mkG [] (SL.cons (k := 9) eZ rfl VWk.rfl (SL.cons (k := 8) (eS rfl eZ) rfl VWk.rfl (SL.cons (k := 3) (eS rfl (eS rfl (eS rfl (eS rfl (eS rfl (eS rfl (eS rfl (eS rfl (eS rfl (eS rfl (eS rfl (eS rfl (eS rfl (eS rfl eZ)))))))))))))) rfl VWk.rfl (SL.cons (k := 1) (eS rfl (eS rfl (eS rfl (eS rfl (eS rfl (eS rfl (eS rfl (eS rfl (eS rfl (eS rfl (eS rfl (eS rfl (eS rfl (eS rfl (eS rfl eZ))))))))))))))) rfl VWk.rfl (SL.cons (k := 2) (eS rfl (eS rfl (eS rfl (eS rfl (eS rfl (eS rfl (eS rfl (eS rfl (eS rfl (eS rfl (eS rfl (eS rfl (eS rfl (eS rfl (eS rfl (eS rfl eZ)))))))))))))))) rfl VWk.rfl SL.nil))))) (BL.keep rfl (BL.keep rfl (BL.keep rfl BL.nil))) (BK.cons (n := 512) rfl bZ rfl rfl (BK.cons (n := 192) rfl (bS rfl (bS rfl bZ)) rfl rfl BK.nil)) GK.nil) ?_
      refine AW.seq ?_
      refine AW.regs ?_
      refine oLoadVA (es := [(.d (.int .i64 a1.Epoch)), (.d (.sl 3 (List.map d_TPart a1.Parts))), (.d (.int .i64 a1.Move.No)), (.d (.int .i64 a1.Move.Stage)), (.d (.int .i64 a1.Move.Lo)), (.d (.int .i64 a1.Move.Hi)), (.d (.int .i64 a1.Move.From)), (.d (.int .i64 a1.Move.To)), (.d (.sl 2 (List.map d_TCell a1.Move.Cells)))]) (eS rfl (eS rfl eZ)) (bS rfl bZ) rfl ?_
      obtain ⟨v16, h17, H⟩ := obind H
      refine oCallN (u := (.agg [(.d (.int .i64 v16.Epoch)), (.sl 2497 0 v16.Parts.length), (.d (.int .i64 v16.Move.No)), (.d (.int .i64 v16.Move.Stage)), (.d (.int .i64 v16.Move.Lo)), (.d (.int .i64 v16.Move.Hi)), (.d (.int .i64 v16.Move.From)), (.d (.int .i64 v16.Move.To)), (.sl 2504 0 v16.Move.Cells.length)])) (bs := [(2497, (.data 3 (List.map d_TPart v16.Parts) true none)), (2504, (.data 2 (List.map d_TCell v16.Move.Cells) true none))]) eC Cl.fn (c_laws_toAtlas h17) (Evs.cons eZ Evs.nil) (VDs.cons (VD.agg rfl) VDs.nil) (by simp [bindR, bindV, bindVs, bindC, bindCs]) rfl (fC (nS rfl (nS rfl nZ)) rfl (fC (nS rfl (nS rfl nZ)) rfl (fC (nS rfl (nS rfl nZ)) rfl fN))) ?_
      refine oVar (n := 640) (m := 9) rfl rfl (nS rfl (nS rfl (nS rfl (nS rfl nZ)))) ?_
      refine oStoreV (es := [(.d (.int .i64 v16.Epoch)), (.sl 2497 0 v16.Parts.length), (.d (.int .i64 v16.Move.No)), (.d (.int .i64 v16.Move.Stage)), (.d (.int .i64 v16.Move.Lo)), (.d (.int .i64 v16.Move.Hi)), (.d (.int .i64 v16.Move.From)), (.d (.int .i64 v16.Move.To)), (.sl 2504 0 v16.Move.Cells.length)]) eZ (eS rfl eZ) rfl rfl bZ rfl ?_
      refine xNil ?_
      refine TQ.qn ?_
      refine AW.seq ?_
      refine AW.regs ?_
      refine oMov (eS rfl (eS rfl (eS rfl (eS rfl (eS rfl (eS rfl (eS rfl eZ))))))) ?_
      obtain ⟨v18, h19, H⟩ := obind H
      refine oCallN (u := (.one (.sl 2624 0 v18.length))) (bs := [(2624, (.data 2 (List.map d_TCell v18) true none))]) eC Cl.fn (c_laws_toCellS h19) (Evs.cons eZ Evs.nil) (VDs.cons VD.plain VDs.nil) (by simp [bindR, bindV, bindVs, bindC, bindCs]) rfl (fC (nS rfl (nS rfl (nS rfl (nS rfl (nS rfl (nS rfl nZ)))))) rfl (fC (nS rfl (nS rfl (nS rfl (nS rfl (nS rfl (nS rfl nZ)))))) rfl fN)) ?_
      refine oMov eZ ?_
      refine xNil ?_
      refine TQ.qn ?_
      refine AW.seq ?_
      refine AW.regs ?_
      refine oLoadVA (es := [(.d (.int .i64 v16.Epoch)), (.sl 2497 0 v16.Parts.length), (.d (.int .i64 v16.Move.No)), (.d (.int .i64 v16.Move.Stage)), (.d (.int .i64 v16.Move.Lo)), (.d (.int .i64 v16.Move.Hi)), (.d (.int .i64 v16.Move.From)), (.d (.int .i64 v16.Move.To)), (.sl 2504 0 v16.Move.Cells.length)]) (eS rfl (eS rfl (eS rfl eZ))) (bS rfl bZ) rfl ?_
      refine oMov (eS rfl (eS rfl (eS rfl (eS rfl (eS rfl (eS rfl (eS rfl (eS rfl (eS rfl (eS rfl eZ)))))))))) ?_
      refine oMov (eS rfl (eS rfl eZ)) ?_
      obtain ⟨v20, h21, H⟩ := obind H
      refine oCallN (u := (.tup [(.agg [(.d (.int .i64 v20.1.Epoch)), (.sl 2945 0 v20.1.Parts.length), (.d (.int .i64 v20.1.Move.No)), (.d (.int .i64 v20.1.Move.Stage)), (.d (.int .i64 v20.1.Move.Lo)), (.d (.int .i64 v20.1.Move.Hi)), (.d (.int .i64 v20.1.Move.From)), (.d (.int .i64 v20.1.Move.To)), (.sl 2952 0 v20.1.Move.Cells.length)]), (.one (.d (.int .i64 v20.2)))])) (bs := [(2945, (.data 3 (List.map d_TPart v20.1.Parts) true none)), (2952, (.data 2 (List.map d_TCell v20.1.Move.Cells) true none))]) eC Cl.fn (c_impl_AtlasFrozen h21) (Evs.cons (eS rfl (eS rfl eZ)) (Evs.cons (eS rfl eZ) (Evs.cons eZ Evs.nil))) (VDs.cons (VD.aggs (CDs.plain (CDs.sl (bS rfl (bS rfl (bS rfl (bS rfl bZ)))) (List.length_map _) (CDs.plain (CDs.plain (CDs.plain (CDs.plain (CDs.plain (CDs.plain (CDs.sl (bS rfl (bS rfl (bS rfl bZ))) (List.length_map _) CDs.nil)))))))))) (VDs.cons VD.plain (VDs.cons (VD.sl bZ (List.length_map _)) VDs.nil))) (by simp [bindR, bindV, bindVs, bindC, bindCs]) rfl (fC (nS rfl (nS rfl (nS rfl (nS rfl (nS rfl (nS rfl (nS rfl nZ))))))) rfl (fC (nS rfl (nS rfl (nS rfl (nS rfl (nS rfl (nS rfl (nS rfl nZ))))))) rfl (fC (nS rfl (nS rfl (nS rfl (nS rfl (nS rfl (nS rfl (nS rfl nZ))))))) rfl fN))) ?_
      refine oMov eZ ?_
      refine oExt (v := (.agg [(.d (.int .i64 v20.1.Epoch)), (.sl 2945 0 v20.1.Parts.length), (.d (.int .i64 v20.1.Move.No)), (.d (.int .i64 v20.1.Move.Stage)), (.d (.int .i64 v20.1.Move.Lo)), (.d (.int .i64 v20.1.Move.Hi)), (.d (.int .i64 v20.1.Move.From)), (.d (.int .i64 v20.1.Move.To)), (.sl 2952 0 v20.1.Move.Cells.length)])) eZ rfl ?_
      refine oExt (v := (.one (.d (.int .i64 v20.2)))) (eS rfl eZ) rfl ?_
      refine oVar (n := 768) (m := 9) rfl rfl (nS rfl (nS rfl (nS rfl (nS rfl (nS rfl (nS rfl (nS rfl (nS rfl (nS rfl nZ))))))))) ?_
      refine oStoreV (es := [(.d (.int .i64 v20.1.Epoch)), (.sl 2945 0 v20.1.Parts.length), (.d (.int .i64 v20.1.Move.No)), (.d (.int .i64 v20.1.Move.Stage)), (.d (.int .i64 v20.1.Move.Lo)), (.d (.int .i64 v20.1.Move.Hi)), (.d (.int .i64 v20.1.Move.From)), (.d (.int .i64 v20.1.Move.To)), (.sl 2952 0 v20.1.Move.Cells.length)]) eZ (eS rfl (eS rfl eZ)) rfl rfl bZ rfl ?_
      refine oMov (eS rfl eZ) ?_
      refine xNil ?_
      refine TQ.qn ?_
      refine AW.weaken (wk_mkG [] (SL.cons (k := 13) eZ rfl VWk.rfl (SL.cons (k := 12) (eS rfl eZ) rfl VWk.rfl (SL.cons (k := 11) (eS rfl (eS rfl (eS rfl (eS rfl (eS rfl (eS rfl (eS rfl (eS rfl (eS rfl eZ))))))))) rfl VWk.rfl (SL.cons (k := 10) (eS rfl (eS rfl (eS rfl (eS rfl (eS rfl (eS rfl (eS rfl (eS rfl (eS rfl (eS rfl (eS rfl (eS rfl eZ)))))))))))) rfl VWk.rfl (SL.cons (k := 9) (eS rfl (eS rfl (eS rfl (eS rfl (eS rfl (eS rfl (eS rfl (eS rfl (eS rfl (eS rfl (eS rfl (eS rfl (eS rfl (eS rfl (eS rfl eZ))))))))))))))) rfl VWk.rfl (SL.cons (k := 8) (eS rfl (eS rfl (eS rfl (eS rfl (eS rfl (eS rfl (eS rfl (eS rfl (eS rfl (eS rfl (eS rfl (eS rfl (eS rfl (eS rfl (eS rfl (eS rfl eZ)))))))))))))))) rfl VWk.rfl (SL.cons (k := 3) (eS rfl (eS rfl (eS rfl (eS rfl (eS rfl (eS rfl (eS rfl (eS rfl (eS rfl (eS rfl (eS rfl (eS rfl (eS rfl (eS rfl (eS rfl (eS rfl (eS rfl eZ))))))))))))))))) rfl VWk.rfl (SL.cons (k := 1) (eS rfl (eS rfl (eS rfl (eS rfl (eS rfl (eS rfl (eS rfl (eS rfl (eS rfl (eS rfl (eS rfl (eS rfl (eS rfl (eS rfl (eS rfl (eS rfl (eS rfl (eS rfl eZ)))))))))))))))))) rfl VWk.rfl (SL.cons (k := 2) (eS rfl (eS rfl (eS rfl (eS rfl (eS rfl (eS rfl (eS rfl (eS rfl (eS rfl (eS rfl (eS rfl (eS rfl (eS rfl (eS rfl (eS rfl (eS rfl (eS rfl (eS rfl (eS rfl eZ))))))))))))))))))) rfl VWk.rfl SL.nil))))))))) (BL.keep rfl (BL.keep rfl (BL.keep rfl (BL.keep rfl (BL.keep rfl (BL.keep rfl (BL.keep rfl (BL.keep rfl (BL.keep rfl (BL.keep rfl (BL.keep rfl BL.nil))))))))))) (BK.cons (n := 768) rfl bZ rfl rfl (BK.cons (n := 2952) rfl (bS rfl (bS rfl bZ)) rfl rfl (BK.cons (n := 2945) rfl (bS rfl (bS rfl (bS rfl bZ))) rfl rfl (BK.cons (n := 2624) rfl (bS rfl (bS rfl (bS rfl (bS rfl bZ)))) rfl rfl (BK.cons (n := 640) rfl (bS rfl (bS rfl (bS rfl (bS rfl (bS rfl bZ))))) rfl rfl (BK.cons (n := 2504) rfl (bS rfl (bS rfl (bS rfl (bS rfl (bS rfl (bS rfl (bS rfl bZ))))))) rfl rfl (BK.cons (n := 2497) rfl (bS rfl (bS rfl (bS rfl (bS rfl (bS rfl (bS rfl (bS rfl (bS rfl bZ)))))))) rfl rfl (BK.cons (n := 512) rfl (bS rfl (bS rfl (bS rfl (bS rfl (bS rfl (bS rfl (bS rfl (bS rfl (bS rfl bZ))))))))) rfl rfl (BK.cons (n := 192) rfl (bS rfl (bS rfl (bS rfl (bS rfl (bS rfl (bS rfl (bS rfl (bS rfl (bS rfl (bS rfl bZ)))))))))) rfl rfl BK.nil))))))))) GK.nil) ?_
      refine AW.seq ?_
      refine AW.seqJ (fun t22 : Bool => (laws_FnExactAtlasFrozen_j22 a1 v16 a3 v18 v20 a2 v14) t22 = some r) (fun t22 => mk [(1, (.one (.d (.int .i64 a2)))), (2, (.one (.d (.sl 2 (List.map d_TCell a3))))), (3, (.one (.ptr (.nm 192 0 0)))), (8, (.one (.ptr (.nm 512 0 0)))), (9, (.one (.d (.int .i64 v14.2)))), (10, (.one (.ptr (.nm 640 0 0)))), (11, (.one (.sl 2624 0 v18.length))), (12, (.one (.ptr (.nm 768 0 0)))), (13, (.one (.d (.int .i64 v20.2)))), (57, (.one (.d (.bool t22))))] [(192, (.vars 9 [(.d (.int .i64 a1.Epoch)), (.d (.sl 3 (List.map d_TPart a1.Parts))), (.d (.int .i64 a1.Move.No)), (.d (.int .i64 a1.Move.Stage)), (.d (.int .i64 a1.Move.Lo)), (.d (.int .i64 a1.Move.Hi)), (.d (.int .i64 a1.Move.From)), (.d (.int .i64 a1.Move.To)), (.d (.sl 2 (List.map d_TCell a1.Move.Cells)))])), (512, (.vars 9 [(.d (.int .i64 v14.1.Epoch)), (.d (.sl 3 (List.map d_TPart v14.1.Parts))), (.d (.int .i64 v14.1.Move.No)), (.d (.int .i64 v14.1.Move.Stage)), (.d (.int .i64 v14.1.Move.Lo)), (.d (.int .i64 v14.1.Move.Hi)), (.d (.int .i64 v14.1.Move.From)), (.d (.int .i64 v14.1.Move.To)), (.d (.sl 2 (List.map d_TCell v14.1.Move.Cells)))])), (640, (.vars 9 [(.d (.int .i64 v16.Epoch)), (.sl 2497 0 v16.Parts.length), (.d (.int .i64 v16.Move.No)), (.d (.int .i64 v16.Move.Stage)), (.d (.int .i64 v16.Move.Lo)), (.d (.int .i64 v16.Move.Hi)), (.d (.int .i64 v16.Move.From)), (.d (.int .i64 v16.Move.To)), (.sl 2504 0 v16.Move.Cells.length)])), (768, (.vars 9 [(.d (.int .i64 v20.1.Epoch)), (.sl 2945 0 v20.1.Parts.length), (.d (.int .i64 v20.1.Move.No)), (.d (.int .i64 v20.1.Move.Stage)), (.d (.int .i64 v20.1.Move.Lo)), (.d (.int .i64 v20.1.Move.Hi)), (.d (.int .i64 v20.1.Move.From)), (.d (.int .i64 v20.1.Move.To)), (.sl 2952 0 v20.1.Move.Cells.length)])), (2497, (.data 3 (List.map d_TPart v16.Parts) true none)), (2504, (.data 2 (List.map d_TCell v16.Move.Cells) true none)), (2624, (.data 2 (List.map d_TCell v18) true none)), (2945, (.data 3 (List.map d_TPart v20.1.Parts) true none)), (2952, (.data 2 (List.map d_TCell v20.1.Move.Cells) true none))] (lk [])) ?_ ?_
      · intro t22 H
        unfold laws_FnExactAtlasFrozen_j22 at H
        rcases oite H with ⟨h24, H⟩ | ⟨h24, H⟩
        · refine AW.condT (eS rfl (eS rfl (eS rfl (eS rfl (eS rfl (eS rfl (eS rfl (eS rfl (eS rfl eZ))))))))) h24 ?_
          refine AW.seq ?_
          refine AW.regs ?_
          refine oMov eC ?_
          refine xNil ?_
          refine TQ.qn ?_
          refine AW.ret ?_
          refine TQ.qr ?_
          obtain rfl := Option.some.inj H
          exact endsR (RL.cons (RV.tmp eZ) (VO.flat rfl) RL.nil) List.nodup_nil
        · refine AW.condF (eS rfl (eS rfl (eS rfl (eS rfl (eS rfl (eS rfl (eS rfl (eS rfl (eS rfl eZ))))))))) (nt h24) ?_
          refine AW.skip ?_
          refine TQ.qn ?_
          refine AW.seq ?_
          refine AW.seq ?_
          refine AW.regd ?_
          refine oLoadVA (es := [(.d (.int .i64 v16.Epoch)), (.sl 2497 0 v16.Parts.length), (.d (.int .i64 v16.Move.No)), (.d (.int .i64 v16.Move.Stage)), (.d (.int .i64 v16.Move.Lo)), (.d (.int .i64 v16.Move.Hi)), (.d (.int .i64 v16.Move.From)), (.d (.int .i64 v16.Move.To)), (.sl 2504 0 v16.Move.Cells.length)]) (eS rfl (eS rfl (eS rfl (eS rfl (eS rfl eZ))))) (hB rfl (bS rfl (bS rfl bZ))) rfl ?_
          refine oLoadVA (es := [(.d (.int .i64 a1.Epoch)), (.d (.sl 3 (List.map d_TPart a1.Parts))), (.d (.int .i64 a1.Move.No)), (.d (.int .i64 a1.Move.Stage)), (.d (.int .i64 a1.Move.Lo)), (.d (.int .i64 a1.Move.Hi)), (.d (.int .i64 a1.Move.From)), (.d (.int .i64 a1.Move.To)), (.d (.sl 2 (List.map d_TCell a1.Move.Cells)))]) (eS rfl (eS rfl (eS rfl eZ))) bZ rfl ?_
          obtain ⟨v25, h26, H⟩ := obind H
          refine oCall (u := (.agg [(.d (.int .i64 v25.Epoch)), (.d (.sl 3 (List.map d_TPart v25.Parts))), (.d (.int .i64 v25.Move.No)), (.d (.int .i64 v25.Move.Stage)), (.d (.int .i64 v25.Move.Lo)), (.d (.int .i64 v25.Move.Hi)), (.d (.int .i64 v25.Move.From)), (.d (.int .i64 v25.Move.To)), (.d (.sl 2 (List.map d_TCell v25.Move.Cells)))])) eC Cl.fn (c_laws_toAtlas h26) (Evs.cons eZ Evs.nil) (VDs.cons (VD.agg rfl) VDs.nil) rfl ?_
          obtain ⟨v27, h28, H⟩ := obind H
          refine oCall (u := (.one (.d (.bool v27)))) eC Cl.fn (c_laws_eqAtlas h28) (Evs.cons (eS rfl (eS rfl eZ)) (Evs.cons eZ Evs.nil)) (VDs.cons (VD.aggs (CDs.plain (CDs.sl (bS rfl (bS rfl (bS rfl (bS rfl bZ)))) (List.length_map _) (CDs.plain (CDs.plain (CDs.plain (CDs.plain (CDs.plain (CDs.plain (CDs.sl (bS rfl (bS rfl (bS rfl (bS rfl (bS rfl bZ))))) (List.length_map _) CDs.nil)))))))))) (VDs.cons (VD.agg rfl) VDs.nil)) rfl ?_
          refine oInv eZ ?_
          refine xNil ?_
          refine TQ.qn ?_
          rcases oite H with ⟨h29, H⟩ | ⟨h29, H⟩
          · refine AW.condF eZ (congrArg Bool.not h29) ?_
            refine AW.skip ?_
            refine TQ.qn ?_
            refine AW.seq ?_
            refine AW.seq ?_
            refine AW.regs ?_
            refine oMov (eS rfl (eS rfl (eS rfl (eS rfl (eS rfl (eS rfl (eS rfl (eS rfl (eS rfl (eS rfl (eS rfl eZ))))))))))) ?_
            refine oMov (eS rfl (eS rfl (eS rfl (eS rfl (eS rfl (eS rfl (eS rfl eZ))))))) ?_
            obtain ⟨v30, h31, H⟩ := obind H
            refine oCall (u := (.one (.d (.sl 2 (List.map d_TCell v30))))) eC Cl.fn (c_laws_toCellS h31) (Evs.cons eZ Evs.nil) (VDs.cons VD.plain VDs.nil) rfl ?_
            obtain ⟨v32, h33, H⟩ := obind H
            refine oCall (u := (.one (.d (.bool v32)))) eC Cl.fn (c_laws_eqCellS h33) (Evs.cons (eS rfl (eS rfl eZ)) (Evs.cons eZ Evs.nil)) (VDs.cons (VD.sl (bS rfl (bS rfl (bS rfl (bS rfl (bS rfl (bS rfl bZ)))))) (List.length_map _)) (VDs.cons VD.plain VDs.nil)) rfl ?_
            refine oInv eZ ?_
            refine xNil ?_
            refine TQ.qn ?_
            refine AW.weaken (wk_mkG [] (SL.cons (k := 67) eZ rfl VWk.rfl (SL.cons (k := 1) (eS rfl (eS rfl (eS rfl (eS rfl (eS rfl (eS rfl (eS rfl (eS rfl (eS rfl (eS rfl eZ)))))))))) rfl VWk.rfl (SL.cons (k := 2) (eS rfl (eS rfl (eS rfl (eS rfl (eS rfl (eS rfl (eS rfl (eS rfl (eS rfl (eS rfl (eS rfl eZ))))))))))) rfl VWk.rfl (SL.cons (k := 3) (eS rfl (eS rfl (eS rfl (eS rfl (eS rfl (eS rfl (eS rfl (eS rfl (eS rfl (eS rfl (eS rfl (eS rfl eZ)))))))))))) rfl VWk.rfl (SL.cons (k := 8) (eS rfl (eS rfl (eS rfl (eS rfl (eS rfl (eS rfl (eS rfl (eS rfl (eS rfl (eS rfl (eS rfl (eS rfl (eS rfl eZ))))))))))))) rfl VWk.rfl (SL.cons (k := 9) (eS rfl (eS rfl (eS rfl (eS rfl (eS rfl (eS rfl (eS rfl (eS rfl (eS rfl (eS rfl (eS rfl (eS rfl (eS rfl (eS rfl eZ)))))))))))))) rfl VWk.rfl (SL.cons (k := 10) (eS rfl (eS rfl (eS rfl (eS rfl (eS rfl (eS rfl (eS rfl (eS rfl (eS rfl (eS rfl (eS rfl (eS rfl (eS rfl (eS rfl (eS rfl eZ))))))))))))))) rfl VWk.rfl (SL.cons (k := 11) (eS rfl (eS rfl (eS rfl (eS rfl (eS rfl (eS rfl (eS rfl (eS rfl (eS rfl (eS rfl (eS rfl (eS rfl (eS rfl (eS rfl (eS rfl (eS rfl eZ)))))))))))))))) rfl VWk.rfl (SL.cons (k := 12) (eS rfl (eS rfl (eS rfl (eS rfl (eS rfl (eS rfl (eS rfl (eS rfl (eS rfl (eS rfl (eS rfl (eS rfl (eS rfl (eS rfl (eS rfl (eS rfl (eS rfl eZ))))))))))))))))) rfl VWk.rfl (SL.cons (k := 13) (eS rfl (eS rfl (eS rfl (eS rfl (eS rfl (eS rfl (eS rfl (eS rfl (eS rfl (eS rfl (eS rfl (eS rfl (eS rfl (eS rfl (eS rfl (eS rfl (eS rfl (eS rfl eZ)))))))))))))))))) rfl VWk.rfl SL.nil)))))))))) (BL.keep rfl (BL.keep rfl (BL.keep rfl (BL.keep rfl (BL.keep rfl (BL.keep rfl (BL.keep rfl (BL.keep rfl (BL.keep rfl BL.nil))))))))) (BK.cons (n := 192) rfl bZ rfl rfl (BK.cons (n := 512) rfl (bS rfl bZ) rfl rfl (BK.cons (n := 640) rfl (bS rfl (bS rfl bZ)) rfl rfl (BK.cons (n := 768) rfl (bS rfl (bS rfl (bS rfl bZ))) rfl rfl (BK.cons (n := 2497) rfl (bS rfl (bS rfl (bS rfl (bS rfl bZ)))) rfl rfl (BK.cons (n := 2504) rfl (bS rfl (bS rfl (bS rfl (bS rfl (bS rfl bZ))))) rfl rfl (BK.cons (n := 2624) rfl (bS rfl (bS rfl (bS rfl (bS rfl (bS rfl (bS rfl bZ)))))) rfl rfl (BK.cons (n := 2945) rfl (bS rfl (bS rfl (bS rfl (bS rfl (bS rfl (bS rfl (bS rfl bZ))))))) rfl rfl (BK.cons (n := 2952) rfl (bS rfl (bS rfl (bS rfl (bS rfl (bS rfl (bS rfl (bS rfl (bS rfl bZ)))))))) rfl rfl BK.nil))))))))) GK.nil) ?_
            rcases oite H with ⟨h34, H⟩ | ⟨h34, H⟩
            · refine AW.condF eZ (congrArg Bool.not h34) ?_
              refine AW.skip ?_
              refine TQ.qn ?_
              refine AW.seq ?_
              refine AW.regs ?_
              refine oMov eC ?_
              refine xNil ?_
              refine TQ.qn ?_
              refine AW.seq ?_
              refine AW.regm ?_
              refine rmOne ?_
              refine oLoadVA (es := [(.d (.int .i64 v16.Epoch)), (.sl 2497 0 v16.Parts.length), (.d (.int .i64 v16.Move.No)), (.d (.int .i64 v16.Move.Stage)), (.d (.int .i64 v16.Move.Lo)), (.d (.int .i64 v16.Move.Hi)), (.d (.int .i64 v16.Move.From)), (.d (.int .i64 v16.Move.To)), (.sl 2504 0 v16.Move.Cells.length)]) (eS rfl (eS rfl (eS rfl (eS rfl (eS rfl (eS rfl (eS rfl eZ))))))) (bS rfl (bS rfl bZ)) rfl ?_
              refine xNil ?_
              refine rmOne ?_
              refine oMov (eS rfl eZ) ?_
              refine xNil ?_
              obtain ⟨v35, h36, H⟩ := obind H
              obtain ⟨h37, H⟩ := oguard H
              obtain ⟨h38, H⟩ := oguard H
              refine rmCallI (ON := [2497, 2504]) (ls := []) (G := []) (E := [subKey 2497, subKey 2504]) (MB := [(2497, (.data 3 (List.map d_TPart v35.2.Parts) true none)), (2504, (.data 2 (List.map d_TCell v35.2.Move.Cells) true none))]) (u := (.one (.d (.int .i64 v35.1)))) eC Cl.fn (c_laws_markAtlas h36) (Evs.cons (eS rfl eZ) (Evs.cons eZ Evs.nil)) (AO.mut (VO.aggs (VOs.cons (VO.flat rfl) (VOs.cons (VO.sl (bS rfl (bS rfl (bS rfl (bS rfl bZ)))) (List.length_map _) (allFlat fun _ => rfl)) (VOs.cons (VO.flat rfl) (VOs.cons (VO.flat rfl) (VOs.cons (VO.flat rfl) (VOs.cons (VO.flat rfl) (VOs.cons (VO.flat rfl) (VOs.cons (VO.flat rfl) (VOs.cons (VO.sl (bS rfl (bS rfl (bS rfl (bS rfl (bS rfl bZ))))) (List.length_map _) (allFlat fun _ => rfl)) VOs.nil)))))))))) (AO.lent VD.plain rfl AO.nil)) rfl rfl rfl (SZ.cons (bS rfl (bS rfl (bS rfl (bS rfl bZ)))) (allFlat fun _ => rfl) (SZ.cons (bS rfl (bS rfl (bS rfl (bS rfl (bS rfl bZ))))) (allFlat fun _ => rfl) SZ.nil)) (erL.cons (v' := (.one (.d (.int .i64 1)))) rfl (erL.cons (v' := (.agg [(.d (.int .i64 v16.Epoch)), (.sl 2497 0 v16.Parts.length), (.d (.int .i64 v16.Move.No)), (.d (.int .i64 v16.Move.Stage)), (.d (.int .i64 v16.Move.Lo)), (.d (.int .i64 v16.Move.Hi)), (.d (.int .i64 v16.Move.From)), (.d (.int .i64 v16.Move.To)), (.sl 2504 0 v16.Move.Cells.length)])) rfl (erL.cons (v' := (.one (.d (.int .i64 1)))) rfl (erL.cons (v' := (.one (.d (.bool (!v32))))) rfl (erL.cons (v' := (.one (.d (.int .i64 a2)))) rfl (erL.cons (v' := (.one (.d (.sl 2 (List.map d_TCell a3))))) rfl (erL.cons (v' := (.one (.ptr (.nm 192 0 0)))) rfl (erL.cons (v' := (.one (.ptr (.nm 512 0 0)))) rfl (erL.cons (v' := (.one (.d (.int .i64 v14.2)))) rfl (erL.cons (v' := (.one (.ptr (.nm 640 0 0)))) rfl (erL.cons (v' := (.one (.sl 2624 0 v18.length))) rfl (erL.cons (v' := (.one (.ptr (.nm 768 0 0)))) rfl (erL.cons (v' := (.one (.d (.int .i64 v20.2)))) rfl erL.nil))))))))))))) (erH.cons (v' := (.vars 9 [(.d (.int .i64 a1.Epoch)), (.d (.sl 3 (List.map d_TPart a1.Parts))), (.d (.int .i64 a1.Move.No)), (.d (.int .i64 a1.Move.Stage)), (.d (.int .i64 a1.Move.Lo)), (.d (.int .i64 a1.Move.Hi)), (.d (.int .i64 a1.Move.From)), (.d (.int .i64 a1.Move.To)), (.d (.sl 2 (List.map d_TCell a1.Move.Cells)))])) rfl rfl (erH.cons (v' := (.vars 9 [(.d (.int .i64 v14.1.Epoch)), (.d (.sl 3 (List.map d_TPart v14.1.Parts))), (.d (.int .i64 v14.1.Move.No)), (.d (.int .i64 v14.1.Move.Stage)), (.d (.int .i64 v14.1.Move.Lo)), (.d (.int .i64 v14.1.Move.Hi)), (.d (.int .i64 v14.1.Move.From)), (.d (.int .i64 v14.1.Move.To)), (.d (.sl 2 (List.map d_TCell v14.1.Move.Cells)))])) rfl rfl (erH.cons (v' := (.vars 9 [(.d (.int .i64 v16.Epoch)), (.sl 2497 0 v16.Parts.length), (.d (.int .i64 v16.Move.No)), (.d (.int .i64 v16.Move.Stage)), (.d (.int .i64 v16.Move.Lo)), (.d (.int .i64 v16.Move.Hi)), (.d (.int .i64 v16.Move.From)), (.d (.int .i64 v16.Move.To)), (.sl 2504 0 v16.Move.Cells.length)])) rfl rfl (erH.cons (v' := (.vars 9 [(.d (.int .i64 v20.1.Epoch)), (.sl 2945 0 v20.1.Parts.length), (.d (.int .i64 v20.1.Move.No)), (.d (.int .i64 v20.1.Move.Stage)), (.d (.int .i64 v20.1.Move.Lo)), (.d (.int .i64 v20.1.Move.Hi)), (.d (.int .i64 v20.1.Move.From)), (.d (.int .i64 v20.1.Move.To)), (.sl 2952 0 v20.1.Move.Cells.length)])) rfl rfl (erH.cons (v' := (.data 3 (List.map d_TPart v16.Parts) true none)) rfl rfl (erH.cons (v' := (.data 2 (List.map d_TCell v16.Move.Cells) true none)) rfl rfl (erH.cons (v' := (.data 2 (List.map d_TCell v18) true none)) rfl rfl (erH.cons (v' := (.data 3 (List.map d_TPart v20.1.Parts) true none)) rfl rfl (erH.cons (v' := (.data 2 (List.map d_TCell v20.1.Move.Cells) true none)) rfl rfl erH.nil))))))))) erL.nil rfl rfl ?_
              refine rmRest ?_
              refine oMov eZ ?_
              refine xNil ?_
              refine TQ.qn ?_
              refine AW.seq ?_
              refine AW.regm ?_
              refine rmOne ?_
              refine oMov (eS rfl (eS rfl (eS rfl (eS rfl (eS rfl (eS rfl (eS rfl (eS rfl (eS rfl (eS rfl (eS rfl (eS rfl eZ)))))))))))) ?_
              refine xNil ?_
              refine rmOne ?_
              refine oMov (eS rfl eZ) ?_
              refine xNil ?_
              obtain ⟨v39, h40, H⟩ := obind H
              obtain ⟨h41, H⟩ := oguard H
              refine rmCallI (ON := [2624]) (ls := []) (G := []) (E := [subKey 2624]) (MB := [(2624, (.data 2 (List.map d_TCell v39.2) true none))]) (u := (.one (.d (.int .i64 v39.1)))) eC Cl.fn (c_laws_markCellS h40) (Evs.cons (eS rfl eZ) (Evs.cons eZ Evs.nil)) (AO.mut (VO.sl (bS rfl (bS rfl (bS rfl (bS rfl (bS rfl (bS rfl (bS rfl (bS rfl bZ)))))))) (List.length_map _) (allFlat fun _ => rfl)) (AO.lent VD.plain rfl AO.nil)) rfl rfl rfl (SZ.cons (bS rfl (bS rfl (bS rfl (bS rfl (bS rfl (bS rfl (bS rfl (bS rfl bZ)))))))) (allFlat fun _ => rfl) SZ.nil) (erL.cons (v' := (.one (.d (.int .i64 v35.1)))) rfl (erL.cons (v' := (.one (.sl 2624 0 v18.length))) rfl (erL.cons (v' := (.one (.d (.int .i64 v35.1)))) rfl (erL.cons (v' := (.one (.d (.int .i64 v35.1)))) rfl (erL.cons (v' := (.one (.d (.int .i64 1)))) rfl (erL.cons (v' := (.agg [(.d (.int .i64 v16.Epoch)), (.sl 2497 0 v16.Parts.length), (.d (.int .i64 v16.Move.No)), (.d (.int .i64 v16.Move.Stage)), (.d (.int .i64 v16.Move.Lo)), (.d (.int .i64 v16.Move.Hi)), (.d (.int .i64 v16.Move.From)), (.d (.int .i64 v16.Move.To)), (.sl 2504 0 v16.Move.Cells.length)])) rfl (erL.cons (v' := (.one (.d (.int .i64 1)))) rfl (erL.cons (v' := (.one (.d (.bool (!v32))))) rfl (erL.cons (v' := (.one (.d (.int .i64 a2)))) rfl (erL.cons (v' := (.one (.d (.sl 2 (List.map d_TCell a3))))) rfl (erL.cons (v' := (.one (.ptr (.nm 192 0 0)))) rfl (erL.cons (v' := (.one (.ptr (.nm 512 0 0)))) rfl (erL.cons (v' := (.one (.d (.int .i64 v14.2)))) rfl (erL.cons (v' := (.one (.ptr (.nm 640 0 0)))) rfl (erL.cons (v' := (.one (.sl 2624 0 v18.length))) rfl (erL.cons (v' := (.one (.ptr (.nm 768 0 0)))) rfl (erL.cons (v' := (.one (.d (.int .i64 v20.2)))) rfl erL.nil))))))))))))))))) (erH.cons (v' := (.data 2 (List.map d_TCell v35.2.Move.Cells) true none)) rfl rfl (erH.cons (v' := (.data 3 (List.map d_TPart v35.2.Parts) true none)) rfl rfl (erH.cons (v' := (.vars 9 [(.d (.int .i64 a1.Epoch)), (.d (.sl 3 (List.map d_TPart a1.Parts))), (.d (.int .i64 a1.Move.No)), (.d (.int .i64 a1.Move.Stage)), (.d (.int .i64 a1.Move.Lo)), (.d (.int .i64 a1.Move.Hi)), (.d (.int .i64 a1.Move.From)), (.d (.int .i64 a1.Move.To)), (.d (.sl 2 (List.map d_TCell a1.Move.Cells)))])) rfl rfl (erH.cons (v' := (.vars 9 [(.d (.int .i64 v14.1.Epoch)), (.d (.sl 3 (List.map d_TPart v14.1.Parts))), (.d (.int .i64 v14.1.Move.No)), (.d (.int .i64 v14.1.Move.Stage)), (.d (.int .i64 v14.1.Move.Lo)), (.d (.int .i64 v14.1.Move.Hi)), (.d (.int .i64 v14.1.Move.From)), (.d (.int .i64 v14.1.Move.To)), (.d (.sl 2 (List.map d_TCell v14.1.Move.Cells)))])) rfl rfl (erH.cons (v' := (.vars 9 [(.d (.int .i64 v16.Epoch)), (.sl 2497 0 v16.Parts.length), (.d (.int .i64 v16.Move.No)), (.d (.int .i64 v16.Move.Stage)), (.d (.int .i64 v16.Move.Lo)), (.d (.int .i64 v16.Move.Hi)), (.d (.int .i64 v16.Move.From)), (.d (.int .i64 v16.Move.To)), (.sl 2504 0 v16.Move.Cells.length)])) rfl rfl (erH.cons (v' := (.vars 9 [(.d (.int .i64 v20.1.Epoch)), (.sl 2945 0 v20.1.Parts.length), (.d (.int .i64 v20.1.Move.No)), (.d (.int .i64 v20.1.Move.Stage)), (.d (.int .i64 v20.1.Move.Lo)), (.d (.int .i64 v20.1.Move.Hi)), (.d (.int .i64 v20.1.Move.From)), (.d (.int .i64 v20.1.Move.To)), (.sl 2952 0 v20.1.Move.Cells.length)])) rfl rfl (erH.cons (v' := (.data 3 (List.map d_TPart v16.Parts) true none)) rfl rfl (erH.cons (v' := (.data 2 (List.map d_TCell v16.Move.Cells) true none)) rfl rfl (erH.cons (v' := (.data 2 (List.map d_TCell v18) true none)) rfl rfl (erH.cons (v' := (.data 3 (List.map d_TPart v20.1.Parts) true none)) rfl rfl (erH.cons (v' := (.data 2 (List.map d_TCell v20.1.Move.Cells) true none)) rfl rfl erH.nil))))))))))) erL.nil rfl rfl ?_
              refine rmRest ?_
              refine oMov eZ ?_
              refine xNil ?_
              refine TQ.qn ?_
              refine AW.weaken (wk_mkG [2624, 2504, 2497, 640] (SL.cons (k := 14) eZ rfl VWk.rfl (SL.cons (k := 1) (eS rfl (eS rfl (eS rfl (eS rfl (eS rfl (eS rfl (eS rfl (eS rfl (eS rfl (eS rfl eZ)))))))))) rfl VWk.rfl (SL.cons (k := 2) (eS rfl (eS rfl (eS rfl (eS rfl (eS rfl (eS rfl (eS rfl (eS rfl (eS rfl (eS rfl (eS rfl eZ))))))))))) rfl VWk.rfl (SL.cons (k := 3) (eS rfl (eS rfl (eS rfl (eS rfl (eS rfl (eS rfl (eS rfl (eS rfl (eS rfl (eS rfl (eS rfl (eS rfl eZ)))))))))))) rfl VWk.rfl (SL.cons (k := 8) (eS rfl (eS rfl (eS rfl (eS rfl (eS rfl (eS rfl (eS rfl (eS rfl (eS rfl (eS rfl (eS rfl (eS rfl (eS rfl eZ))))))))))))) rfl VWk.rfl (SL.cons (k := 9) (eS rfl (eS rfl (eS rfl (eS rfl (eS rfl (eS rfl (eS rfl (eS rfl (eS rfl (eS rfl (eS rfl (eS rfl (eS rfl (eS rfl eZ)))))))))))))) rfl VWk.rfl (SL.cons (k := 12) (eS rfl (eS rfl (eS rfl (eS rfl (eS rfl (eS rfl (eS rfl (eS rfl (eS rfl (eS rfl (eS rfl (eS rfl (eS rfl (eS rfl (eS rfl (eS rfl (eS rfl eZ))))))))))))))))) rfl VWk.rfl (SL.cons (k := 13) (eS rfl (eS rfl (eS rfl (eS rfl (eS rfl (eS rfl (eS rfl (eS rfl (eS rfl (eS rfl (eS rfl (eS rfl (eS rfl (eS rfl (eS rfl (eS rfl (eS rfl (eS rfl eZ)))))))))))))))))) rfl VWk.rfl SL.nil)))))))) (BL.drop rfl (BL.drop rfl (BL.drop rfl (BL.keep rfl (BL.keep rfl (BL.drop rfl (BL.keep rfl (BL.drop rfl (BL.drop rfl (BL.drop rfl (BL.keep rfl (BL.keep rfl BL.nil)))))))))))) (BK.cons (n := 192) rfl (bS rfl (bS rfl (bS rfl bZ))) rfl rfl (BK.cons (n := 512) rfl (bS rfl (bS rfl (bS rfl (bS rfl bZ)))) rfl rfl (BK.cons (n := 768) rfl (bS rfl (bS rfl (bS rfl (bS rfl (bS rfl (bS rfl bZ)))))) rfl rfl (BK.cons (n := 2945) rfl (bS rfl (bS rfl (bS rfl (bS rfl (bS rfl (bS rfl (bS rfl (bS rfl (bS rfl (bS rfl bZ)))))))))) rfl rfl (BK.cons (n := 2952) rfl (bS rfl (bS rfl (bS rfl (bS rfl (bS rfl (bS rfl (bS rfl (bS rfl (bS rfl (bS rfl (bS rfl bZ))))))))))) rfl rfl BK.nil))))) GK.nil) ?_
              refine AW.seq ?_
              refine AW.seqJ (fun t42 : Bool => (laws_FnExactAtlasFrozen_j42 v20 a1 a3 a2 v14) t42 = some r) (fun t42 => mk [(1, (.one (.d (.int .i64 a2)))), (2, (.one (.d (.sl 2 (List.map d_TCell a3))))), (3, (.one (.ptr (.nm 192 0 0)))), (8, (.one (.ptr (.nm 512 0 0)))), (9, (.one (.d (.int .i64 v14.2)))), (12, (.one (.ptr (.nm 768 0 0)))), (86, (.one (.d (.bool t42))))] [(192, (.vars 9 [(.d (.int .i64 a1.Epoch)), (.d (.sl 3 (List.map d_TPart a1.Parts))), (.d (.int .i64 a1.Move.No)), (.d (.int .i64 a1.Move.Stage)), (.d (.int .i64 a1.Move.Lo)), (.d (.int .i64 a1.Move.Hi)), (.d (.int .i64 a1.Move.From)), (.d (.int .i64 a1.Move.To)), (.d (.sl 2 (List.map d_TCell a1.Move.Cells)))])), (512, (.vars 9 [(.d (.int .i64 v14.1.Epoch)), (.d (.sl 3 (List.map d_TPart v14.1.Parts))), (.d (.int .i64 v14.1.Move.No)), (.d (.int .i64 v14.1.Move.Stage)), (.d (.int .i64 v14.1.Move.Lo)), (.d (.int .i64 v14.1.Move.Hi)), (.d (.int .i64 v14.1.Move.From)), (.d (.int .i64 v14.1.Move.To)), (.d (.sl 2 (List.map d_TCell v14.1.Move.Cells)))])), (768, (.vars 9 [(.d (.int .i64 v20.1.Epoch)), (.sl 2945 0 v20.1.Parts.length), (.d (.int .i64 v20.1.Move.No)), (.d (.int .i64 v20.1.Move.Stage)), (.d (.int .i64 v20.1.Move.Lo)), (.d (.int .i64 v20.1.Move.Hi)), (.d (.int .i64 v20.1.Move.From)), (.d (.int .i64 v20.1.Move.To)), (.sl 2952 0 v20.1.Move.Cells.length)])), (2945, (.data 3 (List.map d_TPart v20.1.Parts) true none)), (2952, (.data 2 (List.map d_TCell v20.1.Move.Cells) true none))] (lk [])) ?_ ?_
              · intro t42 H
                unfold laws_FnExactAtlasFrozen_j42 at H
                rcases oite H with ⟨h44, H⟩ | ⟨h44, H⟩
                · refine AW.condT (eS rfl (eS rfl (eS rfl (eS rfl (eS rfl (eS rfl eZ)))))) h44 ?_
                  refine AW.seq ?_
                  refine AW.regs ?_
                  refine oMov eC ?_
                  refine xNil ?_
                  refine TQ.qn ?_
                  refine AW.ret ?_
                  refine TQ.qr ?_
                  obtain rfl := Option.some.inj H
                  exact endsR (RL.cons (RV.tmp eZ) (VO.flat rfl) RL.nil) List.nodup_nil
                · refine AW.condF (eS rfl (eS rfl (eS rfl (eS rfl (eS rfl (eS rfl eZ)))))) (nt h44) ?_
                  refine AW.skip ?_
                  refine TQ.qn ?_
                  refine AW.seq ?_
                  refine AW.regs ?_
                  refine oMov eC ?_
                  refine xNil ?_
                  refine TQ.qn ?_
                  refine AW.seq ?_
                  refine AW.regm ?_
                  refine rmOne ?_
                  refine oLoadVA (es := [(.d (.int .i64 v20.1.Epoch)), (.sl 2945 0 v20.1.Parts.length), (.d (.int .i64 v20.1.Move.No)), (.d (.int .i64 v20.1.Move.Stage)), (.d (.int .i64 v20.1.Move.Lo)), (.d (.int .i64 v20.1.Move.Hi)), (.d (.int .i64 v20.1.Move.From)), (.d (.int .i64 v20.1.Move.To)), (.sl 2952 0 v20.1.Move.Cells.length)]) (eS rfl (eS rfl (eS rfl (eS rfl (eS rfl (eS rfl eZ)))))) (bS rfl (bS rfl bZ)) rfl ?_
                  refine xNil ?_
                  refine rmOne ?_
                  refine oMov (eS rfl eZ) ?_
                  refine xNil ?_
                  obtain ⟨v45, h46, H⟩ := obind H
                  obtain ⟨h47, H⟩ := oguard H
                  obtain ⟨h48, H⟩ := oguard H
                  refine rmCallI (ON := [2945, 2952]) (ls := []) (G := []) (E := [subKey 2945, subKey 2952]) (MB := [(2945, (.data 3 (List.map d_TPart v45.2.Parts) true none)), (2952, (.data 2 (List.map d_TCell v45.2.Move.Cells) true none))]) (u := (.one (.d (.int .i64 v45.1)))) eC Cl.fn (c_laws_markAtlas h46) (Evs.cons (eS rfl eZ) (Evs.cons eZ Evs.nil)) (AO.mut (VO.aggs (VOs.cons (VO.flat rfl) (VOs.cons (VO.sl (bS rfl (bS rfl (bS rfl bZ))) (List.length_map _) (allFlat fun _ => rfl)) (VOs.cons (VO.flat rfl) (VOs.cons (VO.flat rfl) (VOs.cons (VO.flat rfl) (VOs.cons (VO.flat rfl) (VOs.cons (VO.flat rfl) (VOs.cons (VO.flat rfl) (VOs.cons (VO.sl (bS rfl (bS rfl (bS rfl (bS rfl bZ)))) (List.length_map _) (allFlat fun _ => rfl)) VOs.nil)))))))))) (AO.lent VD.plain rfl AO.nil)) rfl rfl rfl (SZ.cons (bS rfl (bS rfl (bS rfl bZ))) (allFlat fun _ => rfl) (SZ.cons (bS rfl (bS rfl (bS rfl (bS rfl bZ)))) (allFlat fun _ => rfl) SZ.nil)) (erL.cons (v' := (.one (.d (.int .i64 1)))) rfl (erL.cons (v' := (.agg [(.d (.int .i64 v20.1.Epoch)), (.sl 2945 0 v20.1.Parts.length), (.d (.int .i64 v20.1.Move.No)), (.d (.int .i64 v20.1.Move.Stage)), (.d (.int .i64 v20.1.Move.Lo)), (.d (.int .i64 v20.1.Move.Hi)), (.d (.int .i64 v20.1.Move.From)), (.d (.int .i64 v20.1.Move.To)), (.sl 2952 0 v20.1.Move.Cells.length)])) rfl (erL.cons (v' := (.one (.d (.int .i64 1)))) rfl (erL.cons (v' := (.one (.d (.int .i64 a2)))) rfl (erL.cons (v' := (.one (.d (.sl 2 (List.map d_TCell a3))))) rfl (erL.cons (v' := (.one (.ptr (.nm 192 0 0)))) rfl (erL.cons (v' := (.one (.ptr (.nm 512 0 0)))) rfl (erL.cons (v' := (.one (.d (.int .i64 v14.2)))) rfl (erL.cons (v' := (.one (.ptr (.nm 768 0 0)))) rfl (erL.cons (v' := (.one (.d (.bool t42)))) rfl erL.nil)))))))))) (erH.cons (v' := (.vars 9 [(.d (.int .i64 a1.Epoch)), (.d (.sl 3 (List.map d_TPart a1.Parts))), (.d (.int .i64 a1.Move.No)), (.d (.int .i64 a1.Move.Stage)), (.d (.int .i64 a1.Move.Lo)), (.d (.int .i64 a1.Move.Hi)), (.d (.int .i64 a1.Move.From)), (.d (.int .i64 a1.Move.To)), (.d (.sl 2 (List.map d_TCell a1.Move.Cells)))])) rfl rfl (erH.cons (v' := (.vars 9 [(.d (.int .i64 v14.1.Epoch)), (.d (.sl 3 (List.map d_TPart v14.1.Parts))), (.d (.int .i64 v14.1.Move.No)), (.d (.int .i64 v14.1.Move.Stage)), (.d (.int .i64 v14.1.Move.Lo)), (.d (.int .i64 v14.1.Move.Hi)), (.d (.int .i64 v14.1.Move.From)), (.d (.int .i64 v14.1.Move.To)), (.d (.sl 2 (List.map d_TCell v14.1.Move.Cells)))])) rfl rfl (erH.cons (v' := (.vars 9 [(.d (.int .i64 v20.1.Epoch)), (.sl 2945 0 v20.1.Parts.length), (.d (.int .i64 v20.1.Move.No)), (.d (.int .i64 v20.1.Move.Stage)), (.d (.int .i64 v20.1.Move.Lo)), (.d (.int .i64 v20.1.Move.Hi)), (.d (.int .i64 v20.1.Move.From)), (.d (.int .i64 v20.1.Move.To)), (.sl 2952 0 v20.1.Move.Cells.length)])) rfl rfl (erH.cons (v' := (.data 3 (List.map d_TPart v20.1.Parts) true none)) rfl rfl (erH.cons (v' := (.data 2 (List.map d_TCell v20.1.Move.Cells) true none)) rfl rfl erH.nil))))) erL.nil rfl rfl ?_
                  refine rmRest ?_
                  refine oMov eZ ?_
                  refine xNil ?_
                  refine TQ.qn ?_
                  refine AW.seq ?_
                  refine AW.regs ?_
                  refine oMov eC ?_
                  refine xNil ?_
                  refine TQ.qn ?_
                  refine AW.seq ?_
                  refine AW.regs ?_
                  refine oLoadVA (es := [(.d (.int .i64 v20.1.Epoch)), (.sl 2945 0 v20.1.Parts.length), (.d (.int .i64 v20.1.Move.No)), (.d (.int .i64 v20.1.Move.Stage)), (.d (.int .i64 v20.1.Move.Lo)), (.d (.int .i64 v20.1.Move.Hi)), (.d (.int .i64 v20.1.Move.From)), (.d (.int .i64 v20.1.Move.To)), (.sl 2952 0 v20.1.Move.Cells.length)]) (eS rfl (eS rfl (eS rfl (eS rfl (eS rfl (eS rfl (eS rfl (eS rfl (eS rfl (eS rfl (eS rfl eZ))))))))))) (bS rfl (bS rfl (bS rfl (bS rfl bZ)))) rfl ?_
                  refine oMov (eS rfl eZ) ?_
                  obtain ⟨v49, h50, H⟩ := obind H
                  refine oCall (u := (.one (.d (.int .i64 v49)))) eC Cl.fn (c_laws_heldAtlas h50) (Evs.cons (eS rfl eZ) (Evs.cons eZ Evs.nil)) (VDs.cons (VD.aggs (CDs.plain (CDs.sl (bS rfl bZ) (by first | (simp; done) | (simp; omega) | omega) (CDs.plain (CDs.plain (CDs.plain (CDs.plain (CDs.plain (CDs.plain (CDs.sl bZ (by first | (simp; done) | (simp; omega) | omega) CDs.nil)))))))))) (VDs.cons VD.plain VDs.nil)) rfl ?_
                  refine oMov eZ ?_
                  refine xNil ?_
                  refine TQ.qn ?_
                  refine AW.weaken (wk_mkG [] (SL.cons (k := 16) eZ rfl VWk.rfl (SL.cons (k := 15) (eS rfl (eS rfl (eS rfl (eS rfl (eS rfl eZ))))) rfl VWk.rfl (SL.cons (k := 1) (eS rfl (eS rfl (eS rfl (eS rfl (eS rfl (eS rfl (eS rfl (eS rfl (eS rfl (eS rfl eZ)))))))))) rfl VWk.rfl (SL.cons (k := 2) (eS rfl (eS rfl (eS rfl (eS rfl (eS rfl (eS rfl (eS rfl (eS rfl (eS rfl (eS rfl (eS rfl eZ))))))))))) rfl VWk.rfl (SL.cons (k := 3) (eS rfl (eS rfl (eS rfl (eS rfl (eS rfl (eS rfl (eS rfl (eS rfl (eS rfl (eS rfl (eS rfl (eS rfl eZ)))))))))))) rfl VWk.rfl (SL.cons (k := 8) (eS rfl (eS rfl (eS rfl (eS rfl (eS rfl (eS rfl (eS rfl (eS rfl (eS rfl (eS rfl (eS rfl (eS rfl (eS rfl eZ))))))))))))) rfl VWk.rfl (SL.cons (k := 9) (eS rfl (eS rfl (eS rfl (eS rfl (eS rfl (eS rfl (eS rfl (eS rfl (eS rfl (eS rfl (eS rfl (eS rfl (eS rfl (eS rfl eZ)))))))))))))) rfl VWk.rfl (SL.cons (k := 12) (eS rfl (eS rfl (eS rfl (eS rfl (eS rfl (eS rfl (eS rfl (eS rfl (eS rfl (eS rfl (eS rfl (eS rfl (eS rfl (eS rfl (eS rfl eZ))))))))))))))) rfl VWk.rfl SL.nil)))))))) (BL.keep rfl (BL.keep rfl (BL.keep rfl (BL.keep rfl (BL.keep rfl (BL.keep rfl (BL.keep rfl BL.nil))))))) (BK.cons (n := 2952) rfl bZ rfl rfl (BK.cons (n := 2945) rfl (bS rfl bZ) rfl rfl (BK.cons (n := 192) rfl (bS rfl (bS rfl bZ)) rfl rfl (BK.cons (n := 512) rfl (bS rfl (bS rfl (bS rfl bZ))) rfl rfl (BK.cons (n := 768) rfl (bS rfl (bS rfl (bS rfl (bS rfl bZ)))) rfl rfl BK.nil))))) GK.nil) ?_
                  refine AW.seq ?_
                  refine AW.seq ?_
                  refine AW.regs ?_
                  refine oMov eZ ?_
                  refine oLss eZ eC ?_
                  refine xNil ?_
                  refine TQ.qn ?_
                  rcases oite H with ⟨h51, H⟩ | ⟨h51, H⟩
                  · refine AW.condT eZ (decide_eq_true h51) ?_
                    refine AW.seq ?_
                    refine AW.regs ?_
                    refine oMov eC ?_
                    refine xNil ?_
                    refine TQ.qn ?_
                    refine AW.ret ?_
                    refine TQ.qr ?_
                    obtain rfl := Option.some.inj H
                    exact endsR (RL.cons (RV.tmp eZ) (VO.flat rfl) RL.nil) List.nodup_nil
                  · refine AW.condF eZ (decide_eq_false h51) ?_
                    refine AW.skip ?_
                    refine TQ.qn ?_
                    refine AW.seq ?_
                    refine AW.seq ?_
                    refine AW.regs ?_
                    refine oMov (eS rfl (eS rfl eZ)) ?_
                    refine oMov (eS rfl (eS rfl (eS rfl (eS rfl eZ)))) ?_
                    refine oNeq (eS rfl eZ) eZ ?_
                    refine xNil ?_
                    refine TQ.qn ?_
                    rcases oite H with ⟨h52, H⟩ | ⟨h52, H⟩
                    · refine AW.condT eZ (decide_eq_true h52) ?_
                      refine AW.seq ?_
                      refine AW.regs ?_
                      refine oMov eC ?_
                      refine xNil ?_
                      refine TQ.qn ?_
                      refine AW.ret ?_
                      refine TQ.qr ?_
                      obtain rfl := Option.some.inj H
                      exact endsR (RL.cons (RV.tmp eZ) (VO.flat rfl) RL.nil) List.nodup_nil
                    · refine AW.condF eZ (decide_eq_false h52) ?_
                      refine AW.skip ?_
                      refine TQ.qn ?_
                      refine AW.seq ?_
                      refine AW.regs ?_
                      refine oLoadVA (es := [(.d (.int .i64 a1.Epoch)), (.d (.sl 3 (List.map d_TPart a1.Parts))), (.d (.int .i64 a1.Move.No)), (.d (.int .i64 a1.Move.Stage)), (.d (.int .i64 a1.Move.Lo)), (.d (.int .i64 a1.Move.Hi)), (.d (.int .i64 a1.Move.From)), (.d (.int .i64 a1.Move.To)), (.d (.sl 2 (List.map d_TCell a1.Move.Cells)))]) (eS rfl (eS rfl (eS rfl (eS rfl (eS rfl (eS rfl (eS rfl (eS rfl (eS rfl eZ))))))))) (bS rfl (bS rfl bZ)) rfl ?_
                      obtain ⟨v53, h54, H⟩ := obind H
                      refine oCall (u := (.agg [(.d (.int .i64 v53.Epoch)), (.d (.sl 3 (List.map d_TPart v53.Parts))), (.d (.int .i64 v53.Move.No)), (.d (.int .i64 v53.Move.Stage)), (.d (.int .i64 v53.Move.Lo)), (.d (.int .i64 v53.Move.Hi)), (.d (.int .i64 v53.Move.From)), (.d (.int .i64 v53.Move.To)), (.d (.sl 2 (List.map d_TCell v53.Move.Cells)))])) eC Cl.fn (c_laws_toAtlas h54) (Evs.cons eZ Evs.nil) (VDs.cons (VD.agg rfl) VDs.nil) rfl ?_
                      refine oMov (eS rfl (eS rfl (eS rfl (eS rfl (eS rfl (eS rfl (eS rfl (eS rfl (eS rfl eZ))))))))) ?_
                      refine oMov (eS rfl (eS rfl (eS rfl (eS rfl (eS rfl (eS rfl (eS rfl (eS rfl (eS rfl (eS rfl (eS rfl eZ))))))))))) ?_
                      obtain ⟨v55, h56, H⟩ := obind H
                      refine oCall (u := (.one (.d (.sl 2 (List.map d_TCell v55))))) eC Cl.fn (c_laws_toCellS h56) (Evs.cons eZ Evs.nil) (VDs.cons VD.plain VDs.nil) rfl ?_
                      obtain ⟨v57, h58, H⟩ := obind H
                      refine oCall (u := (.tup [(.agg [(.d (.int .i64 v57.1.Epoch)), (.d (.sl 3 (List.map d_TPart v57.1.Parts))), (.d (.int .i64 v57.1.Move.No)), (.d (.int .i64 v57.1.Move.Stage)), (.d (.int .i64 v57.1.Move.Lo)), (.d (.int .i64 v57.1.Move.Hi)), (.d (.int .i64 v57.1.Move.From)), (.d (.int .i64 v57.1.Move.To)), (.d (.sl 2 (List.map d_TCell v57.1.Move.Cells)))]), (.one (.d (.int .i64 v57.2)))])) eC Cl.fn (c_impl_AtlasFrozen h58) (Evs.cons (eS rfl (eS rfl (eS rfl eZ))) (Evs.cons (eS rfl (eS rfl eZ)) (Evs.cons eZ Evs.nil))) (VDs.cons (VD.agg rfl) (VDs.cons VD.plain (VDs.cons VD.plain VDs.nil))) rfl ?_
                      refine oMov eZ ?_
                      refine oExt (v := (.agg [(.d (.int .i64 v57.1.Epoch)), (.d (.sl 3 (List.map d_TPart v57.1.Parts))), (.d (.int .i64 v57.1.Move.No)), (.d (.int .i64 v57.1.Move.Stage)), (.d (.int .i64 v57.1.Move.Lo)), (.d (.int .i64 v57.1.Move.Hi)), (.d (.int .i64 v57.1.Move.From)), (.d (.int .i64 v57.1.Move.To)), (.d (.sl 2 (List.map d_TCell v57.1.Move.Cells)))])) eZ rfl ?_
                      refine oExt (v := (.one (.d (.int .i64 v57.2)))) (eS rfl eZ) rfl ?_
                      refine oVar (n := 1088) (m := 9) rfl rfl (nS rfl (nS rfl (nS rfl (nS rfl (nS rfl nZ))))) ?_
                      refine oStoreV (es := [(.d (.int .i64 v57.1.Epoch)), (.d (.sl 3 (List.map d_TPart v57.1.Parts))), (.d (.int .i64 v57.1.Move.No)), (.d (.int .i64 v57.1.Move.Stage)), (.d (.int .i64 v57.1.Move.Lo)), (.d (.int .i64 v57.1.Move.Hi)), (.d (.int .i64 v57.1.Move.From)), (.d (.int .i64 v57.1.Move.To)), (.d (.sl 2 (List.map d_TCell v57.1.Move.Cells)))]) eZ (eS rfl (eS rfl eZ)) rfl rfl bZ rfl ?_
                      refine oMov (eS rfl eZ) ?_
                      refine xNil ?_
                      refine TQ.qn ?_
                      refine AW.weaken (wk_mkG [192] (SL.cons (k := 18) eZ rfl VWk.rfl (SL.cons (k := 17) (eS rfl eZ) rfl VWk.rfl (SL.cons (k := 15) (eS rfl (eS rfl (eS rfl (eS rfl (eS rfl (eS rfl (eS rfl (eS rfl (eS rfl (eS rfl (eS rfl (eS rfl (eS rfl (eS rfl (eS rfl (eS rfl (eS rfl eZ))))))))))))))))) rfl VWk.rfl (SL.cons (k := 8) (eS rfl (eS rfl (eS rfl (eS rfl (eS rfl (eS rfl (eS rfl (eS rfl (eS rfl (eS rfl (eS rfl (eS rfl (eS rfl (eS rfl (eS rfl (eS rfl (eS rfl (eS rfl (eS rfl (eS rfl (eS rfl eZ))))))))))))))))))))) rfl VWk.rfl (SL.cons (k := 9) (eS rfl (eS rfl (eS rfl (eS rfl (eS rfl (eS rfl (eS rfl (eS rfl (eS rfl (eS rfl (eS rfl (eS rfl (eS rfl (eS rfl (eS rfl (eS rfl (eS rfl (eS rfl (eS rfl (eS rfl (eS rfl (eS rfl eZ)))))))))))))))))))))) rfl VWk.rfl (SL.cons (k := 12) (eS rfl (eS rfl (eS rfl (eS rfl (eS rfl (eS rfl (eS rfl (eS rfl (eS rfl (eS rfl (eS rfl (eS rfl (eS rfl (eS rfl (eS rfl (eS rfl (eS rfl (eS rfl (eS rfl (eS rfl (eS rfl (eS rfl (eS rfl eZ))))))))))))))))))))))) rfl VWk.rfl SL.nil)))))) (BL.keep rfl (BL.keep rfl (BL.keep rfl (BL.keep rfl (BL.drop rfl (BL.keep rfl (BL.keep rfl BL.nil))))))) (BK.cons (n := 1088) rfl bZ rfl rfl (BK.cons (n := 2952) rfl (bS rfl (bS rfl bZ)) rfl rfl (BK.cons (n := 2945) rfl (bS rfl (bS rfl (bS rfl bZ))) rfl rfl (BK.cons (n := 512) rfl (bS rfl (bS rfl (bS rfl (bS rfl (bS rfl bZ))))) rfl rfl (BK.cons (n := 768) rfl (bS rfl (bS rfl (bS rfl (bS rfl (bS rfl (bS rfl bZ)))))) rfl rfl BK.nil))))) GK.nil) ?_
                      refine AW.seq ?_
                      refine AW.seqJ (fun t59 : Bool => (laws_FnExactAtlasFrozen_j59 v20 v45) t59 = some r) (fun t59 => mk [(12, (.one (.ptr (.nm 768 0 0)))), (15, (.one (.d (.int .i64 v45.1)))), (115, (.one (.d (.bool t59))))] [(768, (.vars 9 [(.d (.int .i64 v20.1.Epoch)), (.sl 2945 0 v20.1.Parts.length), (.d (.int .i64 v20.1.Move.No)), (.d (.int .i64 v20.1.Move.Stage)), (.d (.int .i64 v20.1.Move.Lo)), (.d (.int .i64 v20.1.Move.Hi)), (.d (.int .i64 v20.1.Move.From)), (.d (.int .i64 v20.1.Move.To)), (.sl 2952 0 v20.1.Move.Cells.length)])), (2945, (.data 3 (List.map d_TPart v45.2.Parts) true none)), (2952, (.data 2 (List.map d_TCell v45.2.Move.Cells) true none))] (lk [])) ?_ ?_
                      · intro t59 H
                        unfold laws_FnExactAtlasFrozen_j59 at H
                        rcases oite H with ⟨h61, H⟩ | ⟨h61, H⟩
                        · refine AW.condT (eS rfl (eS rfl eZ)) h61 ?_
                          refine AW.seq ?_
                          refine AW.regs ?_
                          refine oMov eC ?_
                          refine xNil ?_
                          refine TQ.qn ?_
                          refine AW.ret ?_
                          refine TQ.qr ?_
                          obtain rfl := Option.some.inj H
                          exact endsR (RL.cons (RV.tmp eZ) (VO.flat rfl) RL.nil) List.nodup_nil
                        · refine AW.condF (eS rfl (eS rfl eZ)) (nt h61) ?_
                          refine AW.skip ?_
                          refine TQ.qn ?_
                          refine AW.seq ?_
                          refine AW.regs ?_
                          refine oMov eC ?_
                          refine xNil ?_
                          refine TQ.qn ?_
                          refine AW.seq ?_
                          refine AW.regs ?_
                          refine oLoadVA (es := [(.d (.int .i64 v20.1.Epoch)), (.sl 2945 0 v20.1.Parts.length), (.d (.int .i64 v20.1.Move.No)), (.d (.int .i64 v20.1.Move.Stage)), (.d (.int .i64 v20.1.Move.Lo)), (.d (.int .i64 v20.1.Move.Hi)), (.d (.int .i64 v20.1.Move.From)), (.d (.int .i64 v20.1.Move.To)), (.sl 2952 0 v20.1.Move.Cells.length)]) (eS rfl eZ) bZ rfl ?_
                          refine oMov (eS rfl eZ) ?_
                          obtain ⟨v62, h63, H⟩ := obind H
                          refine oCall (u := (.one (.d (.int .i64 v62)))) eC Cl.fn (c_laws_heldAtlas h63) (Evs.cons (eS rfl eZ) (Evs.cons eZ Evs.nil)) (VDs.cons (VD.aggs (CDs.plain (CDs.sl (bS rfl bZ) (by first | (simp; done) | (simp; omega) | omega) (CDs.plain (CDs.plain (CDs.plain (CDs.plain (CDs.plain (CDs.plain (CDs.sl (bS rfl (bS rfl bZ)) (by first | (simp; done) | (simp; omega) | omega) CDs.nil)))))))))) (VDs.cons VD.plain VDs.nil)) rfl ?_
                          refine oMov eZ ?_
                          refine xNil ?_
                          refine TQ.qn ?_
                          refine AW.seq ?_
                          refine AW.seq ?_
                          refine AW.regs ?_
                          refine oMov eZ ?_
                          refine oLss eZ eC ?_
                          refine xNil ?_
                          refine TQ.qn ?_
                          rcases oite H with ⟨h64, H⟩ | ⟨h64, H⟩
                          · refine AW.condT eZ (decide_eq_true h64) ?_
                            refine AW.seq ?_
                            refine AW.regs ?_
                            refine oMov eC ?_
                            refine xNil ?_
                            refine TQ.qn ?_
                            refine AW.ret ?_
                            refine TQ.qr ?_
                            obtain rfl := Option.some.inj H
                            exact endsR (RL.cons (RV.tmp eZ) (VO.flat rfl) RL.nil) List.nodup_nil
                          · refine AW.condF eZ (decide_eq_false h64) ?_
                            refine AW.skip ?_
                            refine TQ.qn ?_
                            refine AW.seq ?_
                            refine AW.seq ?_
                            refine AW.regs ?_
                            refine oMov (eS rfl (eS rfl eZ)) ?_
                            refine oMov (eS rfl (eS rfl (eS rfl (eS rfl (eS rfl (eS rfl (eS rfl (eS rfl (eS rfl eZ))))))))) ?_
                            refine oNeq (eS rfl eZ) eZ ?_
                            refine xNil ?_
                            refine TQ.qn ?_
                            rcases oite H with ⟨h65, H⟩ | ⟨h65, H⟩
                            · refine AW.condT eZ (decide_eq_true h65) ?_
                              refine AW.seq ?_
                              refine AW.regs ?_
                              refine oMov eC ?_
                              refine xNil ?_
                              refine TQ.qn ?_
                              refine AW.ret ?_
                              refine TQ.qr ?_
                              obtain rfl := Option.some.inj H
                              exact endsR (RL.cons (RV.tmp eZ) (VO.flat rfl) RL.nil) List.nodup_nil
                            · refine AW.condF eZ (decide_eq_false h65) ?_
                              refine AW.skip ?_
                              refine TQ.qn ?_
                              refine AW.seq ?_
                              refine AW.regs ?_
                              refine oMov eC ?_
                              refine xNil ?_
                              refine TQ.qn ?_
                              refine AW.ret ?_
                              obtain rfl := Option.some.inj H
                              exact endsR (RL.cons (RV.tmp eZ) (VO.flat rfl) RL.nil) List.nodup_nil
                      · refine AW.regs ?_
                        refine oLoadVA (es := [(.d (.int .i64 v57.1.Epoch)), (.d (.sl 3 (List.map d_TPart v57.1.Parts))), (.d (.int .i64 v57.1.Move.No)), (.d (.int .i64 v57.1.Move.Stage)), (.d (.int .i64 v57.1.Move.Lo)), (.d (.int .i64 v57.1.Move.Hi)), (.d (.int .i64 v57.1.Move.From)), (.d (.int .i64 v57.1.Move.To)), (.d (.sl 2 (List.map d_TCell v57.1.Move.Cells)))]) (eS rfl eZ) bZ rfl ?_
                        refine oLoadVA (es := [(.d (.int .i64 v14.1.Epoch)), (.d (.sl 3 (List.map d_TPart v14.1.Parts))), (.d (.int .i64 v14.1.Move.No)), (.d (.int .i64 v14.1.Move.Stage)), (.d (.int .i64 v14.1.Move.Lo)), (.d (.int .i64 v14.1.Move.Hi)), (.d (.int .i64 v14.1.Move.From)), (.d (.int .i64 v14.1.Move.To)), (.d (.sl 2 (List.map d_TCell v14.1.Move.Cells)))]) (eS rfl (eS rfl (eS rfl (eS rfl eZ)))) (bS rfl (bS rfl (bS rfl bZ))) rfl ?_
                        obtain ⟨v66, h67, H⟩ := obind H
                        refine oCall (u := (.one (.d (.bool v66)))) eC Cl.fn (c_laws_eqAtlas h67) (Evs.cons (eS rfl eZ) (Evs.cons eZ Evs.nil)) (VDs.cons (VD.agg rfl) (VDs.cons (VD.agg rfl) VDs.nil)) rfl ?_
                        refine oInv eZ ?_
                        refine oMov eZ ?_
                        rcases oite H with ⟨h68, H⟩ | ⟨h68, H⟩
                        · refine gDo eZ (congrArg Bool.not h68) ?_
                          refine oMov (eS rfl (eS rfl (eS rfl (eS rfl (eS rfl eZ))))) ?_
                          refine gDo (eS rfl eZ) (congrArg Bool.not h68) ?_
                          refine oMov (eS rfl (eS rfl (eS rfl (eS rfl (eS rfl (eS rfl (eS rfl (eS rfl (eS rfl (eS rfl eZ)))))))))) ?_
                          refine gDo (eS rfl (eS rfl eZ)) (congrArg Bool.not h68) ?_
                          refine oNeq (eS rfl eZ) eZ ?_
                          refine oPickF (eS rfl (eS rfl (eS rfl eZ))) (congrArg Bool.not h68) eZ ?_
                          refine xNil ?_
                          exact TQ.qn ⟨(decide (¬ v57.2 = v14.2)), H, (wk_mkG [1088, 512] (SL.cons (eS rfl (eS rfl (eS rfl (eS rfl (eS rfl (eS rfl (eS rfl (eS rfl (eS rfl (eS rfl (eS rfl (eS rfl (eS rfl (eS rfl eZ)))))))))))))) rfl VWk.rfl (SL.cons (eS rfl (eS rfl (eS rfl (eS rfl (eS rfl (eS rfl (eS rfl (eS rfl (eS rfl (eS rfl (eS rfl eZ))))))))))) rfl VWk.rfl (SL.cons eZ rfl VWk.rfl SL.nil))) (BL.drop rfl (BL.keep rfl (BL.keep rfl (BL.drop rfl (BL.keep rfl BL.nil))))) (BK.cons rfl (bS rfl (bS rfl (bS rfl (bS rfl bZ)))) rfl (by first | rfl | simp) (BK.cons rfl (bS rfl (bS rfl bZ)) rfl rfl (BK.cons rfl (bS rfl bZ) rfl rfl BK.nil))) GK.nil)⟩
                        · refine gSkip eZ (congrArg Bool.not (nt h68)) rfl ?_
                          refine gSkip (eS rfl eZ) (congrArg Bool.not (nt h68)) rfl ?_
                          refine gSkip (eS rfl (eS rfl eZ)) (congrArg Bool.not (nt h68)) rfl ?_
                          refine oPickT (eS rfl (eS rfl (eS rfl eZ))) (congrArg Bool.not (nt h68)) eC ?_
                          refine xNil ?_
                          exact TQ.qn ⟨true, H, (wk_mkG [1088, 512] (SL.cons (eS rfl (eS rfl (eS rfl (eS rfl (eS rfl (eS rfl (eS rfl (eS rfl (eS rfl (eS rfl (eS rfl (eS rfl (eS rfl (eS rfl eZ)))))))))))))) rfl VWk.rfl (SL.cons (eS rfl (eS rfl (eS rfl (eS rfl (eS rfl (eS rfl (eS rfl (eS rfl (eS rfl (eS rfl (eS rfl eZ))))))))))) rfl VWk.rfl (SL.cons eZ rfl VWk.rfl SL.nil))) (BL.drop rfl (BL.keep rfl (BL.keep rfl (BL.drop rfl (BL.keep rfl BL.nil))))) (BK.cons rfl (bS rfl (bS rfl (bS rfl (bS rfl bZ)))) rfl (by first | rfl | simp) (BK.cons rfl (bS rfl (bS rfl bZ)) rfl rfl (BK.cons rfl (bS rfl bZ) rfl rfl BK.nil))) GK.nil)⟩
              · refine AW.regs ?_
                refine oMov eZ ?_
                refine oLss eZ eC ?_
                refine oMov eZ ?_
                rcases oite H with ⟨h69, H⟩ | ⟨h69, H⟩
                · refine gSkip eZ (decide_eq_true h69) rfl ?_
                  refine gSkip (eS rfl eZ) (decide_eq_true h69) rfl ?_
                  refine gSkip (eS rfl (eS rfl eZ)) (decide_eq_true h69) rfl ?_
                  refine gSkip (eS rfl (eS rfl (eS rfl eZ))) (decide_eq_true h69) rfl ?_
                  refine oPickT (eS rfl (eS rfl (eS rfl (eS rfl eZ)))) (decide_eq_true h69) eC ?_
                  refine oMov eZ ?_
                  refine gSkip eZ rfl rfl ?_
                  refine gSkip (eS rfl eZ) rfl rfl ?_
                  refine gSkip (eS rfl (eS rfl eZ)) rfl rfl ?_
                  refine oPickT (eS rfl (eS rfl (eS rfl eZ))) rfl eC ?_
                  refine xNil ?_
                  exact TQ.qn ⟨true, H, (wk_mkG [] (SL.cons (eS rfl (eS rfl (eS rfl (eS rfl (eS rfl (eS rfl (eS rfl (eS rfl (eS rfl (eS rfl (eS rfl (eS rfl (eS rfl (eS rfl eZ)))))))))))))) rfl VWk.rfl (SL.cons (eS rfl (eS rfl (eS rfl (eS rfl (eS rfl (eS rfl (eS rfl (eS rfl (eS rfl (eS rfl (eS rfl (eS rfl (eS rfl (eS rfl (eS rfl eZ))))))))))))))) rfl VWk.rfl (SL.cons (eS rfl (eS rfl (eS rfl (eS rfl (eS rfl (eS rfl (eS rfl (eS rfl (eS rfl (eS rfl (eS rfl (eS rfl (eS rfl (eS rfl (eS rfl (eS rfl eZ)))))))))))))))) rfl VWk.rfl (SL.cons (eS rfl (eS rfl (eS rfl (eS rfl (eS rfl (eS rfl (eS rfl (eS rfl (eS rfl (eS rfl (eS rfl (eS rfl (eS rfl (eS rfl (eS rfl (eS rfl (eS rfl eZ))))))))))))))))) rfl VWk.rfl (SL.cons (eS rfl (eS rfl (eS rfl (eS rfl (eS rfl (eS rfl (eS rfl (eS rfl (eS rfl (eS rfl (eS rfl (eS rfl (eS rfl (eS rfl (eS rfl (eS rfl (eS rfl (eS rfl eZ)))))))))))))))))) rfl VWk.rfl (SL.cons (eS rfl (eS rfl (eS rfl (eS rfl (eS rfl (eS rfl (eS rfl (eS rfl (eS rfl (eS rfl (eS rfl (eS rfl (eS rfl (eS rfl (eS rfl (eS rfl (eS rfl (eS rfl (eS rfl eZ))))))))))))))))))) rfl VWk.rfl (SL.cons eZ rfl VWk.rfl SL.nil))))))) (BL.keep rfl (BL.keep rfl (BL.keep rfl (BL.keep rfl (BL.keep rfl BL.nil))))) (BK.cons rfl bZ rfl rfl (BK.cons rfl (bS rfl bZ) rfl rfl (BK.cons rfl (bS rfl (bS rfl bZ)) rfl (by first | rfl | simp) (BK.cons rfl (bS rfl (bS rfl (bS rfl bZ))) rfl rfl (BK.cons rfl (bS rfl (bS rfl (bS rfl (bS rfl bZ)))) rfl rfl BK.nil))))) GK.nil)⟩
                · refine gDo eZ (decide_eq_false h69) ?_
                  refine oLoadVA (es := [(.d (.int .i64 v20.1.Epoch)), (.sl 2945 0 v20.1.Parts.length), (.d (.int .i64 v20.1.Move.No)), (.d (.int .i64 v20.1.Move.Stage)), (.d (.int .i64 v20.1.Move.Lo)), (.d (.int .i64 v20.1.Move.Hi)), (.d (.int .i64 v20.1.Move.From)), (.d (.int .i64 v20.1.Move.To)), (.sl 2952 0 v20.1.Move.Cells.length)]) (eS rfl (eS rfl (eS rfl (eS rfl (eS rfl (eS rfl (eS rfl (eS rfl (eS rfl eZ))))))))) (bS rfl (bS rfl bZ)) rfl ?_
                  refine gDo (eS rfl eZ) (decide_eq_false h69) ?_
                  refine oLoadVA (es := [(.d (.int .i64 v14.1.Epoch)), (.d (.sl 3 (List.map d_TPart v14.1.Parts))), (.d (.int .i64 v14.1.Move.No)), (.d (.int .i64 v14.1.Move.Stage)), (.d (.int .i64 v14.1.Move.Lo)), (.d (.int .i64 v14.1.Move.Hi)), (.d (.int .i64 v14.1.Move.From)), (.d (.int .i64 v14.1.Move.To)), (.d (.sl 2 (List.map d_TCell v14.1.Move.Cells)))]) (eS rfl (eS rfl (eS rfl (eS rfl (eS rfl (eS rfl (eS rfl (eS rfl eZ)))))))) (bS rfl bZ) rfl ?_
                  refine gDo (eS rfl (eS rfl eZ)) (decide_eq_false h69) ?_
                  obtain ⟨v70, h71, H⟩ := obind H
                  refine oCall (u := (.one (.d (.bool v70)))) eC Cl.fn (c_laws_eqAtlas h71) (Evs.cons (eS rfl eZ) (Evs.cons eZ Evs.nil)) (VDs.cons (VD.aggs (CDs.plain (CDs.sl (bS rfl (bS rfl (bS rfl bZ))) (List.length_map _) (CDs.plain (CDs.plain (CDs.plain (CDs.plain (CDs.plain (CDs.plain (CDs.sl (bS rfl (bS rfl (bS rfl (bS rfl bZ)))) (List.length_map _) CDs.nil)))))))))) (VDs.cons (VD.agg rfl) VDs.nil)) rfl ?_
                  refine gDo (eS rfl (eS rfl (eS rfl eZ))) (decide_eq_false h69) ?_
                  refine oInv eZ ?_
                  refine oPickF (eS rfl (eS rfl (eS rfl (eS rfl eZ)))) (decide_eq_false h69) eZ ?_
                  refine oMov eZ ?_
                  rcases oite H with ⟨h72, H⟩ | ⟨h72, H⟩
                  · refine gDo eZ (congrArg Bool.not h72) ?_
                    refine oMov (eS rfl (eS rfl (eS rfl (eS rfl (eS rfl (eS rfl (eS rfl (eS rfl (eS rfl (eS rfl (eS rfl (eS rfl (eS rfl (eS rfl (eS rfl (eS rfl eZ)))))))))))))))) ?_
                    refine gDo (eS rfl eZ) (congrArg Bool.not h72) ?_
                    refine oMov (eS rfl (eS rfl (eS rfl (eS rfl (eS rfl (eS rfl (eS rfl (eS rfl (eS rfl (eS rfl (eS rfl (eS rfl (eS rfl (eS rfl (eS rfl eZ))))))))))))))) ?_
                    refine gDo (eS rfl (eS rfl eZ)) (congrArg Bool.not h72) ?_
                    refine oNeq (eS rfl eZ) eZ ?_
                    refine oPickF (eS rfl (eS rfl (eS rfl eZ))) (congrArg Bool.not h72) eZ ?_
                    refine xNil ?_
                    exact TQ.qn ⟨(decide (¬ v20.2 = v14.2)), H, (wk_mkG [] (SL.cons (eS rfl (eS rfl (eS rfl (eS rfl (eS rfl (eS rfl (eS rfl (eS rfl (eS rfl (eS rfl (eS rfl (eS rfl (eS rfl (eS rfl eZ)))))))))))))) rfl VWk.rfl (SL.cons (eS rfl (eS rfl (eS rfl (eS rfl (eS rfl (eS rfl (eS rfl (eS rfl (eS rfl (eS rfl (eS rfl (eS rfl (eS rfl (eS rfl (eS rfl eZ))))))))))))))) rfl VWk.rfl (SL.cons (eS rfl (eS rfl (eS rfl (eS rfl (eS rfl (eS rfl (eS rfl (eS rfl (eS rfl (eS rfl (eS rfl (eS rfl (eS rfl (eS rfl (eS rfl (eS rfl eZ)))))))))))))))) rfl VWk.rfl (SL.cons (eS rfl (eS rfl (eS rfl (eS rfl (eS rfl (eS rfl (eS rfl (eS rfl (eS rfl (eS rfl (eS rfl (eS rfl (eS rfl (eS rfl (eS rfl (eS rfl (eS rfl eZ))))))))))))))))) rfl VWk.rfl (SL.cons (eS rfl (eS rfl (eS rfl (eS rfl (eS rfl (eS rfl (eS rfl (eS rfl (eS rfl (eS rfl (eS rfl (eS rfl (eS rfl (eS rfl (eS rfl (eS rfl (eS rfl (eS rfl eZ)))))))))))))))))) rfl VWk.rfl (SL.cons (eS rfl (eS rfl (eS rfl (eS rfl (eS rfl (eS rfl (eS rfl (eS rfl (eS rfl (eS rfl (eS rfl (eS rfl (eS rfl (eS rfl (eS rfl (eS rfl (eS rfl (eS rfl (eS rfl eZ))))))))))))))))))) rfl VWk.rfl (SL.cons eZ rfl VWk.rfl SL.nil))))))) (BL.keep rfl (BL.keep rfl (BL.keep rfl (BL.keep rfl (BL.keep rfl BL.nil))))) (BK.cons rfl bZ rfl rfl (BK.cons rfl (bS rfl bZ) rfl rfl (BK.cons rfl (bS rfl (bS rfl bZ)) rfl (by first | rfl | simp) (BK.cons rfl (bS rfl (bS rfl (bS rfl bZ))) rfl rfl (BK.cons rfl (bS rfl (bS rfl (bS rfl (bS rfl bZ)))) rfl rfl BK.nil))))) GK.nil)⟩
                  · refine gSkip eZ (congrArg Bool.not (nt h72)) rfl ?_
                    refine gSkip (eS rfl eZ) (congrArg Bool.not (nt h72)) rfl ?_
                    refine gSkip (eS rfl (eS rfl eZ)) (congrArg Bool.not (nt h72)) rfl ?_
                    refine oPickT (eS rfl (eS rfl (eS rfl eZ))) (congrArg Bool.not (nt h72)) eC ?_
                    refine xNil ?_
                    exact TQ.qn ⟨true, H, (wk_mkG [] (SL.cons (eS rfl (eS rfl (eS rfl (eS rfl (eS rfl (eS rfl (eS rfl (eS rfl (eS rfl (eS rfl (eS rfl (eS rfl (eS rfl (eS rfl eZ)))))))))))))) rfl VWk.rfl (SL.cons (eS rfl (eS rfl (eS rfl (eS rfl (eS rfl (eS rfl (eS rfl (eS rfl (eS rfl (eS rfl (eS rfl (eS rfl (eS rfl (eS rfl (eS rfl eZ))))))))))))))) rfl VWk.rfl (SL.cons (eS rfl (eS rfl (eS rfl (eS rfl (eS rfl (eS rfl (eS rfl (eS rfl (eS rfl (eS rfl (eS rfl (eS rfl (eS rfl (eS rfl (eS rfl (eS rfl eZ)))))))))))))))) rfl VWk.rfl (SL.cons (eS rfl (eS rfl (eS rfl (eS rfl (eS rfl (eS rfl (eS rfl (eS rfl (eS rfl (eS rfl (eS rfl (eS rfl (eS rfl (eS rfl (eS rfl (eS rfl (eS rfl eZ))))))))))))))))) rfl VWk.rfl (SL.cons (eS rfl (eS rfl (eS rfl (eS rfl (eS rfl (eS rfl (eS rfl (eS rfl (eS rfl (eS rfl (eS rfl (eS rfl (eS rfl (eS rfl (eS rfl (eS rfl (eS rfl (eS rfl eZ)))))))))))))))))) rfl VWk.rfl (SL.cons (eS rfl (eS rfl (eS rfl (eS rfl (eS rfl (eS rfl (eS rfl (eS rfl (eS rfl (eS rfl (eS rfl (eS rfl (eS rfl (eS rfl (eS rfl (eS rfl (eS rfl (eS rfl (eS rfl eZ))))))))))))))))))) rfl VWk.rfl (SL.cons eZ rfl VWk.rfl SL.nil))))))) (BL.keep rfl (BL.keep rfl (BL.keep rfl (BL.keep rfl (BL.keep rfl BL.nil))))) (BK.cons rfl bZ rfl rfl (BK.cons rfl (bS rfl bZ) rfl rfl (BK.cons rfl (bS rfl (bS rfl bZ)) rfl (by first | rfl | simp) (BK.cons rfl (bS rfl (bS rfl (bS rfl bZ))) rfl rfl (BK.cons rfl (bS rfl (bS rfl (bS rfl (bS rfl bZ)))) rfl rfl BK.nil))))) GK.nil)⟩
            · refine AW.condT eZ (congrArg Bool.not (nt h34)) ?_
              refine AW.seq ?_
              refine AW.regs ?_
              refine oMov eC ?_
              refine xNil ?_
              refine TQ.qn ?_
              refine AW.ret ?_
              refine TQ.qr ?_
              obtain rfl := Option.some.inj H
              exact endsR (RL.cons (RV.tmp eZ) (VO.flat rfl) RL.nil) List.nodup_nil
          · refine AW.condT eZ (congrArg Bool.not (nt h29)) ?_
            refine AW.seq ?_
            refine AW.regs ?_
            refine oMov eC ?_
            refine xNil ?_
            refine TQ.qn ?_
            refine AW.weaken (wk_mkG [192, 512, 640, 768, 2497, 2504, 2624, 2945, 2952] (SL.cons (k := 6) eZ rfl VWk.rfl SL.nil) (BL.drop rfl (BL.drop rfl (BL.drop rfl (BL.drop rfl (BL.drop rfl (BL.drop rfl (BL.drop rfl (BL.drop rfl (BL.drop rfl BL.nil))))))))) BK.nil GK.nil) ?_
            refine AW.ret ?_
            refine TQ.qr ?_
            obtain rfl := Option.some.inj H
            exact endsR (RL.cons (RV.tmp eZ) (VO.flat rfl) RL.nil) List.nodup_nil
      · refine AW.regs ?_
        refine oLoadVA (es := [(.d (.int .i64 v20.1.Epoch)), (.sl 2945 0 v20.1.Parts.length), (.d (.int .i64 v20.1.Move.No)), (.d (.int .i64 v20.1.Move.Stage)), (.d (.int .i64 v20.1.Move.Lo)), (.d (.int .i64 v20.1.Move.Hi)), (.d (.int .i64 v20.1.Move.From)), (.d (.int .i64 v20.1.Move.To)), (.sl 2952 0 v20.1.Move.Cells.length)]) (eS rfl eZ) bZ rfl ?_
        refine oLoadVA (es := [(.d (.int .i64 v14.1.Epoch)), (.d (.sl 3 (List.map d_TPart v14.1.Parts))), (.d (.int .i64 v14.1.Move.No)), (.d (.int .i64 v14.1.Move.Stage)), (.d (.int .i64 v14.1.Move.Lo)), (.d (.int .i64 v14.1.Move.Hi)), (.d (.int .i64 v14.1.Move.From)), (.d (.int .i64 v14.1.Move.To)), (.d (.sl 2 (List.map d_TCell v14.1.Move.Cells)))]) (eS rfl (eS rfl (eS rfl (eS rfl (eS rfl (eS rfl eZ)))))) (bS rfl (bS rfl (bS rfl (bS rfl (bS rfl (bS rfl (bS rfl bZ))))))) rfl ?_
        obtain ⟨v73, h74, H⟩ := obind H
        refine oCall (u := (.one (.d (.bool v73)))) eC Cl.fn (c_laws_eqAtlas h74) (Evs.cons (eS rfl eZ) (Evs.cons eZ Evs.nil)) (VDs.cons (VD.aggs (CDs.plain (CDs.sl (bS rfl (bS rfl bZ)) (List.length_map _) (CDs.plain (CDs.plain (CDs.plain (CDs.plain (CDs.plain (CDs.plain (CDs.sl (bS rfl bZ) (List.length_map _) CDs.nil)))))))))) (VDs.cons (VD.agg rfl) VDs.nil)) rfl ?_
        refine oInv eZ ?_
        refine oMov eZ ?_
        rcases oite H with ⟨h75, H⟩ | ⟨h75, H⟩
        · refine gDo eZ (congrArg Bool.not h75) ?_
          refine oMov (eS rfl (eS rfl (eS rfl (eS rfl (eS rfl eZ))))) ?_
          refine gDo (eS rfl eZ) (congrArg Bool.not h75) ?_
          refine oMov (eS rfl (eS rfl (eS rfl (eS rfl (eS rfl (eS rfl (eS rfl (eS rfl (eS rfl (eS rfl eZ)))))))))) ?_
          refine gDo (eS rfl (eS rfl eZ)) (congrArg Bool.not h75) ?_
          refine oNeq (eS rfl eZ) eZ ?_
          refine oPickF (eS rfl (eS rfl (eS rfl eZ))) (congrArg Bool.not h75) eZ ?_
          refine xNil ?_
          exact TQ.qn ⟨(decide (¬ v20.2 = v14.2)), H, (wk_mkG [] (SL.cons (eS rfl (eS rfl (eS rfl (eS rfl (eS rfl (eS rfl (eS rfl (eS rfl (eS rfl (eS rfl (eS rfl (eS rfl (eS rfl (eS rfl (eS rfl (eS rfl eZ)))))))))))))))) rfl VWk.rfl (SL.cons (eS rfl (eS rfl (eS rfl (eS rfl (eS rfl (eS rfl (eS rfl (eS rfl (eS rfl (eS rfl (eS rfl (eS rfl (eS rfl (eS rfl (eS rfl (eS rfl (eS rfl eZ))))))))))))))))) rfl VWk.rfl (SL.cons (eS rfl (eS rfl (eS rfl (eS rfl (eS rfl (eS rfl (eS rfl (eS rfl (eS rfl (eS rfl (eS rfl (eS rfl (eS rfl (eS rfl (eS rfl eZ))))))))))))))) rfl VWk.rfl (SL.cons (eS rfl (eS rfl (eS rfl (eS rfl (eS rfl (eS rfl (eS rfl (eS rfl (eS rfl (eS rfl (eS rfl (eS rfl (eS rfl (eS rfl eZ)))))))))))))) rfl VWk.rfl (SL.cons (eS rfl (eS rfl (eS rfl (eS rfl (eS rfl (eS rfl (eS rfl (eS rfl (eS rfl (eS rfl (eS rfl (eS rfl (eS rfl eZ))))))))))))) rfl VWk.rfl (SL.cons (eS rfl (eS rfl (eS rfl (eS rfl (eS rfl (eS rfl (eS rfl (eS rfl (eS rfl (eS rfl (eS rfl (eS rfl eZ)))))))))))) rfl VWk.rfl (SL.cons (eS rfl (eS rfl (eS rfl (eS rfl (eS rfl (eS rfl (eS rfl (eS rfl (eS rfl (eS rfl (eS rfl eZ))))))))))) rfl VWk.rfl (SL.cons (eS rfl (eS rfl (eS rfl (eS rfl (eS rfl (eS rfl (eS rfl (eS rfl (eS rfl (eS rfl eZ)))))))))) rfl VWk.rfl (SL.cons (eS rfl (eS rfl (eS rfl (eS rfl (eS rfl (eS rfl (eS rfl (eS rfl (eS rfl eZ))))))))) rfl VWk.rfl (SL.cons eZ rfl VWk.rfl SL.nil)))))))))) (BL.keep rfl (BL.keep rfl (BL.keep rfl (BL.keep rfl (BL.keep rfl (BL.keep rfl (BL.keep rfl (BL.keep rfl (BL.keep rfl BL.nil))))))))) (BK.cons rfl (bS rfl (bS rfl (bS rfl (bS rfl (bS rfl (bS rfl (bS rfl (bS rfl bZ)))))))) rfl rfl (BK.cons rfl (bS rfl (bS rfl (bS rfl (bS rfl (bS rfl (bS rfl (bS rfl bZ))))))) rfl rfl (BK.cons rfl (bS rfl (bS rfl (bS rfl (bS rfl bZ)))) rfl (by first | rfl | simp) (BK.cons rfl bZ rfl (by first | rfl | simp) (BK.cons rfl (bS rfl (bS rfl (bS rfl (bS rfl (bS rfl (bS rfl bZ)))))) rfl rfl (BK.cons rfl (bS rfl (bS rfl (bS rfl (bS rfl (bS rfl bZ))))) rfl rfl (BK.cons rfl (bS rfl (bS rfl (bS rfl bZ))) rfl rfl (BK.cons rfl (bS rfl (bS rfl bZ)) rfl rfl (BK.cons rfl (bS rfl bZ) rfl rfl BK.nil))))))))) GK.nil)⟩
        · refine gSkip eZ (congrArg Bool.not (nt h75)) rfl ?_
          refine gSkip (eS rfl eZ) (congrArg Bool.not (nt h75)) rfl ?_
          refine gSkip (eS rfl (eS rfl eZ)) (congrArg Bool.not (nt h75)) rfl ?_
          refine oPickT (eS rfl (eS rfl (eS rfl eZ))) (congrArg Bool.not (nt h75)) eC ?_
          refine xNil ?_
          exact TQ.qn ⟨true, H, (wk_mkG [] (SL.cons (eS rfl (eS rfl (eS rfl (eS rfl (eS rfl (eS rfl (eS rfl (eS rfl (eS rfl (eS rfl (eS rfl (eS rfl (eS rfl (eS rfl (eS rfl (eS rfl eZ)))))))))))))))) rfl VWk.rfl (SL.cons (eS rfl (eS rfl (eS rfl (eS rfl (eS rfl (eS rfl (eS rfl (eS rfl (eS rfl (eS rfl (eS rfl (eS rfl (eS rfl (eS rfl (eS rfl (eS rfl (eS rfl eZ))))))))))))))))) rfl VWk.rfl (SL.cons (eS rfl (eS rfl (eS rfl (eS rfl (eS rfl (eS rfl (eS rfl (eS rfl (eS rfl (eS rfl (eS rfl (eS rfl (eS rfl (eS rfl (eS rfl eZ))))))))))))))) rfl VWk.rfl (SL.cons (eS rfl (eS rfl (eS rfl (eS rfl (eS rfl (eS rfl (eS rfl (eS rfl (eS rfl (eS rfl (eS rfl (eS rfl (eS rfl (eS rfl eZ)))))))))))))) rfl VWk.rfl (SL.cons (eS rfl (eS rfl (eS rfl (eS rfl (eS rfl (eS rfl (eS rfl (eS rfl (eS rfl (eS rfl (eS rfl (eS rfl (eS rfl eZ))))))))))))) rfl VWk.rfl (SL.cons (eS rfl (eS rfl (eS rfl (eS rfl (eS rfl (eS rfl (eS rfl (eS rfl (eS rfl (eS rfl (eS rfl (eS rfl eZ)))))))))))) rfl VWk.rfl (SL.cons (eS rfl (eS rfl (eS rfl (eS rfl (eS rfl (eS rfl (eS rfl (eS rfl (eS rfl (eS rfl (eS rfl eZ))))))))))) rfl VWk.rfl (SL.cons (eS rfl (eS rfl (eS rfl (eS rfl (eS rfl (eS rfl (eS rfl (eS rfl (eS rfl (eS rfl eZ)))))))))) rfl VWk.rfl (SL.cons (eS rfl (eS rfl (eS rfl (eS rfl (eS rfl (eS rfl (eS rfl (eS rfl (eS rfl eZ))))))))) rfl VWk.rfl (SL.cons eZ rfl VWk.rfl SL.nil)))))))))) (BL.keep rfl (BL.keep rfl (BL.keep rfl (BL.keep rfl (BL.keep rfl (BL.keep rfl (BL.keep rfl (BL.keep rfl (BL.keep rfl BL.nil))))))))) (BK.cons rfl (bS rfl (bS rfl (bS rfl (bS rfl (bS rfl (bS rfl (bS rfl (bS rfl bZ)))))))) rfl rfl (BK.cons rfl (bS rfl (bS rfl (bS rfl (bS rfl (bS rfl (bS rfl (bS rfl bZ))))))) rfl rfl (BK.cons rfl (bS rfl (bS rfl (bS rfl (bS rfl bZ)))) rfl (by first | rfl | simp) (BK.cons rfl bZ rfl (by first | rfl | simp) (BK.cons rfl (bS rfl (bS rfl (bS rfl (bS rfl (bS rfl (bS rfl bZ)))))) rfl rfl (BK.cons rfl (bS rfl (bS rfl (bS rfl (bS rfl (bS rfl bZ))))) rfl rfl (BK.cons rfl (bS rfl (bS rfl (bS rfl bZ))) rfl rfl (BK.cons rfl (bS rfl (bS rfl bZ)) rfl rfl (BK.cons rfl (bS rfl bZ) rfl rfl BK.nil))))))))) GK.nil)⟩

end Go.AW
