/- That functions of the program compute what the plain functions say: printed by a program of the prover's own (tool/dec.py). Conditions: each theorem's own. -/
import Derived.Test.YtpnkbfanecbmgaaMAtlasOwner
import Derived.Test.YtpnkbfanecbmgaaGAtlasOwner
import Derived.Test.YtpnkbfanecbmgaaDAtlasOwnera
set_option linter.unusedVariables false
set_option maxRecDepth 100000
namespace Go.AW
open Go.Proofs

theorem c_impl_moveOk {a1 : TMove} {r : Bool} (H : m_impl_moveOk a1 = some r) : Fn Try.prog k_impl_moveOk (lent [(.agg (d_TMove a1))]) true [(.bool r)] := by
  refine i_impl_moveOk_fn (Nat.le_of_ble_eq_true rfl) ?_
  rw [init_mk]
  refine AW.weaken (wk_mk [] (SL.cons (v := (.agg [(.d (.int .i64 a1.No)), (.d (.int .i64 a1.Stage)), (.d (.int .i64 a1.Lo)), (.d (.int .i64 a1.Hi)), (.d (.int .i64 a1.From)), (.d (.int .i64 a1.To)), (.d (.sl 2 (List.map d_TCell a1.Cells)))])) eZ rfl VWk.rfl SL.nil) BL.nil BK.nil) ?_
  unfold m_impl_moveOk at H
  unfold i_impl_moveOk
  refine AW.seq ?_
  refine AW.regs ?_
  refine oBox (n := 64) (m := 7) (cs := [(.d (.int .i64 a1.No)), (.d (.int .i64 a1.Stage)), (.d (.int .i64 a1.Lo)), (.d (.int .i64 a1.Hi)), (.d (.int .i64 a1.From)), (.d (.int .i64 a1.To)), (.d (.sl 2 (List.map d_TCell a1.Cells)))]) rfl eZ rfl rfl nZ ?_
  refine oMov eC ?_
  refine xNil ?_
  refine TQ.qn ?_
  refine AW.seq ?_
  refine AW.seqJ (fun t2 : Bool => (impl_moveOk_j2 a1) t2 = some r) (fun t2 => mk [(1, (.one (.ptr (.nm 64 0 0)))), (12, (.one (.d (.bool t2))))] [(64, (.vars 7 [(.d (.int .i64 a1.No)), (.d (.int .i64 a1.Stage)), (.d (.int .i64 a1.Lo)), (.d (.int .i64 a1.Hi)), (.d (.int .i64 a1.From)), (.d (.int .i64 a1.To)), (.d (.sl 2 (List.map d_TCell a1.Cells)))]))] noG) ?_ ?_
  · intro t2 H
    unfold impl_moveOk_j2 at H
    rcases oite H with ⟨h4, H⟩ | ⟨h4, H⟩
    · refine AW.condT (eS rfl eZ) h4 ?_
      refine AW.seq ?_
      refine AW.regs ?_
      refine oMov eC ?_
      refine xNil ?_
      refine TQ.qn ?_
      refine AW.ret ?_
      refine TQ.qr ?_
      obtain rfl := Option.some.inj H
      exact endsR (RL.cons (RV.tmp eZ) (VO.flat rfl) RL.nil) List.nodup_nil
    · refine AW.condF (eS rfl eZ) (nt h4) ?_
      refine AW.skip ?_
      refine TQ.qn ?_
      refine AW.seq ?_
      refine AW.seq ?_
      refine AW.regs ?_
      refine oFaddrN (m := 1) eZ rfl ?_
      refine oLoadV (q := 1) (c := (.d (.int .i64 a1.Stage))) eZ bZ rfl rfl ?_
      refine oEql eZ eC ?_
      refine xNil ?_
      refine TQ.qn ?_
      rcases oite H with ⟨h5, H⟩ | ⟨h5, H⟩
      · refine AW.condT eZ (decide_eq_true h5) ?_
        refine AW.seq ?_
        refine AW.regs ?_
        refine oFaddrN (m := 2) (eS rfl (eS rfl (eS rfl eZ))) rfl ?_
        refine oLoadV (q := 2) (c := (.d (.int .i64 a1.Lo))) eZ bZ rfl rfl ?_
        refine oEql eZ eC ?_
        refine oMov eZ ?_
        rcases oite H with ⟨h6, H⟩ | ⟨h6, H⟩
        · refine gDo eZ (decide_eq_true h6) ?_
          refine oFaddrN (m := 3) (eS rfl (eS rfl (eS rfl (eS rfl (eS rfl (eS rfl (eS rfl eZ))))))) rfl ?_
          refine gDo (eS rfl eZ) (decide_eq_true h6) ?_
          refine oLoadV (q := 3) (c := (.d (.int .i64 a1.Hi))) eZ bZ rfl rfl ?_
          refine gDo (eS rfl (eS rfl eZ)) (decide_eq_true h6) ?_
          refine oEql eZ eC ?_
          refine oPickT (eS rfl (eS rfl (eS rfl eZ))) (decide_eq_true h6) eZ ?_
          refine oMov eZ ?_
          rcases oite H with ⟨h7, H⟩ | ⟨h7, H⟩
          · refine gDo eZ (decide_eq_true h7) ?_
            refine oFaddrN (m := 4) (eS rfl (eS rfl (eS rfl (eS rfl (eS rfl (eS rfl (eS rfl (eS rfl (eS rfl (eS rfl (eS rfl (eS rfl eZ)))))))))))) rfl ?_
            refine gDo (eS rfl eZ) (decide_eq_true h7) ?_
            refine oLoadV (q := 4) (c := (.d (.int .i64 a1.From))) eZ bZ rfl rfl ?_
            refine gDo (eS rfl (eS rfl eZ)) (decide_eq_true h7) ?_
            refine oEql eZ eC ?_
            refine oPickT (eS rfl (eS rfl (eS rfl eZ))) (decide_eq_true h7) eZ ?_
            refine oMov eZ ?_
            rcases oite H with ⟨h8, H⟩ | ⟨h8, H⟩
            · refine gDo eZ (decide_eq_true h8) ?_
              refine oFaddrN (m := 5) (eS rfl (eS rfl (eS rfl (eS rfl (eS rfl (eS rfl (eS rfl (eS rfl (eS rfl (eS rfl (eS rfl (eS rfl (eS rfl (eS rfl (eS rfl (eS rfl (eS rfl eZ))))))))))))))))) rfl ?_
              refine gDo (eS rfl eZ) (decide_eq_true h8) ?_
              refine oLoadV (q := 5) (c := (.d (.int .i64 a1.To))) eZ bZ rfl rfl ?_
              refine gDo (eS rfl (eS rfl eZ)) (decide_eq_true h8) ?_
              refine oEql eZ eC ?_
              refine oPickT (eS rfl (eS rfl (eS rfl eZ))) (decide_eq_true h8) eZ ?_
              refine oMov eZ ?_
              rcases oite H with ⟨h9, H⟩ | ⟨h9, H⟩
              · refine gDo eZ (decide_eq_true h9) ?_
                refine oFaddrN (m := 6) (eS rfl (eS rfl (eS rfl (eS rfl (eS rfl (eS rfl (eS rfl (eS rfl (eS rfl (eS rfl (eS rfl (eS rfl (eS rfl (eS rfl (eS rfl (eS rfl (eS rfl (eS rfl (eS rfl (eS rfl (eS rfl (eS rfl eZ)))))))))))))))))))))) rfl ?_
                refine gDo (eS rfl eZ) (decide_eq_true h9) ?_
                refine oLoadV (q := 6) (c := (.d (.sl 2 (List.map d_TCell a1.Cells)))) eZ bZ rfl rfl ?_
                refine gDo (eS rfl (eS rfl eZ)) (decide_eq_true h9) ?_
                refine oLenD eZ (n := a1.Cells.length) (List.length_map _) ?_
                refine gDo (eS rfl (eS rfl (eS rfl eZ))) (decide_eq_true h9) ?_
                refine oEql eZ eC ?_
                refine oPickT (eS rfl (eS rfl (eS rfl (eS rfl eZ)))) (decide_eq_true h9) eZ ?_
                refine oMov eZ ?_
                refine xNil ?_
                refine TQ.qn ?_
                refine AW.weaken (wk_mk [64] (SL.cons (k := 2) eZ rfl VWk.rfl SL.nil) (BL.drop rfl BL.nil) BK.nil) ?_
                refine AW.ret ?_
                refine TQ.qr ?_
                obtain rfl := Option.some.inj H
                exact endsR (RL.cons (RV.tmp eZ) (VO.flat rfl) RL.nil) List.nodup_nil
              · refine gSkip eZ (decide_eq_false h9) rfl ?_
                refine gSkip (eS rfl eZ) (decide_eq_false h9) rfl ?_
                refine gSkip (eS rfl (eS rfl eZ)) (decide_eq_false h9) rfl ?_
                refine gSkip (eS rfl (eS rfl (eS rfl eZ))) (decide_eq_false h9) rfl ?_
                refine oPickF (eS rfl (eS rfl (eS rfl (eS rfl eZ)))) (decide_eq_false h9) eC ?_
                refine oMov eZ ?_
                refine xNil ?_
                refine TQ.qn ?_
                refine AW.weaken (wk_mk [64] (SL.cons (k := 2) eZ rfl VWk.rfl SL.nil) (BL.drop rfl BL.nil) BK.nil) ?_
                refine AW.ret ?_
                refine TQ.qr ?_
                obtain rfl := Option.some.inj H
                exact endsR (RL.cons (RV.tmp eZ) (VO.flat rfl) RL.nil) List.nodup_nil
            · refine gSkip eZ (decide_eq_false h8) rfl ?_
              refine gSkip (eS rfl eZ) (decide_eq_false h8) rfl ?_
              refine gSkip (eS rfl (eS rfl eZ)) (decide_eq_false h8) rfl ?_
              refine oPickF (eS rfl (eS rfl (eS rfl eZ))) (decide_eq_false h8) eC ?_
              refine oMov eZ ?_
              refine gSkip eZ rfl rfl ?_
              refine gSkip (eS rfl eZ) rfl rfl ?_
              refine gSkip (eS rfl (eS rfl eZ)) rfl rfl ?_
              refine gSkip (eS rfl (eS rfl (eS rfl eZ))) rfl rfl ?_
              refine oPickF (eS rfl (eS rfl (eS rfl (eS rfl eZ)))) rfl eC ?_
              refine oMov eZ ?_
              refine xNil ?_
              refine TQ.qn ?_
              refine AW.weaken (wk_mk [64] (SL.cons (k := 2) eZ rfl VWk.rfl SL.nil) (BL.drop rfl BL.nil) BK.nil) ?_
              refine AW.ret ?_
              refine TQ.qr ?_
              obtain rfl := Option.some.inj H
              exact endsR (RL.cons (RV.tmp eZ) (VO.flat rfl) RL.nil) List.nodup_nil
          · refine gSkip eZ (decide_eq_false h7) rfl ?_
            refine gSkip (eS rfl eZ) (decide_eq_false h7) rfl ?_
            refine gSkip (eS rfl (eS rfl eZ)) (decide_eq_false h7) rfl ?_
            refine oPickF (eS rfl (eS rfl (eS rfl eZ))) (decide_eq_false h7) eC ?_
            refine oMov eZ ?_
            refine gSkip eZ rfl rfl ?_
            refine gSkip (eS rfl eZ) rfl rfl ?_
            refine gSkip (eS rfl (eS rfl eZ)) rfl rfl ?_
            refine oPickF (eS rfl (eS rfl (eS rfl eZ))) rfl eC ?_
            refine oMov eZ ?_
            refine gSkip eZ rfl rfl ?_
            refine gSkip (eS rfl eZ) rfl rfl ?_
            refine gSkip (eS rfl (eS rfl eZ)) rfl rfl ?_
            refine gSkip (eS rfl (eS rfl (eS rfl eZ))) rfl rfl ?_
            refine oPickF (eS rfl (eS rfl (eS rfl (eS rfl eZ)))) rfl eC ?_
            refine oMov eZ ?_
            refine xNil ?_
            refine TQ.qn ?_
            refine AW.weaken (wk_mk [64] (SL.cons (k := 2) eZ rfl VWk.rfl SL.nil) (BL.drop rfl BL.nil) BK.nil) ?_
            refine AW.ret ?_
            refine TQ.qr ?_
            obtain rfl := Option.some.inj H
            exact endsR (RL.cons (RV.tmp eZ) (VO.flat rfl) RL.nil) List.nodup_nil
        · refine gSkip eZ (decide_eq_false h6) rfl ?_
          refine gSkip (eS rfl eZ) (decide_eq_false h6) rfl ?_
          refine gSkip (eS rfl (eS rfl eZ)) (decide_eq_false h6) rfl ?_
          refine oPickF (eS rfl (eS rfl (eS rfl eZ))) (decide_eq_false h6) eC ?_
          refine oMov eZ ?_
          refine gSkip eZ rfl rfl ?_
          refine gSkip (eS rfl eZ) rfl rfl ?_
          refine gSkip (eS rfl (eS rfl eZ)) rfl rfl ?_
          refine oPickF (eS rfl (eS rfl (eS rfl eZ))) rfl eC ?_
          refine oMov eZ ?_
          refine gSkip eZ rfl rfl ?_
          refine gSkip (eS rfl eZ) rfl rfl ?_
          refine gSkip (eS rfl (eS rfl eZ)) rfl rfl ?_
          refine oPickF (eS rfl (eS rfl (eS rfl eZ))) rfl eC ?_
          refine oMov eZ ?_
          refine gSkip eZ rfl rfl ?_
          refine gSkip (eS rfl eZ) rfl rfl ?_
          refine gSkip (eS rfl (eS rfl eZ)) rfl rfl ?_
          refine gSkip (eS rfl (eS rfl (eS rfl eZ))) rfl rfl ?_
          refine oPickF (eS rfl (eS rfl (eS rfl (eS rfl eZ)))) rfl eC ?_
          refine oMov eZ ?_
          refine xNil ?_
          refine TQ.qn ?_
          refine AW.weaken (wk_mk [64] (SL.cons (k := 2) eZ rfl VWk.rfl SL.nil) (BL.drop rfl BL.nil) BK.nil) ?_
          refine AW.ret ?_
          refine TQ.qr ?_
          obtain rfl := Option.some.inj H
          exact endsR (RL.cons (RV.tmp eZ) (VO.flat rfl) RL.nil) List.nodup_nil
      · refine AW.condF eZ (decide_eq_false h5) ?_
        refine AW.skip ?_
        refine TQ.qn ?_
        refine AW.seq ?_
        refine AW.regd ?_
        refine oFaddrN (m := 0) (eS rfl (eS rfl (eS rfl eZ))) rfl ?_
        refine oLoadV (q := 0) (c := (.d (.int .i64 a1.No))) eZ bZ rfl rfl ?_
        refine oGeq eZ eC ?_
        refine oMov eZ ?_
        rcases oite H with ⟨h10, H⟩ | ⟨h10, H⟩
        · refine gDo eZ (decide_eq_true h10) ?_
          refine oLoadVA (es := [(.d (.int .i64 a1.No)), (.d (.int .i64 a1.Stage)), (.d (.int .i64 a1.Lo)), (.d (.int .i64 a1.Hi)), (.d (.int .i64 a1.From)), (.d (.int .i64 a1.To)), (.d (.sl 2 (List.map d_TCell a1.Cells)))]) (eS rfl (eS rfl (eS rfl (eS rfl (eS rfl (eS rfl (eS rfl eZ))))))) bZ rfl ?_
          refine gDo (eS rfl eZ) (decide_eq_true h10) ?_
          obtain ⟨v11, h12, H⟩ := obind H
          refine oCall (u := (.agg [(.d (.int .i64 v11.Lo)), (.d (.int .i64 v11.Hi))])) eC Cl.fn (c_impl_Move_keys h12) (Evs.cons eZ Evs.nil) (VDs.cons (VD.agg rfl) VDs.nil) rfl ?_
          refine gDo (eS rfl (eS rfl eZ)) (decide_eq_true h10) ?_
          obtain ⟨v13, h14, H⟩ := obind H
          refine oCall (u := (.one (.d (.bool v13)))) eC Cl.fn (c_impl_RangeOk h14) (Evs.cons eZ Evs.nil) (VDs.cons (VD.agg rfl) VDs.nil) rfl ?_
          refine oPickT (eS rfl (eS rfl (eS rfl eZ))) (decide_eq_true h10) eZ ?_
          refine oMov eZ ?_
          rcases oite H with ⟨h15, H⟩ | ⟨h15, H⟩
          · refine gDo eZ h15 ?_
            refine oFaddrN (m := 4) (eS rfl (eS rfl (eS rfl (eS rfl (eS rfl (eS rfl (eS rfl (eS rfl (eS rfl (eS rfl (eS rfl (eS rfl eZ)))))))))))) rfl ?_
            refine gDo (eS rfl eZ) h15 ?_
            refine oLoadV (q := 4) (c := (.d (.int .i64 a1.From))) eZ bZ rfl rfl ?_
            refine gDo (eS rfl (eS rfl eZ)) h15 ?_
            obtain ⟨v16, h17, H⟩ := obind H
            refine oCall (u := (.one (.d (.bool v16)))) eC Cl.fn (c_impl_isGroup h17) (Evs.cons eZ Evs.nil) (VDs.cons VD.plain VDs.nil) rfl ?_
            refine oPickT (eS rfl (eS rfl (eS rfl eZ))) h15 eZ ?_
            refine oMov eZ ?_
            rcases oite H with ⟨h18, H⟩ | ⟨h18, H⟩
            · refine gDo eZ h18 ?_
              refine oFaddrN (m := 5) (eS rfl (eS rfl (eS rfl (eS rfl (eS rfl (eS rfl (eS rfl (eS rfl (eS rfl (eS rfl (eS rfl (eS rfl (eS rfl (eS rfl (eS rfl (eS rfl (eS rfl eZ))))))))))))))))) rfl ?_
              refine gDo (eS rfl eZ) h18 ?_
              refine oLoadV (q := 5) (c := (.d (.int .i64 a1.To))) eZ bZ rfl rfl ?_
              refine gDo (eS rfl (eS rfl eZ)) h18 ?_
              obtain ⟨v19, h20, H⟩ := obind H
              refine oCall (u := (.one (.d (.bool v19)))) eC Cl.fn (c_impl_isGroup h20) (Evs.cons eZ Evs.nil) (VDs.cons VD.plain VDs.nil) rfl ?_
              refine oPickT (eS rfl (eS rfl (eS rfl eZ))) h18 eZ ?_
              refine oMov eZ ?_
              rcases oite H with ⟨h21, H⟩ | ⟨h21, H⟩
              · refine gDo eZ h21 ?_
                refine oFaddrN (m := 4) (eS rfl (eS rfl (eS rfl (eS rfl (eS rfl (eS rfl (eS rfl (eS rfl (eS rfl (eS rfl (eS rfl (eS rfl (eS rfl (eS rfl (eS rfl (eS rfl (eS rfl (eS rfl (eS rfl (eS rfl (eS rfl (eS rfl eZ)))))))))))))))))))))) rfl ?_
                refine gDo (eS rfl eZ) h21 ?_
                refine oLoadV (q := 4) (c := (.d (.int .i64 a1.From))) eZ bZ rfl rfl ?_
                refine gDo (eS rfl (eS rfl eZ)) h21 ?_
                refine oFaddrN (m := 5) (eS rfl (eS rfl (eS rfl (eS rfl (eS rfl (eS rfl (eS rfl (eS rfl (eS rfl (eS rfl (eS rfl (eS rfl (eS rfl (eS rfl (eS rfl (eS rfl (eS rfl (eS rfl (eS rfl (eS rfl (eS rfl (eS rfl (eS rfl (eS rfl eZ)))))))))))))))))))))))) rfl ?_
                refine gDo (eS rfl (eS rfl (eS rfl eZ))) h21 ?_
                refine oLoadV (q := 5) (c := (.d (.int .i64 a1.To))) eZ bZ rfl rfl ?_
                refine gDo (eS rfl (eS rfl (eS rfl (eS rfl eZ)))) h21 ?_
                refine oNeq (eS rfl (eS rfl eZ)) eZ ?_
                refine oPickT (eS rfl (eS rfl (eS rfl (eS rfl (eS rfl eZ))))) h21 eZ ?_
                refine oMov eZ ?_
                rcases oite H with ⟨h22, H⟩ | ⟨h22, H⟩
                · refine gDo eZ (decide_eq_true h22) ?_
                  refine oFaddrN (m := 6) (eS rfl (eS rfl (eS rfl (eS rfl (eS rfl (eS rfl (eS rfl (eS rfl (eS rfl (eS rfl (eS rfl (eS rfl (eS rfl (eS rfl (eS rfl (eS rfl (eS rfl (eS rfl (eS rfl (eS rfl (eS rfl (eS rfl (eS rfl (eS rfl (eS rfl (eS rfl (eS rfl (eS rfl (eS rfl eZ))))))))))))))))))))))))))))) rfl ?_
                  refine gDo (eS rfl eZ) (decide_eq_true h22) ?_
                  refine oLoadV (q := 6) (c := (.d (.sl 2 (List.map d_TCell a1.Cells)))) eZ (hB rfl bZ) rfl rfl ?_
                  refine gDo (eS rfl (eS rfl eZ)) (decide_eq_true h22) ?_
                  refine oLoadVA (es := [(.d (.int .i64 a1.No)), (.d (.int .i64 a1.Stage)), (.d (.int .i64 a1.Lo)), (.d (.int .i64 a1.Hi)), (.d (.int .i64 a1.From)), (.d (.int .i64 a1.To)), (.d (.sl 2 (List.map d_TCell a1.Cells)))]) (eS rfl (eS rfl (eS rfl (eS rfl (eS rfl (eS rfl (eS rfl (eS rfl (eS rfl (eS rfl (eS rfl (eS rfl (eS rfl (eS rfl (eS rfl (eS rfl (eS rfl (eS rfl (eS rfl (eS rfl (eS rfl (eS rfl (eS rfl (eS rfl (eS rfl (eS rfl (eS rfl (eS rfl (eS rfl (eS rfl (eS rfl eZ))))))))))))))))))))))))))))))) bZ rfl ?_
                  refine gDo (eS rfl (eS rfl (eS rfl eZ))) (decide_eq_true h22) ?_
                  obtain ⟨v23, h24, H⟩ := obind H
                  refine oCall (u := (.agg [(.d (.int .i64 v23.Lo)), (.d (.int .i64 v23.Hi))])) eC Cl.fn (c_impl_Move_keys h24) (Evs.cons eZ Evs.nil) (VDs.cons (VD.agg rfl) VDs.nil) rfl ?_
                  refine gDo (eS rfl (eS rfl (eS rfl (eS rfl eZ)))) (decide_eq_true h22) ?_
                  obtain ⟨v25, h26, H⟩ := obind H
                  refine oCall (u := (.one (.d (.bool v25)))) eC Cl.fn (c_impl_cellsIn h26) (Evs.cons (eS rfl (eS rfl eZ)) (Evs.cons eZ Evs.nil)) (VDs.cons VD.plain (VDs.cons (VD.agg rfl) VDs.nil)) rfl ?_
                  refine oPickT (eS rfl (eS rfl (eS rfl (eS rfl (eS rfl eZ))))) (decide_eq_true h22) eZ ?_
                  refine oMov eZ ?_
                  rcases oite H with ⟨h27, H⟩ | ⟨h27, H⟩
                  · refine gDo eZ h27 ?_
                    refine oFaddrN (m := 1) (eS rfl (eS rfl (eS rfl (eS rfl (eS rfl (eS rfl (eS rfl (eS rfl (eS rfl (eS rfl (eS rfl (eS rfl (eS rfl (eS rfl (eS rfl (eS rfl (eS rfl (eS rfl (eS rfl (eS rfl (eS rfl (eS rfl (eS rfl (eS rfl (eS rfl (eS rfl (eS rfl (eS rfl (eS rfl (eS rfl (eS rfl (eS rfl (eS rfl (eS rfl (eS rfl (eS rfl eZ)))))))))))))))))))))))))))))))))))) rfl ?_
                    refine gDo (eS rfl eZ) h27 ?_
                    refine oLoadV (q := 1) (c := (.d (.int .i64 a1.Stage))) eZ bZ rfl rfl ?_
                    refine gDo (eS rfl (eS rfl eZ)) h27 ?_
                    refine oEql eZ eC ?_
                    refine gDo (eS rfl (eS rfl (eS rfl eZ))) h27 ?_
                    refine oMov eZ ?_
                    rcases oite H with ⟨h28, H⟩ | ⟨h28, H⟩
                    · refine gSkip eZ (decide_eq_true h28) rfl ?_
                      refine gSkip (eS rfl eZ) (decide_eq_true h28) rfl ?_
                      refine gSkip (eS rfl (eS rfl eZ)) (decide_eq_true h28) rfl ?_
                      refine gSkip (eS rfl (eS rfl (eS rfl eZ))) (decide_eq_true h28) rfl ?_
                      refine gDo (eS rfl (eS rfl (eS rfl (eS rfl (eS rfl (eS rfl (eS rfl (eS rfl eZ)))))))) h27 ?_
                      refine oPickT (eS rfl (eS rfl (eS rfl (eS rfl eZ)))) (decide_eq_true h28) eC ?_
                      refine oPickT (eS rfl (eS rfl (eS rfl (eS rfl (eS rfl (eS rfl (eS rfl (eS rfl (eS rfl eZ))))))))) h27 eZ ?_
                      refine oMov eZ ?_
                      refine xNil ?_
                      refine TQ.qn ?_
                      refine AW.weaken (wk_mk [64] (SL.cons (k := 2) eZ rfl VWk.rfl SL.nil) (BL.drop rfl BL.nil) BK.nil) ?_
                      refine AW.ret ?_
                      obtain rfl := Option.some.inj H
                      exact endsR (RL.cons (RV.tmp eZ) (VO.flat rfl) RL.nil) List.nodup_nil
                    · refine gDo eZ (decide_eq_false h28) ?_
                      refine oFaddrN (m := 6) (eS rfl (eS rfl (eS rfl (eS rfl (eS rfl (eS rfl (eS rfl (eS rfl (eS rfl (eS rfl (eS rfl (eS rfl (eS rfl (eS rfl (eS rfl (eS rfl (eS rfl (eS rfl (eS rfl (eS rfl (eS rfl (eS rfl (eS rfl (eS rfl (eS rfl (eS rfl (eS rfl (eS rfl (eS rfl (eS rfl (eS rfl (eS rfl (eS rfl (eS rfl (eS rfl (eS rfl (eS rfl (eS rfl (eS rfl (eS rfl eZ)))))))))))))))))))))))))))))))))))))))) rfl ?_
                      refine gDo (eS rfl eZ) (decide_eq_false h28) ?_
                      refine oLoadV (q := 6) (c := (.d (.sl 2 (List.map d_TCell a1.Cells)))) eZ bZ rfl rfl ?_
                      refine gDo (eS rfl (eS rfl eZ)) (decide_eq_false h28) ?_
                      refine oLenD eZ (n := a1.Cells.length) (List.length_map _) ?_
                      refine gDo (eS rfl (eS rfl (eS rfl eZ))) (decide_eq_false h28) ?_
                      refine oEql eZ eC ?_
                      refine gDo (eS rfl (eS rfl (eS rfl (eS rfl (eS rfl (eS rfl (eS rfl (eS rfl eZ)))))))) h27 ?_
                      refine oPickF (eS rfl (eS rfl (eS rfl (eS rfl eZ)))) (decide_eq_false h28) eZ ?_
                      refine oPickT (eS rfl (eS rfl (eS rfl (eS rfl (eS rfl (eS rfl (eS rfl (eS rfl (eS rfl eZ))))))))) h27 eZ ?_
                      refine oMov eZ ?_
                      refine xNil ?_
                      refine TQ.qn ?_
                      refine AW.weaken (wk_mk [64] (SL.cons (k := 2) eZ rfl VWk.rfl SL.nil) (BL.drop rfl BL.nil) BK.nil) ?_
                      refine AW.ret ?_
                      obtain rfl := Option.some.inj H
                      exact endsR (RL.cons (RV.tmp eZ) (VO.flat rfl) RL.nil) List.nodup_nil
                  · refine gSkip eZ (nt h27) rfl ?_
                    refine gSkip (eS rfl eZ) (nt h27) rfl ?_
                    refine gSkip (eS rfl (eS rfl eZ)) (nt h27) rfl ?_
                    refine gSkip (eS rfl (eS rfl (eS rfl eZ))) (nt h27) rfl ?_
                    refine gSkipU eZ rfl ?_
                    refine gSkipU (eS rfl eZ) rfl ?_
                    refine gSkipU (eS rfl (eS rfl eZ)) rfl ?_
                    refine gSkipU (eS rfl (eS rfl (eS rfl eZ))) rfl ?_
                    refine gSkip (eS rfl (eS rfl (eS rfl (eS rfl (eS rfl (eS rfl (eS rfl (eS rfl eZ)))))))) (nt h27) rfl ?_
                    refine oPickF (eS rfl (eS rfl (eS rfl (eS rfl (eS rfl (eS rfl (eS rfl (eS rfl (eS rfl eZ))))))))) (nt h27) eC ?_
                    refine oMov eZ ?_
                    refine xNil ?_
                    refine TQ.qn ?_
                    refine AW.weaken (wk_mk [64] (SL.cons (k := 2) eZ rfl VWk.rfl SL.nil) (BL.drop rfl BL.nil) BK.nil) ?_
                    refine AW.ret ?_
                    obtain rfl := Option.some.inj H
                    exact endsR (RL.cons (RV.tmp eZ) (VO.flat rfl) RL.nil) List.nodup_nil
                · refine gSkip eZ (decide_eq_false h22) rfl ?_
                  refine gSkip (eS rfl eZ) (decide_eq_false h22) rfl ?_
                  refine gSkip (eS rfl (eS rfl eZ)) (decide_eq_false h22) rfl ?_
                  refine gSkip (eS rfl (eS rfl (eS rfl eZ))) (decide_eq_false h22) rfl ?_
                  refine gSkip (eS rfl (eS rfl (eS rfl (eS rfl eZ)))) (decide_eq_false h22) rfl ?_
                  refine oPickF (eS rfl (eS rfl (eS rfl (eS rfl (eS rfl eZ))))) (decide_eq_false h22) eC ?_
                  refine oMov eZ ?_
                  refine gSkip eZ rfl rfl ?_
                  refine gSkip (eS rfl eZ) rfl rfl ?_
                  refine gSkip (eS rfl (eS rfl eZ)) rfl rfl ?_
                  refine gSkip (eS rfl (eS rfl (eS rfl eZ))) rfl rfl ?_
                  refine gSkipU eZ rfl ?_
                  refine gSkipU (eS rfl eZ) rfl ?_
                  refine gSkipU (eS rfl (eS rfl eZ)) rfl ?_
                  refine gSkipU (eS rfl (eS rfl (eS rfl eZ))) rfl ?_
                  refine gSkip (eS rfl (eS rfl (eS rfl (eS rfl (eS rfl (eS rfl (eS rfl (eS rfl eZ)))))))) rfl rfl ?_
                  refine oPickF (eS rfl (eS rfl (eS rfl (eS rfl (eS rfl (eS rfl (eS rfl (eS rfl (eS rfl eZ))))))))) rfl eC ?_
                  refine oMov eZ ?_
                  refine xNil ?_
                  refine TQ.qn ?_
                  refine AW.weaken (wk_mk [64] (SL.cons (k := 2) eZ rfl VWk.rfl SL.nil) (BL.drop rfl BL.nil) BK.nil) ?_
                  refine AW.ret ?_
                  obtain rfl := Option.some.inj H
                  exact endsR (RL.cons (RV.tmp eZ) (VO.flat rfl) RL.nil) List.nodup_nil
              · refine gSkip eZ (nt h21) rfl ?_
                refine gSkip (eS rfl eZ) (nt h21) rfl ?_
                refine gSkip (eS rfl (eS rfl eZ)) (nt h21) rfl ?_
                refine gSkip (eS rfl (eS rfl (eS rfl eZ))) (nt h21) rfl ?_
                refine gSkip (eS rfl (eS rfl (eS rfl (eS rfl eZ)))) (nt h21) rfl ?_
                refine oPickF (eS rfl (eS rfl (eS rfl (eS rfl (eS rfl eZ))))) (nt h21) eC ?_
                refine oMov eZ ?_
                refine gSkip eZ rfl rfl ?_
                refine gSkip (eS rfl eZ) rfl rfl ?_
                refine gSkip (eS rfl (eS rfl eZ)) rfl rfl ?_
                refine gSkip (eS rfl (eS rfl (eS rfl eZ))) rfl rfl ?_
                refine gSkip (eS rfl (eS rfl (eS rfl (eS rfl eZ)))) rfl rfl ?_
                refine oPickF (eS rfl (eS rfl (eS rfl (eS rfl (eS rfl eZ))))) rfl eC ?_
                refine oMov eZ ?_
                refine gSkip eZ rfl rfl ?_
                refine gSkip (eS rfl eZ) rfl rfl ?_
                refine gSkip (eS rfl (eS rfl eZ)) rfl rfl ?_
                refine gSkip (eS rfl (eS rfl (eS rfl eZ))) rfl rfl ?_
                refine gSkipU eZ rfl ?_
                refine gSkipU (eS rfl eZ) rfl ?_
                refine gSkipU (eS rfl (eS rfl eZ)) rfl ?_
                refine gSkipU (eS rfl (eS rfl (eS rfl eZ))) rfl ?_
                refine gSkip (eS rfl (eS rfl (eS rfl (eS rfl (eS rfl (eS rfl (eS rfl (eS rfl eZ)))))))) rfl rfl ?_
                refine oPickF (eS rfl (eS rfl (eS rfl (eS rfl (eS rfl (eS rfl (eS rfl (eS rfl (eS rfl eZ))))))))) rfl eC ?_
                refine oMov eZ ?_
                refine xNil ?_
                refine TQ.qn ?_
                refine AW.weaken (wk_mk [64] (SL.cons (k := 2) eZ rfl VWk.rfl SL.nil) (BL.drop rfl BL.nil) BK.nil) ?_
                refine AW.ret ?_
                obtain rfl := Option.some.inj H
                exact endsR (RL.cons (RV.tmp eZ) (VO.flat rfl) RL.nil) List.nodup_nil
            · refine gSkip eZ (nt h18) rfl ?_
              refine gSkip (eS rfl eZ) (nt h18) rfl ?_
              refine gSkip (eS rfl (eS rfl eZ)) (nt h18) rfl ?_
              refine oPickF (eS rfl (eS rfl (eS rfl eZ))) (nt h18) eC ?_
              refine oMov eZ ?_
              refine gSkip eZ rfl rfl ?_
              refine gSkip (eS rfl eZ) rfl rfl ?_
              refine gSkip (eS rfl (eS rfl eZ)) rfl rfl ?_
              refine gSkip (eS rfl (eS rfl (eS rfl eZ))) rfl rfl ?_
              refine gSkip (eS rfl (eS rfl (eS rfl (eS rfl eZ)))) rfl rfl ?_
              refine oPickF (eS rfl (eS rfl (eS rfl (eS rfl (eS rfl eZ))))) rfl eC ?_
              refine oMov eZ ?_
              refine gSkip eZ rfl rfl ?_
              refine gSkip (eS rfl eZ) rfl rfl ?_
              refine gSkip (eS rfl (eS rfl eZ)) rfl rfl ?_
              refine gSkip (eS rfl (eS rfl (eS rfl eZ))) rfl rfl ?_
              refine gSkip (eS rfl (eS rfl (eS rfl (eS rfl eZ)))) rfl rfl ?_
              refine oPickF (eS rfl (eS rfl (eS rfl (eS rfl (eS rfl eZ))))) rfl eC ?_
              refine oMov eZ ?_
              refine gSkip eZ rfl rfl ?_
              refine gSkip (eS rfl eZ) rfl rfl ?_
              refine gSkip (eS rfl (eS rfl eZ)) rfl rfl ?_
              refine gSkip (eS rfl (eS rfl (eS rfl eZ))) rfl rfl ?_
              refine gSkipU eZ rfl ?_
              refine gSkipU (eS rfl eZ) rfl ?_
              refine gSkipU (eS rfl (eS rfl eZ)) rfl ?_
              refine gSkipU (eS rfl (eS rfl (eS rfl eZ))) rfl ?_
              refine gSkip (eS rfl (eS rfl (eS rfl (eS rfl (eS rfl (eS rfl (eS rfl (eS rfl eZ)))))))) rfl rfl ?_
              refine oPickF (eS rfl (eS rfl (eS rfl (eS rfl (eS rfl (eS rfl (eS rfl (eS rfl (eS rfl eZ))))))))) rfl eC ?_
              refine oMov eZ ?_
              refine xNil ?_
              refine TQ.qn ?_
              refine AW.weaken (wk_mk [64] (SL.cons (k := 2) eZ rfl VWk.rfl SL.nil) (BL.drop rfl BL.nil) BK.nil) ?_
              refine AW.ret ?_
              obtain rfl := Option.some.inj H
              exact endsR (RL.cons (RV.tmp eZ) (VO.flat rfl) RL.nil) List.nodup_nil
          · refine gSkip eZ (nt h15) rfl ?_
            refine gSkip (eS rfl eZ) (nt h15) rfl ?_
            refine gSkip (eS rfl (eS rfl eZ)) (nt h15) rfl ?_
            refine oPickF (eS rfl (eS rfl (eS rfl eZ))) (nt h15) eC ?_
            refine oMov eZ ?_
            refine gSkip eZ rfl rfl ?_
            refine gSkip (eS rfl eZ) rfl rfl ?_
            refine gSkip (eS rfl (eS rfl eZ)) rfl rfl ?_
            refine oPickF (eS rfl (eS rfl (eS rfl eZ))) rfl eC ?_
            refine oMov eZ ?_
            refine gSkip eZ rfl rfl ?_
            refine gSkip (eS rfl eZ) rfl rfl ?_
            refine gSkip (eS rfl (eS rfl eZ)) rfl rfl ?_
            refine gSkip (eS rfl (eS rfl (eS rfl eZ))) rfl rfl ?_
            refine gSkip (eS rfl (eS rfl (eS rfl (eS rfl eZ)))) rfl rfl ?_
            refine oPickF (eS rfl (eS rfl (eS rfl (eS rfl (eS rfl eZ))))) rfl eC ?_
            refine oMov eZ ?_
            refine gSkip eZ rfl rfl ?_
            refine gSkip (eS rfl eZ) rfl rfl ?_
            refine gSkip (eS rfl (eS rfl eZ)) rfl rfl ?_
            refine gSkip (eS rfl (eS rfl (eS rfl eZ))) rfl rfl ?_
            refine gSkip (eS rfl (eS rfl (eS rfl (eS rfl eZ)))) rfl rfl ?_
            refine oPickF (eS rfl (eS rfl (eS rfl (eS rfl (eS rfl eZ))))) rfl eC ?_
            refine oMov eZ ?_
            refine gSkip eZ rfl rfl ?_
            refine gSkip (eS rfl eZ) rfl rfl ?_
            refine gSkip (eS rfl (eS rfl eZ)) rfl rfl ?_
            refine gSkip (eS rfl (eS rfl (eS rfl eZ))) rfl rfl ?_
            refine gSkipU eZ rfl ?_
            refine gSkipU (eS rfl eZ) rfl ?_
            refine gSkipU (eS rfl (eS rfl eZ)) rfl ?_
            refine gSkipU (eS rfl (eS rfl (eS rfl eZ))) rfl ?_
            refine gSkip (eS rfl (eS rfl (eS rfl (eS rfl (eS rfl (eS rfl (eS rfl (eS rfl eZ)))))))) rfl rfl ?_
            refine oPickF (eS rfl (eS rfl (eS rfl (eS rfl (eS rfl (eS rfl (eS rfl (eS rfl (eS rfl eZ))))))))) rfl eC ?_
            refine oMov eZ ?_
            refine xNil ?_
            refine TQ.qn ?_
            refine AW.weaken (wk_mk [64] (SL.cons (k := 2) eZ rfl VWk.rfl SL.nil) (BL.drop rfl BL.nil) BK.nil) ?_
            refine AW.ret ?_
            obtain rfl := Option.some.inj H
            exact endsR (RL.cons (RV.tmp eZ) (VO.flat rfl) RL.nil) List.nodup_nil
        · refine gSkip eZ (decide_eq_false h10) rfl ?_
          refine gSkip (eS rfl eZ) (decide_eq_false h10) rfl ?_
          refine gSkip (eS rfl (eS rfl eZ)) (decide_eq_false h10) rfl ?_
          refine oPickF (eS rfl (eS rfl (eS rfl eZ))) (decide_eq_false h10) eC ?_
          refine oMov eZ ?_
          refine gSkip eZ rfl rfl ?_
          refine gSkip (eS rfl eZ) rfl rfl ?_
          refine gSkip (eS rfl (eS rfl eZ)) rfl rfl ?_
          refine oPickF (eS rfl (eS rfl (eS rfl eZ))) rfl eC ?_
          refine oMov eZ ?_
          refine gSkip eZ rfl rfl ?_
          refine gSkip (eS rfl eZ) rfl rfl ?_
          refine gSkip (eS rfl (eS rfl eZ)) rfl rfl ?_
          refine oPickF (eS rfl (eS rfl (eS rfl eZ))) rfl eC ?_
          refine oMov eZ ?_
          refine gSkip eZ rfl rfl ?_
          refine gSkip (eS rfl eZ) rfl rfl ?_
          refine gSkip (eS rfl (eS rfl eZ)) rfl rfl ?_
          refine gSkip (eS rfl (eS rfl (eS rfl eZ))) rfl rfl ?_
          refine gSkip (eS rfl (eS rfl (eS rfl (eS rfl eZ)))) rfl rfl ?_
          refine oPickF (eS rfl (eS rfl (eS rfl (eS rfl (eS rfl eZ))))) rfl eC ?_
          refine oMov eZ ?_
          refine gSkip eZ rfl rfl ?_
          refine gSkip (eS rfl eZ) rfl rfl ?_
          refine gSkip (eS rfl (eS rfl eZ)) rfl rfl ?_
          refine gSkip (eS rfl (eS rfl (eS rfl eZ))) rfl rfl ?_
          refine gSkip (eS rfl (eS rfl (eS rfl (eS rfl eZ)))) rfl rfl ?_
          refine oPickF (eS rfl (eS rfl (eS rfl (eS rfl (eS rfl eZ))))) rfl eC ?_
          refine oMov eZ ?_
          refine gSkip eZ rfl rfl ?_
          refine gSkip (eS rfl eZ) rfl rfl ?_
          refine gSkip (eS rfl (eS rfl eZ)) rfl rfl ?_
          refine gSkip (eS rfl (eS rfl (eS rfl eZ))) rfl rfl ?_
          refine gSkipU eZ rfl ?_
          refine gSkipU (eS rfl eZ) rfl ?_
          refine gSkipU (eS rfl (eS rfl eZ)) rfl ?_
          refine gSkipU (eS rfl (eS rfl (eS rfl eZ))) rfl ?_
          refine gSkip (eS rfl (eS rfl (eS rfl (eS rfl (eS rfl (eS rfl (eS rfl (eS rfl eZ)))))))) rfl rfl ?_
          refine oPickF (eS rfl (eS rfl (eS rfl (eS rfl (eS rfl (eS rfl (eS rfl (eS rfl (eS rfl eZ))))))))) rfl eC ?_
          refine oMov eZ ?_
          refine xNil ?_
          refine TQ.qn ?_
          refine AW.weaken (wk_mk [64] (SL.cons (k := 2) eZ rfl VWk.rfl SL.nil) (BL.drop rfl BL.nil) BK.nil) ?_
          refine AW.ret ?_
          obtain rfl := Option.some.inj H
          exact endsR (RL.cons (RV.tmp eZ) (VO.flat rfl) RL.nil) List.nodup_nil
  · refine AW.regs ?_
    refine oFaddrN (m := 0) (eS rfl eZ) rfl ?_
    refine oLoadV (q := 0) (c := (.d (.int .i64 a1.No))) eZ bZ rfl rfl ?_
    obtain ⟨v29, h30, H⟩ := obind H
    refine oCall (u := (.one (.d (.bool v29)))) eC Cl.fn (c_impl_from h30) (Evs.cons eZ (Evs.cons eC (Evs.cons eC Evs.nil))) (VDs.cons VD.plain (VDs.cons VD.plain (VDs.cons VD.plain VDs.nil))) rfl ?_
    refine oInv eZ ?_
    refine oMov eZ ?_
    rcases oite H with ⟨h31, H⟩ | ⟨h31, H⟩
    · refine gDo eZ (congrArg Bool.not h31) ?_
      refine oFaddrN (m := 1) (eS rfl (eS rfl (eS rfl (eS rfl (eS rfl (eS rfl eZ)))))) rfl ?_
      refine gDo (eS rfl eZ) (congrArg Bool.not h31) ?_
      refine oLoadV (q := 1) (c := (.d (.int .i64 a1.Stage))) eZ bZ rfl rfl ?_
      refine gDo (eS rfl (eS rfl eZ)) (congrArg Bool.not h31) ?_
      obtain ⟨v32, h33, H⟩ := obind H
      refine oCall (u := (.one (.d (.bool v32)))) eC Cl.fn (c_impl_from h33) (Evs.cons eZ (Evs.cons eC (Evs.cons eC Evs.nil))) (VDs.cons VD.plain (VDs.cons VD.plain (VDs.cons VD.plain VDs.nil))) rfl ?_
      refine gDo (eS rfl (eS rfl (eS rfl eZ))) (congrArg Bool.not h31) ?_
      refine oInv eZ ?_
      refine oPickF (eS rfl (eS rfl (eS rfl (eS rfl eZ)))) (congrArg Bool.not h31) eZ ?_
      refine xNil ?_
      exact TQ.qn ⟨(!v32), H, (wk_mk [] (SL.cons (eS rfl (eS rfl (eS rfl (eS rfl (eS rfl (eS rfl (eS rfl (eS rfl (eS rfl (eS rfl (eS rfl eZ))))))))))) rfl VWk.rfl (SL.cons eZ rfl VWk.rfl SL.nil)) (BL.keep rfl BL.nil) (BK.cons rfl bZ rfl rfl BK.nil))⟩
    · refine gSkip eZ (congrArg Bool.not (nt h31)) rfl ?_
      refine gSkip (eS rfl eZ) (congrArg Bool.not (nt h31)) rfl ?_
      refine gSkip (eS rfl (eS rfl eZ)) (congrArg Bool.not (nt h31)) rfl ?_
      refine gSkip (eS rfl (eS rfl (eS rfl eZ))) (congrArg Bool.not (nt h31)) rfl ?_
      refine oPickT (eS rfl (eS rfl (eS rfl (eS rfl eZ)))) (congrArg Bool.not (nt h31)) eC ?_
      refine xNil ?_
      exact TQ.qn ⟨true, H, (wk_mk [] (SL.cons (eS rfl (eS rfl (eS rfl (eS rfl (eS rfl (eS rfl (eS rfl (eS rfl (eS rfl (eS rfl (eS rfl eZ))))))))))) rfl VWk.rfl (SL.cons eZ rfl VWk.rfl SL.nil)) (BL.keep rfl BL.nil) (BK.cons rfl bZ rfl rfl BK.nil))⟩

theorem c_impl_AtlasOk {a1 : TAtlas} {r : Bool} (H : m_impl_AtlasOk a1 = some r) : Fn Try.prog k_impl_AtlasOk (lent [(.agg (d_TAtlas a1))]) true [(.bool r)] := by
  refine i_impl_AtlasOk_fn (Nat.le_of_ble_eq_true rfl) ?_
  rw [init_mk]
  refine AW.weaken (wk_mk [] (SL.cons (v := (.agg [(.d (.int .i64 a1.Epoch)), (.d (.sl 3 (List.map d_TPart a1.Parts))), (.d (.int .i64 a1.Move.No)), (.d (.int .i64 a1.Move.Stage)), (.d (.int .i64 a1.Move.Lo)), (.d (.int .i64 a1.Move.Hi)), (.d (.int .i64 a1.Move.From)), (.d (.int .i64 a1.Move.To)), (.d (.sl 2 (List.map d_TCell a1.Move.Cells)))])) eZ rfl VWk.rfl SL.nil) BL.nil BK.nil) ?_
  unfold m_impl_AtlasOk at H
  unfold i_impl_AtlasOk
  refine AW.seq ?_
  refine AW.regs ?_
  refine oBox (n := 64) (m := 9) (cs := [(.d (.int .i64 a1.Epoch)), (.d (.sl 3 (List.map d_TPart a1.Parts))), (.d (.int .i64 a1.Move.No)), (.d (.int .i64 a1.Move.Stage)), (.d (.int .i64 a1.Move.Lo)), (.d (.int .i64 a1.Move.Hi)), (.d (.int .i64 a1.Move.From)), (.d (.int .i64 a1.Move.To)), (.d (.sl 2 (List.map d_TCell a1.Move.Cells)))]) rfl eZ rfl rfl nZ ?_
  refine oMov eC ?_
  refine xNil ?_
  refine TQ.qn ?_
  refine AW.seq ?_
  refine AW.regs ?_
  refine oFaddrN (m := 0) (eS rfl eZ) rfl ?_
  refine oLoadV (q := 0) (c := (.d (.int .i64 a1.Epoch))) eZ bZ rfl rfl ?_
  obtain ⟨v2, h3, H⟩ := obind H
  refine oCall (u := (.one (.d (.bool v2)))) eC Cl.fn (c_impl_from h3) (Evs.cons eZ (Evs.cons eC (Evs.cons eC Evs.nil))) (VDs.cons VD.plain (VDs.cons VD.plain (VDs.cons VD.plain VDs.nil))) rfl ?_
  refine oMov eZ ?_
  rcases oite H with ⟨h4, H⟩ | ⟨h4, H⟩
  · refine gDo eZ h4 ?_
    refine oFaddrN (m := 1) (eS rfl (eS rfl (eS rfl (eS rfl (eS rfl eZ))))) rfl ?_
    refine gDo (eS rfl eZ) h4 ?_
    refine oLoadV (q := 1) (c := (.d (.sl 3 (List.map d_TPart a1.Parts)))) eZ bZ rfl rfl ?_
    refine gDo (eS rfl (eS rfl eZ)) h4 ?_
    obtain ⟨v5, h6, H⟩ := obind H
    refine oCall (u := (.one (.d (.bool v5)))) eC Cl.fn (c_impl_PartsOk h6) (Evs.cons eZ Evs.nil) (VDs.cons VD.plain VDs.nil) rfl ?_
    refine oPickT (eS rfl (eS rfl (eS rfl eZ))) h4 eZ ?_
    refine oMov eZ ?_
    rcases oite H with ⟨h7, H⟩ | ⟨h7, H⟩
    · refine gDo eZ h7 ?_
      refine oFaddrN (m := 2) (eS rfl (eS rfl (eS rfl (eS rfl (eS rfl (eS rfl (eS rfl (eS rfl (eS rfl (eS rfl eZ)))))))))) rfl ?_
      refine gDo (eS rfl eZ) h7 ?_
      refine oLoadVA (es := [(.d (.int .i64 a1.Move.No)), (.d (.int .i64 a1.Move.Stage)), (.d (.int .i64 a1.Move.Lo)), (.d (.int .i64 a1.Move.Hi)), (.d (.int .i64 a1.Move.From)), (.d (.int .i64 a1.Move.To)), (.d (.sl 2 (List.map d_TCell a1.Move.Cells)))]) eZ bZ rfl ?_
      refine gDo (eS rfl (eS rfl eZ)) h7 ?_
      obtain ⟨v8, h9, H⟩ := obind H
      refine oCall (u := (.one (.d (.bool v8)))) eC Cl.fn (c_impl_moveOk h9) (Evs.cons eZ Evs.nil) (VDs.cons (VD.agg rfl) VDs.nil) rfl ?_
      refine oPickT (eS rfl (eS rfl (eS rfl eZ))) h7 eZ ?_
      refine oMov eZ ?_
      refine xNil ?_
      refine TQ.qn ?_
      refine AW.weaken (wk_mk [64] (SL.cons (k := 2) eZ rfl VWk.rfl SL.nil) (BL.drop rfl BL.nil) BK.nil) ?_
      refine AW.ret ?_
      obtain rfl := Option.some.inj H
      exact endsR (RL.cons (RV.tmp eZ) (VO.flat rfl) RL.nil) List.nodup_nil
    · refine gSkip eZ (nt h7) rfl ?_
      refine gSkip (eS rfl eZ) (nt h7) rfl ?_
      refine gSkip (eS rfl (eS rfl eZ)) (nt h7) rfl ?_
      refine oPickF (eS rfl (eS rfl (eS rfl eZ))) (nt h7) eC ?_
      refine oMov eZ ?_
      refine xNil ?_
      refine TQ.qn ?_
      refine AW.weaken (wk_mk [64] (SL.cons (k := 2) eZ rfl VWk.rfl SL.nil) (BL.drop rfl BL.nil) BK.nil) ?_
      refine AW.ret ?_
      obtain rfl := Option.some.inj H
      exact endsR (RL.cons (RV.tmp eZ) (VO.flat rfl) RL.nil) List.nodup_nil
  · refine gSkip eZ (nt h4) rfl ?_
    refine gSkip (eS rfl eZ) (nt h4) rfl ?_
    refine gSkip (eS rfl (eS rfl eZ)) (nt h4) rfl ?_
    refine oPickF (eS rfl (eS rfl (eS rfl eZ))) (nt h4) eC ?_
    refine oMov eZ ?_
    refine gSkip eZ rfl rfl ?_
    refine gSkip (eS rfl eZ) rfl rfl ?_
    refine gSkip (eS rfl (eS rfl eZ)) rfl rfl ?_
    refine oPickF (eS rfl (eS rfl (eS rfl eZ))) rfl eC ?_
    refine oMov eZ ?_
    refine xNil ?_
    refine TQ.qn ?_
    refine AW.weaken (wk_mk [64] (SL.cons (k := 2) eZ rfl VWk.rfl SL.nil) (BL.drop rfl BL.nil) BK.nil) ?_
    refine AW.ret ?_
    obtain rfl := Option.some.inj H
    exact endsR (RL.cons (RV.tmp eZ) (VO.flat rfl) RL.nil) List.nodup_nil

theorem c_impl_partAt_1 {a1 : TPart} {a2 : Int} {r : Bool} (H : m_impl_partAt_1 a1 a2 = some r) : Fn Try.prog k_impl_partAt_1 (lent [(.agg (d_TPart a1)), (.ptr (d_i64 a2))]) true [(.bool r)] := by
  refine i_impl_partAt_1_fn (Nat.le_of_ble_eq_true rfl) ?_
  rw [init_mk]
  refine AW.weaken (wk_mk [] (SL.cons (v := (.agg [(.d (.int .i64 a1.Lo)), (.d (.int .i64 a1.Hi)), (.d (.int .i64 a1.Owner))])) eZ rfl VWk.rfl (SL.cons (v := (.one (.ptr (.bd (d_i64 a2) 0)))) (eS rfl eZ) rfl (VWk.one CWk.ptr) SL.nil)) BL.nil BK.nil) ?_
  unfold m_impl_partAt_1 at H
  unfold i_impl_partAt_1
  refine AW.seq ?_
  refine AW.regs ?_
  refine oBox (n := 128) (m := 3) (cs := [(.d (.int .i64 a1.Lo)), (.d (.int .i64 a1.Hi)), (.d (.int .i64 a1.Owner))]) rfl eZ rfl rfl nZ ?_
  refine oMov eC ?_
  refine xNil ?_
  refine TQ.qn ?_
  refine AW.seq ?_
  refine AW.regs ?_
  refine oLoadB (e := (.int .i64 a2)) (eS rfl (eS rfl (eS rfl eZ))) rfl ?_
  refine oFaddrN (m := 0) (eS rfl (eS rfl eZ)) rfl ?_
  refine oLoadV (q := 0) (c := (.d (.int .i64 a1.Lo))) eZ bZ rfl rfl ?_
  refine oFaddrN (m := 1) (eS rfl (eS rfl (eS rfl (eS rfl eZ)))) rfl ?_
  refine oLoadV (q := 1) (c := (.d (.int .i64 a1.Hi))) eZ bZ rfl rfl ?_
  refine oSub eZ eC ?_
  obtain ⟨v3, h4, H⟩ := obind H
  refine oCall (u := (.one (.d (.bool v3)))) eC Cl.fn (c_impl_from h4) (Evs.cons (eS rfl (eS rfl (eS rfl (eS rfl (eS rfl eZ))))) (Evs.cons (eS rfl (eS rfl (eS rfl eZ))) (Evs.cons eZ Evs.nil))) (VDs.cons VD.plain (VDs.cons VD.plain (VDs.cons VD.plain VDs.nil))) rfl ?_
  refine oMov eZ ?_
  refine xNil ?_
  refine TQ.qn ?_
  refine AW.ret ?_
  obtain rfl := Option.some.inj H
  exact endsR (RL.cons (RV.tmp eZ) (VO.flat rfl) RL.nil) List.nodup_nil

theorem c_slices_IndexFunc_Part__partAt_1 {a1 : (List TPart)} {a2 : Int} {r : Int} (H : m_slices_IndexFunc_Part__partAt_1 a1 a2 = some r) : Fn Try.prog k_slices_IndexFunc___impl_Part_impl_Part_ (lent [(.sl 3 (List.map d_TPart a1)), (.fn k_impl_partAt_1 [.ptr (d_i64 a2)])]) true [(.int .i64 r)] := by
  refine i_slices_IndexFunc___impl_Part_impl_Part__fn (Nat.le_of_ble_eq_true rfl) ?_
  rw [init_mk]
  refine AW.weaken (wk_mk [] (SL.cons (v := (.one (.d (.sl 3 (List.map d_TPart a1))))) eZ rfl VWk.rfl (SL.cons (v := (.one (.fn k_impl_partAt_1 [(.bd (d_i64 a2) 0)]))) (eS rfl eZ) rfl (VWk.one (CWk.fn (css := [d_i64 a2]))) SL.nil)) BL.nil BK.nil) ?_
  unfold m_slices_IndexFunc_Part__partAt_1 at H
  unfold i_slices_IndexFunc___impl_Part_impl_Part_
  refine AW.seq ?_
  refine AW.regs ?_
  refine oMov eC ?_
  refine xNil ?_
  refine TQ.qn ?_
  refine AW.seqJ (fun t3 : Unit => slices_IndexFunc_Part__partAt_1_j3 t3 = some r) (fun t3 => mk [] [] noG) ?_ ?_
  · intro t3 H
    unfold slices_IndexFunc_Part__partAt_1_j3 at H
    refine AW.seq ?_
    refine AW.regs ?_
    refine oMov eC ?_
    refine xNil ?_
    refine TQ.qn ?_
    refine AW.ret ?_
    obtain rfl := Option.some.inj H
    exact endsR (RL.cons (RV.tmp eZ) (VO.flat rfl) RL.nil) List.nodup_nil
  · refine AW.seq ?_
    refine AW.regs ?_
    refine oMov (eS rfl eZ) ?_
    refine oLenD eZ (n := a1.length) (List.length_map _) ?_
    refine oMov eC ?_
    refine xNil ?_
    refine TQ.qn ?_
    refine AW.block ?_
    refine AW.iter (fun s5 : Int => mk [(0, (.one (.d (.sl 3 (List.map d_TPart a1))))), (1, (.one (.fn k_impl_partAt_1 [(.bd (d_i64 a2) 0)]))), (7, (.one (.d (.int .i64 (a1.length : Int))))), (8, (.one (.d (.int .i64 s5))))] [] noG) H (wk_mk [] (SL.cons (eS rfl (eS rfl (eS rfl (eS rfl eZ)))) rfl VWk.rfl (SL.cons (eS rfl (eS rfl (eS rfl (eS rfl (eS rfl eZ))))) rfl VWk.rfl (SL.cons (eS rfl eZ) rfl VWk.rfl (SL.cons eZ rfl VWk.rfl SL.nil)))) BL.nil BK.nil) ?_
    intro kb6 s5 H
    unfold slices_IndexFunc_Part__partAt_1_b5 at H
    refine AW.seq ?_
    refine AW.regs ?_
    refine oLss (eS rfl (eS rfl (eS rfl eZ))) (eS rfl (eS rfl eZ)) ?_
    refine xNil ?_
    refine TQ.qn ?_
    refine AW.seq ?_
    rcases oite H with ⟨h7, H⟩ | ⟨h7, H⟩
    · refine AW.condT eZ (decide_eq_true h7) ?_
      refine AW.skip ?_
      refine TQ.qn ?_
      refine AW.seq ?_
      refine AW.block ?_
      refine AW.seq ?_
      refine AW.regs ?_
      refine oMov (eS rfl (eS rfl (eS rfl (eS rfl eZ)))) ?_
      refine oMov eZ ?_
      refine xNil ?_
      refine TQ.qn ?_
      refine AW.seq ?_
      refine AW.regs ?_
      refine oMov (eS rfl (eS rfl (eS rfl (eS rfl eZ)))) ?_
      refine oMov (eS rfl (eS rfl (eS rfl (eS rfl eZ)))) ?_
      refine oMov (eS rfl (eS rfl eZ)) ?_
      obtain ⟨v8, h9, H⟩ := obind H
      refine oAtD (eS rfl eZ) eZ h9 ?_
      refine oLoadBA (es := [(.d (.int .i64 v8.Lo)), (.d (.int .i64 v8.Hi)), (.d (.int .i64 v8.Owner))]) eZ rfl ?_
      obtain ⟨v10, h11, H⟩ := obind H
      refine oCall (u := (.one (.d (.bool v10)))) (eS rfl (eS rfl (eS rfl (eS rfl eZ)))) Cl.fn (c_impl_partAt_1 h11) (Evs.cons eZ Evs.nil) (VDs.cons (VD.agg rfl) (VDs.cons VD.ptrB VDs.nil)) rfl ?_
      refine xNil ?_
      refine TQ.qn ?_
      rcases oite H with ⟨h12, H⟩ | ⟨h12, H⟩
      · refine AW.condT eZ h12 ?_
        refine AW.seq ?_
        refine AW.regs ?_
        refine oMov (eS rfl (eS rfl (eS rfl (eS rfl (eS rfl (eS rfl eZ)))))) ?_
        refine oMov eZ ?_
        refine xNil ?_
        refine TQ.qn ?_
        refine AW.ret ?_
        refine BQ.qr ?_
        refine TQ.qr ?_
        refine TQ.qr ?_
        refine BQ.qr ?_
        refine TQ.qr ?_
        obtain rfl := Option.some.inj H
        exact endsR (RL.cons (RV.tmp eZ) (VO.flat rfl) RL.nil) List.nodup_nil
      · refine AW.condF eZ (nt h12) ?_
        refine AW.skip ?_
        refine BQ.qn ?_
        refine TQ.qn ?_
        refine AW.regs ?_
        refine oAdd (eS rfl (eS rfl (eS rfl (eS rfl (eS rfl (eS rfl (eS rfl (eS rfl (eS rfl (eS rfl (eS rfl (eS rfl eZ)))))))))))) eC ?_
        refine oMov eZ ?_
        refine xNil ?_
        exact TQ.qn ⟨(IntKind.wrap .i64 (s5 + 1)), H, (wk_mk [] (SL.cons (eS rfl (eS rfl (eS rfl (eS rfl (eS rfl (eS rfl (eS rfl (eS rfl (eS rfl (eS rfl (eS rfl eZ))))))))))) rfl VWk.rfl (SL.cons (eS rfl (eS rfl (eS rfl (eS rfl (eS rfl (eS rfl (eS rfl (eS rfl (eS rfl (eS rfl (eS rfl (eS rfl eZ)))))))))))) rfl VWk.rfl (SL.cons (eS rfl (eS rfl (eS rfl (eS rfl (eS rfl (eS rfl (eS rfl (eS rfl (eS rfl (eS rfl (eS rfl (eS rfl (eS rfl eZ))))))))))))) rfl VWk.rfl (SL.cons eZ rfl VWk.rfl SL.nil)))) BL.nil BK.nil)⟩
    · refine AW.condF eZ (decide_eq_false h7) ?_
      refine AW.exit ?_
      refine TQ.qe ?_
      refine TQ.qe ?_
      refine BQ.qe ?_
      exact TQ.qn ⟨(), H, (wk_mk [] SL.nil BL.nil BK.nil)⟩

theorem c_impl_partAt {a1 : (List TPart)} {a2 : Int} {r : Int} (H : m_impl_partAt a1 a2 = some r) : Fn Try.prog k_impl_partAt (lent [(.sl 3 (List.map d_TPart a1)), (.int .i64 a2)]) true [(.int .i64 r)] := by
  refine i_impl_partAt_fn (Nat.le_of_ble_eq_true rfl) ?_
  rw [init_mk]
  refine AW.weaken (wk_mk [] (SL.cons (v := (.one (.d (.sl 3 (List.map d_TPart a1))))) eZ rfl VWk.rfl (SL.cons (v := (.one (.d (.int .i64 a2)))) (eS rfl eZ) rfl VWk.rfl SL.nil)) BL.nil BK.nil) ?_
  unfold m_impl_partAt at H
  unfold i_impl_partAt
  refine AW.seq ?_
  refine AW.regs ?_
  refine oBox (n := 192) (m := 1) (cs := [(.d (.int .i64 a2))]) rfl (eS rfl eZ) rfl rfl nZ ?_
  refine oMov eC ?_
  refine xNil ?_
  refine TQ.qn ?_
  refine AW.seq ?_
  refine AW.regs ?_
  refine oMov (eS rfl (eS rfl eZ)) ?_
  refine oMkfn (ps := [(.nm 192 0 0)]) (Evs.cons (eS rfl (eS rfl eZ)) Evs.nil) ?_
  obtain ⟨v3, h4, H⟩ := obind H
  refine oCall (u := (.one (.d (.int .i64 v3)))) eC Cl.fn (c_slices_IndexFunc_Part__partAt_1 h4) (Evs.cons (eS rfl eZ) (Evs.cons eZ Evs.nil)) (VDs.cons VD.plain (VDs.cons (VD.fn (PDs.cons (VD.ptrN bZ (CDs.plain CDs.nil)) PDs.nil)) VDs.nil)) rfl ?_
  refine oMov eZ ?_
  refine xNil ?_
  refine TQ.qn ?_
  refine AW.ret ?_
  obtain rfl := Option.some.inj H
  exact endsR (RL.cons (RV.tmp eZ) (VO.flat rfl) RL.nil) List.nodup_nil

theorem c_impl_AtlasOwner {a1 : TAtlas} {a2 : Int} {r : Int} (H : m_impl_AtlasOwner a1 a2 = some r) : Fn Try.prog k_impl_AtlasOwner (lent [(.agg (d_TAtlas a1)), (.int .i64 a2)]) true [(.int .i64 r)] := by
  refine i_impl_AtlasOwner_fn (Nat.le_of_ble_eq_true rfl) ?_
  rw [init_mk]
  refine AW.weaken (wk_mk [] (SL.cons (v := (.agg [(.d (.int .i64 a1.Epoch)), (.d (.sl 3 (List.map d_TPart a1.Parts))), (.d (.int .i64 a1.Move.No)), (.d (.int .i64 a1.Move.Stage)), (.d (.int .i64 a1.Move.Lo)), (.d (.int .i64 a1.Move.Hi)), (.d (.int .i64 a1.Move.From)), (.d (.int .i64 a1.Move.To)), (.d (.sl 2 (List.map d_TCell a1.Move.Cells)))])) eZ rfl VWk.rfl (SL.cons (v := (.one (.d (.int .i64 a2)))) (eS rfl eZ) rfl VWk.rfl SL.nil)) BL.nil BK.nil) ?_
  unfold m_impl_AtlasOwner at H
  unfold i_impl_AtlasOwner
  refine AW.seq ?_
  refine AW.regs ?_
  refine oBox (n := 128) (m := 9) (cs := [(.d (.int .i64 a1.Epoch)), (.d (.sl 3 (List.map d_TPart a1.Parts))), (.d (.int .i64 a1.Move.No)), (.d (.int .i64 a1.Move.Stage)), (.d (.int .i64 a1.Move.Lo)), (.d (.int .i64 a1.Move.Hi)), (.d (.int .i64 a1.Move.From)), (.d (.int .i64 a1.Move.To)), (.d (.sl 2 (List.map d_TCell a1.Move.Cells)))]) rfl eZ rfl rfl nZ ?_
  refine oMov eC ?_
  refine xNil ?_
  refine TQ.qn ?_
  refine AW.seq ?_
  refine AW.seq ?_
  refine AW.regs ?_
  refine oLoadVA (es := [(.d (.int .i64 a1.Epoch)), (.d (.sl 3 (List.map d_TPart a1.Parts))), (.d (.int .i64 a1.Move.No)), (.d (.int .i64 a1.Move.Stage)), (.d (.int .i64 a1.Move.Lo)), (.d (.int .i64 a1.Move.Hi)), (.d (.int .i64 a1.Move.From)), (.d (.int .i64 a1.Move.To)), (.d (.sl 2 (List.map d_TCell a1.Move.Cells)))]) (eS rfl eZ) bZ rfl ?_
  obtain ⟨v3, h4, H⟩ := obind H
  refine oCall (u := (.one (.d (.bool v3)))) eC Cl.fn (c_impl_AtlasOk h4) (Evs.cons eZ Evs.nil) (VDs.cons (VD.agg rfl) VDs.nil) rfl ?_
  refine oInv eZ ?_
  refine xNil ?_
  refine TQ.qn ?_
  rcases oite H with ⟨h5, H⟩ | ⟨h5, H⟩
  · refine AW.condF eZ (congrArg Bool.not h5) ?_
    refine AW.skip ?_
    refine TQ.qn ?_
    refine AW.seq ?_
    refine AW.regs ?_
    refine oFaddrN (m := 1) (eS rfl (eS rfl (eS rfl (eS rfl eZ)))) rfl ?_
    refine oLoadV (q := 1) (c := (.d (.sl 3 (List.map d_TPart a1.Parts)))) eZ bZ rfl rfl ?_
    refine oMov (eS rfl (eS rfl (eS rfl (eS rfl (eS rfl (eS rfl (eS rfl (eS rfl eZ)))))))) ?_
    obtain ⟨v6, h7, H⟩ := obind H
    refine oCall (u := (.one (.d (.int .i64 v6)))) eC Cl.fn (c_impl_partAt h7) (Evs.cons (eS rfl eZ) (Evs.cons eZ Evs.nil)) (VDs.cons VD.plain (VDs.cons VD.plain VDs.nil)) rfl ?_
    refine oMov eZ ?_
    refine xNil ?_
    refine TQ.qn ?_
    refine AW.seq ?_
    refine AW.seq ?_
    refine AW.regs ?_
    refine oMov eZ ?_
    refine oLss eZ eC ?_
    refine xNil ?_
    refine TQ.qn ?_
    rcases oite H with ⟨h8, H⟩ | ⟨h8, H⟩
    · refine AW.condT eZ (decide_eq_true h8) ?_
      refine AW.seq ?_
      refine AW.regs ?_
      refine oMov eC ?_
      refine xNil ?_
      refine TQ.qn ?_
      refine AW.ret ?_
      refine TQ.qr ?_
      obtain rfl := Option.some.inj H
      exact endsR (RL.cons (RV.tmp eZ) (VO.flat rfl) RL.nil) List.nodup_nil
    · refine AW.condF eZ (decide_eq_false h8) ?_
      refine AW.skip ?_
      refine TQ.qn ?_
      refine AW.seq ?_
      refine AW.regs ?_
      refine oFaddrN (m := 1) (eS rfl (eS rfl (eS rfl (eS rfl (eS rfl (eS rfl (eS rfl (eS rfl (eS rfl (eS rfl (eS rfl eZ))))))))))) rfl ?_
      refine oLoadV (q := 1) (c := (.d (.sl 3 (List.map d_TPart a1.Parts)))) eZ bZ rfl rfl ?_
      refine oMov (eS rfl (eS rfl (eS rfl (eS rfl eZ)))) ?_
      obtain ⟨v9, h10, H⟩ := obind H
      refine oAtD (eS rfl eZ) eZ h10 ?_
      refine oFaddrB (m := 2) eZ rfl ?_
      refine oLoadB (e := (.int .i64 v9.Owner)) eZ rfl ?_
      refine oMov eZ ?_
      refine xNil ?_
      refine TQ.qn ?_
      refine AW.weaken (wk_mk [128] (SL.cons (k := 4) eZ rfl VWk.rfl SL.nil) (BL.drop rfl BL.nil) BK.nil) ?_
      refine AW.ret ?_
      obtain rfl := Option.some.inj H
      exact endsR (RL.cons (RV.tmp eZ) (VO.flat rfl) RL.nil) List.nodup_nil
  · refine AW.condT eZ (congrArg Bool.not (nt h5)) ?_
    refine AW.seq ?_
    refine AW.regs ?_
    refine oMov eC ?_
    refine xNil ?_
    refine TQ.qn ?_
    refine AW.ret ?_
    refine TQ.qr ?_
    obtain rfl := Option.some.inj H
    exact endsR (RL.cons (RV.tmp eZ) (VO.flat rfl) RL.nil) List.nodup_nil

theorem c_laws_eqPart {a1 : TPart} {a2 : TPart} {r : Bool} (H : m_laws_eqPart a1 a2 = some r) : Fn Try.prog k_laws_eqPart (lent [(.agg (d_TPart a1)), (.agg (d_TPart a2))]) true [(.bool r)] := by
  refine i_laws_eqPart_fn (Nat.le_of_ble_eq_true rfl) ?_
  rw [init_mk]
  refine AW.weaken (wk_mk [] (SL.cons (v := (.agg [(.d (.int .i64 a1.Lo)), (.d (.int .i64 a1.Hi)), (.d (.int .i64 a1.Owner))])) eZ rfl VWk.rfl (SL.cons (v := (.agg [(.d (.int .i64 a2.Lo)), (.d (.int .i64 a2.Hi)), (.d (.int .i64 a2.Owner))])) (eS rfl eZ) rfl VWk.rfl SL.nil)) BL.nil BK.nil) ?_
  unfold m_laws_eqPart at H
  unfold i_laws_eqPart
  refine AW.seq ?_
  refine AW.regs ?_
  refine oBox (n := 128) (m := 3) (cs := [(.d (.int .i64 a1.Lo)), (.d (.int .i64 a1.Hi)), (.d (.int .i64 a1.Owner))]) rfl eZ rfl rfl nZ ?_
  refine oBox (n := 192) (m := 3) (cs := [(.d (.int .i64 a2.Lo)), (.d (.int .i64 a2.Hi)), (.d (.int .i64 a2.Owner))]) rfl (eS rfl (eS rfl eZ)) rfl rfl (nS rfl nZ) ?_
  refine oMov eC ?_
  refine xNil ?_
  refine TQ.qn ?_
  refine AW.seq ?_
  refine AW.seq ?_
  refine AW.regs ?_
  refine oFaddrN (m := 0) (eS rfl (eS rfl eZ)) rfl ?_
  refine oLoadV (q := 0) (c := (.d (.int .i64 a1.Lo))) eZ (bS rfl bZ) rfl rfl ?_
  refine oFaddrN (m := 0) (eS rfl (eS rfl (eS rfl eZ))) rfl ?_
  refine oLoadV (q := 0) (c := (.d (.int .i64 a2.Lo))) eZ bZ rfl rfl ?_
  refine oNeq (eS rfl (eS rfl eZ)) eZ ?_
  refine xNil ?_
  refine TQ.qn ?_
  rcases oite H with ⟨h3, H⟩ | ⟨h3, H⟩
  · refine AW.condT eZ (decide_eq_true h3) ?_
    refine AW.seq ?_
    refine AW.regs ?_
    refine oMov eC ?_
    refine xNil ?_
    refine TQ.qn ?_
    refine AW.ret ?_
    refine TQ.qr ?_
    obtain rfl := Option.some.inj H
    exact endsR (RL.cons (RV.tmp eZ) (VO.flat rfl) RL.nil) List.nodup_nil
  · refine AW.condF eZ (decide_eq_false h3) ?_
    refine AW.skip ?_
    refine TQ.qn ?_
    refine AW.seq ?_
    refine AW.seq ?_
    refine AW.regs ?_
    refine oFaddrN (m := 1) (eS rfl (eS rfl (eS rfl (eS rfl (eS rfl (eS rfl (eS rfl eZ))))))) rfl ?_
    refine oLoadV (q := 1) (c := (.d (.int .i64 a1.Hi))) eZ (bS rfl bZ) rfl rfl ?_
    refine oFaddrN (m := 1) (eS rfl (eS rfl (eS rfl (eS rfl (eS rfl (eS rfl (eS rfl (eS rfl eZ)))))))) rfl ?_
    refine oLoadV (q := 1) (c := (.d (.int .i64 a2.Hi))) eZ bZ rfl rfl ?_
    refine oNeq (eS rfl (eS rfl eZ)) eZ ?_
    refine xNil ?_
    refine TQ.qn ?_
    rcases oite H with ⟨h4, H⟩ | ⟨h4, H⟩
    · refine AW.condT eZ (decide_eq_true h4) ?_
      refine AW.seq ?_
      refine AW.regs ?_
      refine oMov eC ?_
      refine xNil ?_
      refine TQ.qn ?_
      refine AW.weaken (wk_mk [192, 128] (SL.cons (k := 4) eZ rfl VWk.rfl SL.nil) (BL.drop rfl (BL.drop rfl BL.nil)) BK.nil) ?_
      refine AW.ret ?_
      refine TQ.qr ?_
      obtain rfl := Option.some.inj H
      exact endsR (RL.cons (RV.tmp eZ) (VO.flat rfl) RL.nil) List.nodup_nil
    · refine AW.condF eZ (decide_eq_false h4) ?_
      refine AW.skip ?_
      refine TQ.qn ?_
      refine AW.seq ?_
      refine AW.seq ?_
      refine AW.regs ?_
      refine oFaddrN (m := 2) (eS rfl (eS rfl (eS rfl (eS rfl (eS rfl (eS rfl (eS rfl (eS rfl (eS rfl (eS rfl (eS rfl (eS rfl eZ)))))))))))) rfl ?_
      refine oLoadV (q := 2) (c := (.d (.int .i64 a1.Owner))) eZ (bS rfl bZ) rfl rfl ?_
      refine oFaddrN (m := 2) (eS rfl (eS rfl (eS rfl (eS rfl (eS rfl (eS rfl (eS rfl (eS rfl (eS rfl (eS rfl (eS rfl (eS rfl (eS rfl eZ))))))))))))) rfl ?_
      refine oLoadV (q := 2) (c := (.d (.int .i64 a2.Owner))) eZ bZ rfl rfl ?_
      refine oNeq (eS rfl (eS rfl eZ)) eZ ?_
      refine xNil ?_
      refine TQ.qn ?_
      refine AW.weaken (wk_mk [192, 128] (SL.cons (k := 19) eZ rfl VWk.rfl SL.nil) (BL.drop rfl (BL.drop rfl BL.nil)) BK.nil) ?_
      rcases oite H with ⟨h5, H⟩ | ⟨h5, H⟩
      · refine AW.condT eZ (decide_eq_true h5) ?_
        refine AW.seq ?_
        refine AW.regs ?_
        refine oMov eC ?_
        refine xNil ?_
        refine TQ.qn ?_
        refine AW.ret ?_
        refine TQ.qr ?_
        obtain rfl := Option.some.inj H
        exact endsR (RL.cons (RV.tmp eZ) (VO.flat rfl) RL.nil) List.nodup_nil
      · refine AW.condF eZ (decide_eq_false h5) ?_
        refine AW.skip ?_
        refine TQ.qn ?_
        refine AW.seq ?_
        refine AW.regs ?_
        refine oMov eC ?_
        refine xNil ?_
        refine TQ.qn ?_
        refine AW.ret ?_
        obtain rfl := Option.some.inj H
        exact endsR (RL.cons (RV.tmp eZ) (VO.flat rfl) RL.nil) List.nodup_nil

theorem c_laws_eqPartS {a1 : (List TPart)} {a2 : (List TPart)} {r : Bool} (H : m_laws_eqPartS a1 a2 = some r) : Fn Try.prog k_laws_eqPartS (lent [(.sl 3 (List.map d_TPart a1)), (.sl 3 (List.map d_TPart a2))]) true [(.bool r)] := by
  refine i_laws_eqPartS_fn (Nat.le_of_ble_eq_true rfl) ?_
  rw [init_mk]
  refine AW.weaken (wk_mk [] (SL.cons (v := (.one (.d (.sl 3 (List.map d_TPart a1))))) eZ rfl VWk.rfl (SL.cons (v := (.one (.d (.sl 3 (List.map d_TPart a2))))) (eS rfl eZ) rfl VWk.rfl SL.nil)) BL.nil BK.nil) ?_
  unfold m_laws_eqPartS at H
  unfold i_laws_eqPartS
  refine AW.seq ?_
  refine AW.regs ?_
  refine oMov eC ?_
  refine xNil ?_
  refine TQ.qn ?_
  refine AW.seq ?_
  refine AW.seq ?_
  refine AW.regs ?_
  refine oMov (eS rfl eZ) ?_
  refine oLenD eZ (n := a1.length) (List.length_map _) ?_
  refine oMov (eS rfl (eS rfl (eS rfl (eS rfl eZ)))) ?_
  refine oLenD eZ (n := a2.length) (List.length_map _) ?_
  refine oNeq (eS rfl (eS rfl eZ)) eZ ?_
  refine xNil ?_
  refine TQ.qn ?_
  rcases oite H with ⟨h3, H⟩ | ⟨h3, H⟩
  · refine AW.condT eZ (decide_eq_true h3) ?_
    refine AW.seq ?_
    refine AW.regs ?_
    refine oMov eC ?_
    refine xNil ?_
    refine TQ.qn ?_
    refine AW.ret ?_
    refine TQ.qr ?_
    obtain rfl := Option.some.inj H
    exact endsR (RL.cons (RV.tmp eZ) (VO.flat rfl) RL.nil) List.nodup_nil
  · refine AW.condF eZ (decide_eq_false h3) ?_
    refine AW.skip ?_
    refine TQ.qn ?_
    refine AW.seqJ (fun t4 : Unit => laws_eqPartS_j4 t4 = some r) (fun t4 => mk [] [] noG) ?_ ?_
    · intro t4 H
      unfold laws_eqPartS_j4 at H
      refine AW.seq ?_
      refine AW.regs ?_
      refine oMov eC ?_
      refine xNil ?_
      refine TQ.qn ?_
      refine AW.ret ?_
      obtain rfl := Option.some.inj H
      exact endsR (RL.cons (RV.tmp eZ) (VO.flat rfl) RL.nil) List.nodup_nil
    · refine AW.seq ?_
      refine AW.regs ?_
      refine oMov eC ?_
      refine xNil ?_
      refine TQ.qn ?_
      refine AW.block ?_
      refine AW.iter (fun s6 : Int => mk [(0, (.one (.d (.sl 3 (List.map d_TPart a1))))), (1, (.one (.d (.sl 3 (List.map d_TPart a2))))), (5, (.one (.d (.int .i64 s6))))] [] noG) H (wk_mk [] (SL.cons (eS rfl (eS rfl (eS rfl (eS rfl (eS rfl (eS rfl (eS rfl eZ))))))) rfl VWk.rfl (SL.cons (eS rfl (eS rfl (eS rfl (eS rfl (eS rfl (eS rfl (eS rfl (eS rfl eZ)))))))) rfl VWk.rfl (SL.cons eZ rfl VWk.rfl SL.nil))) BL.nil BK.nil) ?_
      intro kb7 s6 H
      unfold laws_eqPartS_b6 at H
      refine AW.seq ?_
      refine AW.seq ?_
      refine AW.regs ?_
      refine oMov (eS rfl (eS rfl eZ)) ?_
      refine oMov (eS rfl eZ) ?_
      refine oLenD eZ (n := a1.length) (List.length_map _) ?_
      refine oLss (eS rfl (eS rfl eZ)) eZ ?_
      refine xNil ?_
      refine TQ.qn ?_
      rcases oite H with ⟨h8, H⟩ | ⟨h8, H⟩
      · refine AW.condT eZ (decide_eq_true h8) ?_
        refine AW.skip ?_
        refine TQ.qn ?_
        refine AW.seq ?_
        refine AW.block ?_
        refine AW.seq ?_
        refine AW.regd ?_
        refine oMov (eS rfl (eS rfl (eS rfl (eS rfl eZ)))) ?_
        refine oMov (eS rfl (eS rfl (eS rfl (eS rfl (eS rfl (eS rfl (eS rfl eZ))))))) ?_
        obtain ⟨v9, h10, H⟩ := obind H
        refine oAtD (eS rfl eZ) eZ h10 ?_
        refine oLoadBA (es := [(.d (.int .i64 v9.Lo)), (.d (.int .i64 v9.Hi)), (.d (.int .i64 v9.Owner))]) eZ rfl ?_
        refine oMov (eS rfl (eS rfl (eS rfl (eS rfl (eS rfl (eS rfl (eS rfl (eS rfl (eS rfl eZ))))))))) ?_
        refine oMov (eS rfl (eS rfl (eS rfl (eS rfl (eS rfl (eS rfl (eS rfl (eS rfl (eS rfl (eS rfl (eS rfl eZ))))))))))) ?_
        obtain ⟨v11, h12, H⟩ := obind H
        refine oAtD (eS rfl eZ) eZ h12 ?_
        refine oLoadBA (es := [(.d (.int .i64 v11.Lo)), (.d (.int .i64 v11.Hi)), (.d (.int .i64 v11.Owner))]) eZ rfl ?_
        obtain ⟨v13, h14, H⟩ := obind H
        refine oCall (u := (.one (.d (.bool v13)))) eC Cl.fn (c_laws_eqPart h14) (Evs.cons (eS rfl (eS rfl (eS rfl (eS rfl eZ)))) (Evs.cons eZ Evs.nil)) (VDs.cons (VD.agg rfl) (VDs.cons (VD.agg rfl) VDs.nil)) rfl ?_
        refine oInv eZ ?_
        refine xNil ?_
        refine TQ.qn ?_
        refine AW.weaken (wk_mk [] (SL.cons (k := 26) eZ rfl VWk.rfl (SL.cons (k := 0) (eS rfl (eS rfl (eS rfl (eS rfl (eS rfl (eS rfl (eS rfl (eS rfl (eS rfl (eS rfl (eS rfl (eS rfl (eS rfl (eS rfl eZ)))))))))))))) rfl VWk.rfl (SL.cons (k := 1) (eS rfl (eS rfl (eS rfl (eS rfl (eS rfl (eS rfl (eS rfl (eS rfl (eS rfl (eS rfl (eS rfl (eS rfl (eS rfl (eS rfl (eS rfl eZ))))))))))))))) rfl VWk.rfl (SL.cons (k := 5) (eS rfl (eS rfl (eS rfl (eS rfl (eS rfl (eS rfl (eS rfl (eS rfl (eS rfl (eS rfl (eS rfl (eS rfl (eS rfl (eS rfl (eS rfl (eS rfl eZ)))))))))))))))) rfl VWk.rfl SL.nil)))) BL.nil BK.nil) ?_
        rcases oite H with ⟨h15, H⟩ | ⟨h15, H⟩
        · refine AW.condF eZ (congrArg Bool.not h15) ?_
          refine AW.skip ?_
          refine BQ.qn ?_
          refine TQ.qn ?_
          refine AW.regs ?_
          refine oMov (eS rfl (eS rfl (eS rfl eZ))) ?_
          refine oAdd eZ eC ?_
          refine oMov eZ ?_
          refine xNil ?_
          exact TQ.qn ⟨(IntKind.wrap .i64 (s6 + 1)), H, (wk_mk [] (SL.cons (eS rfl (eS rfl (eS rfl (eS rfl eZ)))) rfl VWk.rfl (SL.cons (eS rfl (eS rfl (eS rfl (eS rfl (eS rfl eZ))))) rfl VWk.rfl (SL.cons eZ rfl VWk.rfl SL.nil))) BL.nil BK.nil)⟩
        · refine AW.condT eZ (congrArg Bool.not (nt h15)) ?_
          refine AW.seq ?_
          refine AW.regs ?_
          refine oMov eC ?_
          refine xNil ?_
          refine TQ.qn ?_
          refine AW.ret ?_
          refine BQ.qr ?_
          refine TQ.qr ?_
          refine TQ.qr ?_
          refine BQ.qr ?_
          refine TQ.qr ?_
          obtain rfl := Option.some.inj H
          exact endsR (RL.cons (RV.tmp eZ) (VO.flat rfl) RL.nil) List.nodup_nil
      · refine AW.condF eZ (decide_eq_false h8) ?_
        refine AW.exit ?_
        refine TQ.qe ?_
        refine TQ.qe ?_
        refine BQ.qe ?_
        exact TQ.qn ⟨(), H, (wk_mk [] SL.nil BL.nil BK.nil)⟩

theorem c_laws_eqCell {a1 : TCell} {a2 : TCell} {r : Bool} (H : m_laws_eqCell a1 a2 = some r) : Fn Try.prog k_laws_eqCell (lent [(.agg (d_TCell a1)), (.agg (d_TCell a2))]) true [(.bool r)] := by
  refine i_laws_eqCell_fn (Nat.le_of_ble_eq_true rfl) ?_
  rw [init_mk]
  refine AW.weaken (wk_mk [] (SL.cons (v := (.agg [(.d (.int .i64 a1.Key)), (.d (.int .i64 a1.Value))])) eZ rfl VWk.rfl (SL.cons (v := (.agg [(.d (.int .i64 a2.Key)), (.d (.int .i64 a2.Value))])) (eS rfl eZ) rfl VWk.rfl SL.nil)) BL.nil BK.nil) ?_
  unfold m_laws_eqCell at H
  unfold i_laws_eqCell
  refine AW.seq ?_
  refine AW.regs ?_
  refine oBox (n := 128) (m := 2) (cs := [(.d (.int .i64 a1.Key)), (.d (.int .i64 a1.Value))]) rfl eZ rfl rfl nZ ?_
  refine oBox (n := 192) (m := 2) (cs := [(.d (.int .i64 a2.Key)), (.d (.int .i64 a2.Value))]) rfl (eS rfl (eS rfl eZ)) rfl rfl (nS rfl nZ) ?_
  refine oMov eC ?_
  refine xNil ?_
  refine TQ.qn ?_
  refine AW.seq ?_
  refine AW.seq ?_
  refine AW.regs ?_
  refine oFaddrN (m := 0) (eS rfl (eS rfl eZ)) rfl ?_
  refine oLoadV (q := 0) (c := (.d (.int .i64 a1.Key))) eZ (bS rfl bZ) rfl rfl ?_
  refine oFaddrN (m := 0) (eS rfl (eS rfl (eS rfl eZ))) rfl ?_
  refine oLoadV (q := 0) (c := (.d (.int .i64 a2.Key))) eZ bZ rfl rfl ?_
  refine oNeq (eS rfl (eS rfl eZ)) eZ ?_
  refine xNil ?_
  refine TQ.qn ?_
  rcases oite H with ⟨h3, H⟩ | ⟨h3, H⟩
  · refine AW.condT eZ (decide_eq_true h3) ?_
    refine AW.seq ?_
    refine AW.regs ?_
    refine oMov eC ?_
    refine xNil ?_
    refine TQ.qn ?_
    refine AW.ret ?_
    refine TQ.qr ?_
    obtain rfl := Option.some.inj H
    exact endsR (RL.cons (RV.tmp eZ) (VO.flat rfl) RL.nil) List.nodup_nil
  · refine AW.condF eZ (decide_eq_false h3) ?_
    refine AW.skip ?_
    refine TQ.qn ?_
    refine AW.seq ?_
    refine AW.seq ?_
    refine AW.regs ?_
    refine oFaddrN (m := 1) (eS rfl (eS rfl (eS rfl (eS rfl (eS rfl (eS rfl (eS rfl eZ))))))) rfl ?_
    refine oLoadV (q := 1) (c := (.d (.int .i64 a1.Value))) eZ (bS rfl bZ) rfl rfl ?_
    refine oFaddrN (m := 1) (eS rfl (eS rfl (eS rfl (eS rfl (eS rfl (eS rfl (eS rfl (eS rfl eZ)))))))) rfl ?_
    refine oLoadV (q := 1) (c := (.d (.int .i64 a2.Value))) eZ bZ rfl rfl ?_
    refine oNeq (eS rfl (eS rfl eZ)) eZ ?_
    refine xNil ?_
    refine TQ.qn ?_
    rcases oite H with ⟨h4, H⟩ | ⟨h4, H⟩
    · refine AW.condT eZ (decide_eq_true h4) ?_
      refine AW.seq ?_
      refine AW.regs ?_
      refine oMov eC ?_
      refine xNil ?_
      refine TQ.qn ?_
      refine AW.weaken (wk_mk [192, 128] (SL.cons (k := 4) eZ rfl VWk.rfl SL.nil) (BL.drop rfl (BL.drop rfl BL.nil)) BK.nil) ?_
      refine AW.ret ?_
      refine TQ.qr ?_
      obtain rfl := Option.some.inj H
      exact endsR (RL.cons (RV.tmp eZ) (VO.flat rfl) RL.nil) List.nodup_nil
    · refine AW.condF eZ (decide_eq_false h4) ?_
      refine AW.skip ?_
      refine TQ.qn ?_
      refine AW.seq ?_
      refine AW.regs ?_
      refine oMov eC ?_
      refine xNil ?_
      refine TQ.qn ?_
      refine AW.weaken (wk_mk [192, 128] (SL.cons (k := 4) eZ rfl VWk.rfl SL.nil) (BL.drop rfl (BL.drop rfl BL.nil)) BK.nil) ?_
      refine AW.ret ?_
      obtain rfl := Option.some.inj H
      exact endsR (RL.cons (RV.tmp eZ) (VO.flat rfl) RL.nil) List.nodup_nil

theorem c_laws_eqCellS {a1 : (List TCell)} {a2 : (List TCell)} {r : Bool} (H : m_laws_eqCellS a1 a2 = some r) : Fn Try.prog k_laws_eqCellS (lent [(.sl 2 (List.map d_TCell a1)), (.sl 2 (List.map d_TCell a2))]) true [(.bool r)] := by
  refine i_laws_eqCellS_fn (Nat.le_of_ble_eq_true rfl) ?_
  rw [init_mk]
  refine AW.weaken (wk_mk [] (SL.cons (v := (.one (.d (.sl 2 (List.map d_TCell a1))))) eZ rfl VWk.rfl (SL.cons (v := (.one (.d (.sl 2 (List.map d_TCell a2))))) (eS rfl eZ) rfl VWk.rfl SL.nil)) BL.nil BK.nil) ?_
  unfold m_laws_eqCellS at H
  unfold i_laws_eqCellS
  refine AW.seq ?_
  refine AW.regs ?_
  refine oMov eC ?_
  refine xNil ?_
  refine TQ.qn ?_
  refine AW.seq ?_
  refine AW.seq ?_
  refine AW.regs ?_
  refine oMov (eS rfl eZ) ?_
  refine oLenD eZ (n := a1.length) (List.length_map _) ?_
  refine oMov (eS rfl (eS rfl (eS rfl (eS rfl eZ)))) ?_
  refine oLenD eZ (n := a2.length) (List.length_map _) ?_
  refine oNeq (eS rfl (eS rfl eZ)) eZ ?_
  refine xNil ?_
  refine TQ.qn ?_
  rcases oite H with ⟨h3, H⟩ | ⟨h3, H⟩
  · refine AW.condT eZ (decide_eq_true h3) ?_
    refine AW.seq ?_
    refine AW.regs ?_
    refine oMov eC ?_
    refine xNil ?_
    refine TQ.qn ?_
    refine AW.ret ?_
    refine TQ.qr ?_
    obtain rfl := Option.some.inj H
    exact endsR (RL.cons (RV.tmp eZ) (VO.flat rfl) RL.nil) List.nodup_nil
  · refine AW.condF eZ (decide_eq_false h3) ?_
    refine AW.skip ?_
    refine TQ.qn ?_
    refine AW.seqJ (fun t4 : Unit => laws_eqCellS_j4 t4 = some r) (fun t4 => mk [] [] noG) ?_ ?_
    · intro t4 H
      unfold laws_eqCellS_j4 at H
      refine AW.seq ?_
      refine AW.regs ?_
      refine oMov eC ?_
      refine xNil ?_
      refine TQ.qn ?_
      refine AW.ret ?_
      obtain rfl := Option.some.inj H
      exact endsR (RL.cons (RV.tmp eZ) (VO.flat rfl) RL.nil) List.nodup_nil
    · refine AW.seq ?_
      refine AW.regs ?_
      refine oMov eC ?_
      refine xNil ?_
      refine TQ.qn ?_
      refine AW.block ?_
      refine AW.iter (fun s6 : Int => mk [(0, (.one (.d (.sl 2 (List.map d_TCell a1))))), (1, (.one (.d (.sl 2 (List.map d_TCell a2))))), (5, (.one (.d (.int .i64 s6))))] [] noG) H (wk_mk [] (SL.cons (eS rfl (eS rfl (eS rfl (eS rfl (eS rfl (eS rfl (eS rfl eZ))))))) rfl VWk.rfl (SL.cons (eS rfl (eS rfl (eS rfl (eS rfl (eS rfl (eS rfl (eS rfl (eS rfl eZ)))))))) rfl VWk.rfl (SL.cons eZ rfl VWk.rfl SL.nil))) BL.nil BK.nil) ?_
      intro kb7 s6 H
      unfold laws_eqCellS_b6 at H
      refine AW.seq ?_
      refine AW.seq ?_
      refine AW.regs ?_
      refine oMov (eS rfl (eS rfl eZ)) ?_
      refine oMov (eS rfl eZ) ?_
      refine oLenD eZ (n := a1.length) (List.length_map _) ?_
      refine oLss (eS rfl (eS rfl eZ)) eZ ?_
      refine xNil ?_
      refine TQ.qn ?_
      rcases oite H with ⟨h8, H⟩ | ⟨h8, H⟩
      · refine AW.condT eZ (decide_eq_true h8) ?_
        refine AW.skip ?_
        refine TQ.qn ?_
        refine AW.seq ?_
        refine AW.block ?_
        refine AW.seq ?_
        refine AW.regd ?_
        refine oMov (eS rfl (eS rfl (eS rfl (eS rfl eZ)))) ?_
        refine oMov (eS rfl (eS rfl (eS rfl (eS rfl (eS rfl (eS rfl (eS rfl eZ))))))) ?_
        obtain ⟨v9, h10, H⟩ := obind H
        refine oAtD (eS rfl eZ) eZ h10 ?_
        refine oLoadBA (es := [(.d (.int .i64 v9.Key)), (.d (.int .i64 v9.Value))]) eZ rfl ?_
        refine oMov (eS rfl (eS rfl (eS rfl (eS rfl (eS rfl (eS rfl (eS rfl (eS rfl (eS rfl eZ))))))))) ?_
        refine oMov (eS rfl (eS rfl (eS rfl (eS rfl (eS rfl (eS rfl (eS rfl (eS rfl (eS rfl (eS rfl (eS rfl eZ))))))))))) ?_
        obtain ⟨v11, h12, H⟩ := obind H
        refine oAtD (eS rfl eZ) eZ h12 ?_
        refine oLoadBA (es := [(.d (.int .i64 v11.Key)), (.d (.int .i64 v11.Value))]) eZ rfl ?_
        obtain ⟨v13, h14, H⟩ := obind H
        refine oCall (u := (.one (.d (.bool v13)))) eC Cl.fn (c_laws_eqCell h14) (Evs.cons (eS rfl (eS rfl (eS rfl (eS rfl eZ)))) (Evs.cons eZ Evs.nil)) (VDs.cons (VD.agg rfl) (VDs.cons (VD.agg rfl) VDs.nil)) rfl ?_
        refine oInv eZ ?_
        refine xNil ?_
        refine TQ.qn ?_
        refine AW.weaken (wk_mk [] (SL.cons (k := 26) eZ rfl VWk.rfl (SL.cons (k := 0) (eS rfl (eS rfl (eS rfl (eS rfl (eS rfl (eS rfl (eS rfl (eS rfl (eS rfl (eS rfl (eS rfl (eS rfl (eS rfl (eS rfl eZ)))))))))))))) rfl VWk.rfl (SL.cons (k := 1) (eS rfl (eS rfl (eS rfl (eS rfl (eS rfl (eS rfl (eS rfl (eS rfl (eS rfl (eS rfl (eS rfl (eS rfl (eS rfl (eS rfl (eS rfl eZ))))))))))))))) rfl VWk.rfl (SL.cons (k := 5) (eS rfl (eS rfl (eS rfl (eS rfl (eS rfl (eS rfl (eS rfl (eS rfl (eS rfl (eS rfl (eS rfl (eS rfl (eS rfl (eS rfl (eS rfl (eS rfl eZ)))))))))))))))) rfl VWk.rfl SL.nil)))) BL.nil BK.nil) ?_
        rcases oite H with ⟨h15, H⟩ | ⟨h15, H⟩
        · refine AW.condF eZ (congrArg Bool.not h15) ?_
          refine AW.skip ?_
          refine BQ.qn ?_
          refine TQ.qn ?_
          refine AW.regs ?_
          refine oMov (eS rfl (eS rfl (eS rfl eZ))) ?_
          refine oAdd eZ eC ?_
          refine oMov eZ ?_
          refine xNil ?_
          exact TQ.qn ⟨(IntKind.wrap .i64 (s6 + 1)), H, (wk_mk [] (SL.cons (eS rfl (eS rfl (eS rfl (eS rfl eZ)))) rfl VWk.rfl (SL.cons (eS rfl (eS rfl (eS rfl (eS rfl (eS rfl eZ))))) rfl VWk.rfl (SL.cons eZ rfl VWk.rfl SL.nil))) BL.nil BK.nil)⟩
        · refine AW.condT eZ (congrArg Bool.not (nt h15)) ?_
          refine AW.seq ?_
          refine AW.regs ?_
          refine oMov eC ?_
          refine xNil ?_
          refine TQ.qn ?_
          refine AW.ret ?_
          refine BQ.qr ?_
          refine TQ.qr ?_
          refine TQ.qr ?_
          refine BQ.qr ?_
          refine TQ.qr ?_
          obtain rfl := Option.some.inj H
          exact endsR (RL.cons (RV.tmp eZ) (VO.flat rfl) RL.nil) List.nodup_nil
      · refine AW.condF eZ (decide_eq_false h8) ?_
        refine AW.exit ?_
        refine TQ.qe ?_
        refine TQ.qe ?_
        refine BQ.qe ?_
        exact TQ.qn ⟨(), H, (wk_mk [] SL.nil BL.nil BK.nil)⟩

theorem c_laws_eqMove {a1 : TMove} {a2 : TMove} {r : Bool} (H : m_laws_eqMove a1 a2 = some r) : Fn Try.prog k_laws_eqMove (lent [(.agg (d_TMove a1)), (.agg (d_TMove a2))]) true [(.bool r)] := by
  refine i_laws_eqMove_fn (Nat.le_of_ble_eq_true rfl) ?_
  rw [init_mk]
  refine AW.weaken (wk_mk [] (SL.cons (v := (.agg [(.d (.int .i64 a1.No)), (.d (.int .i64 a1.Stage)), (.d (.int .i64 a1.Lo)), (.d (.int .i64 a1.Hi)), (.d (.int .i64 a1.From)), (.d (.int .i64 a1.To)), (.d (.sl 2 (List.map d_TCell a1.Cells)))])) eZ rfl VWk.rfl (SL.cons (v := (.agg [(.d (.int .i64 a2.No)), (.d (.int .i64 a2.Stage)), (.d (.int .i64 a2.Lo)), (.d (.int .i64 a2.Hi)), (.d (.int .i64 a2.From)), (.d (.int .i64 a2.To)), (.d (.sl 2 (List.map d_TCell a2.Cells)))])) (eS rfl eZ) rfl VWk.rfl SL.nil)) BL.nil BK.nil) ?_
  unfold m_laws_eqMove at H
  unfold i_laws_eqMove
  refine AW.seq ?_
  refine AW.regs ?_
  refine oBox (n := 128) (m := 7) (cs := [(.d (.int .i64 a1.No)), (.d (.int .i64 a1.Stage)), (.d (.int .i64 a1.Lo)), (.d (.int .i64 a1.Hi)), (.d (.int .i64 a1.From)), (.d (.int .i64 a1.To)), (.d (.sl 2 (List.map d_TCell a1.Cells)))]) rfl eZ rfl rfl nZ ?_
  refine oBox (n := 192) (m := 7) (cs := [(.d (.int .i64 a2.No)), (.d (.int .i64 a2.Stage)), (.d (.int .i64 a2.Lo)), (.d (.int .i64 a2.Hi)), (.d (.int .i64 a2.From)), (.d (.int .i64 a2.To)), (.d (.sl 2 (List.map d_TCell a2.Cells)))]) rfl (eS rfl (eS rfl eZ)) rfl rfl (nS rfl nZ) ?_
  refine oMov eC ?_
  refine xNil ?_
  refine TQ.qn ?_
  refine AW.seq ?_
  refine AW.seq ?_
  refine AW.regs ?_
  refine oFaddrN (m := 0) (eS rfl (eS rfl eZ)) rfl ?_
  refine oLoadV (q := 0) (c := (.d (.int .i64 a1.No))) eZ (bS rfl bZ) rfl rfl ?_
  refine oFaddrN (m := 0) (eS rfl (eS rfl (eS rfl eZ))) rfl ?_
  refine oLoadV (q := 0) (c := (.d (.int .i64 a2.No))) eZ bZ rfl rfl ?_
  refine oNeq (eS rfl (eS rfl eZ)) eZ ?_
  refine xNil ?_
  refine TQ.qn ?_
  rcases oite H with ⟨h3, H⟩ | ⟨h3, H⟩
  · refine AW.condT eZ (decide_eq_true h3) ?_
    refine AW.seq ?_
    refine AW.regs ?_
    refine oMov eC ?_
    refine xNil ?_
    refine TQ.qn ?_
    refine AW.ret ?_
    refine TQ.qr ?_
    obtain rfl := Option.some.inj H
    exact endsR (RL.cons (RV.tmp eZ) (VO.flat rfl) RL.nil) List.nodup_nil
  · refine AW.condF eZ (decide_eq_false h3) ?_
    refine AW.skip ?_
    refine TQ.qn ?_
    refine AW.seq ?_
    refine AW.seq ?_
    refine AW.regs ?_
    refine oFaddrN (m := 1) (eS rfl (eS rfl (eS rfl (eS rfl (eS rfl (eS rfl (eS rfl eZ))))))) rfl ?_
    refine oLoadV (q := 1) (c := (.d (.int .i64 a1.Stage))) eZ (bS rfl bZ) rfl rfl ?_
    refine oFaddrN (m := 1) (eS rfl (eS rfl (eS rfl (eS rfl (eS rfl (eS rfl (eS rfl (eS rfl eZ)))))))) rfl ?_
    refine oLoadV (q := 1) (c := (.d (.int .i64 a2.Stage))) eZ bZ rfl rfl ?_
    refine oNeq (eS rfl (eS rfl eZ)) eZ ?_
    refine xNil ?_
    refine TQ.qn ?_
    rcases oite H with ⟨h4, H⟩ | ⟨h4, H⟩
    · refine AW.condT eZ (decide_eq_true h4) ?_
      refine AW.seq ?_
      refine AW.regs ?_
      refine oMov eC ?_
      refine xNil ?_
      refine TQ.qn ?_
      refine AW.weaken (wk_mk [192, 128] (SL.cons (k := 4) eZ rfl VWk.rfl SL.nil) (BL.drop rfl (BL.drop rfl BL.nil)) BK.nil) ?_
      refine AW.ret ?_
      refine TQ.qr ?_
      obtain rfl := Option.some.inj H
      exact endsR (RL.cons (RV.tmp eZ) (VO.flat rfl) RL.nil) List.nodup_nil
    · refine AW.condF eZ (decide_eq_false h4) ?_
      refine AW.skip ?_
      refine TQ.qn ?_
      refine AW.seq ?_
      refine AW.seq ?_
      refine AW.regs ?_
      refine oFaddrN (m := 2) (eS rfl (eS rfl (eS rfl (eS rfl (eS rfl (eS rfl (eS rfl (eS rfl (eS rfl (eS rfl (eS rfl (eS rfl eZ)))))))))))) rfl ?_
      refine oLoadV (q := 2) (c := (.d (.int .i64 a1.Lo))) eZ (bS rfl bZ) rfl rfl ?_
      refine oFaddrN (m := 2) (eS rfl (eS rfl (eS rfl (eS rfl (eS rfl (eS rfl (eS rfl (eS rfl (eS rfl (eS rfl (eS rfl (eS rfl (eS rfl eZ))))))))))))) rfl ?_
      refine oLoadV (q := 2) (c := (.d (.int .i64 a2.Lo))) eZ bZ rfl rfl ?_
      refine oNeq (eS rfl (eS rfl eZ)) eZ ?_
      refine xNil ?_
      refine TQ.qn ?_
      refine AW.weaken (wk_mk [] (SL.cons (k := 19) eZ rfl VWk.rfl (SL.cons (k := 3) (eS rfl (eS rfl (eS rfl (eS rfl (eS rfl (eS rfl (eS rfl (eS rfl (eS rfl (eS rfl (eS rfl (eS rfl (eS rfl (eS rfl (eS rfl (eS rfl eZ)))))))))))))))) rfl VWk.rfl (SL.cons (k := 2) (eS rfl (eS rfl (eS rfl (eS rfl (eS rfl (eS rfl (eS rfl (eS rfl (eS rfl (eS rfl (eS rfl (eS rfl (eS rfl (eS rfl (eS rfl (eS rfl (eS rfl eZ))))))))))))))))) rfl VWk.rfl SL.nil))) (BL.keep rfl (BL.keep rfl BL.nil)) (BK.cons (n := 192) rfl bZ rfl rfl (BK.cons (n := 128) rfl (bS rfl bZ) rfl rfl BK.nil))) ?_
      rcases oite H with ⟨h5, H⟩ | ⟨h5, H⟩
      · refine AW.condT eZ (decide_eq_true h5) ?_
        refine AW.seq ?_
        refine AW.regs ?_
        refine oMov eC ?_
        refine xNil ?_
        refine TQ.qn ?_
        refine AW.ret ?_
        refine TQ.qr ?_
        obtain rfl := Option.some.inj H
        exact endsR (RL.cons (RV.tmp eZ) (VO.flat rfl) RL.nil) List.nodup_nil
      · refine AW.condF eZ (decide_eq_false h5) ?_
        refine AW.skip ?_
        refine TQ.qn ?_
        refine AW.seq ?_
        refine AW.seq ?_
        refine AW.regs ?_
        refine oFaddrN (m := 3) (eS rfl (eS rfl eZ)) rfl ?_
        refine oLoadV (q := 3) (c := (.d (.int .i64 a1.Hi))) eZ (bS rfl bZ) rfl rfl ?_
        refine oFaddrN (m := 3) (eS rfl (eS rfl (eS rfl eZ))) rfl ?_
        refine oLoadV (q := 3) (c := (.d (.int .i64 a2.Hi))) eZ bZ rfl rfl ?_
        refine oNeq (eS rfl (eS rfl eZ)) eZ ?_
        refine xNil ?_
        refine TQ.qn ?_
        rcases oite H with ⟨h6, H⟩ | ⟨h6, H⟩
        · refine AW.condT eZ (decide_eq_true h6) ?_
          refine AW.seq ?_
          refine AW.regs ?_
          refine oMov eC ?_
          refine xNil ?_
          refine TQ.qn ?_
          refine AW.ret ?_
          refine TQ.qr ?_
          obtain rfl := Option.some.inj H
          exact endsR (RL.cons (RV.tmp eZ) (VO.flat rfl) RL.nil) List.nodup_nil
        · refine AW.condF eZ (decide_eq_false h6) ?_
          refine AW.skip ?_
          refine TQ.qn ?_
          refine AW.seq ?_
          refine AW.seq ?_
          refine AW.regs ?_
          refine oFaddrN (m := 4) (eS rfl (eS rfl (eS rfl (eS rfl (eS rfl (eS rfl (eS rfl eZ))))))) rfl ?_
          refine oLoadV (q := 4) (c := (.d (.int .i64 a1.From))) eZ (bS rfl bZ) rfl rfl ?_
          refine oFaddrN (m := 4) (eS rfl (eS rfl (eS rfl (eS rfl (eS rfl (eS rfl (eS rfl (eS rfl eZ)))))))) rfl ?_
          refine oLoadV (q := 4) (c := (.d (.int .i64 a2.From))) eZ bZ rfl rfl ?_
          refine oNeq (eS rfl (eS rfl eZ)) eZ ?_
          refine xNil ?_
          refine TQ.qn ?_
          rcases oite H with ⟨h7, H⟩ | ⟨h7, H⟩
          · refine AW.condT eZ (decide_eq_true h7) ?_
            refine AW.seq ?_
            refine AW.regs ?_
            refine oMov eC ?_
            refine xNil ?_
            refine TQ.qn ?_
            refine AW.ret ?_
            refine TQ.qr ?_
            obtain rfl := Option.some.inj H
            exact endsR (RL.cons (RV.tmp eZ) (VO.flat rfl) RL.nil) List.nodup_nil
          · refine AW.condF eZ (decide_eq_false h7) ?_
            refine AW.skip ?_
            refine TQ.qn ?_
            refine AW.seq ?_
            refine AW.seq ?_
            refine AW.regs ?_
            refine oFaddrN (m := 5) (eS rfl (eS rfl (eS rfl (eS rfl (eS rfl (eS rfl (eS rfl (eS rfl (eS rfl (eS rfl (eS rfl (eS rfl eZ)))))))))))) rfl ?_
            refine oLoadV (q := 5) (c := (.d (.int .i64 a1.To))) eZ (bS rfl bZ) rfl rfl ?_
            refine oFaddrN (m := 5) (eS rfl (eS rfl (eS rfl (eS rfl (eS rfl (eS rfl (eS rfl (eS rfl (eS rfl (eS rfl (eS rfl (eS rfl (eS rfl eZ))))))))))))) rfl ?_
            refine oLoadV (q := 5) (c := (.d (.int .i64 a2.To))) eZ bZ rfl rfl ?_
            refine oNeq (eS rfl (eS rfl eZ)) eZ ?_
            refine xNil ?_
            refine TQ.qn ?_
            refine AW.weaken (wk_mk [] (SL.cons (k := 34) eZ rfl VWk.rfl (SL.cons (k := 3) (eS rfl (eS rfl (eS rfl (eS rfl (eS rfl (eS rfl (eS rfl (eS rfl (eS rfl (eS rfl (eS rfl (eS rfl (eS rfl (eS rfl (eS rfl (eS rfl eZ)))))))))))))))) rfl VWk.rfl (SL.cons (k := 2) (eS rfl (eS rfl (eS rfl (eS rfl (eS rfl (eS rfl (eS rfl (eS rfl (eS rfl (eS rfl (eS rfl (eS rfl (eS rfl (eS rfl (eS rfl (eS rfl (eS rfl eZ))))))))))))))))) rfl VWk.rfl SL.nil))) (BL.keep rfl (BL.keep rfl BL.nil)) (BK.cons (n := 192) rfl bZ rfl rfl (BK.cons (n := 128) rfl (bS rfl bZ) rfl rfl BK.nil))) ?_
            rcases oite H with ⟨h8, H⟩ | ⟨h8, H⟩
            · refine AW.condT eZ (decide_eq_true h8) ?_
              refine AW.seq ?_
              refine AW.regs ?_
              refine oMov eC ?_
              refine xNil ?_
              refine TQ.qn ?_
              refine AW.ret ?_
              refine TQ.qr ?_
              obtain rfl := Option.some.inj H
              exact endsR (RL.cons (RV.tmp eZ) (VO.flat rfl) RL.nil) List.nodup_nil
            · refine AW.condF eZ (decide_eq_false h8) ?_
              refine AW.skip ?_
              refine TQ.qn ?_
              refine AW.seq ?_
              refine AW.seq ?_
              refine AW.regs ?_
              refine oFaddrN (m := 6) (eS rfl (eS rfl eZ)) rfl ?_
              refine oLoadV (q := 6) (c := (.d (.sl 2 (List.map d_TCell a1.Cells)))) eZ (bS rfl bZ) rfl rfl ?_
              refine oFaddrN (m := 6) (eS rfl (eS rfl (eS rfl eZ))) rfl ?_
              refine oLoadV (q := 6) (c := (.d (.sl 2 (List.map d_TCell a2.Cells)))) eZ bZ rfl rfl ?_
              obtain ⟨v9, h10, H⟩ := obind H
              refine oCall (u := (.one (.d (.bool v9)))) eC Cl.fn (c_laws_eqCellS h10) (Evs.cons (eS rfl (eS rfl eZ)) (Evs.cons eZ Evs.nil)) (VDs.cons VD.plain (VDs.cons VD.plain VDs.nil)) rfl ?_
              refine oInv eZ ?_
              refine xNil ?_
              refine TQ.qn ?_
              rcases oite H with ⟨h11, H⟩ | ⟨h11, H⟩
              · refine AW.condF eZ (congrArg Bool.not h11) ?_
                refine AW.skip ?_
                refine TQ.qn ?_
                refine AW.seq ?_
                refine AW.regs ?_
                refine oMov eC ?_
                refine xNil ?_
                refine TQ.qn ?_
                refine AW.ret ?_
                obtain rfl := Option.some.inj H
                exact endsR (RL.cons (RV.tmp eZ) (VO.flat rfl) RL.nil) List.nodup_nil
              · refine AW.condT eZ (congrArg Bool.not (nt h11)) ?_
                refine AW.seq ?_
                refine AW.regs ?_
                refine oMov eC ?_
                refine xNil ?_
                refine TQ.qn ?_
                refine AW.ret ?_
                refine TQ.qr ?_
                obtain rfl := Option.some.inj H
                exact endsR (RL.cons (RV.tmp eZ) (VO.flat rfl) RL.nil) List.nodup_nil

theorem c_laws_eqAtlas {a1 : TAtlas} {a2 : TAtlas} {r : Bool} (H : m_laws_eqAtlas a1 a2 = some r) : Fn Try.prog k_laws_eqAtlas (lent [(.agg (d_TAtlas a1)), (.agg (d_TAtlas a2))]) true [(.bool r)] := by
  refine i_laws_eqAtlas_fn (Nat.le_of_ble_eq_true rfl) ?_
  rw [init_mk]
  refine AW.weaken (wk_mk [] (SL.cons (v := (.agg [(.d (.int .i64 a1.Epoch)), (.d (.sl 3 (List.map d_TPart a1.Parts))), (.d (.int .i64 a1.Move.No)), (.d (.int .i64 a1.Move.Stage)), (.d (.int .i64 a1.Move.Lo)), (.d (.int .i64 a1.Move.Hi)), (.d (.int .i64 a1.Move.From)), (.d (.int .i64 a1.Move.To)), (.d (.sl 2 (List.map d_TCell a1.Move.Cells)))])) eZ rfl VWk.rfl (SL.cons (v := (.agg [(.d (.int .i64 a2.Epoch)), (.d (.sl 3 (List.map d_TPart a2.Parts))), (.d (.int .i64 a2.Move.No)), (.d (.int .i64 a2.Move.Stage)), (.d (.int .i64 a2.Move.Lo)), (.d (.int .i64 a2.Move.Hi)), (.d (.int .i64 a2.Move.From)), (.d (.int .i64 a2.Move.To)), (.d (.sl 2 (List.map d_TCell a2.Move.Cells)))])) (eS rfl eZ) rfl VWk.rfl SL.nil)) BL.nil BK.nil) ?_
  unfold m_laws_eqAtlas at H
  unfold i_laws_eqAtlas
  refine AW.seq ?_
  refine AW.regs ?_
  refine oBox (n := 128) (m := 9) (cs := [(.d (.int .i64 a1.Epoch)), (.d (.sl 3 (List.map d_TPart a1.Parts))), (.d (.int .i64 a1.Move.No)), (.d (.int .i64 a1.Move.Stage)), (.d (.int .i64 a1.Move.Lo)), (.d (.int .i64 a1.Move.Hi)), (.d (.int .i64 a1.Move.From)), (.d (.int .i64 a1.Move.To)), (.d (.sl 2 (List.map d_TCell a1.Move.Cells)))]) rfl eZ rfl rfl nZ ?_
  refine oBox (n := 192) (m := 9) (cs := [(.d (.int .i64 a2.Epoch)), (.d (.sl 3 (List.map d_TPart a2.Parts))), (.d (.int .i64 a2.Move.No)), (.d (.int .i64 a2.Move.Stage)), (.d (.int .i64 a2.Move.Lo)), (.d (.int .i64 a2.Move.Hi)), (.d (.int .i64 a2.Move.From)), (.d (.int .i64 a2.Move.To)), (.d (.sl 2 (List.map d_TCell a2.Move.Cells)))]) rfl (eS rfl (eS rfl eZ)) rfl rfl (nS rfl nZ) ?_
  refine oMov eC ?_
  refine xNil ?_
  refine TQ.qn ?_
  refine AW.seq ?_
  refine AW.seq ?_
  refine AW.regs ?_
  refine oFaddrN (m := 0) (eS rfl (eS rfl eZ)) rfl ?_
  refine oLoadV (q := 0) (c := (.d (.int .i64 a1.Epoch))) eZ (bS rfl bZ) rfl rfl ?_
  refine oFaddrN (m := 0) (eS rfl (eS rfl (eS rfl eZ))) rfl ?_
  refine oLoadV (q := 0) (c := (.d (.int .i64 a2.Epoch))) eZ bZ rfl rfl ?_
  refine oNeq (eS rfl (eS rfl eZ)) eZ ?_
  refine xNil ?_
  refine TQ.qn ?_
  rcases oite H with ⟨h3, H⟩ | ⟨h3, H⟩
  · refine AW.condT eZ (decide_eq_true h3) ?_
    refine AW.seq ?_
    refine AW.regs ?_
    refine oMov eC ?_
    refine xNil ?_
    refine TQ.qn ?_
    refine AW.ret ?_
    refine TQ.qr ?_
    obtain rfl := Option.some.inj H
    exact endsR (RL.cons (RV.tmp eZ) (VO.flat rfl) RL.nil) List.nodup_nil
  · refine AW.condF eZ (decide_eq_false h3) ?_
    refine AW.skip ?_
    refine TQ.qn ?_
    refine AW.seq ?_
    refine AW.seq ?_
    refine AW.regs ?_
    refine oFaddrN (m := 1) (eS rfl (eS rfl (eS rfl (eS rfl (eS rfl (eS rfl (eS rfl eZ))))))) rfl ?_
    refine oLoadV (q := 1) (c := (.d (.sl 3 (List.map d_TPart a1.Parts)))) eZ (bS rfl bZ) rfl rfl ?_
    refine oFaddrN (m := 1) (eS rfl (eS rfl (eS rfl (eS rfl (eS rfl (eS rfl (eS rfl (eS rfl eZ)))))))) rfl ?_
    refine oLoadV (q := 1) (c := (.d (.sl 3 (List.map d_TPart a2.Parts)))) eZ bZ rfl rfl ?_
    obtain ⟨v4, h5, H⟩ := obind H
    refine oCall (u := (.one (.d (.bool v4)))) eC Cl.fn (c_laws_eqPartS h5) (Evs.cons (eS rfl (eS rfl eZ)) (Evs.cons eZ Evs.nil)) (VDs.cons VD.plain (VDs.cons VD.plain VDs.nil)) rfl ?_
    refine oInv eZ ?_
    refine xNil ?_
    refine TQ.qn ?_
    refine AW.weaken (wk_mk [] (SL.cons (k := 15) eZ rfl VWk.rfl (SL.cons (k := 3) (eS rfl (eS rfl (eS rfl (eS rfl (eS rfl (eS rfl (eS rfl (eS rfl (eS rfl (eS rfl (eS rfl (eS rfl eZ)))))))))))) rfl VWk.rfl (SL.cons (k := 2) (eS rfl (eS rfl (eS rfl (eS rfl (eS rfl (eS rfl (eS rfl (eS rfl (eS rfl (eS rfl (eS rfl (eS rfl (eS rfl eZ))))))))))))) rfl VWk.rfl SL.nil))) (BL.keep rfl (BL.keep rfl BL.nil)) (BK.cons (n := 192) rfl bZ rfl rfl (BK.cons (n := 128) rfl (bS rfl bZ) rfl rfl BK.nil))) ?_
    rcases oite H with ⟨h6, H⟩ | ⟨h6, H⟩
    · refine AW.condF eZ (congrArg Bool.not h6) ?_
      refine AW.skip ?_
      refine TQ.qn ?_
      refine AW.seq ?_
      refine AW.seq ?_
      refine AW.regs ?_
      refine oFaddrN (m := 2) (eS rfl (eS rfl eZ)) rfl ?_
      refine oLoadVA (es := [(.d (.int .i64 a1.Move.No)), (.d (.int .i64 a1.Move.Stage)), (.d (.int .i64 a1.Move.Lo)), (.d (.int .i64 a1.Move.Hi)), (.d (.int .i64 a1.Move.From)), (.d (.int .i64 a1.Move.To)), (.d (.sl 2 (List.map d_TCell a1.Move.Cells)))]) eZ (bS rfl bZ) rfl ?_
      refine oFaddrN (m := 2) (eS rfl (eS rfl (eS rfl eZ))) rfl ?_
      refine oLoadVA (es := [(.d (.int .i64 a2.Move.No)), (.d (.int .i64 a2.Move.Stage)), (.d (.int .i64 a2.Move.Lo)), (.d (.int .i64 a2.Move.Hi)), (.d (.int .i64 a2.Move.From)), (.d (.int .i64 a2.Move.To)), (.d (.sl 2 (List.map d_TCell a2.Move.Cells)))]) eZ bZ rfl ?_
      obtain ⟨v7, h8, H⟩ := obind H
      refine oCall (u := (.one (.d (.bool v7)))) eC Cl.fn (c_laws_eqMove h8) (Evs.cons (eS rfl (eS rfl eZ)) (Evs.cons eZ Evs.nil)) (VDs.cons (VD.agg rfl) (VDs.cons (VD.agg rfl) VDs.nil)) rfl ?_
      refine oInv eZ ?_
      refine xNil ?_
      refine TQ.qn ?_
      rcases oite H with ⟨h9, H⟩ | ⟨h9, H⟩
      · refine AW.condF eZ (congrArg Bool.not h9) ?_
        refine AW.skip ?_
        refine TQ.qn ?_
        refine AW.seq ?_
        refine AW.regs ?_
        refine oMov eC ?_
        refine xNil ?_
        refine TQ.qn ?_
        refine AW.ret ?_
        obtain rfl := Option.some.inj H
        exact endsR (RL.cons (RV.tmp eZ) (VO.flat rfl) RL.nil) List.nodup_nil
      · refine AW.condT eZ (congrArg Bool.not (nt h9)) ?_
        refine AW.seq ?_
        refine AW.regs ?_
        refine oMov eC ?_
        refine xNil ?_
        refine TQ.qn ?_
        refine AW.ret ?_
        refine TQ.qr ?_
        obtain rfl := Option.some.inj H
        exact endsR (RL.cons (RV.tmp eZ) (VO.flat rfl) RL.nil) List.nodup_nil
    · refine AW.condT eZ (congrArg Bool.not (nt h6)) ?_
      refine AW.seq ?_
      refine AW.regs ?_
      refine oMov eC ?_
      refine xNil ?_
      refine TQ.qn ?_
      refine AW.ret ?_
      refine TQ.qr ?_
      obtain rfl := Option.some.inj H
      exact endsR (RL.cons (RV.tmp eZ) (VO.flat rfl) RL.nil) List.nodup_nil

theorem c_laws_FnExactAtlasOwner {a1 : TAtlas} {a2 : Int} {r : Bool} (H : m_laws_FnExactAtlasOwner a1 a2 = some r) : Fn Try.prog k_laws_FnExactAtlasOwner (lent [(.agg (d_TAtlas a1)), (.int .i64 a2)]) true [(.bool r)] := by
  refine i_laws_FnExactAtlasOwner_fn (Nat.le_of_ble_eq_true rfl) ?_
  rw [init_mk]
  refine AW.weaken (wk_mk [] (SL.cons (v := (.agg [(.d (.int .i64 a1.Epoch)), (.d (.sl 3 (List.map d_TPart a1.Parts))), (.d (.int .i64 a1.Move.No)), (.d (.int .i64 a1.Move.Stage)), (.d (.int .i64 a1.Move.Lo)), (.d (.int .i64 a1.Move.Hi)), (.d (.int .i64 a1.Move.From)), (.d (.int .i64 a1.Move.To)), (.d (.sl 2 (List.map d_TCell a1.Move.Cells)))])) eZ rfl VWk.rfl (SL.cons (v := (.one (.d (.int .i64 a2)))) (eS rfl eZ) rfl VWk.rfl SL.nil)) BL.nil BK.nil) ?_
  unfold m_laws_FnExactAtlasOwner at H
  unfold i_laws_FnExactAtlasOwner
  refine AW.seq ?_
  refine AW.regs ?_
  refine oBox (n := 128) (m := 9) (cs := [(.d (.int .i64 a1.Epoch)), (.d (.sl 3 (List.map d_TPart a1.Parts))), (.d (.int .i64 a1.Move.No)), (.d (.int .i64 a1.Move.Stage)), (.d (.int .i64 a1.Move.Lo)), (.d (.int .i64 a1.Move.Hi)), (.d (.int .i64 a1.Move.From)), (.d (.int .i64 a1.Move.To)), (.d (.sl 2 (List.map d_TCell a1.Move.Cells)))]) rfl eZ rfl rfl nZ ?_
  refine oMov eC ?_
  refine xNil ?_
  refine TQ.qn ?_
  refine AW.seq ?_
  refine AW.regs ?_
  refine oMov eC ?_
  refine xNil ?_
  refine TQ.qn ?_
  refine AW.seq ?_
  refine AW.regs ?_
  refine oLoadVA (es := [(.d (.int .i64 a1.Epoch)), (.d (.sl 3 (List.map d_TPart a1.Parts))), (.d (.int .i64 a1.Move.No)), (.d (.int .i64 a1.Move.Stage)), (.d (.int .i64 a1.Move.Lo)), (.d (.int .i64 a1.Move.Hi)), (.d (.int .i64 a1.Move.From)), (.d (.int .i64 a1.Move.To)), (.d (.sl 2 (List.map d_TCell a1.Move.Cells)))]) (eS rfl (eS rfl eZ)) bZ rfl ?_
  refine oMov (eS rfl eZ) ?_
  obtain ⟨v3, h4, H⟩ := obind H
  refine oCall (u := (.one (.d (.int .i64 v3)))) eC Cl.fn (c_laws_szAtlas h4) (Evs.cons (eS rfl eZ) (Evs.cons eZ Evs.nil)) (VDs.cons (VD.agg rfl) (VDs.cons VD.plain VDs.nil)) rfl ?_
  refine oMov eZ ?_
  refine xNil ?_
  refine TQ.qn ?_
  refine AW.seq ?_
  refine AW.seq ?_
  refine AW.regs ?_
  refine oMov eZ ?_
  refine oLss eZ eC ?_
  refine xNil ?_
  refine TQ.qn ?_
  rcases oite H with ⟨h5, H⟩ | ⟨h5, H⟩
  · refine AW.condT eZ (decide_eq_true h5) ?_
    refine AW.seq ?_
    refine AW.regs ?_
    refine oMov eC ?_
    refine xNil ?_
    refine TQ.qn ?_
    refine AW.ret ?_
    refine TQ.qr ?_
    obtain rfl := Option.some.inj H
    exact endsR (RL.cons (RV.tmp eZ) (VO.flat rfl) RL.nil) List.nodup_nil
  · refine AW.condF eZ (decide_eq_false h5) ?_
    refine AW.skip ?_
    refine TQ.qn ?_
    refine AW.seq ?_
    refine AW.regs ?_
    refine oLoadVA (es := [(.d (.int .i64 a1.Epoch)), (.d (.sl 3 (List.map d_TPart a1.Parts))), (.d (.int .i64 a1.Move.No)), (.d (.int .i64 a1.Move.Stage)), (.d (.int .i64 a1.Move.Lo)), (.d (.int .i64 a1.Move.Hi)), (.d (.int .i64 a1.Move.From)), (.d (.int .i64 a1.Move.To)), (.d (.sl 2 (List.map d_TCell a1.Move.Cells)))]) (eS rfl (eS rfl (eS rfl (eS rfl (eS rfl (eS rfl (eS rfl (eS rfl eZ)))))))) bZ rfl ?_
    obtain ⟨v6, h7, H⟩ := obind H
    refine oCall (u := (.agg [(.d (.int .i64 v6.Epoch)), (.d (.sl 3 (List.map d_TPart v6.Parts))), (.d (.int .i64 v6.Move.No)), (.d (.int .i64 v6.Move.Stage)), (.d (.int .i64 v6.Move.Lo)), (.d (.int .i64 v6.Move.Hi)), (.d (.int .i64 v6.Move.From)), (.d (.int .i64 v6.Move.To)), (.d (.sl 2 (List.map d_TCell v6.Move.Cells)))])) eC Cl.fn (c_laws_toAtlas h7) (Evs.cons eZ Evs.nil) (VDs.cons (VD.agg rfl) VDs.nil) rfl ?_
    refine oMov (eS rfl (eS rfl (eS rfl (eS rfl (eS rfl (eS rfl (eS rfl (eS rfl (eS rfl (eS rfl (eS rfl (eS rfl eZ)))))))))))) ?_
    obtain ⟨v8, h9, H⟩ := obind H
    refine oCall (u := (.one (.d (.int .i64 v8)))) eC Cl.fn (c_spec_AtlasOwner h9) (Evs.cons (eS rfl eZ) (Evs.cons eZ Evs.nil)) (VDs.cons (VD.agg rfl) (VDs.cons VD.plain VDs.nil)) rfl ?_
    refine oMov eZ ?_
    refine xNil ?_
    refine TQ.qn ?_
    refine AW.weaken (wk_mk [] (SL.cons (k := 6) eZ rfl VWk.rfl (SL.cons (k := 2) (eS rfl (eS rfl (eS rfl (eS rfl (eS rfl (eS rfl (eS rfl (eS rfl (eS rfl (eS rfl (eS rfl (eS rfl (eS rfl eZ))))))))))))) rfl VWk.rfl (SL.cons (k := 1) (eS rfl (eS rfl (eS rfl (eS rfl (eS rfl (eS rfl (eS rfl (eS rfl (eS rfl (eS rfl (eS rfl (eS rfl (eS rfl (eS rfl (eS rfl eZ))))))))))))))) rfl VWk.rfl SL.nil))) (BL.keep rfl BL.nil) (BK.cons (n := 128) rfl bZ rfl rfl BK.nil)) ?_
    refine AW.seq ?_
    refine AW.regs ?_
    refine oLoadVA (es := [(.d (.int .i64 a1.Epoch)), (.d (.sl 3 (List.map d_TPart a1.Parts))), (.d (.int .i64 a1.Move.No)), (.d (.int .i64 a1.Move.Stage)), (.d (.int .i64 a1.Move.Lo)), (.d (.int .i64 a1.Move.Hi)), (.d (.int .i64 a1.Move.From)), (.d (.int .i64 a1.Move.To)), (.d (.sl 2 (List.map d_TCell a1.Move.Cells)))]) (eS rfl eZ) bZ rfl ?_
    obtain ⟨v10, h11, H⟩ := obind H
    refine oCall (u := (.agg [(.d (.int .i64 v10.Epoch)), (.d (.sl 3 (List.map d_TPart v10.Parts))), (.d (.int .i64 v10.Move.No)), (.d (.int .i64 v10.Move.Stage)), (.d (.int .i64 v10.Move.Lo)), (.d (.int .i64 v10.Move.Hi)), (.d (.int .i64 v10.Move.From)), (.d (.int .i64 v10.Move.To)), (.d (.sl 2 (List.map d_TCell v10.Move.Cells)))])) eC Cl.fn (c_laws_toAtlas h11) (Evs.cons eZ Evs.nil) (VDs.cons (VD.agg rfl) VDs.nil) rfl ?_
    refine oVar (n := 448) (m := 9) rfl rfl (nS rfl nZ) ?_
    refine oStoreV (es := [(.d (.int .i64 v10.Epoch)), (.d (.sl 3 (List.map d_TPart v10.Parts))), (.d (.int .i64 v10.Move.No)), (.d (.int .i64 v10.Move.Stage)), (.d (.int .i64 v10.Move.Lo)), (.d (.int .i64 v10.Move.Hi)), (.d (.int .i64 v10.Move.From)), (.d (.int .i64 v10.Move.To)), (.d (.sl 2 (List.map d_TCell v10.Move.Cells)))]) eZ (eS rfl eZ) rfl rfl bZ rfl ?_
    refine xNil ?_
    refine TQ.qn ?_
    refine AW.seq ?_
    refine AW.regs ?_
    refine oLoadVA (es := [(.d (.int .i64 v10.Epoch)), (.d (.sl 3 (List.map d_TPart v10.Parts))), (.d (.int .i64 v10.Move.No)), (.d (.int .i64 v10.Move.Stage)), (.d (.int .i64 v10.Move.Lo)), (.d (.int .i64 v10.Move.Hi)), (.d (.int .i64 v10.Move.From)), (.d (.int .i64 v10.Move.To)), (.d (.sl 2 (List.map d_TCell v10.Move.Cells)))]) eZ bZ rfl ?_
    refine oMov (eS rfl (eS rfl (eS rfl (eS rfl (eS rfl (eS rfl eZ)))))) ?_
    obtain ⟨v12, h13, H⟩ := obind H
    refine oCall (u := (.one (.d (.int .i64 v12)))) eC Cl.fn (c_impl_AtlasOwner h13) (Evs.cons (eS rfl eZ) (Evs.cons eZ Evs.nil)) (VDs.cons (VD.agg rfl) (VDs.cons VD.plain VDs.nil)) rfl ?_
    refine oMov eZ ?_
    refine xNil ?_
    refine TQ.qn ?_
    refine AW.seq ?_
    refine AW.seq ?_
    refine AW.regs ?_
    refine oMov eZ ?_
    refine oMov (eS rfl (eS rfl (eS rfl (eS rfl (eS rfl (eS rfl (eS rfl (eS rfl eZ)))))))) ?_
    refine oNeq (eS rfl eZ) eZ ?_
    refine xNil ?_
    refine TQ.qn ?_
    rcases oite H with ⟨h14, H⟩ | ⟨h14, H⟩
    · refine AW.condT eZ (decide_eq_true h14) ?_
      refine AW.seq ?_
      refine AW.regs ?_
      refine oMov eC ?_
      refine xNil ?_
      refine TQ.qn ?_
      refine AW.ret ?_
      refine TQ.qr ?_
      obtain rfl := Option.some.inj H
      exact endsR (RL.cons (RV.tmp eZ) (VO.flat rfl) RL.nil) List.nodup_nil
    · refine AW.condF eZ (decide_eq_false h14) ?_
      refine AW.skip ?_
      refine TQ.qn ?_
      refine AW.seq ?_
      refine AW.seq ?_
      refine AW.regd ?_
      refine oLoadVA (es := [(.d (.int .i64 v10.Epoch)), (.d (.sl 3 (List.map d_TPart v10.Parts))), (.d (.int .i64 v10.Move.No)), (.d (.int .i64 v10.Move.Stage)), (.d (.int .i64 v10.Move.Lo)), (.d (.int .i64 v10.Move.Hi)), (.d (.int .i64 v10.Move.From)), (.d (.int .i64 v10.Move.To)), (.d (.sl 2 (List.map d_TCell v10.Move.Cells)))]) (eS rfl (eS rfl (eS rfl (eS rfl (eS rfl (eS rfl (eS rfl eZ))))))) (hB rfl bZ) rfl ?_
      refine oLoadVA (es := [(.d (.int .i64 a1.Epoch)), (.d (.sl 3 (List.map d_TPart a1.Parts))), (.d (.int .i64 a1.Move.No)), (.d (.int .i64 a1.Move.Stage)), (.d (.int .i64 a1.Move.Lo)), (.d (.int .i64 a1.Move.Hi)), (.d (.int .i64 a1.Move.From)), (.d (.int .i64 a1.Move.To)), (.d (.sl 2 (List.map d_TCell a1.Move.Cells)))]) (eS rfl (eS rfl (eS rfl (eS rfl (eS rfl (eS rfl (eS rfl (eS rfl (eS rfl (eS rfl (eS rfl (eS rfl eZ)))))))))))) (bS rfl (bS rfl bZ)) rfl ?_
      obtain ⟨v15, h16, H⟩ := obind H
      refine oCall (u := (.agg [(.d (.int .i64 v15.Epoch)), (.d (.sl 3 (List.map d_TPart v15.Parts))), (.d (.int .i64 v15.Move.No)), (.d (.int .i64 v15.Move.Stage)), (.d (.int .i64 v15.Move.Lo)), (.d (.int .i64 v15.Move.Hi)), (.d (.int .i64 v15.Move.From)), (.d (.int .i64 v15.Move.To)), (.d (.sl 2 (List.map d_TCell v15.Move.Cells)))])) eC Cl.fn (c_laws_toAtlas h16) (Evs.cons eZ Evs.nil) (VDs.cons (VD.agg rfl) VDs.nil) rfl ?_
      obtain ⟨v17, h18, H⟩ := obind H
      refine oCall (u := (.one (.d (.bool v17)))) eC Cl.fn (c_laws_eqAtlas h18) (Evs.cons (eS rfl (eS rfl eZ)) (Evs.cons eZ Evs.nil)) (VDs.cons (VD.agg rfl) (VDs.cons (VD.agg rfl) VDs.nil)) rfl ?_
      refine oInv eZ ?_
      refine xNil ?_
      refine TQ.qn ?_
      refine AW.weaken (wk_mk [448, 128] (SL.cons (k := 30) eZ rfl VWk.rfl SL.nil) (BL.drop rfl (BL.drop rfl (BL.drop rfl BL.nil))) BK.nil) ?_
      rcases oite H with ⟨h19, H⟩ | ⟨h19, H⟩
      · refine AW.condF eZ (congrArg Bool.not h19) ?_
        refine AW.skip ?_
        refine TQ.qn ?_
        refine AW.seq ?_
        refine AW.regs ?_
        refine oMov eC ?_
        refine xNil ?_
        refine TQ.qn ?_
        refine AW.ret ?_
        obtain rfl := Option.some.inj H
        exact endsR (RL.cons (RV.tmp eZ) (VO.flat rfl) RL.nil) List.nodup_nil
      · refine AW.condT eZ (congrArg Bool.not (nt h19)) ?_
        refine AW.seq ?_
        refine AW.regs ?_
        refine oMov eC ?_
        refine xNil ?_
        refine TQ.qn ?_
        refine AW.ret ?_
        refine TQ.qr ?_
        obtain rfl := Option.some.inj H
        exact endsR (RL.cons (RV.tmp eZ) (VO.flat rfl) RL.nil) List.nodup_nil

end Go.AW
