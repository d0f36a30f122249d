/- That functions of the program compute what the plain functions say: printed by a program of the prover's own (tool/dec.py). Conditions: each theorem's own. -/
import Derived.Test.YtednnkegleoenaaMLetterOk
import Derived.Test.YtednnkegleoenaaGLetterOk
import Derived.Test.YtednnkegleoenaaDLetterOka
import Derived.Test.YtednnkegleoenaaDLetterOkb
set_option linter.unusedVariables false
set_option linter.unusedSimpArgs false
set_option maxRecDepth 100000
namespace Go.AW
open Go.Proofs
theorem c_impl_LetterOk {a1 : TLetter} {r : Bool} (H : m_impl_LetterOk a1 = some r) : Fn Try.prog k_impl_LetterOk (lent [(.agg (d_TLetter a1))]) true [(.bool r)] := by
 refine i_impl_LetterOk_fn (fle rfl) ?_
 rw [init_mk]
 refine AW.weaken (wk_mk [] (kv 0 (.agg [(dI a1.Kind), (dI a1.Group), (dI a1.Client), (dI a1.Req), (dI a1.Tx), (dI a1.Lo), (dI a1.Hi), (dI a1.Rank), (dI a1.Code), (.d (.bool a1.Yes)), (.d (.sl 2 (List.map d_TRange a1.Reads))), (.d (.sl 2 (List.map d_TCell a1.Writes))), (.d (.sl 2 (List.map d_TCell a1.Cells))), (.d (.sl 4 (List.map d_TShare a1.Shares)))]) rfl rfl SL.nil) BL.nil BK.nil) ?_
 unfold m_impl_LetterOk at H
 unfold i_impl_LetterOk
 refine aV (oBox (n := 64) (m := 14) (cs := [(dI a1.Kind), (dI a1.Group), (dI a1.Client), (dI a1.Req), (dI a1.Tx), (dI a1.Lo), (dI a1.Hi), (dI a1.Rank), (dI a1.Code), (.d (.bool a1.Yes)), (.d (.sl 2 (List.map d_TRange a1.Reads))), (.d (.sl 2 (List.map d_TCell a1.Writes))), (.d (.sl 2 (List.map d_TCell a1.Cells))), (.d (.sl 4 (List.map d_TShare a1.Shares)))]) rfl eZ rfl rfl nZ (oMov eC (xQ (aV (oFaddrN (m := 0) (eR rfl) rfl (oLoadV (q := 0) (c := (dI a1.Kind)) eZ bZ rfl rfl ?_))))))
 obtain ⟨v2, h3, H⟩ := obind H
 refine oCall (u := (.one (.d (.str v2)))) eC Cl.fn (c_impl_letterHas h3) (Evs.cons eZ Evs.nil) (VDs.cons VD.plain VDs.nil) rfl (oMov eZ (xQ (aS (AW.seqJ (fun t4 : Bool => (impl_LetterOk_j4 v2 a1) t4 = some r) (fun t4 => mk [(1, (.one (.ptr (.nm 64 0 0)))), (3, (.one (.d (.str v2)))), (50, (oB t4))] [(64, (.vars 14 [(dI a1.Kind), (dI a1.Group), (dI a1.Client), (dI a1.Req), (dI a1.Tx), (dI a1.Lo), (dI a1.Hi), (dI a1.Rank), (dI a1.Code), (.d (.bool a1.Yes)), (.d (.sl 2 (List.map d_TRange a1.Reads))), (.d (.sl 2 (List.map d_TCell a1.Writes))), (.d (.sl 2 (List.map d_TCell a1.Cells))), (.d (.sl 4 (List.map d_TShare a1.Shares)))]))] noG) ?_ ?_))))
 ·intro t4 H
  unfold impl_LetterOk_j4 at H
  rcases oite H with ⟨h6, H⟩ | ⟨h6, H⟩
  ·refine AW.condT (eR rfl) h6 (aV (oMov eC (xQ (AW.ret (TQ.qr ?_)))))
   cases H
   exact eE rfl rfl
  ·refine AW.condF (eR rfl) (nt h6) (AW.skip (TQ.qn (aS (AW.seqJ (fun t7 : Bool => (impl_LetterOk_j7 a1 v2) t7 = some r) (fun t7 => mk [(1, (.one (.ptr (.nm 64 0 0)))), (3, (.one (.d (.str v2)))), (85, (oB t7))] [(64, (.vars 14 [(dI a1.Kind), (dI a1.Group), (dI a1.Client), (dI a1.Req), (dI a1.Tx), (dI a1.Lo), (dI a1.Hi), (dI a1.Rank), (dI a1.Code), (.d (.bool a1.Yes)), (.d (.sl 2 (List.map d_TRange a1.Reads))), (.d (.sl 2 (List.map d_TCell a1.Writes))), (.d (.sl 2 (List.map d_TCell a1.Cells))), (.d (.sl 4 (List.map d_TShare a1.Shares)))]))] noG) ?_ ?_))))
   ·intro t7 H
    unfold impl_LetterOk_j7 at H
    rcases oite H with ⟨h9, H⟩ | ⟨h9, H⟩
    ·refine AW.condT (eR rfl) h9 (aV (oMov eC (xQ (AW.ret (TQ.qr ?_)))))
     cases H
     exact eE rfl rfl
    ·refine AW.condF (eR rfl) (nt h9) (AW.skip (TQ.qn (aV (oFaddrN (m := 10) eZ rfl (oLoadV (q := 10) (c := (.d (.sl 2 (List.map d_TRange a1.Reads)))) eZ bZ rfl rfl ?_)))))
     obtain ⟨v10, h11, H⟩ := obind H
     refine oCall (u := (oB v10)) eC Cl.fn (c_impl_readsOk h11) (Evs.cons eZ Evs.nil) (VDs.cons VD.plain VDs.nil) rfl (oMov eZ ?_)
     rcases oite H with ⟨h12, H⟩ | ⟨h12, H⟩
     ·refine gDo eZ h12 (oMov (eR rfl) (gDo (eR rfl) h12 ?_))
      obtain ⟨v13, h14, H⟩ := obind H
      refine oCall (u := (oB v13)) eC Cl.fn (c_impl_has h14) (Evs.cons eZ (Evs.cons eC Evs.nil)) (VDs.cons VD.plain (VDs.cons VD.plain VDs.nil)) rfl (gDo (eR rfl) h12 (oMov eZ ?_))
      rcases oite H with ⟨h15, H⟩ | ⟨h15, H⟩
      ·refine gSkip eZ h15 rfl (gSkip (eR rfl) h15 rfl (gSkip (eR rfl) h15 rfl (gSkip (eR rfl) h15 rfl (gDo (eR rfl) h12 (oPickT (eR rfl) h15 eC (oPickT (eR rfl) h12 eZ (oMov eZ (gDo eZ rfl (oFaddrN (m := 11) (eR rfl) rfl (gDo (eR rfl) rfl (oLoadV (q := 11) (c := (.d (.sl 2 (List.map d_TCell a1.Writes)))) eZ bZ rfl rfl (gDo (eR rfl) rfl ?_))))))))))))
       obtain ⟨v16, h17, H⟩ := obind H
       refine oCall (u := (oB v16)) eC Cl.fn (c_impl_WritesOk h17) (Evs.cons eZ Evs.nil) (VDs.cons VD.plain VDs.nil) rfl (oPickT (eR rfl) rfl eZ (oMov eZ ?_))
       rcases oite H with ⟨h18, H⟩ | ⟨h18, H⟩
       ·refine gDo eZ h18 (oMov (eR rfl) (gDo (eR rfl) h18 ?_))
        obtain ⟨v19, h20, H⟩ := obind H
        refine oCall (u := (oB v19)) eC Cl.fn (c_impl_has h20) (Evs.cons eZ (Evs.cons eC Evs.nil)) (VDs.cons VD.plain (VDs.cons VD.plain VDs.nil)) rfl (gDo (eR rfl) h18 (oMov eZ ?_))
        rcases oite H with ⟨h21, H⟩ | ⟨h21, H⟩
        ·refine gSkip eZ h21 rfl (gSkip (eR rfl) h21 rfl (gSkip (eR rfl) h21 rfl (gSkip (eR rfl) h21 rfl (gDo (eR rfl) h18 (oPickT (eR rfl) h21 eC (oPickT (eR rfl) h18 eZ (oMov eZ (gDo eZ rfl (oFaddrN (m := 12) (eR rfl) rfl (gDo (eR rfl) rfl (oLoadV (q := 12) (c := (.d (.sl 2 (List.map d_TCell a1.Cells)))) eZ bZ rfl rfl (gDo (eR rfl) rfl ?_))))))))))))
         obtain ⟨v22, h23, H⟩ := obind H
         refine oCall (u := (oB v22)) eC Cl.fn (c_impl_StoreOk h23) (Evs.cons eZ Evs.nil) (VDs.cons VD.plain VDs.nil) rfl (oPickT (eR rfl) rfl eZ (oMov eZ ?_))
         rcases oite H with ⟨h24, H⟩ | ⟨h24, H⟩
         ·refine gDo eZ h24 (oMov (eR rfl) (gDo (eR rfl) h24 ?_))
          obtain ⟨v25, h26, H⟩ := obind H
          refine oCall (u := (oB v25)) eC Cl.fn (c_impl_has h26) (Evs.cons eZ (Evs.cons eC Evs.nil)) (VDs.cons VD.plain (VDs.cons VD.plain VDs.nil)) rfl (gDo (eR rfl) h24 (oMov eZ ?_))
          rcases oite H with ⟨h27, H⟩ | ⟨h27, H⟩
          ·refine gSkip eZ h27 rfl (gSkip (eR rfl) h27 rfl (gSkip (eR rfl) h27 rfl (gSkip (eR rfl) h27 rfl (gDo (eR rfl) h24 (oPickT (eR rfl) h27 eC (oPickT (eR rfl) h24 eZ (oMov eZ (gDo eZ rfl (oFaddrN (m := 13) (eR rfl) rfl (gDo (eR rfl) rfl (oLoadV (q := 13) (c := (.d (.sl 4 (List.map d_TShare a1.Shares)))) eZ bZ rfl rfl (gDo (eR rfl) rfl ?_))))))))))))
           obtain ⟨v28, h29, H⟩ := obind H
           refine oCall (u := (oB v28)) eC Cl.fn (c_impl_SharesOk h29) (Evs.cons eZ Evs.nil) (VDs.cons VD.plain VDs.nil) rfl (oPickT (eR rfl) rfl eZ (oMov eZ ?_))
           rcases oite H with ⟨h30, H⟩ | ⟨h30, H⟩
           ·refine gDo eZ h30 (oMov (eR rfl) (gDo (eR rfl) h30 ?_))
            obtain ⟨v31, h32, H⟩ := obind H
            refine oCall (u := (oB v31)) eC Cl.fn (c_impl_has h32) (Evs.cons eZ (Evs.cons eC Evs.nil)) (VDs.cons VD.plain (VDs.cons VD.plain VDs.nil)) rfl (gDo (eR rfl) h30 (oMov eZ ?_))
            rcases oite H with ⟨h33, H⟩ | ⟨h33, H⟩
            ·refine gSkip eZ h33 rfl (gSkip (eR rfl) h33 rfl (gSkip (eR rfl) h33 rfl (gSkip (eR rfl) h33 rfl (gDo (eR rfl) h30 (oPickT (eR rfl) h33 eC (oPickT (eR rfl) h30 eZ (oMov eZ (gDo eZ rfl (oFaddrN (m := 13) (eR rfl) rfl (gDo (eR rfl) rfl (oLoadV (q := 13) (c := (.d (.sl 4 (List.map d_TShare a1.Shares)))) eZ bZ rfl rfl (gDo (eR rfl) rfl ?_))))))))))))
             obtain ⟨v34, h35, H⟩ := obind H
             refine oCall (u := (oB v34)) eC Cl.fn (c_impl_votes h35) (Evs.cons eZ (Evs.cons eC Evs.nil)) (VDs.cons VD.plain (VDs.cons VD.plain VDs.nil)) rfl (gDo (eR rfl) rfl (oInv eZ (oPickT (eR rfl) rfl eZ (oMov eZ ?_))))
             rcases oite H with ⟨h36, H⟩ | ⟨h36, H⟩
             ·refine gSkip eZ (congrArg Bool.not h36) rfl (gSkip (eR rfl) (congrArg Bool.not h36) rfl (gSkip (eR rfl) (congrArg Bool.not h36) rfl (gSkip (eR rfl) (congrArg Bool.not h36) rfl (oPickF (eR rfl) (congrArg Bool.not h36) eC (oMov eZ (xQ (AW.weaken (wk_mk [64] (kr 2 rfl rfl SL.nil) (BL.drop rfl BL.nil) BK.nil) (AW.ret ?_))))))))
              cases H
              exact eE rfl rfl
             ·refine gDo eZ (congrArg Bool.not (nt h36)) (oFaddrN (m := 13) (eR rfl) rfl (gDo (eR rfl) (congrArg Bool.not (nt h36)) (oLoadV (q := 13) (c := (.d (.sl 4 (List.map d_TShare a1.Shares)))) eZ bZ rfl rfl (gDo (eR rfl) (congrArg Bool.not (nt h36)) ?_))))
              obtain ⟨v37, h38, H⟩ := obind H
              refine oCall (u := (oB v37)) eC Cl.fn (c_impl_votes h38) (Evs.cons eZ (Evs.cons eC Evs.nil)) (VDs.cons VD.plain (VDs.cons VD.plain VDs.nil)) rfl (gDo (eR rfl) (congrArg Bool.not (nt h36)) (oInv eZ (oPickT (eR rfl) (congrArg Bool.not (nt h36)) eZ (oMov eZ (xQ (AW.weaken (wk_mk [64] (kr 2 rfl rfl SL.nil) (BL.drop rfl BL.nil) BK.nil) (AW.ret ?_)))))))
              cases H
              exact eE rfl rfl
            ·refine gDo eZ (nt h33) (oFaddrN (m := 13) (eR rfl) rfl (gDo (eR rfl) (nt h33) (oLoadV (q := 13) (c := (.d (.sl 4 (List.map d_TShare a1.Shares)))) eZ bZ rfl rfl (gDo (eR rfl) (nt h33) (oLenD eZ (n := a1.Shares.length) (List.length_map _) (gDo (eR rfl) (nt h33) (oEql eZ eC (gDo (eR rfl) h30 (oPickF (eR rfl) (nt h33) eZ (oPickT (eR rfl) h30 eZ (oMov eZ ?_)))))))))))
             rcases oite H with ⟨h39, H⟩ | ⟨h39, H⟩
             ·refine gDo eZ (decide_eq_true h39) (oFaddrN (m := 13) (eR rfl) rfl (gDo (eR rfl) (decide_eq_true h39) (oLoadV (q := 13) (c := (.d (.sl 4 (List.map d_TShare a1.Shares)))) eZ bZ rfl rfl (gDo (eR rfl) (decide_eq_true h39) ?_))))
              obtain ⟨v40, h41, H⟩ := obind H
              refine oCall (u := (oB v40)) eC Cl.fn (c_impl_votes h41) (Evs.cons eZ (Evs.cons eC Evs.nil)) (VDs.cons VD.plain (VDs.cons VD.plain VDs.nil)) rfl (gDo (eR rfl) (decide_eq_true h39) (oInv eZ (oPickT (eR rfl) (decide_eq_true h39) eZ (oMov eZ ?_))))
              rcases oite H with ⟨h42, H⟩ | ⟨h42, H⟩
              ·refine gSkip eZ (congrArg Bool.not h42) rfl (gSkip (eR rfl) (congrArg Bool.not h42) rfl (gSkip (eR rfl) (congrArg Bool.not h42) rfl (gSkip (eR rfl) (congrArg Bool.not h42) rfl (oPickF (eR rfl) (congrArg Bool.not h42) eC (oMov eZ (xQ (AW.weaken (wk_mk [64] (kr 2 rfl rfl SL.nil) (BL.drop rfl BL.nil) BK.nil) (AW.ret ?_))))))))
               cases H
               exact eE rfl rfl
              ·refine gDo eZ (congrArg Bool.not (nt h42)) (oFaddrN (m := 13) (eR rfl) rfl (gDo (eR rfl) (congrArg Bool.not (nt h42)) (oLoadV (q := 13) (c := (.d (.sl 4 (List.map d_TShare a1.Shares)))) eZ bZ rfl rfl (gDo (eR rfl) (congrArg Bool.not (nt h42)) ?_))))
               obtain ⟨v43, h44, H⟩ := obind H
               refine oCall (u := (oB v43)) eC Cl.fn (c_impl_votes h44) (Evs.cons eZ (Evs.cons eC Evs.nil)) (VDs.cons VD.plain (VDs.cons VD.plain VDs.nil)) rfl (gDo (eR rfl) (congrArg Bool.not (nt h42)) (oInv eZ (oPickT (eR rfl) (congrArg Bool.not (nt h42)) eZ (oMov eZ (xQ (AW.weaken (wk_mk [64] (kr 2 rfl rfl SL.nil) (BL.drop rfl BL.nil) BK.nil) (AW.ret ?_)))))))
               cases H
               exact eE rfl rfl
             ·refine gSkip eZ (decide_eq_false h39) rfl (gSkip (eR rfl) (decide_eq_false h39) rfl (gSkip (eR rfl) (decide_eq_false h39) rfl (gSkip (eR rfl) (decide_eq_false h39) rfl (oPickF (eR rfl) (decide_eq_false h39) eC (oMov eZ (gSkip eZ rfl rfl (gSkip (eR rfl) rfl rfl (gSkip (eR rfl) rfl rfl (gSkip (eR rfl) rfl rfl (oPickF (eR rfl) rfl eC (oMov eZ (xQ (AW.weaken (wk_mk [64] (kr 2 rfl rfl SL.nil) (BL.drop rfl BL.nil) BK.nil) (AW.ret ?_))))))))))))))
              cases H
              exact eE rfl rfl
           ·refine gSkip eZ (nt h30) rfl (gSkip (eR rfl) (nt h30) rfl (gSkip (eR rfl) (nt h30) rfl (gSkipU eZ rfl (gSkipU (eR rfl) rfl (gSkipU (eR rfl) rfl (gSkipU (eR rfl) rfl (gSkip (eR rfl) (nt h30) rfl (oPickF (eR rfl) (nt h30) eC (oMov eZ (gSkip eZ rfl rfl (gSkip (eR rfl) rfl rfl (gSkip (eR rfl) rfl rfl (gSkip (eR rfl) rfl rfl (oPickF (eR rfl) rfl eC (oMov eZ (gSkip eZ rfl rfl (gSkip (eR rfl) rfl rfl (gSkip (eR rfl) rfl rfl (gSkip (eR rfl) rfl rfl (oPickF (eR rfl) rfl eC (oMov eZ (xQ (AW.weaken (wk_mk [64] (kr 2 rfl rfl SL.nil) (BL.drop rfl BL.nil) BK.nil) (AW.ret ?_))))))))))))))))))))))))
            cases H
            exact eE rfl rfl
          ·refine gDo eZ (nt h27) (oFaddrN (m := 12) (eR rfl) rfl (gDo (eR rfl) (nt h27) (oLoadV (q := 12) (c := (.d (.sl 2 (List.map d_TCell a1.Cells)))) eZ bZ rfl rfl (gDo (eR rfl) (nt h27) (oLenD eZ (n := a1.Cells.length) (List.length_map _) (gDo (eR rfl) (nt h27) (oEql eZ eC (gDo (eR rfl) h24 (oPickF (eR rfl) (nt h27) eZ (oPickT (eR rfl) h24 eZ (oMov eZ ?_)))))))))))
           rcases oite H with ⟨h45, H⟩ | ⟨h45, H⟩
           ·refine gDo eZ (decide_eq_true h45) (oFaddrN (m := 13) (eR rfl) rfl (gDo (eR rfl) (decide_eq_true h45) (oLoadV (q := 13) (c := (.d (.sl 4 (List.map d_TShare a1.Shares)))) eZ bZ rfl rfl (gDo (eR rfl) (decide_eq_true h45) ?_))))
            obtain ⟨v46, h47, H⟩ := obind H
            refine oCall (u := (oB v46)) eC Cl.fn (c_impl_SharesOk h47) (Evs.cons eZ Evs.nil) (VDs.cons VD.plain VDs.nil) rfl (oPickT (eR rfl) (decide_eq_true h45) eZ (oMov eZ ?_))
            rcases oite H with ⟨h48, H⟩ | ⟨h48, H⟩
            ·refine gDo eZ h48 (oMov (eR rfl) (gDo (eR rfl) h48 ?_))
             obtain ⟨v49, h50, H⟩ := obind H
             refine oCall (u := (oB v49)) eC Cl.fn (c_impl_has h50) (Evs.cons eZ (Evs.cons eC Evs.nil)) (VDs.cons VD.plain (VDs.cons VD.plain VDs.nil)) rfl (gDo (eR rfl) h48 (oMov eZ ?_))
             rcases oite H with ⟨h51, H⟩ | ⟨h51, H⟩
             ·refine gSkip eZ h51 rfl (gSkip (eR rfl) h51 rfl (gSkip (eR rfl) h51 rfl (gSkip (eR rfl) h51 rfl (gDo (eR rfl) h48 (oPickT (eR rfl) h51 eC (oPickT (eR rfl) h48 eZ (oMov eZ (gDo eZ rfl (oFaddrN (m := 13) (eR rfl) rfl (gDo (eR rfl) rfl (oLoadV (q := 13) (c := (.d (.sl 4 (List.map d_TShare a1.Shares)))) eZ bZ rfl rfl (gDo (eR rfl) rfl ?_))))))))))))
              obtain ⟨v52, h53, H⟩ := obind H
              refine oCall (u := (oB v52)) eC Cl.fn (c_impl_votes h53) (Evs.cons eZ (Evs.cons eC Evs.nil)) (VDs.cons VD.plain (VDs.cons VD.plain VDs.nil)) rfl (gDo (eR rfl) rfl (oInv eZ (oPickT (eR rfl) rfl eZ (oMov eZ ?_))))
              rcases oite H with ⟨h54, H⟩ | ⟨h54, H⟩
              ·refine gSkip eZ (congrArg Bool.not h54) rfl (gSkip (eR rfl) (congrArg Bool.not h54) rfl (gSkip (eR rfl) (congrArg Bool.not h54) rfl (gSkip (eR rfl) (congrArg Bool.not h54) rfl (oPickF (eR rfl) (congrArg Bool.not h54) eC (oMov eZ (xQ (AW.weaken (wk_mk [64] (kr 2 rfl rfl SL.nil) (BL.drop rfl BL.nil) BK.nil) (AW.ret ?_))))))))
               cases H
               exact eE rfl rfl
              ·refine gDo eZ (congrArg Bool.not (nt h54)) (oFaddrN (m := 13) (eR rfl) rfl (gDo (eR rfl) (congrArg Bool.not (nt h54)) (oLoadV (q := 13) (c := (.d (.sl 4 (List.map d_TShare a1.Shares)))) eZ bZ rfl rfl (gDo (eR rfl) (congrArg Bool.not (nt h54)) ?_))))
               obtain ⟨v55, h56, H⟩ := obind H
               refine oCall (u := (oB v55)) eC Cl.fn (c_impl_votes h56) (Evs.cons eZ (Evs.cons eC Evs.nil)) (VDs.cons VD.plain (VDs.cons VD.plain VDs.nil)) rfl (gDo (eR rfl) (congrArg Bool.not (nt h54)) (oInv eZ (oPickT (eR rfl) (congrArg Bool.not (nt h54)) eZ (oMov eZ (xQ (AW.weaken (wk_mk [64] (kr 2 rfl rfl SL.nil) (BL.drop rfl BL.nil) BK.nil) (AW.ret ?_)))))))
               cases H
               exact eE rfl rfl
             ·refine gDo eZ (nt h51) (oFaddrN (m := 13) (eR rfl) rfl (gDo (eR rfl) (nt h51) (oLoadV (q := 13) (c := (.d (.sl 4 (List.map d_TShare a1.Shares)))) eZ bZ rfl rfl (gDo (eR rfl) (nt h51) (oLenD eZ (n := a1.Shares.length) (List.length_map _) (gDo (eR rfl) (nt h51) (oEql eZ eC (gDo (eR rfl) h48 (oPickF (eR rfl) (nt h51) eZ (oPickT (eR rfl) h48 eZ (oMov eZ ?_)))))))))))
              rcases oite H with ⟨h57, H⟩ | ⟨h57, H⟩
              ·refine gDo eZ (decide_eq_true h57) (oFaddrN (m := 13) (eR rfl) rfl (gDo (eR rfl) (decide_eq_true h57) (oLoadV (q := 13) (c := (.d (.sl 4 (List.map d_TShare a1.Shares)))) eZ bZ rfl rfl (gDo (eR rfl) (decide_eq_true h57) ?_))))
               obtain ⟨v58, h59, H⟩ := obind H
               refine oCall (u := (oB v58)) eC Cl.fn (c_impl_votes h59) (Evs.cons eZ (Evs.cons eC Evs.nil)) (VDs.cons VD.plain (VDs.cons VD.plain VDs.nil)) rfl (gDo (eR rfl) (decide_eq_true h57) (oInv eZ (oPickT (eR rfl) (decide_eq_true h57) eZ (oMov eZ ?_))))
               rcases oite H with ⟨h60, H⟩ | ⟨h60, H⟩
               ·refine gSkip eZ (congrArg Bool.not h60) rfl (gSkip (eR rfl) (congrArg Bool.not h60) rfl (gSkip (eR rfl) (congrArg Bool.not h60) rfl (gSkip (eR rfl) (congrArg Bool.not h60) rfl (oPickF (eR rfl) (congrArg Bool.not h60) eC (oMov eZ (xQ (AW.weaken (wk_mk [64] (kr 2 rfl rfl SL.nil) (BL.drop rfl BL.nil) BK.nil) (AW.ret ?_))))))))
                cases H
                exact eE rfl rfl
               ·refine gDo eZ (congrArg Bool.not (nt h60)) (oFaddrN (m := 13) (eR rfl) rfl (gDo (eR rfl) (congrArg Bool.not (nt h60)) (oLoadV (q := 13) (c := (.d (.sl 4 (List.map d_TShare a1.Shares)))) eZ bZ rfl rfl (gDo (eR rfl) (congrArg Bool.not (nt h60)) ?_))))
                obtain ⟨v61, h62, H⟩ := obind H
                refine oCall (u := (oB v61)) eC Cl.fn (c_impl_votes h62) (Evs.cons eZ (Evs.cons eC Evs.nil)) (VDs.cons VD.plain (VDs.cons VD.plain VDs.nil)) rfl (gDo (eR rfl) (congrArg Bool.not (nt h60)) (oInv eZ (oPickT (eR rfl) (congrArg Bool.not (nt h60)) eZ (oMov eZ (xQ (AW.weaken (wk_mk [64] (kr 2 rfl rfl SL.nil) (BL.drop rfl BL.nil) BK.nil) (AW.ret ?_)))))))
                cases H
                exact eE rfl rfl
              ·refine gSkip eZ (decide_eq_false h57) rfl (gSkip (eR rfl) (decide_eq_false h57) rfl (gSkip (eR rfl) (decide_eq_false h57) rfl (gSkip (eR rfl) (decide_eq_false h57) rfl (oPickF (eR rfl) (decide_eq_false h57) eC (oMov eZ (gSkip eZ rfl rfl (gSkip (eR rfl) rfl rfl (gSkip (eR rfl) rfl rfl (gSkip (eR rfl) rfl rfl (oPickF (eR rfl) rfl eC (oMov eZ (xQ (AW.weaken (wk_mk [64] (kr 2 rfl rfl SL.nil) (BL.drop rfl BL.nil) BK.nil) (AW.ret ?_))))))))))))))
               cases H
               exact eE rfl rfl
            ·refine gSkip eZ (nt h48) rfl (gSkip (eR rfl) (nt h48) rfl (gSkip (eR rfl) (nt h48) rfl (gSkipU eZ rfl (gSkipU (eR rfl) rfl (gSkipU (eR rfl) rfl (gSkipU (eR rfl) rfl (gSkip (eR rfl) (nt h48) rfl (oPickF (eR rfl) (nt h48) eC (oMov eZ (gSkip eZ rfl rfl (gSkip (eR rfl) rfl rfl (gSkip (eR rfl) rfl rfl (gSkip (eR rfl) rfl rfl (oPickF (eR rfl) rfl eC (oMov eZ (gSkip eZ rfl rfl (gSkip (eR rfl) rfl rfl (gSkip (eR rfl) rfl rfl (gSkip (eR rfl) rfl rfl (oPickF (eR rfl) rfl eC (oMov eZ (xQ (AW.weaken (wk_mk [64] (kr 2 rfl rfl SL.nil) (BL.drop rfl BL.nil) BK.nil) (AW.ret ?_))))))))))))))))))))))))
             cases H
             exact eE rfl rfl
           ·refine gSkip eZ (decide_eq_false h45) rfl (gSkip (eR rfl) (decide_eq_false h45) rfl (gSkip (eR rfl) (decide_eq_false h45) rfl (oPickF (eR rfl) (decide_eq_false h45) eC (oMov eZ (gSkip eZ rfl rfl (gSkip (eR rfl) rfl rfl (gSkip (eR rfl) rfl rfl (gSkipU eZ rfl (gSkipU (eR rfl) rfl (gSkipU (eR rfl) rfl (gSkipU (eR rfl) rfl (gSkip (eR rfl) rfl rfl (oPickF (eR rfl) rfl eC (oMov eZ (gSkip eZ rfl rfl (gSkip (eR rfl) rfl rfl (gSkip (eR rfl) rfl rfl (gSkip (eR rfl) rfl rfl (oPickF (eR rfl) rfl eC (oMov eZ (gSkip eZ rfl rfl (gSkip (eR rfl) rfl rfl (gSkip (eR rfl) rfl rfl (gSkip (eR rfl) rfl rfl (oPickF (eR rfl) rfl eC (oMov eZ (xQ (AW.weaken (wk_mk [64] (kr 2 rfl rfl SL.nil) (BL.drop rfl BL.nil) BK.nil) (AW.ret ?_)))))))))))))))))))))))))))))
            cases H
            exact eE rfl rfl
         ·refine gSkip eZ (nt h24) rfl (gSkip (eR rfl) (nt h24) rfl (gSkip (eR rfl) (nt h24) rfl (gSkipU eZ rfl (gSkipU (eR rfl) rfl (gSkipU (eR rfl) rfl (gSkipU (eR rfl) rfl (gSkip (eR rfl) (nt h24) rfl (oPickF (eR rfl) (nt h24) eC (oMov eZ (gSkip eZ rfl rfl (gSkip (eR rfl) rfl rfl (gSkip (eR rfl) rfl rfl (oPickF (eR rfl) rfl eC (oMov eZ (gSkip eZ rfl rfl (gSkip (eR rfl) rfl rfl (gSkip (eR rfl) rfl rfl (gSkipU eZ rfl (gSkipU (eR rfl) rfl (gSkipU (eR rfl) rfl (gSkipU (eR rfl) rfl (gSkip (eR rfl) rfl rfl (oPickF (eR rfl) rfl eC (oMov eZ (gSkip eZ rfl rfl (gSkip (eR rfl) rfl rfl (gSkip (eR rfl) rfl rfl (gSkip (eR rfl) rfl rfl (oPickF (eR rfl) rfl eC (oMov eZ (gSkip eZ rfl rfl (gSkip (eR rfl) rfl rfl (gSkip (eR rfl) rfl rfl (gSkip (eR rfl) rfl rfl (oPickF (eR rfl) rfl eC (oMov eZ (xQ (AW.weaken (wk_mk [64] (kr 2 rfl rfl SL.nil) (BL.drop rfl BL.nil) BK.nil) ?_))))))))))))))))))))))))))))))))))))))
          refine AW.ret ?_
          cases H
          exact eE rfl rfl
        ·refine gDo eZ (nt h21) (oFaddrN (m := 11) (eR rfl) rfl (gDo (eR rfl) (nt h21) (oLoadV (q := 11) (c := (.d (.sl 2 (List.map d_TCell a1.Writes)))) eZ bZ rfl rfl (gDo (eR rfl) (nt h21) (oLenD eZ (n := a1.Writes.length) (List.length_map _) (gDo (eR rfl) (nt h21) (oEql eZ eC (gDo (eR rfl) h18 (oPickF (eR rfl) (nt h21) eZ (oPickT (eR rfl) h18 eZ (oMov eZ ?_)))))))))))
         rcases oite H with ⟨h63, H⟩ | ⟨h63, H⟩
         ·refine gDo eZ (decide_eq_true h63) (oFaddrN (m := 12) (eR rfl) rfl (gDo (eR rfl) (decide_eq_true h63) (oLoadV (q := 12) (c := (.d (.sl 2 (List.map d_TCell a1.Cells)))) eZ bZ rfl rfl (gDo (eR rfl) (decide_eq_true h63) ?_))))
          obtain ⟨v64, h65, H⟩ := obind H
          refine oCall (u := (oB v64)) eC Cl.fn (c_impl_StoreOk h65) (Evs.cons eZ Evs.nil) (VDs.cons VD.plain VDs.nil) rfl (oPickT (eR rfl) (decide_eq_true h63) eZ (oMov eZ ?_))
          rcases oite H with ⟨h66, H⟩ | ⟨h66, H⟩
          ·refine gDo eZ h66 (oMov (eR rfl) (gDo (eR rfl) h66 ?_))
           obtain ⟨v67, h68, H⟩ := obind H
           refine oCall (u := (oB v67)) eC Cl.fn (c_impl_has h68) (Evs.cons eZ (Evs.cons eC Evs.nil)) (VDs.cons VD.plain (VDs.cons VD.plain VDs.nil)) rfl (gDo (eR rfl) h66 (oMov eZ ?_))
           rcases oite H with ⟨h69, H⟩ | ⟨h69, H⟩
           ·refine gSkip eZ h69 rfl (gSkip (eR rfl) h69 rfl (gSkip (eR rfl) h69 rfl (gSkip (eR rfl) h69 rfl (gDo (eR rfl) h66 (oPickT (eR rfl) h69 eC (oPickT (eR rfl) h66 eZ (oMov eZ (gDo eZ rfl (oFaddrN (m := 13) (eR rfl) rfl (gDo (eR rfl) rfl (oLoadV (q := 13) (c := (.d (.sl 4 (List.map d_TShare a1.Shares)))) eZ bZ rfl rfl (gDo (eR rfl) rfl ?_))))))))))))
            obtain ⟨v70, h71, H⟩ := obind H
            refine oCall (u := (oB v70)) eC Cl.fn (c_impl_SharesOk h71) (Evs.cons eZ Evs.nil) (VDs.cons VD.plain VDs.nil) rfl (oPickT (eR rfl) rfl eZ (oMov eZ ?_))
            rcases oite H with ⟨h72, H⟩ | ⟨h72, H⟩
            ·refine gDo eZ h72 (oMov (eR rfl) (gDo (eR rfl) h72 ?_))
             obtain ⟨v73, h74, H⟩ := obind H
             refine oCall (u := (oB v73)) eC Cl.fn (c_impl_has h74) (Evs.cons eZ (Evs.cons eC Evs.nil)) (VDs.cons VD.plain (VDs.cons VD.plain VDs.nil)) rfl (gDo (eR rfl) h72 (oMov eZ ?_))
             rcases oite H with ⟨h75, H⟩ | ⟨h75, H⟩
             ·refine gSkip eZ h75 rfl (gSkip (eR rfl) h75 rfl (gSkip (eR rfl) h75 rfl (gSkip (eR rfl) h75 rfl (gDo (eR rfl) h72 (oPickT (eR rfl) h75 eC (oPickT (eR rfl) h72 eZ (oMov eZ (gDo eZ rfl (oFaddrN (m := 13) (eR rfl) rfl (gDo (eR rfl) rfl (oLoadV (q := 13) (c := (.d (.sl 4 (List.map d_TShare a1.Shares)))) eZ bZ rfl rfl (gDo (eR rfl) rfl ?_))))))))))))
              obtain ⟨v76, h77, H⟩ := obind H
              refine oCall (u := (oB v76)) eC Cl.fn (c_impl_votes h77) (Evs.cons eZ (Evs.cons eC Evs.nil)) (VDs.cons VD.plain (VDs.cons VD.plain VDs.nil)) rfl (gDo (eR rfl) rfl (oInv eZ (oPickT (eR rfl) rfl eZ (oMov eZ ?_))))
              rcases oite H with ⟨h78, H⟩ | ⟨h78, H⟩
              ·refine gSkip eZ (congrArg Bool.not h78) rfl (gSkip (eR rfl) (congrArg Bool.not h78) rfl (gSkip (eR rfl) (congrArg Bool.not h78) rfl (gSkip (eR rfl) (congrArg Bool.not h78) rfl (oPickF (eR rfl) (congrArg Bool.not h78) eC (oMov eZ (xQ (AW.weaken (wk_mk [64] (kr 2 rfl rfl SL.nil) (BL.drop rfl BL.nil) BK.nil) (AW.ret ?_))))))))
               cases H
               exact eE rfl rfl
              ·refine gDo eZ (congrArg Bool.not (nt h78)) (oFaddrN (m := 13) (eR rfl) rfl (gDo (eR rfl) (congrArg Bool.not (nt h78)) (oLoadV (q := 13) (c := (.d (.sl 4 (List.map d_TShare a1.Shares)))) eZ bZ rfl rfl (gDo (eR rfl) (congrArg Bool.not (nt h78)) ?_))))
               obtain ⟨v79, h80, H⟩ := obind H
               refine oCall (u := (oB v79)) eC Cl.fn (c_impl_votes h80) (Evs.cons eZ (Evs.cons eC Evs.nil)) (VDs.cons VD.plain (VDs.cons VD.plain VDs.nil)) rfl (gDo (eR rfl) (congrArg Bool.not (nt h78)) (oInv eZ (oPickT (eR rfl) (congrArg Bool.not (nt h78)) eZ (oMov eZ (xQ (AW.weaken (wk_mk [64] (kr 2 rfl rfl SL.nil) (BL.drop rfl BL.nil) BK.nil) (AW.ret ?_)))))))
               cases H
               exact eE rfl rfl
             ·refine gDo eZ (nt h75) (oFaddrN (m := 13) (eR rfl) rfl (gDo (eR rfl) (nt h75) (oLoadV (q := 13) (c := (.d (.sl 4 (List.map d_TShare a1.Shares)))) eZ bZ rfl rfl (gDo (eR rfl) (nt h75) (oLenD eZ (n := a1.Shares.length) (List.length_map _) (gDo (eR rfl) (nt h75) (oEql eZ eC (gDo (eR rfl) h72 (oPickF (eR rfl) (nt h75) eZ (oPickT (eR rfl) h72 eZ (oMov eZ ?_)))))))))))
              rcases oite H with ⟨h81, H⟩ | ⟨h81, H⟩
              ·refine gDo eZ (decide_eq_true h81) (oFaddrN (m := 13) (eR rfl) rfl (gDo (eR rfl) (decide_eq_true h81) (oLoadV (q := 13) (c := (.d (.sl 4 (List.map d_TShare a1.Shares)))) eZ bZ rfl rfl (gDo (eR rfl) (decide_eq_true h81) ?_))))
               obtain ⟨v82, h83, H⟩ := obind H
               refine oCall (u := (oB v82)) eC Cl.fn (c_impl_votes h83) (Evs.cons eZ (Evs.cons eC Evs.nil)) (VDs.cons VD.plain (VDs.cons VD.plain VDs.nil)) rfl (gDo (eR rfl) (decide_eq_true h81) (oInv eZ (oPickT (eR rfl) (decide_eq_true h81) eZ (oMov eZ ?_))))
               rcases oite H with ⟨h84, H⟩ | ⟨h84, H⟩
               ·refine gSkip eZ (congrArg Bool.not h84) rfl (gSkip (eR rfl) (congrArg Bool.not h84) rfl (gSkip (eR rfl) (congrArg Bool.not h84) rfl (gSkip (eR rfl) (congrArg Bool.not h84) rfl (oPickF (eR rfl) (congrArg Bool.not h84) eC (oMov eZ (xQ (AW.weaken (wk_mk [64] (kr 2 rfl rfl SL.nil) (BL.drop rfl BL.nil) BK.nil) (AW.ret ?_))))))))
                cases H
                exact eE rfl rfl
               ·refine gDo eZ (congrArg Bool.not (nt h84)) (oFaddrN (m := 13) (eR rfl) rfl (gDo (eR rfl) (congrArg Bool.not (nt h84)) (oLoadV (q := 13) (c := (.d (.sl 4 (List.map d_TShare a1.Shares)))) eZ bZ rfl rfl (gDo (eR rfl) (congrArg Bool.not (nt h84)) ?_))))
                obtain ⟨v85, h86, H⟩ := obind H
                refine oCall (u := (oB v85)) eC Cl.fn (c_impl_votes h86) (Evs.cons eZ (Evs.cons eC Evs.nil)) (VDs.cons VD.plain (VDs.cons VD.plain VDs.nil)) rfl (gDo (eR rfl) (congrArg Bool.not (nt h84)) (oInv eZ (oPickT (eR rfl) (congrArg Bool.not (nt h84)) eZ (oMov eZ (xQ (AW.weaken (wk_mk [64] (kr 2 rfl rfl SL.nil) (BL.drop rfl BL.nil) BK.nil) (AW.ret ?_)))))))
                cases H
                exact eE rfl rfl
              ·refine gSkip eZ (decide_eq_false h81) rfl (gSkip (eR rfl) (decide_eq_false h81) rfl (gSkip (eR rfl) (decide_eq_false h81) rfl (gSkip (eR rfl) (decide_eq_false h81) rfl (oPickF (eR rfl) (decide_eq_false h81) eC (oMov eZ (gSkip eZ rfl rfl (gSkip (eR rfl) rfl rfl (gSkip (eR rfl) rfl rfl (gSkip (eR rfl) rfl rfl (oPickF (eR rfl) rfl eC (oMov eZ (xQ (AW.weaken (wk_mk [64] (kr 2 rfl rfl SL.nil) (BL.drop rfl BL.nil) BK.nil) (AW.ret ?_))))))))))))))
               cases H
               exact eE rfl rfl
            ·refine gSkip eZ (nt h72) rfl (gSkip (eR rfl) (nt h72) rfl (gSkip (eR rfl) (nt h72) rfl (gSkipU eZ rfl (gSkipU (eR rfl) rfl (gSkipU (eR rfl) rfl (gSkipU (eR rfl) rfl (gSkip (eR rfl) (nt h72) rfl (oPickF (eR rfl) (nt h72) eC (oMov eZ (gSkip eZ rfl rfl (gSkip (eR rfl) rfl rfl (gSkip (eR rfl) rfl rfl (gSkip (eR rfl) rfl rfl (oPickF (eR rfl) rfl eC (oMov eZ (gSkip eZ rfl rfl (gSkip (eR rfl) rfl rfl (gSkip (eR rfl) rfl rfl (gSkip (eR rfl) rfl rfl (oPickF (eR rfl) rfl eC (oMov eZ (xQ (AW.weaken (wk_mk [64] (kr 2 rfl rfl SL.nil) (BL.drop rfl BL.nil) BK.nil) (AW.ret ?_))))))))))))))))))))))))
             cases H
             exact eE rfl rfl
           ·refine gDo eZ (nt h69) (oFaddrN (m := 12) (eR rfl) rfl (gDo (eR rfl) (nt h69) (oLoadV (q := 12) (c := (.d (.sl 2 (List.map d_TCell a1.Cells)))) eZ bZ rfl rfl (gDo (eR rfl) (nt h69) (oLenD eZ (n := a1.Cells.length) (List.length_map _) (gDo (eR rfl) (nt h69) (oEql eZ eC (gDo (eR rfl) h66 (oPickF (eR rfl) (nt h69) eZ (oPickT (eR rfl) h66 eZ (oMov eZ ?_)))))))))))
            rcases oite H with ⟨h87, H⟩ | ⟨h87, H⟩
            ·refine gDo eZ (decide_eq_true h87) (oFaddrN (m := 13) (eR rfl) rfl (gDo (eR rfl) (decide_eq_true h87) (oLoadV (q := 13) (c := (.d (.sl 4 (List.map d_TShare a1.Shares)))) eZ bZ rfl rfl (gDo (eR rfl) (decide_eq_true h87) ?_))))
             obtain ⟨v88, h89, H⟩ := obind H
             refine oCall (u := (oB v88)) eC Cl.fn (c_impl_SharesOk h89) (Evs.cons eZ Evs.nil) (VDs.cons VD.plain VDs.nil) rfl (oPickT (eR rfl) (decide_eq_true h87) eZ (oMov eZ ?_))
             rcases oite H with ⟨h90, H⟩ | ⟨h90, H⟩
             ·refine gDo eZ h90 (oMov (eR rfl) (gDo (eR rfl) h90 ?_))
              obtain ⟨v91, h92, H⟩ := obind H
              refine oCall (u := (oB v91)) eC Cl.fn (c_impl_has h92) (Evs.cons eZ (Evs.cons eC Evs.nil)) (VDs.cons VD.plain (VDs.cons VD.plain VDs.nil)) rfl (gDo (eR rfl) h90 (oMov eZ ?_))
              rcases oite H with ⟨h93, H⟩ | ⟨h93, H⟩
              ·refine gSkip eZ h93 rfl (gSkip (eR rfl) h93 rfl (gSkip (eR rfl) h93 rfl (gSkip (eR rfl) h93 rfl (gDo (eR rfl) h90 (oPickT (eR rfl) h93 eC (oPickT (eR rfl) h90 eZ (oMov eZ (gDo eZ rfl (oFaddrN (m := 13) (eR rfl) rfl (gDo (eR rfl) rfl (oLoadV (q := 13) (c := (.d (.sl 4 (List.map d_TShare a1.Shares)))) eZ bZ rfl rfl (gDo (eR rfl) rfl ?_))))))))))))
               obtain ⟨v94, h95, H⟩ := obind H
               refine oCall (u := (oB v94)) eC Cl.fn (c_impl_votes h95) (Evs.cons eZ (Evs.cons eC Evs.nil)) (VDs.cons VD.plain (VDs.cons VD.plain VDs.nil)) rfl (gDo (eR rfl) rfl (oInv eZ (oPickT (eR rfl) rfl eZ (oMov eZ ?_))))
               rcases oite H with ⟨h96, H⟩ | ⟨h96, H⟩
               ·refine gSkip eZ (congrArg Bool.not h96) rfl (gSkip (eR rfl) (congrArg Bool.not h96) rfl (gSkip (eR rfl) (congrArg Bool.not h96) rfl (gSkip (eR rfl) (congrArg Bool.not h96) rfl (oPickF (eR rfl) (congrArg Bool.not h96) eC (oMov eZ (xQ (AW.weaken (wk_mk [64] (kr 2 rfl rfl SL.nil) (BL.drop rfl BL.nil) BK.nil) (AW.ret ?_))))))))
                cases H
                exact eE rfl rfl
               ·refine gDo eZ (congrArg Bool.not (nt h96)) (oFaddrN (m := 13) (eR rfl) rfl (gDo (eR rfl) (congrArg Bool.not (nt h96)) (oLoadV (q := 13) (c := (.d (.sl 4 (List.map d_TShare a1.Shares)))) eZ bZ rfl rfl (gDo (eR rfl) (congrArg Bool.not (nt h96)) ?_))))
                obtain ⟨v97, h98, H⟩ := obind H
                refine oCall (u := (oB v97)) eC Cl.fn (c_impl_votes h98) (Evs.cons eZ (Evs.cons eC Evs.nil)) (VDs.cons VD.plain (VDs.cons VD.plain VDs.nil)) rfl (gDo (eR rfl) (congrArg Bool.not (nt h96)) (oInv eZ (oPickT (eR rfl) (congrArg Bool.not (nt h96)) eZ (oMov eZ (xQ (AW.weaken (wk_mk [64] (kr 2 rfl rfl SL.nil) (BL.drop rfl BL.nil) BK.nil) (AW.ret ?_)))))))
                cases H
                exact eE rfl rfl
              ·refine gDo eZ (nt h93) (oFaddrN (m := 13) (eR rfl) rfl (gDo (eR rfl) (nt h93) (oLoadV (q := 13) (c := (.d (.sl 4 (List.map d_TShare a1.Shares)))) eZ bZ rfl rfl (gDo (eR rfl) (nt h93) (oLenD eZ (n := a1.Shares.length) (List.length_map _) (gDo (eR rfl) (nt h93) (oEql eZ eC (gDo (eR rfl) h90 (oPickF (eR rfl) (nt h93) eZ (oPickT (eR rfl) h90 eZ (oMov eZ ?_)))))))))))
               rcases oite H with ⟨h99, H⟩ | ⟨h99, H⟩
               ·refine gDo eZ (decide_eq_true h99) (oFaddrN (m := 13) (eR rfl) rfl (gDo (eR rfl) (decide_eq_true h99) (oLoadV (q := 13) (c := (.d (.sl 4 (List.map d_TShare a1.Shares)))) eZ bZ rfl rfl (gDo (eR rfl) (decide_eq_true h99) ?_))))
                obtain ⟨v100, h101, H⟩ := obind H
                refine oCall (u := (oB v100)) eC Cl.fn (c_impl_votes h101) (Evs.cons eZ (Evs.cons eC Evs.nil)) (VDs.cons VD.plain (VDs.cons VD.plain VDs.nil)) rfl (gDo (eR rfl) (decide_eq_true h99) (oInv eZ (oPickT (eR rfl) (decide_eq_true h99) eZ (oMov eZ ?_))))
                rcases oite H with ⟨h102, H⟩ | ⟨h102, H⟩
                ·refine gSkip eZ (congrArg Bool.not h102) rfl (gSkip (eR rfl) (congrArg Bool.not h102) rfl (gSkip (eR rfl) (congrArg Bool.not h102) rfl (gSkip (eR rfl) (congrArg Bool.not h102) rfl (oPickF (eR rfl) (congrArg Bool.not h102) eC (oMov eZ (xQ (AW.weaken (wk_mk [64] (kr 2 rfl rfl SL.nil) (BL.drop rfl BL.nil) BK.nil) (AW.ret ?_))))))))
                 cases H
                 exact eE rfl rfl
                ·refine gDo eZ (congrArg Bool.not (nt h102)) (oFaddrN (m := 13) (eR rfl) rfl (gDo (eR rfl) (congrArg Bool.not (nt h102)) (oLoadV (q := 13) (c := (.d (.sl 4 (List.map d_TShare a1.Shares)))) eZ bZ rfl rfl (gDo (eR rfl) (congrArg Bool.not (nt h102)) ?_))))
                 obtain ⟨v103, h104, H⟩ := obind H
                 refine oCall (u := (oB v103)) eC Cl.fn (c_impl_votes h104) (Evs.cons eZ (Evs.cons eC Evs.nil)) (VDs.cons VD.plain (VDs.cons VD.plain VDs.nil)) rfl (gDo (eR rfl) (congrArg Bool.not (nt h102)) (oInv eZ (oPickT (eR rfl) (congrArg Bool.not (nt h102)) eZ (oMov eZ (xQ (AW.weaken (wk_mk [64] (kr 2 rfl rfl SL.nil) (BL.drop rfl BL.nil) BK.nil) (AW.ret ?_)))))))
                 cases H
                 exact eE rfl rfl
               ·refine gSkip eZ (decide_eq_false h99) rfl (gSkip (eR rfl) (decide_eq_false h99) rfl (gSkip (eR rfl) (decide_eq_false h99) rfl (gSkip (eR rfl) (decide_eq_false h99) rfl (oPickF (eR rfl) (decide_eq_false h99) eC (oMov eZ (gSkip eZ rfl rfl (gSkip (eR rfl) rfl rfl (gSkip (eR rfl) rfl rfl (gSkip (eR rfl) rfl rfl (oPickF (eR rfl) rfl eC (oMov eZ (xQ (AW.weaken (wk_mk [64] (kr 2 rfl rfl SL.nil) (BL.drop rfl BL.nil) BK.nil) (AW.ret ?_))))))))))))))
                cases H
                exact eE rfl rfl
             ·refine gSkip eZ (nt h90) rfl (gSkip (eR rfl) (nt h90) rfl (gSkip (eR rfl) (nt h90) rfl (gSkipU eZ rfl (gSkipU (eR rfl) rfl (gSkipU (eR rfl) rfl (gSkipU (eR rfl) rfl (gSkip (eR rfl) (nt h90) rfl (oPickF (eR rfl) (nt h90) eC (oMov eZ (gSkip eZ rfl rfl (gSkip (eR rfl) rfl rfl (gSkip (eR rfl) rfl rfl (gSkip (eR rfl) rfl rfl (oPickF (eR rfl) rfl eC (oMov eZ (gSkip eZ rfl rfl (gSkip (eR rfl) rfl rfl (gSkip (eR rfl) rfl rfl (gSkip (eR rfl) rfl rfl (oPickF (eR rfl) rfl eC (oMov eZ (xQ (AW.weaken (wk_mk [64] (kr 2 rfl rfl SL.nil) (BL.drop rfl BL.nil) BK.nil) (AW.ret ?_))))))))))))))))))))))))
              cases H
              exact eE rfl rfl
            ·refine gSkip eZ (decide_eq_false h87) rfl (gSkip (eR rfl) (decide_eq_false h87) rfl (gSkip (eR rfl) (decide_eq_false h87) rfl (oPickF (eR rfl) (decide_eq_false h87) eC (oMov eZ (gSkip eZ rfl rfl (gSkip (eR rfl) rfl rfl (gSkip (eR rfl) rfl rfl (gSkipU eZ rfl (gSkipU (eR rfl) rfl (gSkipU (eR rfl) rfl (gSkipU (eR rfl) rfl (gSkip (eR rfl) rfl rfl (oPickF (eR rfl) rfl eC (oMov eZ (gSkip eZ rfl rfl (gSkip (eR rfl) rfl rfl (gSkip (eR rfl) rfl rfl (gSkip (eR rfl) rfl rfl (oPickF (eR rfl) rfl eC (oMov eZ (gSkip eZ rfl rfl (gSkip (eR rfl) rfl rfl (gSkip (eR rfl) rfl rfl (gSkip (eR rfl) rfl rfl (oPickF (eR rfl) rfl eC (oMov eZ (xQ (AW.weaken (wk_mk [64] (kr 2 rfl rfl SL.nil) (BL.drop rfl BL.nil) BK.nil) (AW.ret ?_)))))))))))))))))))))))))))))
             cases H
             exact eE rfl rfl
          ·refine gSkip eZ (nt h66) rfl (gSkip (eR rfl) (nt h66) rfl (gSkip (eR rfl) (nt h66) rfl (gSkipU eZ rfl (gSkipU (eR rfl) rfl (gSkipU (eR rfl) rfl (gSkipU (eR rfl) rfl (gSkip (eR rfl) (nt h66) rfl (oPickF (eR rfl) (nt h66) eC (oMov eZ (gSkip eZ rfl rfl (gSkip (eR rfl) rfl rfl (gSkip (eR rfl) rfl rfl (oPickF (eR rfl) rfl eC (oMov eZ (gSkip eZ rfl rfl (gSkip (eR rfl) rfl rfl (gSkip (eR rfl) rfl rfl (gSkipU eZ rfl (gSkipU (eR rfl) rfl (gSkipU (eR rfl) rfl (gSkipU (eR rfl) rfl (gSkip (eR rfl) rfl rfl (oPickF (eR rfl) rfl eC (oMov eZ (gSkip eZ rfl rfl (gSkip (eR rfl) rfl rfl (gSkip (eR rfl) rfl rfl (gSkip (eR rfl) rfl rfl (oPickF (eR rfl) rfl eC (oMov eZ (gSkip eZ rfl rfl (gSkip (eR rfl) rfl rfl (gSkip (eR rfl) rfl rfl (gSkip (eR rfl) rfl rfl (oPickF (eR rfl) rfl eC (oMov eZ (xQ (AW.weaken (wk_mk [64] (kr 2 rfl rfl SL.nil) (BL.drop rfl BL.nil) BK.nil) ?_))))))))))))))))))))))))))))))))))))))
           refine AW.ret ?_
           cases H
           exact eE rfl rfl
         ·refine gSkip eZ (decide_eq_false h63) rfl (gSkip (eR rfl) (decide_eq_false h63) rfl (gSkip (eR rfl) (decide_eq_false h63) rfl (oPickF (eR rfl) (decide_eq_false h63) eC (oMov eZ (gSkip eZ rfl rfl (gSkip (eR rfl) rfl rfl (gSkip (eR rfl) rfl rfl (gSkipU eZ rfl (gSkipU (eR rfl) rfl (gSkipU (eR rfl) rfl (gSkipU (eR rfl) rfl (gSkip (eR rfl) rfl rfl (oPickF (eR rfl) rfl eC (oMov eZ (gSkip eZ rfl rfl (gSkip (eR rfl) rfl rfl (gSkip (eR rfl) rfl rfl (oPickF (eR rfl) rfl eC (oMov eZ (gSkip eZ rfl rfl (gSkip (eR rfl) rfl rfl (gSkip (eR rfl) rfl rfl (gSkipU eZ rfl (gSkipU (eR rfl) rfl (gSkipU (eR rfl) rfl (gSkipU (eR rfl) rfl (gSkip (eR rfl) rfl rfl (oPickF (eR rfl) rfl eC (oMov eZ (gSkip eZ rfl rfl (gSkip (eR rfl) rfl rfl (gSkip (eR rfl) rfl rfl (gSkip (eR rfl) rfl rfl (oPickF (eR rfl) rfl eC (oMov eZ (gSkip eZ rfl rfl (gSkip (eR rfl) rfl rfl (gSkip (eR rfl) rfl rfl (gSkip (eR rfl) rfl rfl ?_)))))))))))))))))))))))))))))))))))))))
          refine oPickF (eR rfl) rfl eC (oMov eZ (xQ (AW.weaken (wk_mk [64] (kr 2 rfl rfl SL.nil) (BL.drop rfl BL.nil) BK.nil) (AW.ret ?_))))
          cases H
          exact eE rfl rfl
       ·refine gSkip eZ (nt h18) rfl (gSkip (eR rfl) (nt h18) rfl (gSkip (eR rfl) (nt h18) rfl (gSkipU eZ rfl (gSkipU (eR rfl) rfl (gSkipU (eR rfl) rfl (gSkipU (eR rfl) rfl (gSkip (eR rfl) (nt h18) rfl (oPickF (eR rfl) (nt h18) eC (oMov eZ (gSkip eZ rfl rfl (gSkip (eR rfl) rfl rfl (gSkip (eR rfl) rfl rfl (oPickF (eR rfl) rfl eC (oMov eZ (gSkip eZ rfl rfl (gSkip (eR rfl) rfl rfl (gSkip (eR rfl) rfl rfl (gSkipU eZ rfl (gSkipU (eR rfl) rfl (gSkipU (eR rfl) rfl (gSkipU (eR rfl) rfl (gSkip (eR rfl) rfl rfl (oPickF (eR rfl) rfl eC (oMov eZ (gSkip eZ rfl rfl (gSkip (eR rfl) rfl rfl (gSkip (eR rfl) rfl rfl (oPickF (eR rfl) rfl eC (oMov eZ (gSkip eZ rfl rfl (gSkip (eR rfl) rfl rfl (gSkip (eR rfl) rfl rfl (gSkipU eZ rfl (gSkipU (eR rfl) rfl (gSkipU (eR rfl) rfl (gSkipU (eR rfl) rfl (gSkip (eR rfl) rfl rfl (oPickF (eR rfl) rfl eC (oMov eZ ?_)))))))))))))))))))))))))))))))))))))))
        refine gSkip eZ rfl rfl (gSkip (eR rfl) rfl rfl (gSkip (eR rfl) rfl rfl (gSkip (eR rfl) rfl rfl (oPickF (eR rfl) rfl eC (oMov eZ (gSkip eZ rfl rfl (gSkip (eR rfl) rfl rfl (gSkip (eR rfl) rfl rfl (gSkip (eR rfl) rfl rfl (oPickF (eR rfl) rfl eC (oMov eZ (xQ (AW.weaken (wk_mk [64] (kr 2 rfl rfl SL.nil) (BL.drop rfl BL.nil) BK.nil) (AW.ret ?_))))))))))))))
        cases H
        exact eE rfl rfl
      ·refine gDo eZ (nt h15) (oFaddrN (m := 10) (eR rfl) rfl (gDo (eR rfl) (nt h15) (oLoadV (q := 10) (c := (.d (.sl 2 (List.map d_TRange a1.Reads)))) eZ bZ rfl rfl (gDo (eR rfl) (nt h15) (oLenD eZ (n := a1.Reads.length) (List.length_map _) (gDo (eR rfl) (nt h15) (oEql eZ eC (gDo (eR rfl) h12 (oPickF (eR rfl) (nt h15) eZ (oPickT (eR rfl) h12 eZ (oMov eZ ?_)))))))))))
       rcases oite H with ⟨h105, H⟩ | ⟨h105, H⟩
       ·refine gDo eZ (decide_eq_true h105) (oFaddrN (m := 11) (eR rfl) rfl (gDo (eR rfl) (decide_eq_true h105) (oLoadV (q := 11) (c := (.d (.sl 2 (List.map d_TCell a1.Writes)))) eZ bZ rfl rfl (gDo (eR rfl) (decide_eq_true h105) ?_))))
        obtain ⟨v106, h107, H⟩ := obind H
        refine oCall (u := (oB v106)) eC Cl.fn (c_impl_WritesOk h107) (Evs.cons eZ Evs.nil) (VDs.cons VD.plain VDs.nil) rfl (oPickT (eR rfl) (decide_eq_true h105) eZ (oMov eZ ?_))
        rcases oite H with ⟨h108, H⟩ | ⟨h108, H⟩
        ·refine gDo eZ h108 (oMov (eR rfl) (gDo (eR rfl) h108 ?_))
         obtain ⟨v109, h110, H⟩ := obind H
         refine oCall (u := (oB v109)) eC Cl.fn (c_impl_has h110) (Evs.cons eZ (Evs.cons eC Evs.nil)) (VDs.cons VD.plain (VDs.cons VD.plain VDs.nil)) rfl (gDo (eR rfl) h108 (oMov eZ ?_))
         rcases oite H with ⟨h111, H⟩ | ⟨h111, H⟩
         ·refine gSkip eZ h111 rfl (gSkip (eR rfl) h111 rfl (gSkip (eR rfl) h111 rfl (gSkip (eR rfl) h111 rfl (gDo (eR rfl) h108 (oPickT (eR rfl) h111 eC (oPickT (eR rfl) h108 eZ (oMov eZ (gDo eZ rfl (oFaddrN (m := 12) (eR rfl) rfl (gDo (eR rfl) rfl (oLoadV (q := 12) (c := (.d (.sl 2 (List.map d_TCell a1.Cells)))) eZ bZ rfl rfl (gDo (eR rfl) rfl ?_))))))))))))
          obtain ⟨v112, h113, H⟩ := obind H
          refine oCall (u := (oB v112)) eC Cl.fn (c_impl_StoreOk h113) (Evs.cons eZ Evs.nil) (VDs.cons VD.plain VDs.nil) rfl (oPickT (eR rfl) rfl eZ (oMov eZ ?_))
          rcases oite H with ⟨h114, H⟩ | ⟨h114, H⟩
          ·refine gDo eZ h114 (oMov (eR rfl) (gDo (eR rfl) h114 ?_))
           obtain ⟨v115, h116, H⟩ := obind H
           refine oCall (u := (oB v115)) eC Cl.fn (c_impl_has h116) (Evs.cons eZ (Evs.cons eC Evs.nil)) (VDs.cons VD.plain (VDs.cons VD.plain VDs.nil)) rfl (gDo (eR rfl) h114 (oMov eZ ?_))
           rcases oite H with ⟨h117, H⟩ | ⟨h117, H⟩
           ·refine gSkip eZ h117 rfl (gSkip (eR rfl) h117 rfl (gSkip (eR rfl) h117 rfl (gSkip (eR rfl) h117 rfl (gDo (eR rfl) h114 (oPickT (eR rfl) h117 eC (oPickT (eR rfl) h114 eZ (oMov eZ (gDo eZ rfl (oFaddrN (m := 13) (eR rfl) rfl (gDo (eR rfl) rfl (oLoadV (q := 13) (c := (.d (.sl 4 (List.map d_TShare a1.Shares)))) eZ bZ rfl rfl (gDo (eR rfl) rfl ?_))))))))))))
            obtain ⟨v118, h119, H⟩ := obind H
            refine oCall (u := (oB v118)) eC Cl.fn (c_impl_SharesOk h119) (Evs.cons eZ Evs.nil) (VDs.cons VD.plain VDs.nil) rfl (oPickT (eR rfl) rfl eZ (oMov eZ ?_))
            rcases oite H with ⟨h120, H⟩ | ⟨h120, H⟩
            ·refine gDo eZ h120 (oMov (eR rfl) (gDo (eR rfl) h120 ?_))
             obtain ⟨v121, h122, H⟩ := obind H
             refine oCall (u := (oB v121)) eC Cl.fn (c_impl_has h122) (Evs.cons eZ (Evs.cons eC Evs.nil)) (VDs.cons VD.plain (VDs.cons VD.plain VDs.nil)) rfl (gDo (eR rfl) h120 (oMov eZ ?_))
             rcases oite H with ⟨h123, H⟩ | ⟨h123, H⟩
             ·refine gSkip eZ h123 rfl (gSkip (eR rfl) h123 rfl (gSkip (eR rfl) h123 rfl (gSkip (eR rfl) h123 rfl (gDo (eR rfl) h120 (oPickT (eR rfl) h123 eC (oPickT (eR rfl) h120 eZ (oMov eZ (gDo eZ rfl (oFaddrN (m := 13) (eR rfl) rfl (gDo (eR rfl) rfl (oLoadV (q := 13) (c := (.d (.sl 4 (List.map d_TShare a1.Shares)))) eZ bZ rfl rfl (gDo (eR rfl) rfl ?_))))))))))))
              obtain ⟨v124, h125, H⟩ := obind H
              refine oCall (u := (oB v124)) eC Cl.fn (c_impl_votes h125) (Evs.cons eZ (Evs.cons eC Evs.nil)) (VDs.cons VD.plain (VDs.cons VD.plain VDs.nil)) rfl (gDo (eR rfl) rfl (oInv eZ (oPickT (eR rfl) rfl eZ (oMov eZ ?_))))
              rcases oite H with ⟨h126, H⟩ | ⟨h126, H⟩
              ·refine gSkip eZ (congrArg Bool.not h126) rfl (gSkip (eR rfl) (congrArg Bool.not h126) rfl (gSkip (eR rfl) (congrArg Bool.not h126) rfl (gSkip (eR rfl) (congrArg Bool.not h126) rfl (oPickF (eR rfl) (congrArg Bool.not h126) eC (oMov eZ (xQ (AW.weaken (wk_mk [64] (kr 2 rfl rfl SL.nil) (BL.drop rfl BL.nil) BK.nil) (AW.ret ?_))))))))
               cases H
               exact eE rfl rfl
              ·refine gDo eZ (congrArg Bool.not (nt h126)) (oFaddrN (m := 13) (eR rfl) rfl (gDo (eR rfl) (congrArg Bool.not (nt h126)) (oLoadV (q := 13) (c := (.d (.sl 4 (List.map d_TShare a1.Shares)))) eZ bZ rfl rfl (gDo (eR rfl) (congrArg Bool.not (nt h126)) ?_))))
               obtain ⟨v127, h128, H⟩ := obind H
               refine oCall (u := (oB v127)) eC Cl.fn (c_impl_votes h128) (Evs.cons eZ (Evs.cons eC Evs.nil)) (VDs.cons VD.plain (VDs.cons VD.plain VDs.nil)) rfl (gDo (eR rfl) (congrArg Bool.not (nt h126)) (oInv eZ (oPickT (eR rfl) (congrArg Bool.not (nt h126)) eZ (oMov eZ (xQ (AW.weaken (wk_mk [64] (kr 2 rfl rfl SL.nil) (BL.drop rfl BL.nil) BK.nil) (AW.ret ?_)))))))
               cases H
               exact eE rfl rfl
             ·refine gDo eZ (nt h123) (oFaddrN (m := 13) (eR rfl) rfl (gDo (eR rfl) (nt h123) (oLoadV (q := 13) (c := (.d (.sl 4 (List.map d_TShare a1.Shares)))) eZ bZ rfl rfl (gDo (eR rfl) (nt h123) (oLenD eZ (n := a1.Shares.length) (List.length_map _) (gDo (eR rfl) (nt h123) (oEql eZ eC (gDo (eR rfl) h120 (oPickF (eR rfl) (nt h123) eZ (oPickT (eR rfl) h120 eZ (oMov eZ ?_)))))))))))
              rcases oite H with ⟨h129, H⟩ | ⟨h129, H⟩
              ·refine gDo eZ (decide_eq_true h129) (oFaddrN (m := 13) (eR rfl) rfl (gDo (eR rfl) (decide_eq_true h129) (oLoadV (q := 13) (c := (.d (.sl 4 (List.map d_TShare a1.Shares)))) eZ bZ rfl rfl (gDo (eR rfl) (decide_eq_true h129) ?_))))
               obtain ⟨v130, h131, H⟩ := obind H
               refine oCall (u := (oB v130)) eC Cl.fn (c_impl_votes h131) (Evs.cons eZ (Evs.cons eC Evs.nil)) (VDs.cons VD.plain (VDs.cons VD.plain VDs.nil)) rfl (gDo (eR rfl) (decide_eq_true h129) (oInv eZ (oPickT (eR rfl) (decide_eq_true h129) eZ (oMov eZ ?_))))
               rcases oite H with ⟨h132, H⟩ | ⟨h132, H⟩
               ·refine gSkip eZ (congrArg Bool.not h132) rfl (gSkip (eR rfl) (congrArg Bool.not h132) rfl (gSkip (eR rfl) (congrArg Bool.not h132) rfl (gSkip (eR rfl) (congrArg Bool.not h132) rfl (oPickF (eR rfl) (congrArg Bool.not h132) eC (oMov eZ (xQ (AW.weaken (wk_mk [64] (kr 2 rfl rfl SL.nil) (BL.drop rfl BL.nil) BK.nil) (AW.ret ?_))))))))
                cases H
                exact eE rfl rfl
               ·refine gDo eZ (congrArg Bool.not (nt h132)) (oFaddrN (m := 13) (eR rfl) rfl (gDo (eR rfl) (congrArg Bool.not (nt h132)) (oLoadV (q := 13) (c := (.d (.sl 4 (List.map d_TShare a1.Shares)))) eZ bZ rfl rfl (gDo (eR rfl) (congrArg Bool.not (nt h132)) ?_))))
                obtain ⟨v133, h134, H⟩ := obind H
                refine oCall (u := (oB v133)) eC Cl.fn (c_impl_votes h134) (Evs.cons eZ (Evs.cons eC Evs.nil)) (VDs.cons VD.plain (VDs.cons VD.plain VDs.nil)) rfl (gDo (eR rfl) (congrArg Bool.not (nt h132)) (oInv eZ (oPickT (eR rfl) (congrArg Bool.not (nt h132)) eZ (oMov eZ (xQ (AW.weaken (wk_mk [64] (kr 2 rfl rfl SL.nil) (BL.drop rfl BL.nil) BK.nil) (AW.ret ?_)))))))
                cases H
                exact eE rfl rfl
              ·refine gSkip eZ (decide_eq_false h129) rfl (gSkip (eR rfl) (decide_eq_false h129) rfl (gSkip (eR rfl) (decide_eq_false h129) rfl (gSkip (eR rfl) (decide_eq_false h129) rfl (oPickF (eR rfl) (decide_eq_false h129) eC (oMov eZ (gSkip eZ rfl rfl (gSkip (eR rfl) rfl rfl (gSkip (eR rfl) rfl rfl (gSkip (eR rfl) rfl rfl (oPickF (eR rfl) rfl eC (oMov eZ (xQ (AW.weaken (wk_mk [64] (kr 2 rfl rfl SL.nil) (BL.drop rfl BL.nil) BK.nil) (AW.ret ?_))))))))))))))
               cases H
               exact eE rfl rfl
            ·refine gSkip eZ (nt h120) rfl (gSkip (eR rfl) (nt h120) rfl (gSkip (eR rfl) (nt h120) rfl (gSkipU eZ rfl (gSkipU (eR rfl) rfl (gSkipU (eR rfl) rfl (gSkipU (eR rfl) rfl (gSkip (eR rfl) (nt h120) rfl (oPickF (eR rfl) (nt h120) eC (oMov eZ (gSkip eZ rfl rfl (gSkip (eR rfl) rfl rfl (gSkip (eR rfl) rfl rfl (gSkip (eR rfl) rfl rfl (oPickF (eR rfl) rfl eC (oMov eZ (gSkip eZ rfl rfl (gSkip (eR rfl) rfl rfl (gSkip (eR rfl) rfl rfl (gSkip (eR rfl) rfl rfl (oPickF (eR rfl) rfl eC (oMov eZ (xQ (AW.weaken (wk_mk [64] (kr 2 rfl rfl SL.nil) (BL.drop rfl BL.nil) BK.nil) (AW.ret ?_))))))))))))))))))))))))
             cases H
             exact eE rfl rfl
           ·refine gDo eZ (nt h117) (oFaddrN (m := 12) (eR rfl) rfl (gDo (eR rfl) (nt h117) (oLoadV (q := 12) (c := (.d (.sl 2 (List.map d_TCell a1.Cells)))) eZ bZ rfl rfl (gDo (eR rfl) (nt h117) (oLenD eZ (n := a1.Cells.length) (List.length_map _) (gDo (eR rfl) (nt h117) (oEql eZ eC (gDo (eR rfl) h114 (oPickF (eR rfl) (nt h117) eZ (oPickT (eR rfl) h114 eZ (oMov eZ ?_)))))))))))
            rcases oite H with ⟨h135, H⟩ | ⟨h135, H⟩
            ·refine gDo eZ (decide_eq_true h135) (oFaddrN (m := 13) (eR rfl) rfl (gDo (eR rfl) (decide_eq_true h135) (oLoadV (q := 13) (c := (.d (.sl 4 (List.map d_TShare a1.Shares)))) eZ bZ rfl rfl (gDo (eR rfl) (decide_eq_true h135) ?_))))
             obtain ⟨v136, h137, H⟩ := obind H
             refine oCall (u := (oB v136)) eC Cl.fn (c_impl_SharesOk h137) (Evs.cons eZ Evs.nil) (VDs.cons VD.plain VDs.nil) rfl (oPickT (eR rfl) (decide_eq_true h135) eZ (oMov eZ ?_))
             rcases oite H with ⟨h138, H⟩ | ⟨h138, H⟩
             ·refine gDo eZ h138 (oMov (eR rfl) (gDo (eR rfl) h138 ?_))
              obtain ⟨v139, h140, H⟩ := obind H
              refine oCall (u := (oB v139)) eC Cl.fn (c_impl_has h140) (Evs.cons eZ (Evs.cons eC Evs.nil)) (VDs.cons VD.plain (VDs.cons VD.plain VDs.nil)) rfl (gDo (eR rfl) h138 (oMov eZ ?_))
              rcases oite H with ⟨h141, H⟩ | ⟨h141, H⟩
              ·refine gSkip eZ h141 rfl (gSkip (eR rfl) h141 rfl (gSkip (eR rfl) h141 rfl (gSkip (eR rfl) h141 rfl (gDo (eR rfl) h138 (oPickT (eR rfl) h141 eC (oPickT (eR rfl) h138 eZ (oMov eZ (gDo eZ rfl (oFaddrN (m := 13) (eR rfl) rfl (gDo (eR rfl) rfl (oLoadV (q := 13) (c := (.d (.sl 4 (List.map d_TShare a1.Shares)))) eZ bZ rfl rfl (gDo (eR rfl) rfl ?_))))))))))))
               obtain ⟨v142, h143, H⟩ := obind H
               refine oCall (u := (oB v142)) eC Cl.fn (c_impl_votes h143) (Evs.cons eZ (Evs.cons eC Evs.nil)) (VDs.cons VD.plain (VDs.cons VD.plain VDs.nil)) rfl (gDo (eR rfl) rfl (oInv eZ (oPickT (eR rfl) rfl eZ (oMov eZ ?_))))
               rcases oite H with ⟨h144, H⟩ | ⟨h144, H⟩
               ·refine gSkip eZ (congrArg Bool.not h144) rfl (gSkip (eR rfl) (congrArg Bool.not h144) rfl (gSkip (eR rfl) (congrArg Bool.not h144) rfl (gSkip (eR rfl) (congrArg Bool.not h144) rfl (oPickF (eR rfl) (congrArg Bool.not h144) eC (oMov eZ (xQ (AW.weaken (wk_mk [64] (kr 2 rfl rfl SL.nil) (BL.drop rfl BL.nil) BK.nil) (AW.ret ?_))))))))
                cases H
                exact eE rfl rfl
               ·refine gDo eZ (congrArg Bool.not (nt h144)) (oFaddrN (m := 13) (eR rfl) rfl (gDo (eR rfl) (congrArg Bool.not (nt h144)) (oLoadV (q := 13) (c := (.d (.sl 4 (List.map d_TShare a1.Shares)))) eZ bZ rfl rfl (gDo (eR rfl) (congrArg Bool.not (nt h144)) ?_))))
                obtain ⟨v145, h146, H⟩ := obind H
                refine oCall (u := (oB v145)) eC Cl.fn (c_impl_votes h146) (Evs.cons eZ (Evs.cons eC Evs.nil)) (VDs.cons VD.plain (VDs.cons VD.plain VDs.nil)) rfl (gDo (eR rfl) (congrArg Bool.not (nt h144)) (oInv eZ (oPickT (eR rfl) (congrArg Bool.not (nt h144)) eZ (oMov eZ (xQ (AW.weaken (wk_mk [64] (kr 2 rfl rfl SL.nil) (BL.drop rfl BL.nil) BK.nil) (AW.ret ?_)))))))
                cases H
                exact eE rfl rfl
              ·refine gDo eZ (nt h141) (oFaddrN (m := 13) (eR rfl) rfl (gDo (eR rfl) (nt h141) (oLoadV (q := 13) (c := (.d (.sl 4 (List.map d_TShare a1.Shares)))) eZ bZ rfl rfl (gDo (eR rfl) (nt h141) (oLenD eZ (n := a1.Shares.length) (List.length_map _) (gDo (eR rfl) (nt h141) (oEql eZ eC (gDo (eR rfl) h138 (oPickF (eR rfl) (nt h141) eZ (oPickT (eR rfl) h138 eZ (oMov eZ ?_)))))))))))
               rcases oite H with ⟨h147, H⟩ | ⟨h147, H⟩
               ·refine gDo eZ (decide_eq_true h147) (oFaddrN (m := 13) (eR rfl) rfl (gDo (eR rfl) (decide_eq_true h147) (oLoadV (q := 13) (c := (.d (.sl 4 (List.map d_TShare a1.Shares)))) eZ bZ rfl rfl (gDo (eR rfl) (decide_eq_true h147) ?_))))
                obtain ⟨v148, h149, H⟩ := obind H
                refine oCall (u := (oB v148)) eC Cl.fn (c_impl_votes h149) (Evs.cons eZ (Evs.cons eC Evs.nil)) (VDs.cons VD.plain (VDs.cons VD.plain VDs.nil)) rfl (gDo (eR rfl) (decide_eq_true h147) (oInv eZ (oPickT (eR rfl) (decide_eq_true h147) eZ (oMov eZ ?_))))
                rcases oite H with ⟨h150, H⟩ | ⟨h150, H⟩
                ·refine gSkip eZ (congrArg Bool.not h150) rfl (gSkip (eR rfl) (congrArg Bool.not h150) rfl (gSkip (eR rfl) (congrArg Bool.not h150) rfl (gSkip (eR rfl) (congrArg Bool.not h150) rfl (oPickF (eR rfl) (congrArg Bool.not h150) eC (oMov eZ (xQ (AW.weaken (wk_mk [64] (kr 2 rfl rfl SL.nil) (BL.drop rfl BL.nil) BK.nil) (AW.ret ?_))))))))
                 cases H
                 exact eE rfl rfl
                ·refine gDo eZ (congrArg Bool.not (nt h150)) (oFaddrN (m := 13) (eR rfl) rfl (gDo (eR rfl) (congrArg Bool.not (nt h150)) (oLoadV (q := 13) (c := (.d (.sl 4 (List.map d_TShare a1.Shares)))) eZ bZ rfl rfl (gDo (eR rfl) (congrArg Bool.not (nt h150)) ?_))))
                 obtain ⟨v151, h152, H⟩ := obind H
                 refine oCall (u := (oB v151)) eC Cl.fn (c_impl_votes h152) (Evs.cons eZ (Evs.cons eC Evs.nil)) (VDs.cons VD.plain (VDs.cons VD.plain VDs.nil)) rfl (gDo (eR rfl) (congrArg Bool.not (nt h150)) (oInv eZ (oPickT (eR rfl) (congrArg Bool.not (nt h150)) eZ (oMov eZ (xQ (AW.weaken (wk_mk [64] (kr 2 rfl rfl SL.nil) (BL.drop rfl BL.nil) BK.nil) (AW.ret ?_)))))))
                 cases H
                 exact eE rfl rfl
               ·refine gSkip eZ (decide_eq_false h147) rfl (gSkip (eR rfl) (decide_eq_false h147) rfl (gSkip (eR rfl) (decide_eq_false h147) rfl (gSkip (eR rfl) (decide_eq_false h147) rfl (oPickF (eR rfl) (decide_eq_false h147) eC (oMov eZ (gSkip eZ rfl rfl (gSkip (eR rfl) rfl rfl (gSkip (eR rfl) rfl rfl (gSkip (eR rfl) rfl rfl (oPickF (eR rfl) rfl eC (oMov eZ (xQ (AW.weaken (wk_mk [64] (kr 2 rfl rfl SL.nil) (BL.drop rfl BL.nil) BK.nil) (AW.ret ?_))))))))))))))
                cases H
                exact eE rfl rfl
             ·refine gSkip eZ (nt h138) rfl (gSkip (eR rfl) (nt h138) rfl (gSkip (eR rfl) (nt h138) rfl (gSkipU eZ rfl (gSkipU (eR rfl) rfl (gSkipU (eR rfl) rfl (gSkipU (eR rfl) rfl (gSkip (eR rfl) (nt h138) rfl (oPickF (eR rfl) (nt h138) eC (oMov eZ (gSkip eZ rfl rfl (gSkip (eR rfl) rfl rfl (gSkip (eR rfl) rfl rfl (gSkip (eR rfl) rfl rfl (oPickF (eR rfl) rfl eC (oMov eZ (gSkip eZ rfl rfl (gSkip (eR rfl) rfl rfl (gSkip (eR rfl) rfl rfl (gSkip (eR rfl) rfl rfl (oPickF (eR rfl) rfl eC (oMov eZ (xQ (AW.weaken (wk_mk [64] (kr 2 rfl rfl SL.nil) (BL.drop rfl BL.nil) BK.nil) (AW.ret ?_))))))))))))))))))))))))
              cases H
              exact eE rfl rfl
            ·refine gSkip eZ (decide_eq_false h135) rfl (gSkip (eR rfl) (decide_eq_false h135) rfl (gSkip (eR rfl) (decide_eq_false h135) rfl (oPickF (eR rfl) (decide_eq_false h135) eC (oMov eZ (gSkip eZ rfl rfl (gSkip (eR rfl) rfl rfl (gSkip (eR rfl) rfl rfl (gSkipU eZ rfl (gSkipU (eR rfl) rfl (gSkipU (eR rfl) rfl (gSkipU (eR rfl) rfl (gSkip (eR rfl) rfl rfl (oPickF (eR rfl) rfl eC (oMov eZ (gSkip eZ rfl rfl (gSkip (eR rfl) rfl rfl (gSkip (eR rfl) rfl rfl (gSkip (eR rfl) rfl rfl (oPickF (eR rfl) rfl eC (oMov eZ (gSkip eZ rfl rfl (gSkip (eR rfl) rfl rfl (gSkip (eR rfl) rfl rfl (gSkip (eR rfl) rfl rfl (oPickF (eR rfl) rfl eC (oMov eZ (xQ (AW.weaken (wk_mk [64] (kr 2 rfl rfl SL.nil) (BL.drop rfl BL.nil) BK.nil) (AW.ret ?_)))))))))))))))))))))))))))))
             cases H
             exact eE rfl rfl
          ·refine gSkip eZ (nt h114) rfl (gSkip (eR rfl) (nt h114) rfl (gSkip (eR rfl) (nt h114) rfl (gSkipU eZ rfl (gSkipU (eR rfl) rfl (gSkipU (eR rfl) rfl (gSkipU (eR rfl) rfl (gSkip (eR rfl) (nt h114) rfl (oPickF (eR rfl) (nt h114) eC (oMov eZ (gSkip eZ rfl rfl (gSkip (eR rfl) rfl rfl (gSkip (eR rfl) rfl rfl (oPickF (eR rfl) rfl eC (oMov eZ (gSkip eZ rfl rfl (gSkip (eR rfl) rfl rfl (gSkip (eR rfl) rfl rfl (gSkipU eZ rfl (gSkipU (eR rfl) rfl (gSkipU (eR rfl) rfl (gSkipU (eR rfl) rfl (gSkip (eR rfl) rfl rfl (oPickF (eR rfl) rfl eC (oMov eZ (gSkip eZ rfl rfl (gSkip (eR rfl) rfl rfl (gSkip (eR rfl) rfl rfl (gSkip (eR rfl) rfl rfl (oPickF (eR rfl) rfl eC (oMov eZ (gSkip eZ rfl rfl (gSkip (eR rfl) rfl rfl (gSkip (eR rfl) rfl rfl (gSkip (eR rfl) rfl rfl (oPickF (eR rfl) rfl eC (oMov eZ (xQ (AW.weaken (wk_mk [64] (kr 2 rfl rfl SL.nil) (BL.drop rfl BL.nil) BK.nil) ?_))))))))))))))))))))))))))))))))))))))
           refine AW.ret ?_
           cases H
           exact eE rfl rfl
         ·refine gDo eZ (nt h111) (oFaddrN (m := 11) (eR rfl) rfl (gDo (eR rfl) (nt h111) (oLoadV (q := 11) (c := (.d (.sl 2 (List.map d_TCell a1.Writes)))) eZ bZ rfl rfl (gDo (eR rfl) (nt h111) (oLenD eZ (n := a1.Writes.length) (List.length_map _) (gDo (eR rfl) (nt h111) (oEql eZ eC (gDo (eR rfl) h108 (oPickF (eR rfl) (nt h111) eZ (oPickT (eR rfl) h108 eZ (oMov eZ ?_)))))))))))
          rcases oite H with ⟨h153, H⟩ | ⟨h153, H⟩
          ·refine gDo eZ (decide_eq_true h153) (oFaddrN (m := 12) (eR rfl) rfl (gDo (eR rfl) (decide_eq_true h153) (oLoadV (q := 12) (c := (.d (.sl 2 (List.map d_TCell a1.Cells)))) eZ bZ rfl rfl (gDo (eR rfl) (decide_eq_true h153) ?_))))
           obtain ⟨v154, h155, H⟩ := obind H
           refine oCall (u := (oB v154)) eC Cl.fn (c_impl_StoreOk h155) (Evs.cons eZ Evs.nil) (VDs.cons VD.plain VDs.nil) rfl (oPickT (eR rfl) (decide_eq_true h153) eZ (oMov eZ ?_))
           rcases oite H with ⟨h156, H⟩ | ⟨h156, H⟩
           ·refine gDo eZ h156 (oMov (eR rfl) (gDo (eR rfl) h156 ?_))
            obtain ⟨v157, h158, H⟩ := obind H
            refine oCall (u := (oB v157)) eC Cl.fn (c_impl_has h158) (Evs.cons eZ (Evs.cons eC Evs.nil)) (VDs.cons VD.plain (VDs.cons VD.plain VDs.nil)) rfl (gDo (eR rfl) h156 (oMov eZ ?_))
            rcases oite H with ⟨h159, H⟩ | ⟨h159, H⟩
            ·refine gSkip eZ h159 rfl (gSkip (eR rfl) h159 rfl (gSkip (eR rfl) h159 rfl (gSkip (eR rfl) h159 rfl (gDo (eR rfl) h156 (oPickT (eR rfl) h159 eC (oPickT (eR rfl) h156 eZ (oMov eZ (gDo eZ rfl (oFaddrN (m := 13) (eR rfl) rfl (gDo (eR rfl) rfl (oLoadV (q := 13) (c := (.d (.sl 4 (List.map d_TShare a1.Shares)))) eZ bZ rfl rfl (gDo (eR rfl) rfl ?_))))))))))))
             obtain ⟨v160, h161, H⟩ := obind H
             refine oCall (u := (oB v160)) eC Cl.fn (c_impl_SharesOk h161) (Evs.cons eZ Evs.nil) (VDs.cons VD.plain VDs.nil) rfl (oPickT (eR rfl) rfl eZ (oMov eZ ?_))
             rcases oite H with ⟨h162, H⟩ | ⟨h162, H⟩
             ·refine gDo eZ h162 (oMov (eR rfl) (gDo (eR rfl) h162 ?_))
              obtain ⟨v163, h164, H⟩ := obind H
              refine oCall (u := (oB v163)) eC Cl.fn (c_impl_has h164) (Evs.cons eZ (Evs.cons eC Evs.nil)) (VDs.cons VD.plain (VDs.cons VD.plain VDs.nil)) rfl (gDo (eR rfl) h162 (oMov eZ ?_))
              rcases oite H with ⟨h165, H⟩ | ⟨h165, H⟩
              ·refine gSkip eZ h165 rfl (gSkip (eR rfl) h165 rfl (gSkip (eR rfl) h165 rfl (gSkip (eR rfl) h165 rfl (gDo (eR rfl) h162 (oPickT (eR rfl) h165 eC (oPickT (eR rfl) h162 eZ (oMov eZ (gDo eZ rfl (oFaddrN (m := 13) (eR rfl) rfl (gDo (eR rfl) rfl (oLoadV (q := 13) (c := (.d (.sl 4 (List.map d_TShare a1.Shares)))) eZ bZ rfl rfl (gDo (eR rfl) rfl ?_))))))))))))
               obtain ⟨v166, h167, H⟩ := obind H
               refine oCall (u := (oB v166)) eC Cl.fn (c_impl_votes h167) (Evs.cons eZ (Evs.cons eC Evs.nil)) (VDs.cons VD.plain (VDs.cons VD.plain VDs.nil)) rfl (gDo (eR rfl) rfl (oInv eZ (oPickT (eR rfl) rfl eZ (oMov eZ ?_))))
               rcases oite H with ⟨h168, H⟩ | ⟨h168, H⟩
               ·refine gSkip eZ (congrArg Bool.not h168) rfl (gSkip (eR rfl) (congrArg Bool.not h168) rfl (gSkip (eR rfl) (congrArg Bool.not h168) rfl (gSkip (eR rfl) (congrArg Bool.not h168) rfl (oPickF (eR rfl) (congrArg Bool.not h168) eC (oMov eZ (xQ (AW.weaken (wk_mk [64] (kr 2 rfl rfl SL.nil) (BL.drop rfl BL.nil) BK.nil) (AW.ret ?_))))))))
                cases H
                exact eE rfl rfl
               ·refine gDo eZ (congrArg Bool.not (nt h168)) (oFaddrN (m := 13) (eR rfl) rfl (gDo (eR rfl) (congrArg Bool.not (nt h168)) (oLoadV (q := 13) (c := (.d (.sl 4 (List.map d_TShare a1.Shares)))) eZ bZ rfl rfl (gDo (eR rfl) (congrArg Bool.not (nt h168)) ?_))))
                obtain ⟨v169, h170, H⟩ := obind H
                refine oCall (u := (oB v169)) eC Cl.fn (c_impl_votes h170) (Evs.cons eZ (Evs.cons eC Evs.nil)) (VDs.cons VD.plain (VDs.cons VD.plain VDs.nil)) rfl (gDo (eR rfl) (congrArg Bool.not (nt h168)) (oInv eZ (oPickT (eR rfl) (congrArg Bool.not (nt h168)) eZ (oMov eZ (xQ (AW.weaken (wk_mk [64] (kr 2 rfl rfl SL.nil) (BL.drop rfl BL.nil) BK.nil) (AW.ret ?_)))))))
                cases H
                exact eE rfl rfl
              ·refine gDo eZ (nt h165) (oFaddrN (m := 13) (eR rfl) rfl (gDo (eR rfl) (nt h165) (oLoadV (q := 13) (c := (.d (.sl 4 (List.map d_TShare a1.Shares)))) eZ bZ rfl rfl (gDo (eR rfl) (nt h165) (oLenD eZ (n := a1.Shares.length) (List.length_map _) (gDo (eR rfl) (nt h165) (oEql eZ eC (gDo (eR rfl) h162 (oPickF (eR rfl) (nt h165) eZ (oPickT (eR rfl) h162 eZ (oMov eZ ?_)))))))))))
               rcases oite H with ⟨h171, H⟩ | ⟨h171, H⟩
               ·refine gDo eZ (decide_eq_true h171) (oFaddrN (m := 13) (eR rfl) rfl (gDo (eR rfl) (decide_eq_true h171) (oLoadV (q := 13) (c := (.d (.sl 4 (List.map d_TShare a1.Shares)))) eZ bZ rfl rfl (gDo (eR rfl) (decide_eq_true h171) ?_))))
                obtain ⟨v172, h173, H⟩ := obind H
                refine oCall (u := (oB v172)) eC Cl.fn (c_impl_votes h173) (Evs.cons eZ (Evs.cons eC Evs.nil)) (VDs.cons VD.plain (VDs.cons VD.plain VDs.nil)) rfl (gDo (eR rfl) (decide_eq_true h171) (oInv eZ (oPickT (eR rfl) (decide_eq_true h171) eZ (oMov eZ ?_))))
                rcases oite H with ⟨h174, H⟩ | ⟨h174, H⟩
                ·refine gSkip eZ (congrArg Bool.not h174) rfl (gSkip (eR rfl) (congrArg Bool.not h174) rfl (gSkip (eR rfl) (congrArg Bool.not h174) rfl (gSkip (eR rfl) (congrArg Bool.not h174) rfl (oPickF (eR rfl) (congrArg Bool.not h174) eC (oMov eZ (xQ (AW.weaken (wk_mk [64] (kr 2 rfl rfl SL.nil) (BL.drop rfl BL.nil) BK.nil) (AW.ret ?_))))))))
                 cases H
                 exact eE rfl rfl
                ·refine gDo eZ (congrArg Bool.not (nt h174)) (oFaddrN (m := 13) (eR rfl) rfl (gDo (eR rfl) (congrArg Bool.not (nt h174)) (oLoadV (q := 13) (c := (.d (.sl 4 (List.map d_TShare a1.Shares)))) eZ bZ rfl rfl (gDo (eR rfl) (congrArg Bool.not (nt h174)) ?_))))
                 obtain ⟨v175, h176, H⟩ := obind H
                 refine oCall (u := (oB v175)) eC Cl.fn (c_impl_votes h176) (Evs.cons eZ (Evs.cons eC Evs.nil)) (VDs.cons VD.plain (VDs.cons VD.plain VDs.nil)) rfl (gDo (eR rfl) (congrArg Bool.not (nt h174)) (oInv eZ (oPickT (eR rfl) (congrArg Bool.not (nt h174)) eZ (oMov eZ (xQ (AW.weaken (wk_mk [64] (kr 2 rfl rfl SL.nil) (BL.drop rfl BL.nil) BK.nil) (AW.ret ?_)))))))
                 cases H
                 exact eE rfl rfl
               ·refine gSkip eZ (decide_eq_false h171) rfl (gSkip (eR rfl) (decide_eq_false h171) rfl (gSkip (eR rfl) (decide_eq_false h171) rfl (gSkip (eR rfl) (decide_eq_false h171) rfl (oPickF (eR rfl) (decide_eq_false h171) eC (oMov eZ (gSkip eZ rfl rfl (gSkip (eR rfl) rfl rfl (gSkip (eR rfl) rfl rfl (gSkip (eR rfl) rfl rfl (oPickF (eR rfl) rfl eC (oMov eZ (xQ (AW.weaken (wk_mk [64] (kr 2 rfl rfl SL.nil) (BL.drop rfl BL.nil) BK.nil) (AW.ret ?_))))))))))))))
                cases H
                exact eE rfl rfl
             ·refine gSkip eZ (nt h162) rfl (gSkip (eR rfl) (nt h162) rfl (gSkip (eR rfl) (nt h162) rfl (gSkipU eZ rfl (gSkipU (eR rfl) rfl (gSkipU (eR rfl) rfl (gSkipU (eR rfl) rfl (gSkip (eR rfl) (nt h162) rfl (oPickF (eR rfl) (nt h162) eC (oMov eZ (gSkip eZ rfl rfl (gSkip (eR rfl) rfl rfl (gSkip (eR rfl) rfl rfl (gSkip (eR rfl) rfl rfl (oPickF (eR rfl) rfl eC (oMov eZ (gSkip eZ rfl rfl (gSkip (eR rfl) rfl rfl (gSkip (eR rfl) rfl rfl (gSkip (eR rfl) rfl rfl (oPickF (eR rfl) rfl eC (oMov eZ (xQ (AW.weaken (wk_mk [64] (kr 2 rfl rfl SL.nil) (BL.drop rfl BL.nil) BK.nil) (AW.ret ?_))))))))))))))))))))))))
              cases H
              exact eE rfl rfl
            ·refine gDo eZ (nt h159) (oFaddrN (m := 12) (eR rfl) rfl (gDo (eR rfl) (nt h159) (oLoadV (q := 12) (c := (.d (.sl 2 (List.map d_TCell a1.Cells)))) eZ bZ rfl rfl (gDo (eR rfl) (nt h159) (oLenD eZ (n := a1.Cells.length) (List.length_map _) (gDo (eR rfl) (nt h159) (oEql eZ eC (gDo (eR rfl) h156 (oPickF (eR rfl) (nt h159) eZ (oPickT (eR rfl) h156 eZ (oMov eZ ?_)))))))))))
             rcases oite H with ⟨h177, H⟩ | ⟨h177, H⟩
             ·refine gDo eZ (decide_eq_true h177) (oFaddrN (m := 13) (eR rfl) rfl (gDo (eR rfl) (decide_eq_true h177) (oLoadV (q := 13) (c := (.d (.sl 4 (List.map d_TShare a1.Shares)))) eZ bZ rfl rfl (gDo (eR rfl) (decide_eq_true h177) ?_))))
              obtain ⟨v178, h179, H⟩ := obind H
              refine oCall (u := (oB v178)) eC Cl.fn (c_impl_SharesOk h179) (Evs.cons eZ Evs.nil) (VDs.cons VD.plain VDs.nil) rfl (oPickT (eR rfl) (decide_eq_true h177) eZ (oMov eZ ?_))
              rcases oite H with ⟨h180, H⟩ | ⟨h180, H⟩
              ·refine gDo eZ h180 (oMov (eR rfl) (gDo (eR rfl) h180 ?_))
               obtain ⟨v181, h182, H⟩ := obind H
               refine oCall (u := (oB v181)) eC Cl.fn (c_impl_has h182) (Evs.cons eZ (Evs.cons eC Evs.nil)) (VDs.cons VD.plain (VDs.cons VD.plain VDs.nil)) rfl (gDo (eR rfl) h180 (oMov eZ ?_))
               rcases oite H with ⟨h183, H⟩ | ⟨h183, H⟩
               ·refine gSkip eZ h183 rfl (gSkip (eR rfl) h183 rfl (gSkip (eR rfl) h183 rfl (gSkip (eR rfl) h183 rfl (gDo (eR rfl) h180 (oPickT (eR rfl) h183 eC (oPickT (eR rfl) h180 eZ (oMov eZ (gDo eZ rfl (oFaddrN (m := 13) (eR rfl) rfl (gDo (eR rfl) rfl (oLoadV (q := 13) (c := (.d (.sl 4 (List.map d_TShare a1.Shares)))) eZ bZ rfl rfl (gDo (eR rfl) rfl ?_))))))))))))
                obtain ⟨v184, h185, H⟩ := obind H
                refine oCall (u := (oB v184)) eC Cl.fn (c_impl_votes h185) (Evs.cons eZ (Evs.cons eC Evs.nil)) (VDs.cons VD.plain (VDs.cons VD.plain VDs.nil)) rfl (gDo (eR rfl) rfl (oInv eZ (oPickT (eR rfl) rfl eZ (oMov eZ ?_))))
                rcases oite H with ⟨h186, H⟩ | ⟨h186, H⟩
                ·refine gSkip eZ (congrArg Bool.not h186) rfl (gSkip (eR rfl) (congrArg Bool.not h186) rfl (gSkip (eR rfl) (congrArg Bool.not h186) rfl (gSkip (eR rfl) (congrArg Bool.not h186) rfl (oPickF (eR rfl) (congrArg Bool.not h186) eC (oMov eZ (xQ (AW.weaken (wk_mk [64] (kr 2 rfl rfl SL.nil) (BL.drop rfl BL.nil) BK.nil) (AW.ret ?_))))))))
                 cases H
                 exact eE rfl rfl
                ·refine gDo eZ (congrArg Bool.not (nt h186)) (oFaddrN (m := 13) (eR rfl) rfl (gDo (eR rfl) (congrArg Bool.not (nt h186)) (oLoadV (q := 13) (c := (.d (.sl 4 (List.map d_TShare a1.Shares)))) eZ bZ rfl rfl (gDo (eR rfl) (congrArg Bool.not (nt h186)) ?_))))
                 obtain ⟨v187, h188, H⟩ := obind H
                 refine oCall (u := (oB v187)) eC Cl.fn (c_impl_votes h188) (Evs.cons eZ (Evs.cons eC Evs.nil)) (VDs.cons VD.plain (VDs.cons VD.plain VDs.nil)) rfl (gDo (eR rfl) (congrArg Bool.not (nt h186)) (oInv eZ (oPickT (eR rfl) (congrArg Bool.not (nt h186)) eZ (oMov eZ (xQ (AW.weaken (wk_mk [64] (kr 2 rfl rfl SL.nil) (BL.drop rfl BL.nil) BK.nil) (AW.ret ?_)))))))
                 cases H
                 exact eE rfl rfl
               ·refine gDo eZ (nt h183) (oFaddrN (m := 13) (eR rfl) rfl (gDo (eR rfl) (nt h183) (oLoadV (q := 13) (c := (.d (.sl 4 (List.map d_TShare a1.Shares)))) eZ bZ rfl rfl (gDo (eR rfl) (nt h183) (oLenD eZ (n := a1.Shares.length) (List.length_map _) (gDo (eR rfl) (nt h183) (oEql eZ eC (gDo (eR rfl) h180 (oPickF (eR rfl) (nt h183) eZ (oPickT (eR rfl) h180 eZ (oMov eZ ?_)))))))))))
                rcases oite H with ⟨h189, H⟩ | ⟨h189, H⟩
                ·refine gDo eZ (decide_eq_true h189) (oFaddrN (m := 13) (eR rfl) rfl (gDo (eR rfl) (decide_eq_true h189) (oLoadV (q := 13) (c := (.d (.sl 4 (List.map d_TShare a1.Shares)))) eZ bZ rfl rfl (gDo (eR rfl) (decide_eq_true h189) ?_))))
                 obtain ⟨v190, h191, H⟩ := obind H
                 refine oCall (u := (oB v190)) eC Cl.fn (c_impl_votes h191) (Evs.cons eZ (Evs.cons eC Evs.nil)) (VDs.cons VD.plain (VDs.cons VD.plain VDs.nil)) rfl (gDo (eR rfl) (decide_eq_true h189) (oInv eZ (oPickT (eR rfl) (decide_eq_true h189) eZ (oMov eZ ?_))))
                 rcases oite H with ⟨h192, H⟩ | ⟨h192, H⟩
                 ·refine gSkip eZ (congrArg Bool.not h192) rfl (gSkip (eR rfl) (congrArg Bool.not h192) rfl (gSkip (eR rfl) (congrArg Bool.not h192) rfl (gSkip (eR rfl) (congrArg Bool.not h192) rfl (oPickF (eR rfl) (congrArg Bool.not h192) eC (oMov eZ (xQ (AW.weaken (wk_mk [64] (kr 2 rfl rfl SL.nil) (BL.drop rfl BL.nil) BK.nil) (AW.ret ?_))))))))
                  cases H
                  exact eE rfl rfl
                 ·refine gDo eZ (congrArg Bool.not (nt h192)) (oFaddrN (m := 13) (eR rfl) rfl (gDo (eR rfl) (congrArg Bool.not (nt h192)) (oLoadV (q := 13) (c := (.d (.sl 4 (List.map d_TShare a1.Shares)))) eZ bZ rfl rfl (gDo (eR rfl) (congrArg Bool.not (nt h192)) ?_))))
                  obtain ⟨v193, h194, H⟩ := obind H
                  refine oCall (u := (oB v193)) eC Cl.fn (c_impl_votes h194) (Evs.cons eZ (Evs.cons eC Evs.nil)) (VDs.cons VD.plain (VDs.cons VD.plain VDs.nil)) rfl (gDo (eR rfl) (congrArg Bool.not (nt h192)) (oInv eZ (oPickT (eR rfl) (congrArg Bool.not (nt h192)) eZ (oMov eZ (xQ (AW.weaken (wk_mk [64] (kr 2 rfl rfl SL.nil) (BL.drop rfl BL.nil) BK.nil) (AW.ret ?_)))))))
                  cases H
                  exact eE rfl rfl
                ·refine gSkip eZ (decide_eq_false h189) rfl (gSkip (eR rfl) (decide_eq_false h189) rfl (gSkip (eR rfl) (decide_eq_false h189) rfl (gSkip (eR rfl) (decide_eq_false h189) rfl (oPickF (eR rfl) (decide_eq_false h189) eC (oMov eZ (gSkip eZ rfl rfl (gSkip (eR rfl) rfl rfl (gSkip (eR rfl) rfl rfl (gSkip (eR rfl) rfl rfl (oPickF (eR rfl) rfl eC (oMov eZ (xQ (AW.weaken (wk_mk [64] (kr 2 rfl rfl SL.nil) (BL.drop rfl BL.nil) BK.nil) (AW.ret ?_))))))))))))))
                 cases H
                 exact eE rfl rfl
              ·refine gSkip eZ (nt h180) rfl (gSkip (eR rfl) (nt h180) rfl (gSkip (eR rfl) (nt h180) rfl (gSkipU eZ rfl (gSkipU (eR rfl) rfl (gSkipU (eR rfl) rfl (gSkipU (eR rfl) rfl (gSkip (eR rfl) (nt h180) rfl (oPickF (eR rfl) (nt h180) eC (oMov eZ (gSkip eZ rfl rfl (gSkip (eR rfl) rfl rfl (gSkip (eR rfl) rfl rfl (gSkip (eR rfl) rfl rfl (oPickF (eR rfl) rfl eC (oMov eZ (gSkip eZ rfl rfl (gSkip (eR rfl) rfl rfl (gSkip (eR rfl) rfl rfl (gSkip (eR rfl) rfl rfl (oPickF (eR rfl) rfl eC (oMov eZ (xQ (AW.weaken (wk_mk [64] (kr 2 rfl rfl SL.nil) (BL.drop rfl BL.nil) BK.nil) (AW.ret ?_))))))))))))))))))))))))
               cases H
               exact eE rfl rfl
             ·refine gSkip eZ (decide_eq_false h177) rfl (gSkip (eR rfl) (decide_eq_false h177) rfl (gSkip (eR rfl) (decide_eq_false h177) rfl (oPickF (eR rfl) (decide_eq_false h177) eC (oMov eZ (gSkip eZ rfl rfl (gSkip (eR rfl) rfl rfl (gSkip (eR rfl) rfl rfl (gSkipU eZ rfl (gSkipU (eR rfl) rfl (gSkipU (eR rfl) rfl (gSkipU (eR rfl) rfl (gSkip (eR rfl) rfl rfl (oPickF (eR rfl) rfl eC (oMov eZ (gSkip eZ rfl rfl (gSkip (eR rfl) rfl rfl (gSkip (eR rfl) rfl rfl (gSkip (eR rfl) rfl rfl (oPickF (eR rfl) rfl eC (oMov eZ (gSkip eZ rfl rfl (gSkip (eR rfl) rfl rfl (gSkip (eR rfl) rfl rfl (gSkip (eR rfl) rfl rfl (oPickF (eR rfl) rfl eC (oMov eZ (xQ (AW.weaken (wk_mk [64] (kr 2 rfl rfl SL.nil) (BL.drop rfl BL.nil) BK.nil) (AW.ret ?_)))))))))))))))))))))))))))))
              cases H
              exact eE rfl rfl
           ·refine gSkip eZ (nt h156) rfl (gSkip (eR rfl) (nt h156) rfl (gSkip (eR rfl) (nt h156) rfl (gSkipU eZ rfl (gSkipU (eR rfl) rfl (gSkipU (eR rfl) rfl (gSkipU (eR rfl) rfl (gSkip (eR rfl) (nt h156) rfl (oPickF (eR rfl) (nt h156) eC (oMov eZ (gSkip eZ rfl rfl (gSkip (eR rfl) rfl rfl (gSkip (eR rfl) rfl rfl (oPickF (eR rfl) rfl eC (oMov eZ (gSkip eZ rfl rfl (gSkip (eR rfl) rfl rfl (gSkip (eR rfl) rfl rfl (gSkipU eZ rfl (gSkipU (eR rfl) rfl (gSkipU (eR rfl) rfl (gSkipU (eR rfl) rfl (gSkip (eR rfl) rfl rfl (oPickF (eR rfl) rfl eC (oMov eZ (gSkip eZ rfl rfl (gSkip (eR rfl) rfl rfl (gSkip (eR rfl) rfl rfl (gSkip (eR rfl) rfl rfl (oPickF (eR rfl) rfl eC (oMov eZ (gSkip eZ rfl rfl (gSkip (eR rfl) rfl rfl (gSkip (eR rfl) rfl rfl (gSkip (eR rfl) rfl rfl (oPickF (eR rfl) rfl eC (oMov eZ (xQ (AW.weaken (wk_mk [64] (kr 2 rfl rfl SL.nil) (BL.drop rfl BL.nil) BK.nil) ?_))))))))))))))))))))))))))))))))))))))
            refine AW.ret ?_
            cases H
            exact eE rfl rfl
          ·refine gSkip eZ (decide_eq_false h153) rfl (gSkip (eR rfl) (decide_eq_false h153) rfl (gSkip (eR rfl) (decide_eq_false h153) rfl (oPickF (eR rfl) (decide_eq_false h153) eC (oMov eZ (gSkip eZ rfl rfl (gSkip (eR rfl) rfl rfl (gSkip (eR rfl) rfl rfl (gSkipU eZ rfl (gSkipU (eR rfl) rfl (gSkipU (eR rfl) rfl (gSkipU (eR rfl) rfl (gSkip (eR rfl) rfl rfl (oPickF (eR rfl) rfl eC (oMov eZ (gSkip eZ rfl rfl (gSkip (eR rfl) rfl rfl (gSkip (eR rfl) rfl rfl (oPickF (eR rfl) rfl eC (oMov eZ (gSkip eZ rfl rfl (gSkip (eR rfl) rfl rfl (gSkip (eR rfl) rfl rfl (gSkipU eZ rfl (gSkipU (eR rfl) rfl (gSkipU (eR rfl) rfl (gSkipU (eR rfl) rfl (gSkip (eR rfl) rfl rfl (oPickF (eR rfl) rfl eC (oMov eZ (gSkip eZ rfl rfl (gSkip (eR rfl) rfl rfl (gSkip (eR rfl) rfl rfl (gSkip (eR rfl) rfl rfl (oPickF (eR rfl) rfl eC (oMov eZ (gSkip eZ rfl rfl (gSkip (eR rfl) rfl rfl (gSkip (eR rfl) rfl rfl (gSkip (eR rfl) rfl rfl ?_)))))))))))))))))))))))))))))))))))))))
           refine oPickF (eR rfl) rfl eC (oMov eZ (xQ (AW.weaken (wk_mk [64] (kr 2 rfl rfl SL.nil) (BL.drop rfl BL.nil) BK.nil) (AW.ret ?_))))
           cases H
           exact eE rfl rfl
        ·refine gSkip eZ (nt h108) rfl (gSkip (eR rfl) (nt h108) rfl (gSkip (eR rfl) (nt h108) rfl (gSkipU eZ rfl (gSkipU (eR rfl) rfl (gSkipU (eR rfl) rfl (gSkipU (eR rfl) rfl (gSkip (eR rfl) (nt h108) rfl (oPickF (eR rfl) (nt h108) eC (oMov eZ (gSkip eZ rfl rfl (gSkip (eR rfl) rfl rfl (gSkip (eR rfl) rfl rfl (oPickF (eR rfl) rfl eC (oMov eZ (gSkip eZ rfl rfl (gSkip (eR rfl) rfl rfl (gSkip (eR rfl) rfl rfl (gSkipU eZ rfl (gSkipU (eR rfl) rfl (gSkipU (eR rfl) rfl (gSkipU (eR rfl) rfl (gSkip (eR rfl) rfl rfl (oPickF (eR rfl) rfl eC (oMov eZ (gSkip eZ rfl rfl (gSkip (eR rfl) rfl rfl (gSkip (eR rfl) rfl rfl (oPickF (eR rfl) rfl eC (oMov eZ (gSkip eZ rfl rfl (gSkip (eR rfl) rfl rfl (gSkip (eR rfl) rfl rfl (gSkipU eZ rfl (gSkipU (eR rfl) rfl (gSkipU (eR rfl) rfl (gSkipU (eR rfl) rfl (gSkip (eR rfl) rfl rfl (oPickF (eR rfl) rfl eC (oMov eZ ?_)))))))))))))))))))))))))))))))))))))))
         refine gSkip eZ rfl rfl (gSkip (eR rfl) rfl rfl (gSkip (eR rfl) rfl rfl (gSkip (eR rfl) rfl rfl (oPickF (eR rfl) rfl eC (oMov eZ (gSkip eZ rfl rfl (gSkip (eR rfl) rfl rfl (gSkip (eR rfl) rfl rfl (gSkip (eR rfl) rfl rfl (oPickF (eR rfl) rfl eC (oMov eZ (xQ (AW.weaken (wk_mk [64] (kr 2 rfl rfl SL.nil) (BL.drop rfl BL.nil) BK.nil) (AW.ret ?_))))))))))))))
         cases H
         exact eE rfl rfl
       ·refine gSkip eZ (decide_eq_false h105) rfl (gSkip (eR rfl) (decide_eq_false h105) rfl (gSkip (eR rfl) (decide_eq_false h105) rfl (oPickF (eR rfl) (decide_eq_false h105) eC (oMov eZ (gSkip eZ rfl rfl (gSkip (eR rfl) rfl rfl (gSkip (eR rfl) rfl rfl (gSkipU eZ rfl (gSkipU (eR rfl) rfl (gSkipU (eR rfl) rfl (gSkipU (eR rfl) rfl (gSkip (eR rfl) rfl rfl (oPickF (eR rfl) rfl eC (oMov eZ (gSkip eZ rfl rfl (gSkip (eR rfl) rfl rfl (gSkip (eR rfl) rfl rfl (oPickF (eR rfl) rfl eC (oMov eZ (gSkip eZ rfl rfl (gSkip (eR rfl) rfl rfl (gSkip (eR rfl) rfl rfl (gSkipU eZ rfl (gSkipU (eR rfl) rfl (gSkipU (eR rfl) rfl (gSkipU (eR rfl) rfl (gSkip (eR rfl) rfl rfl (oPickF (eR rfl) rfl eC (oMov eZ (gSkip eZ rfl rfl (gSkip (eR rfl) rfl rfl (gSkip (eR rfl) rfl rfl (oPickF (eR rfl) rfl eC (oMov eZ (gSkip eZ rfl rfl (gSkip (eR rfl) rfl rfl (gSkip (eR rfl) rfl rfl (gSkipU eZ rfl (gSkipU (eR rfl) rfl ?_)))))))))))))))))))))))))))))))))))))))
        refine gSkipU (eR rfl) rfl (gSkipU (eR rfl) rfl (gSkip (eR rfl) rfl rfl (oPickF (eR rfl) rfl eC (oMov eZ (gSkip eZ rfl rfl (gSkip (eR rfl) rfl rfl (gSkip (eR rfl) rfl rfl (gSkip (eR rfl) rfl rfl (oPickF (eR rfl) rfl eC (oMov eZ (gSkip eZ rfl rfl (gSkip (eR rfl) rfl rfl (gSkip (eR rfl) rfl rfl (gSkip (eR rfl) rfl rfl (oPickF (eR rfl) rfl eC (oMov eZ (xQ (AW.weaken (wk_mk [64] (kr 2 rfl rfl SL.nil) (BL.drop rfl BL.nil) BK.nil) (AW.ret ?_)))))))))))))))))))
        cases H
        exact eE rfl rfl
     ·refine gSkip eZ (nt h12) rfl (gSkip (eR rfl) (nt h12) rfl (gSkip (eR rfl) (nt h12) rfl (gSkipU eZ rfl (gSkipU (eR rfl) rfl (gSkipU (eR rfl) rfl (gSkipU (eR rfl) rfl (gSkip (eR rfl) (nt h12) rfl (oPickF (eR rfl) (nt h12) eC (oMov eZ (gSkip eZ rfl rfl (gSkip (eR rfl) rfl rfl (gSkip (eR rfl) rfl rfl (oPickF (eR rfl) rfl eC (oMov eZ (gSkip eZ rfl rfl (gSkip (eR rfl) rfl rfl (gSkip (eR rfl) rfl rfl (gSkipU eZ rfl (gSkipU (eR rfl) rfl (gSkipU (eR rfl) rfl (gSkipU (eR rfl) rfl (gSkip (eR rfl) rfl rfl (oPickF (eR rfl) rfl eC (oMov eZ (gSkip eZ rfl rfl (gSkip (eR rfl) rfl rfl (gSkip (eR rfl) rfl rfl (oPickF (eR rfl) rfl eC (oMov eZ (gSkip eZ rfl rfl (gSkip (eR rfl) rfl rfl (gSkip (eR rfl) rfl rfl (gSkipU eZ rfl (gSkipU (eR rfl) rfl (gSkipU (eR rfl) rfl (gSkipU (eR rfl) rfl (gSkip (eR rfl) rfl rfl (oPickF (eR rfl) rfl eC (oMov eZ ?_)))))))))))))))))))))))))))))))))))))))
      refine gSkip eZ rfl rfl (gSkip (eR rfl) rfl rfl (gSkip (eR rfl) rfl rfl (oPickF (eR rfl) rfl eC (oMov eZ (gSkip eZ rfl rfl (gSkip (eR rfl) rfl rfl (gSkip (eR rfl) rfl rfl (gSkipU eZ rfl (gSkipU (eR rfl) rfl (gSkipU (eR rfl) rfl (gSkipU (eR rfl) rfl (gSkip (eR rfl) rfl rfl (oPickF (eR rfl) rfl eC (oMov eZ (gSkip eZ rfl rfl (gSkip (eR rfl) rfl rfl (gSkip (eR rfl) rfl rfl (gSkip (eR rfl) rfl rfl (oPickF (eR rfl) rfl eC (oMov eZ (gSkip eZ rfl rfl (gSkip (eR rfl) rfl rfl (gSkip (eR rfl) rfl rfl (gSkip (eR rfl) rfl rfl (oPickF (eR rfl) rfl eC (oMov eZ (xQ (AW.weaken (wk_mk [64] (kr 2 rfl rfl SL.nil) (BL.drop rfl BL.nil) BK.nil) (AW.ret ?_)))))))))))))))))))))))))))))
      cases H
      exact eE rfl rfl
   ·refine aR (oMov (eR rfl) ?_)
    obtain ⟨v195, h196, H⟩ := obind H
    refine oCall (u := (oB v195)) eC Cl.fn (c_impl_has h196) (Evs.cons eZ (Evs.cons eC Evs.nil)) (VDs.cons VD.plain (VDs.cons VD.plain VDs.nil)) rfl (oMov eZ ?_)
    rcases oite H with ⟨h197, H⟩ | ⟨h197, H⟩
    ·refine gDo eZ h197 (oFaddrN (m := 5) (eR rfl) rfl (gDo (eR rfl) h197 (oLoadV (q := 5) (c := (dI a1.Lo)) eZ bZ rfl rfl (gDo (eR rfl) h197 (oFaddrN (m := 6) (eR rfl) rfl (gDo (eR rfl) h197 (oLoadV (q := 6) (c := (dI a1.Hi)) eZ bZ rfl rfl (gDo (eR rfl) h197 (oBuild (cs := [(dI a1.Lo), (dI a1.Hi)]) (PsCons (eR rfl) (PsCons eZ PsNil)) rfl (gDo (eR rfl) h197 ?_))))))))))
     obtain ⟨v198, h199, H⟩ := obind H
     refine oCall (u := (oB v198)) eC Cl.fn (c_impl_RangeOk h199) (Evs.cons eZ Evs.nil) (VDs.cons (VD.agg rfl) VDs.nil) rfl (gDo (eR rfl) h197 (oInv eZ (oPickT (eR rfl) h197 eZ (oMov eZ ?_))))
     rcases oite H with ⟨h200, H⟩ | ⟨h200, H⟩
     ·refine gDo eZ (congrArg Bool.not h200) (oMov (eR rfl) (gDo (eR rfl) (congrArg Bool.not h200) ?_))
      obtain ⟨v201, h202, H⟩ := obind H
      refine oCall (u := (oB v201)) eC Cl.fn (c_impl_has h202) (Evs.cons eZ (Evs.cons eC Evs.nil)) (VDs.cons VD.plain (VDs.cons VD.plain VDs.nil)) rfl (gDo (eR rfl) (congrArg Bool.not h200) (oInv eZ (gDo (eR rfl) (congrArg Bool.not h200) (oMov eZ ?_))))
      rcases oite H with ⟨h203, H⟩ | ⟨h203, H⟩
      ·refine gSkip eZ (congrArg Bool.not h203) rfl (gSkip (eR rfl) (congrArg Bool.not h203) rfl (gSkip (eR rfl) (congrArg Bool.not h203) rfl (gSkip (eR rfl) (congrArg Bool.not h203) rfl (gSkipU eZ rfl (gSkipU (eR rfl) rfl (gSkipU (eR rfl) rfl (gSkip (eR rfl) (congrArg Bool.not h203) rfl (gDo (eR rfl) (congrArg Bool.not h200) (oPickF (eR rfl) (congrArg Bool.not h203) eC (oPickF (eR rfl) (congrArg Bool.not h200) eZ (oMov eZ (gDo eZ rfl (oMov (eR rfl) (gDo (eR rfl) rfl ?_))))))))))))))
       obtain ⟨v204, h205, H⟩ := obind H
       refine oCall (u := (oB v204)) eC Cl.fn (c_impl_has h205) (Evs.cons eZ (Evs.cons eC Evs.nil)) (VDs.cons VD.plain (VDs.cons VD.plain VDs.nil)) rfl (gDo (eR rfl) rfl (oInv eZ (gDo (eR rfl) rfl (oMov eZ ?_))))
       rcases oite H with ⟨h206, H⟩ | ⟨h206, H⟩
       ·exact gSkip eZ (congrArg Bool.not h206) rfl (gSkip (eR rfl) (congrArg Bool.not h206) rfl (gDo (eR rfl) rfl (oPickF (eR rfl) (congrArg Bool.not h206) eC (oPickF (eR rfl) rfl eZ (xNil (TQ.qn ⟨false, H, (wk_mk [] (kR rfl rfl (kR rfl rfl (kR rfl rfl SL.nil))) (BL.keep rfl BL.nil) (BK.cons rfl bZ rfl rfl BK.nil))⟩))))))
       ·exact gDo eZ (congrArg Bool.not (nt h206)) (oFaddrN (m := 9) (eR rfl) rfl (gDo (eR rfl) (congrArg Bool.not (nt h206)) (oLoadV (q := 9) (c := (.d (.bool a1.Yes))) eZ bZ rfl rfl (gDo (eR rfl) rfl (oPickT (eR rfl) (congrArg Bool.not (nt h206)) eZ (oPickF (eR rfl) rfl eZ (xNil (TQ.qn ⟨a1.Yes, H, (wk_mk [] (kR rfl rfl (kR rfl rfl (kR rfl rfl SL.nil))) (BL.keep rfl BL.nil) (BK.cons rfl bZ rfl rfl BK.nil))⟩))))))))
      ·refine gDo eZ (congrArg Bool.not (nt h203)) (oFaddrN (m := 5) (eR rfl) rfl (gDo (eR rfl) (congrArg Bool.not (nt h203)) (oLoadV (q := 5) (c := (dI a1.Lo)) eZ bZ rfl rfl (gDo (eR rfl) (congrArg Bool.not (nt h203)) (oNeq eZ eC (gDo (eR rfl) (congrArg Bool.not (nt h203)) (oMov eZ ?_)))))))
       rcases oite H with ⟨h207, H⟩ | ⟨h207, H⟩
       ·exact gSkip eZ (decide_eq_true h207) rfl (gSkip (eR rfl) (decide_eq_true h207) rfl (gSkip (eR rfl) (decide_eq_true h207) rfl (gDo (eR rfl) (congrArg Bool.not (nt h203)) (oPickT (eR rfl) (decide_eq_true h207) eC (gDo (eR rfl) (congrArg Bool.not h200) (oPickT (eR rfl) (congrArg Bool.not (nt h203)) eZ (oPickF (eR rfl) (congrArg Bool.not h200) eZ (oMov eZ (gSkip eZ rfl rfl (gSkip (eR rfl) rfl rfl (gSkip (eR rfl) rfl rfl (gSkip (eR rfl) rfl rfl (gSkipU eZ rfl (gSkipU (eR rfl) rfl (gSkip (eR rfl) rfl rfl (oPickT (eR rfl) rfl eC (xNil (TQ.qn ⟨true, H, (wk_mk [] (kR rfl rfl (kR rfl rfl (kR rfl rfl SL.nil))) (BL.keep rfl BL.nil) (BK.cons rfl bZ rfl rfl BK.nil))⟩))))))))))))))))))
       ·refine gDo eZ (decide_eq_false h207) (oFaddrN (m := 6) (eR rfl) rfl (gDo (eR rfl) (decide_eq_false h207) (oLoadV (q := 6) (c := (dI a1.Hi)) eZ bZ rfl rfl (gDo (eR rfl) (decide_eq_false h207) (oNeq eZ eC (gDo (eR rfl) (congrArg Bool.not (nt h203)) (oPickF (eR rfl) (decide_eq_false h207) eZ (gDo (eR rfl) (congrArg Bool.not h200) (oPickT (eR rfl) (congrArg Bool.not (nt h203)) eZ (oPickF (eR rfl) (congrArg Bool.not h200) eZ (oMov eZ ?_)))))))))))
        rcases oite H with ⟨h208, H⟩ | ⟨h208, H⟩
        ·exact gSkip eZ (decide_eq_true h208) rfl (gSkip (eR rfl) (decide_eq_true h208) rfl (gSkip (eR rfl) (decide_eq_true h208) rfl (gSkip (eR rfl) (decide_eq_true h208) rfl (gSkipU eZ rfl (gSkipU (eR rfl) rfl (gSkip (eR rfl) (decide_eq_true h208) rfl (oPickT (eR rfl) (decide_eq_true h208) eC (xNil (TQ.qn ⟨true, H, (wk_mk [] (kR rfl rfl (kR rfl rfl (kR rfl rfl SL.nil))) (BL.keep rfl BL.nil) (BK.cons rfl bZ rfl rfl BK.nil))⟩)))))))))
        ·refine gDo eZ (decide_eq_false h208) (oMov (eR rfl) (gDo (eR rfl) (decide_eq_false h208) ?_))
         obtain ⟨v209, h210, H⟩ := obind H
         refine oCall (u := (oB v209)) eC Cl.fn (c_impl_has h210) (Evs.cons eZ (Evs.cons eC Evs.nil)) (VDs.cons VD.plain (VDs.cons VD.plain VDs.nil)) rfl (gDo (eR rfl) (decide_eq_false h208) (oInv eZ (gDo (eR rfl) (decide_eq_false h208) (oMov eZ ?_))))
         rcases oite H with ⟨h211, H⟩ | ⟨h211, H⟩
         ·exact gSkip eZ (congrArg Bool.not h211) rfl (gSkip (eR rfl) (congrArg Bool.not h211) rfl (gDo (eR rfl) (decide_eq_false h208) (oPickF (eR rfl) (congrArg Bool.not h211) eC (oPickF (eR rfl) (decide_eq_false h208) eZ (xNil (TQ.qn ⟨false, H, (wk_mk [] (kR rfl rfl (kR rfl rfl (kR rfl rfl SL.nil))) (BL.keep rfl BL.nil) (BK.cons rfl bZ rfl rfl BK.nil))⟩))))))
         ·exact gDo eZ (congrArg Bool.not (nt h211)) (oFaddrN (m := 9) (eR rfl) rfl (gDo (eR rfl) (congrArg Bool.not (nt h211)) (oLoadV (q := 9) (c := (.d (.bool a1.Yes))) eZ bZ rfl rfl (gDo (eR rfl) (decide_eq_false h208) (oPickT (eR rfl) (congrArg Bool.not (nt h211)) eZ (oPickF (eR rfl) (decide_eq_false h208) eZ (xNil (TQ.qn ⟨a1.Yes, H, (wk_mk [] (kR rfl rfl (kR rfl rfl (kR rfl rfl SL.nil))) (BL.keep rfl BL.nil) (BK.cons rfl bZ rfl rfl BK.nil))⟩))))))))
     ·exact gSkip eZ (congrArg Bool.not (nt h200)) rfl (gSkip (eR rfl) (congrArg Bool.not (nt h200)) rfl (gSkip (eR rfl) (congrArg Bool.not (nt h200)) rfl (gSkip (eR rfl) (congrArg Bool.not (nt h200)) rfl (gSkipU eZ rfl (gSkipU (eR rfl) rfl (gSkipU (eR rfl) rfl (gSkipU (eR rfl) rfl (gSkipU eZ rfl (gSkipU (eR rfl) rfl (gSkipU (eR rfl) rfl (gSkipU (eR rfl) rfl (gSkip (eR rfl) (congrArg Bool.not (nt h200)) rfl (oPickT (eR rfl) (congrArg Bool.not (nt h200)) eC (oMov eZ (gSkip eZ rfl rfl (gSkip (eR rfl) rfl rfl (gSkip (eR rfl) rfl rfl (gSkip (eR rfl) rfl rfl (gSkipU eZ rfl (gSkipU (eR rfl) rfl (gSkip (eR rfl) rfl rfl (oPickT (eR rfl) rfl eC (xNil (TQ.qn ⟨true, H, (wk_mk [] (kR rfl rfl (kR rfl rfl (kR rfl rfl SL.nil))) (BL.keep rfl BL.nil) (BK.cons rfl bZ rfl rfl BK.nil))⟩))))))))))))))))))))))))
    ·refine gSkip eZ (nt h197) rfl (gSkip (eR rfl) (nt h197) rfl (gSkip (eR rfl) (nt h197) rfl (gSkip (eR rfl) (nt h197) rfl (gSkip (eR rfl) (nt h197) rfl (gSkip (eR rfl) (nt h197) rfl (gSkip (eR rfl) (nt h197) rfl (oPickF (eR rfl) (nt h197) eC (oMov eZ (gDo eZ rfl (oMov (eR rfl) (gDo (eR rfl) rfl ?_)))))))))))
     obtain ⟨v212, h213, H⟩ := obind H
     refine oCall (u := (oB v212)) eC Cl.fn (c_impl_has h213) (Evs.cons eZ (Evs.cons eC Evs.nil)) (VDs.cons VD.plain (VDs.cons VD.plain VDs.nil)) rfl (gDo (eR rfl) rfl (oInv eZ (gDo (eR rfl) rfl (oMov eZ ?_))))
     rcases oite H with ⟨h214, H⟩ | ⟨h214, H⟩
     ·refine gSkip eZ (congrArg Bool.not h214) rfl (gSkip (eR rfl) (congrArg Bool.not h214) rfl (gSkip (eR rfl) (congrArg Bool.not h214) rfl (gSkip (eR rfl) (congrArg Bool.not h214) rfl (gSkipU eZ rfl (gSkipU (eR rfl) rfl (gSkipU (eR rfl) rfl (gSkip (eR rfl) (congrArg Bool.not h214) rfl (gDo (eR rfl) rfl (oPickF (eR rfl) (congrArg Bool.not h214) eC (oPickF (eR rfl) rfl eZ (oMov eZ (gDo eZ rfl (oMov (eR rfl) (gDo (eR rfl) rfl ?_))))))))))))))
      obtain ⟨v215, h216, H⟩ := obind H
      refine oCall (u := (oB v215)) eC Cl.fn (c_impl_has h216) (Evs.cons eZ (Evs.cons eC Evs.nil)) (VDs.cons VD.plain (VDs.cons VD.plain VDs.nil)) rfl (gDo (eR rfl) rfl (oInv eZ (gDo (eR rfl) rfl (oMov eZ ?_))))
      rcases oite H with ⟨h217, H⟩ | ⟨h217, H⟩
      ·exact gSkip eZ (congrArg Bool.not h217) rfl (gSkip (eR rfl) (congrArg Bool.not h217) rfl (gDo (eR rfl) rfl (oPickF (eR rfl) (congrArg Bool.not h217) eC (oPickF (eR rfl) rfl eZ (xNil (TQ.qn ⟨false, H, (wk_mk [] (kR rfl rfl (kR rfl rfl (kR rfl rfl SL.nil))) (BL.keep rfl BL.nil) (BK.cons rfl bZ rfl rfl BK.nil))⟩))))))
      ·exact gDo eZ (congrArg Bool.not (nt h217)) (oFaddrN (m := 9) (eR rfl) rfl (gDo (eR rfl) (congrArg Bool.not (nt h217)) (oLoadV (q := 9) (c := (.d (.bool a1.Yes))) eZ bZ rfl rfl (gDo (eR rfl) rfl (oPickT (eR rfl) (congrArg Bool.not (nt h217)) eZ (oPickF (eR rfl) rfl eZ (xNil (TQ.qn ⟨a1.Yes, H, (wk_mk [] (kR rfl rfl (kR rfl rfl (kR rfl rfl SL.nil))) (BL.keep rfl BL.nil) (BK.cons rfl bZ rfl rfl BK.nil))⟩))))))))
     ·refine gDo eZ (congrArg Bool.not (nt h214)) (oFaddrN (m := 5) (eR rfl) rfl (gDo (eR rfl) (congrArg Bool.not (nt h214)) (oLoadV (q := 5) (c := (dI a1.Lo)) eZ bZ rfl rfl (gDo (eR rfl) (congrArg Bool.not (nt h214)) (oNeq eZ eC (gDo (eR rfl) (congrArg Bool.not (nt h214)) (oMov eZ ?_)))))))
      rcases oite H with ⟨h218, H⟩ | ⟨h218, H⟩
      ·exact gSkip eZ (decide_eq_true h218) rfl (gSkip (eR rfl) (decide_eq_true h218) rfl (gSkip (eR rfl) (decide_eq_true h218) rfl (gDo (eR rfl) (congrArg Bool.not (nt h214)) (oPickT (eR rfl) (decide_eq_true h218) eC (gDo (eR rfl) rfl (oPickT (eR rfl) (congrArg Bool.not (nt h214)) eZ (oPickF (eR rfl) rfl eZ (oMov eZ (gSkip eZ rfl rfl (gSkip (eR rfl) rfl rfl (gSkip (eR rfl) rfl rfl (gSkip (eR rfl) rfl rfl (gSkipU eZ rfl (gSkipU (eR rfl) rfl (gSkip (eR rfl) rfl rfl (oPickT (eR rfl) rfl eC (xNil (TQ.qn ⟨true, H, (wk_mk [] (kR rfl rfl (kR rfl rfl (kR rfl rfl SL.nil))) (BL.keep rfl BL.nil) (BK.cons rfl bZ rfl rfl BK.nil))⟩))))))))))))))))))
      ·refine gDo eZ (decide_eq_false h218) (oFaddrN (m := 6) (eR rfl) rfl (gDo (eR rfl) (decide_eq_false h218) (oLoadV (q := 6) (c := (dI a1.Hi)) eZ bZ rfl rfl (gDo (eR rfl) (decide_eq_false h218) (oNeq eZ eC (gDo (eR rfl) (congrArg Bool.not (nt h214)) (oPickF (eR rfl) (decide_eq_false h218) eZ (gDo (eR rfl) rfl (oPickT (eR rfl) (congrArg Bool.not (nt h214)) eZ (oPickF (eR rfl) rfl eZ (oMov eZ ?_)))))))))))
       rcases oite H with ⟨h219, H⟩ | ⟨h219, H⟩
       ·exact gSkip eZ (decide_eq_true h219) rfl (gSkip (eR rfl) (decide_eq_true h219) rfl (gSkip (eR rfl) (decide_eq_true h219) rfl (gSkip (eR rfl) (decide_eq_true h219) rfl (gSkipU eZ rfl (gSkipU (eR rfl) rfl (gSkip (eR rfl) (decide_eq_true h219) rfl (oPickT (eR rfl) (decide_eq_true h219) eC (xNil (TQ.qn ⟨true, H, (wk_mk [] (kR rfl rfl (kR rfl rfl (kR rfl rfl SL.nil))) (BL.keep rfl BL.nil) (BK.cons rfl bZ rfl rfl BK.nil))⟩)))))))))
       ·refine gDo eZ (decide_eq_false h219) (oMov (eR rfl) (gDo (eR rfl) (decide_eq_false h219) ?_))
        obtain ⟨v220, h221, H⟩ := obind H
        refine oCall (u := (oB v220)) eC Cl.fn (c_impl_has h221) (Evs.cons eZ (Evs.cons eC Evs.nil)) (VDs.cons VD.plain (VDs.cons VD.plain VDs.nil)) rfl (gDo (eR rfl) (decide_eq_false h219) (oInv eZ (gDo (eR rfl) (decide_eq_false h219) (oMov eZ ?_))))
        rcases oite H with ⟨h222, H⟩ | ⟨h222, H⟩
        ·exact gSkip eZ (congrArg Bool.not h222) rfl (gSkip (eR rfl) (congrArg Bool.not h222) rfl (gDo (eR rfl) (decide_eq_false h219) (oPickF (eR rfl) (congrArg Bool.not h222) eC (oPickF (eR rfl) (decide_eq_false h219) eZ (xNil (TQ.qn ⟨false, H, (wk_mk [] (kR rfl rfl (kR rfl rfl (kR rfl rfl SL.nil))) (BL.keep rfl BL.nil) (BK.cons rfl bZ rfl rfl BK.nil))⟩))))))
        ·exact gDo eZ (congrArg Bool.not (nt h222)) (oFaddrN (m := 9) (eR rfl) rfl (gDo (eR rfl) (congrArg Bool.not (nt h222)) (oLoadV (q := 9) (c := (.d (.bool a1.Yes))) eZ bZ rfl rfl (gDo (eR rfl) (decide_eq_false h219) (oPickT (eR rfl) (congrArg Bool.not (nt h222)) eZ (oPickF (eR rfl) (decide_eq_false h219) eZ (xNil (TQ.qn ⟨a1.Yes, H, (wk_mk [] (kR rfl rfl (kR rfl rfl (kR rfl rfl SL.nil))) (BL.keep rfl BL.nil) (BK.cons rfl bZ rfl rfl BK.nil))⟩))))))))
 ·refine aR (oMov eZ (oSEql eZ eC (oMov eZ ?_)))
  rcases oite H with ⟨h223, H⟩ | ⟨h223, H⟩
  ·refine gSkip eZ h223 rfl (gSkip (eR rfl) h223 rfl (gSkip (eR rfl) h223 rfl (gSkip (eR rfl) h223 rfl (gSkip (eR rfl) h223 rfl (oPickT (eR rfl) h223 eC (oMov eZ (gSkip eZ rfl rfl (gSkip (eR rfl) rfl rfl (gSkip (eR rfl) rfl rfl (gSkip (eR rfl) rfl rfl (gSkip (eR rfl) rfl rfl (oPickT (eR rfl) rfl eC (oMov eZ (gSkip eZ rfl rfl (gSkip (eR rfl) rfl rfl (gSkip (eR rfl) rfl rfl (gSkip (eR rfl) rfl rfl (gSkip (eR rfl) rfl rfl (oPickT (eR rfl) rfl eC (oMov eZ (gSkip eZ rfl rfl (gSkip (eR rfl) rfl rfl (gSkip (eR rfl) rfl rfl (gSkip (eR rfl) rfl rfl (gSkip (eR rfl) rfl rfl (oPickT (eR rfl) rfl eC (oMov eZ (gSkip eZ rfl rfl (gSkip (eR rfl) rfl rfl (gSkip (eR rfl) rfl rfl (gSkip (eR rfl) rfl rfl (gSkip (eR rfl) rfl rfl (oPickT (eR rfl) rfl eC (oMov eZ (gSkip eZ rfl rfl (gSkip (eR rfl) rfl rfl (gSkip (eR rfl) rfl rfl (gSkip (eR rfl) rfl rfl (gSkip (eR rfl) rfl rfl ?_)))))))))))))))))))))))))))))))))))))))
   exact oPickT (eR rfl) rfl eC (xNil (TQ.qn ⟨true, H, (wk_mk [] (kR rfl rfl (kR rfl rfl (kR rfl rfl SL.nil))) (BL.keep rfl BL.nil) (BK.cons rfl bZ rfl rfl BK.nil))⟩))
  ·refine gDo eZ (nt h223) (oMov (eR rfl) (gDo (eR rfl) (nt h223) (oFaddrN (m := 1) (eR rfl) rfl (gDo (eR rfl) (nt h223) (oLoadV (q := 1) (c := (dI a1.Group)) eZ bZ rfl rfl (gDo (eR rfl) (nt h223) ?_))))))
   obtain ⟨v224, h225, H⟩ := obind H
   refine oCall (u := (oB v224)) eC Cl.fn (c_impl_numRight h225) (Evs.cons (eR rfl) (Evs.cons eC (Evs.cons eZ (Evs.cons eC (Evs.cons eC Evs.nil))))) (VDs.cons VD.plain (VDs.cons VD.plain (VDs.cons VD.plain (VDs.cons VD.plain (VDs.cons VD.plain VDs.nil))))) rfl (gDo (eR rfl) (nt h223) (oInv eZ (oPickF (eR rfl) (nt h223) eZ (oMov eZ ?_))))
   rcases oite H with ⟨h226, H⟩ | ⟨h226, H⟩
   ·refine gDo eZ (congrArg Bool.not h226) (oMov (eR rfl) (gDo (eR rfl) (congrArg Bool.not h226) (oFaddrN (m := 2) (eR rfl) rfl (gDo (eR rfl) (congrArg Bool.not h226) (oLoadV (q := 2) (c := (dI a1.Client)) eZ bZ rfl rfl (gDo (eR rfl) (congrArg Bool.not h226) ?_))))))
    obtain ⟨v227, h228, H⟩ := obind H
    refine oCall (u := (oB v227)) eC Cl.fn (c_impl_numRight h228) (Evs.cons (eR rfl) (Evs.cons eC (Evs.cons eZ (Evs.cons eC (Evs.cons eC Evs.nil))))) (VDs.cons VD.plain (VDs.cons VD.plain (VDs.cons VD.plain (VDs.cons VD.plain (VDs.cons VD.plain VDs.nil))))) rfl (gDo (eR rfl) (congrArg Bool.not h226) (oInv eZ (oPickF (eR rfl) (congrArg Bool.not h226) eZ (oMov eZ ?_))))
    rcases oite H with ⟨h229, H⟩ | ⟨h229, H⟩
    ·refine gDo eZ (congrArg Bool.not h229) (oMov (eR rfl) (gDo (eR rfl) (congrArg Bool.not h229) (oFaddrN (m := 3) (eR rfl) rfl (gDo (eR rfl) (congrArg Bool.not h229) (oLoadV (q := 3) (c := (dI a1.Req)) eZ bZ rfl rfl (gDo (eR rfl) (congrArg Bool.not h229) ?_))))))
     obtain ⟨v230, h231, H⟩ := obind H
     refine oCall (u := (oB v230)) eC Cl.fn (c_impl_numRight h231) (Evs.cons (eR rfl) (Evs.cons eC (Evs.cons eZ (Evs.cons eC (Evs.cons eC Evs.nil))))) (VDs.cons VD.plain (VDs.cons VD.plain (VDs.cons VD.plain (VDs.cons VD.plain (VDs.cons VD.plain VDs.nil))))) rfl (gDo (eR rfl) (congrArg Bool.not h229) (oInv eZ (oPickF (eR rfl) (congrArg Bool.not h229) eZ (oMov eZ ?_))))
     rcases oite H with ⟨h232, H⟩ | ⟨h232, H⟩
     ·refine gDo eZ (congrArg Bool.not h232) (oMov (eR rfl) (gDo (eR rfl) (congrArg Bool.not h232) (oFaddrN (m := 4) (eR rfl) rfl (gDo (eR rfl) (congrArg Bool.not h232) (oLoadV (q := 4) (c := (dI a1.Tx)) eZ bZ rfl rfl (gDo (eR rfl) (congrArg Bool.not h232) ?_))))))
      obtain ⟨v233, h234, H⟩ := obind H
      refine oCall (u := (oB v233)) eC Cl.fn (c_impl_numRight h234) (Evs.cons (eR rfl) (Evs.cons eC (Evs.cons eZ (Evs.cons eC (Evs.cons eC Evs.nil))))) (VDs.cons VD.plain (VDs.cons VD.plain (VDs.cons VD.plain (VDs.cons VD.plain (VDs.cons VD.plain VDs.nil))))) rfl (gDo (eR rfl) (congrArg Bool.not h232) (oInv eZ (oPickF (eR rfl) (congrArg Bool.not h232) eZ (oMov eZ ?_))))
      rcases oite H with ⟨h235, H⟩ | ⟨h235, H⟩
      ·refine gDo eZ (congrArg Bool.not h235) (oMov (eR rfl) (gDo (eR rfl) (congrArg Bool.not h235) (oFaddrN (m := 7) (eR rfl) rfl (gDo (eR rfl) (congrArg Bool.not h235) (oLoadV (q := 7) (c := (dI a1.Rank)) eZ bZ rfl rfl (gDo (eR rfl) (congrArg Bool.not h235) ?_))))))
       obtain ⟨v236, h237, H⟩ := obind H
       refine oCall (u := (oB v236)) eC Cl.fn (c_impl_numRight h237) (Evs.cons (eR rfl) (Evs.cons eC (Evs.cons eZ (Evs.cons eC (Evs.cons eC Evs.nil))))) (VDs.cons VD.plain (VDs.cons VD.plain (VDs.cons VD.plain (VDs.cons VD.plain (VDs.cons VD.plain VDs.nil))))) rfl (gDo (eR rfl) (congrArg Bool.not h235) (oInv eZ (oPickF (eR rfl) (congrArg Bool.not h235) eZ (oMov eZ ?_))))
       rcases oite H with ⟨h238, H⟩ | ⟨h238, H⟩
       ·refine gDo eZ (congrArg Bool.not h238) (oMov (eR rfl) (gDo (eR rfl) (congrArg Bool.not h238) (oFaddrN (m := 8) (eR rfl) rfl (gDo (eR rfl) (congrArg Bool.not h238) (oLoadV (q := 8) (c := (dI a1.Code)) eZ bZ rfl rfl (gDo (eR rfl) (congrArg Bool.not h238) ?_))))))
        obtain ⟨v239, h240, H⟩ := obind H
        exact oCall (u := (oB v239)) eC Cl.fn (c_impl_numRight h240) (Evs.cons (eR rfl) (Evs.cons eC (Evs.cons eZ (Evs.cons eC (Evs.cons eC Evs.nil))))) (VDs.cons VD.plain (VDs.cons VD.plain (VDs.cons VD.plain (VDs.cons VD.plain (VDs.cons VD.plain VDs.nil))))) rfl (gDo (eR rfl) (congrArg Bool.not h238) (oInv eZ (oPickF (eR rfl) (congrArg Bool.not h238) eZ (xNil (TQ.qn ⟨(!v239), H, (wk_mk [] (kR rfl rfl (kR rfl rfl (kR rfl rfl SL.nil))) (BL.keep rfl BL.nil) (BK.cons rfl bZ rfl rfl BK.nil))⟩)))))
       ·exact gSkip eZ (congrArg Bool.not (nt h238)) rfl (gSkip (eR rfl) (congrArg Bool.not (nt h238)) rfl (gSkip (eR rfl) (congrArg Bool.not (nt h238)) rfl (gSkip (eR rfl) (congrArg Bool.not (nt h238)) rfl (gSkip (eR rfl) (congrArg Bool.not (nt h238)) rfl (oPickT (eR rfl) (congrArg Bool.not (nt h238)) eC (xNil (TQ.qn ⟨true, H, (wk_mk [] (kR rfl rfl (kR rfl rfl (kR rfl rfl SL.nil))) (BL.keep rfl BL.nil) (BK.cons rfl bZ rfl rfl BK.nil))⟩)))))))
      ·exact gSkip eZ (congrArg Bool.not (nt h235)) rfl (gSkip (eR rfl) (congrArg Bool.not (nt h235)) rfl (gSkip (eR rfl) (congrArg Bool.not (nt h235)) rfl (gSkip (eR rfl) (congrArg Bool.not (nt h235)) rfl (gSkip (eR rfl) (congrArg Bool.not (nt h235)) rfl (oPickT (eR rfl) (congrArg Bool.not (nt h235)) eC (oMov eZ (gSkip eZ rfl rfl (gSkip (eR rfl) rfl rfl (gSkip (eR rfl) rfl rfl (gSkip (eR rfl) rfl rfl (gSkip (eR rfl) rfl rfl (oPickT (eR rfl) rfl eC (xNil (TQ.qn ⟨true, H, (wk_mk [] (kR rfl rfl (kR rfl rfl (kR rfl rfl SL.nil))) (BL.keep rfl BL.nil) (BK.cons rfl bZ rfl rfl BK.nil))⟩))))))))))))))
     ·exact gSkip eZ (congrArg Bool.not (nt h232)) rfl (gSkip (eR rfl) (congrArg Bool.not (nt h232)) rfl (gSkip (eR rfl) (congrArg Bool.not (nt h232)) rfl (gSkip (eR rfl) (congrArg Bool.not (nt h232)) rfl (gSkip (eR rfl) (congrArg Bool.not (nt h232)) rfl (oPickT (eR rfl) (congrArg Bool.not (nt h232)) eC (oMov eZ (gSkip eZ rfl rfl (gSkip (eR rfl) rfl rfl (gSkip (eR rfl) rfl rfl (gSkip (eR rfl) rfl rfl (gSkip (eR rfl) rfl rfl (oPickT (eR rfl) rfl eC (oMov eZ (gSkip eZ rfl rfl (gSkip (eR rfl) rfl rfl (gSkip (eR rfl) rfl rfl (gSkip (eR rfl) rfl rfl (gSkip (eR rfl) rfl rfl (oPickT (eR rfl) rfl eC (xNil (TQ.qn ⟨true, H, (wk_mk [] (kR rfl rfl (kR rfl rfl (kR rfl rfl SL.nil))) (BL.keep rfl BL.nil) (BK.cons rfl bZ rfl rfl BK.nil))⟩)))))))))))))))))))))
    ·exact gSkip eZ (congrArg Bool.not (nt h229)) rfl (gSkip (eR rfl) (congrArg Bool.not (nt h229)) rfl (gSkip (eR rfl) (congrArg Bool.not (nt h229)) rfl (gSkip (eR rfl) (congrArg Bool.not (nt h229)) rfl (gSkip (eR rfl) (congrArg Bool.not (nt h229)) rfl (oPickT (eR rfl) (congrArg Bool.not (nt h229)) eC (oMov eZ (gSkip eZ rfl rfl (gSkip (eR rfl) rfl rfl (gSkip (eR rfl) rfl rfl (gSkip (eR rfl) rfl rfl (gSkip (eR rfl) rfl rfl (oPickT (eR rfl) rfl eC (oMov eZ (gSkip eZ rfl rfl (gSkip (eR rfl) rfl rfl (gSkip (eR rfl) rfl rfl (gSkip (eR rfl) rfl rfl (gSkip (eR rfl) rfl rfl (oPickT (eR rfl) rfl eC (oMov eZ (gSkip eZ rfl rfl (gSkip (eR rfl) rfl rfl (gSkip (eR rfl) rfl rfl (gSkip (eR rfl) rfl rfl (gSkip (eR rfl) rfl rfl (oPickT (eR rfl) rfl eC (xNil (TQ.qn ⟨true, H, (wk_mk [] (kR rfl rfl (kR rfl rfl (kR rfl rfl SL.nil))) (BL.keep rfl BL.nil) (BK.cons rfl bZ rfl rfl BK.nil))⟩))))))))))))))))))))))))))))
   ·exact gSkip eZ (congrArg Bool.not (nt h226)) rfl (gSkip (eR rfl) (congrArg Bool.not (nt h226)) rfl (gSkip (eR rfl) (congrArg Bool.not (nt h226)) rfl (gSkip (eR rfl) (congrArg Bool.not (nt h226)) rfl (gSkip (eR rfl) (congrArg Bool.not (nt h226)) rfl (oPickT (eR rfl) (congrArg Bool.not (nt h226)) eC (oMov eZ (gSkip eZ rfl rfl (gSkip (eR rfl) rfl rfl (gSkip (eR rfl) rfl rfl (gSkip (eR rfl) rfl rfl (gSkip (eR rfl) rfl rfl (oPickT (eR rfl) rfl eC (oMov eZ (gSkip eZ rfl rfl (gSkip (eR rfl) rfl rfl (gSkip (eR rfl) rfl rfl (gSkip (eR rfl) rfl rfl (gSkip (eR rfl) rfl rfl (oPickT (eR rfl) rfl eC (oMov eZ (gSkip eZ rfl rfl (gSkip (eR rfl) rfl rfl (gSkip (eR rfl) rfl rfl (gSkip (eR rfl) rfl rfl (gSkip (eR rfl) rfl rfl (oPickT (eR rfl) rfl eC (oMov eZ (gSkip eZ rfl rfl (gSkip (eR rfl) rfl rfl (gSkip (eR rfl) rfl rfl (gSkip (eR rfl) rfl rfl (gSkip (eR rfl) rfl rfl (oPickT (eR rfl) rfl eC (xNil (TQ.qn ⟨true, H, (wk_mk [] (kR rfl rfl (kR rfl rfl (kR rfl rfl SL.nil))) (BL.keep rfl BL.nil) (BK.cons rfl bZ rfl rfl BK.nil))⟩)))))))))))))))))))))))))))))))))))
theorem c_laws_eqRange {a1 : TRange} {a2 : TRange} {r : Bool} (H : m_laws_eqRange a1 a2 = some r) : Fn Try.prog k_laws_eqRange (lent [(.agg (d_TRange a1)), (.agg (d_TRange a2))]) true [(.bool r)] := by
 refine i_laws_eqRange_fn (fle rfl) ?_
 rw [init_mk]
 refine AW.weaken (wk_mk [] (kv 0 (.agg [(dI a1.Lo), (dI a1.Hi)]) rfl rfl (kv 1 (.agg [(dI a2.Lo), (dI a2.Hi)]) rfl rfl SL.nil)) BL.nil BK.nil) ?_
 unfold m_laws_eqRange at H
 unfold i_laws_eqRange
 refine aV (oBox (n := 128) (m := 2) (cs := [(dI a1.Lo), (dI a1.Hi)]) rfl eZ rfl rfl nZ (oBox (n := 192) (m := 2) (cs := [(dI a2.Lo), (dI a2.Hi)]) rfl (eR rfl) rfl rfl (nS rfl nZ) (oMov eC (xQ (aS (aV (oFaddrN (m := 0) (eR rfl) rfl (oLoadV (q := 0) (c := (dI a1.Lo)) eZ (bS rfl bZ) rfl rfl (oFaddrN (m := 0) (eR rfl) rfl (oLoadV (q := 0) (c := (dI a2.Lo)) eZ bZ rfl rfl (oNeq (eR rfl) eZ (xQ ?_))))))))))))
 rcases oite H with ⟨h3, H⟩ | ⟨h3, H⟩
 ·refine AW.condT eZ (decide_eq_true h3) (aV (oMov eC (xQ (AW.ret (TQ.qr ?_)))))
  cases H
  exact eE rfl rfl
 ·refine AW.condF eZ (decide_eq_false h3) (AW.skip (TQ.qn (aS (aV (oFaddrN (m := 1) (eR rfl) rfl (oLoadV (q := 1) (c := (dI a1.Hi)) eZ (bS rfl bZ) rfl rfl (oFaddrN (m := 1) (eR rfl) rfl (oLoadV (q := 1) (c := (dI a2.Hi)) eZ bZ rfl rfl (oNeq (eR rfl) eZ (xQ ?_))))))))))
  rcases oite H with ⟨h4, H⟩ | ⟨h4, H⟩
  ·refine AW.condT eZ (decide_eq_true h4) (aV (oMov eC (xQ (AW.weaken (wk_mk [192, 128] (kr 4 rfl rfl SL.nil) (BL.drop rfl (BL.drop rfl BL.nil)) BK.nil) (AW.ret (TQ.qr ?_))))))
   cases H
   exact eE rfl rfl
  ·refine AW.condF eZ (decide_eq_false h4) (AW.skip (TQ.qn (aV (oMov eC (xQ (AW.weaken (wk_mk [192, 128] (kr 4 rfl rfl SL.nil) (BL.drop rfl (BL.drop rfl BL.nil)) BK.nil) (AW.ret ?_)))))))
   cases H
   exact eE rfl rfl
theorem c_laws_eqRangeS {a1 : (List TRange)} {a2 : (List TRange)} {r : Bool} (H : m_laws_eqRangeS a1 a2 = some r) : Fn Try.prog k_laws_eqRangeS (lent [(.sl 2 (List.map d_TRange a1)), (.sl 2 (List.map d_TRange a2))]) true [(.bool r)] := by
 refine i_laws_eqRangeS_fn (fle rfl) ?_
 rw [init_mk]
 refine AW.weaken (wk_mk [] (kv 0 (.one (.d (.sl 2 (List.map d_TRange a1)))) rfl rfl (kv 1 (.one (.d (.sl 2 (List.map d_TRange a2)))) rfl rfl SL.nil)) BL.nil BK.nil) ?_
 unfold m_laws_eqRangeS at H
 unfold i_laws_eqRangeS
 refine aV (oMov eC (xQ (aS (aV (oMov (eR rfl) (oLenD eZ (n := a1.length) (List.length_map _) (oMov (eR rfl) (oLenD eZ (n := a2.length) (List.length_map _) (oNeq (eR rfl) eZ (xQ ?_))))))))))
 rcases oite H with ⟨h3, H⟩ | ⟨h3, H⟩
 ·refine AW.condT eZ (decide_eq_true h3) (aV (oMov eC (xQ (AW.ret (TQ.qr ?_)))))
  cases H
  exact eE rfl rfl
 ·refine AW.condF eZ (decide_eq_false h3) (AW.skip (TQ.qn (AW.seqJ (fun t4 : Unit => laws_eqRangeS_j4 t4 = some r) (fun t4 => mk [] [] noG) ?_ ?_)))
  ·intro t4 H
   unfold laws_eqRangeS_j4 at H
   refine aV (oMov eC (xQ (AW.ret ?_)))
   cases H
   exact eE rfl rfl
  ·refine aV (oMov eC (xQ (AW.block (AW.iter (fun s6 : Int => mk [(0, (.one (.d (.sl 2 (List.map d_TRange a1))))), (1, (.one (.d (.sl 2 (List.map d_TRange a2))))), (5, (oI s6))] [] noG) H (wk_mk [] (kR rfl rfl (kR rfl rfl (kR rfl rfl SL.nil))) BL.nil BK.nil) ?_))))
   intro kb7 s6 H
   unfold laws_eqRangeS_b6 at H
   refine aS (aV (oMov (eR rfl) (oMov (eR rfl) (oLenD eZ (n := a1.length) (List.length_map _) (oLss (eR rfl) eZ (xQ ?_))))))
   rcases oite H with ⟨h8, H⟩ | ⟨h8, H⟩
   ·refine AW.condT eZ (decide_eq_true h8) (AW.skip (TQ.qn (aS (AW.block (aS (AW.regd (oMov (eR rfl) (oMov (eR rfl) ?_))))))))
    obtain ⟨v9, h10, H⟩ := obind H
    refine oAtD (eR rfl) eZ h10 (oLoadBA (es := [(dI v9.Lo), (dI v9.Hi)]) eZ rfl (oMov (eR rfl) (oMov (eR rfl) ?_)))
    obtain ⟨v11, h12, H⟩ := obind H
    refine oAtD (eR rfl) eZ h12 (oLoadBA (es := [(dI v11.Lo), (dI v11.Hi)]) eZ rfl ?_)
    obtain ⟨v13, h14, H⟩ := obind H
    refine oCall (u := (oB v13)) eC Cl.fn (c_laws_eqRange h14) (Evs.cons (eR rfl) (Evs.cons eZ Evs.nil)) (VDs.cons (VD.agg rfl) (VDs.cons (VD.agg rfl) VDs.nil)) rfl (oInv eZ (xQ (AW.weaken (wk_mk [] (kr 26 rfl rfl (kr 0 rfl rfl (kr 1 rfl rfl (kr 5 rfl rfl SL.nil)))) BL.nil BK.nil) ?_)))
    rcases oite H with ⟨h15, H⟩ | ⟨h15, H⟩
    ·exact AW.condF eZ (congrArg Bool.not h15) (AW.skip (BQ.qn (TQ.qn (aR (oMov (eR rfl) (oAdd eZ eC (oMov eZ (xNil (TQ.qn ⟨(IntKind.wrap .i64 (s6 + 1)), H, (wk_mk [] (kR rfl rfl (kR rfl rfl (kR rfl rfl SL.nil))) BL.nil BK.nil)⟩)))))))))
    ·refine AW.condT eZ (congrArg Bool.not (nt h15)) (aV (oMov eC (xQ (AW.ret (BQ.qr (TQ.qr (TQ.qr (BQ.qr (TQ.qr ?_)))))))))
     cases H
     exact eE rfl rfl
   ·exact AW.condF eZ (decide_eq_false h8) (AW.exit (TQ.qe (TQ.qe (BQ.qe (TQ.qn ⟨(), H, (wk_mk [] SL.nil BL.nil BK.nil)⟩)))))
theorem c_laws_eqWrite {a1 : TCell} {a2 : TCell} {r : Bool} (H : m_laws_eqWrite a1 a2 = some r) : Fn Try.prog k_laws_eqWrite (lent [(.agg (d_TCell a1)), (.agg (d_TCell a2))]) true [(.bool r)] := by
 refine i_laws_eqWrite_fn (fle rfl) ?_
 rw [init_mk]
 refine AW.weaken (wk_mk [] (kv 0 (.agg [(dI a1.Key), (dI a1.Value)]) rfl rfl (kv 1 (.agg [(dI a2.Key), (dI a2.Value)]) rfl rfl SL.nil)) BL.nil BK.nil) ?_
 unfold m_laws_eqWrite at H
 unfold i_laws_eqWrite
 refine aV (oBox (n := 128) (m := 2) (cs := [(dI a1.Key), (dI a1.Value)]) rfl eZ rfl rfl nZ (oBox (n := 192) (m := 2) (cs := [(dI a2.Key), (dI a2.Value)]) rfl (eR rfl) rfl rfl (nS rfl nZ) (oMov eC (xQ (aS (aV (oFaddrN (m := 0) (eR rfl) rfl (oLoadV (q := 0) (c := (dI a1.Key)) eZ (bS rfl bZ) rfl rfl (oFaddrN (m := 0) (eR rfl) rfl (oLoadV (q := 0) (c := (dI a2.Key)) eZ bZ rfl rfl (oNeq (eR rfl) eZ (xQ ?_))))))))))))
 rcases oite H with ⟨h3, H⟩ | ⟨h3, H⟩
 ·refine AW.condT eZ (decide_eq_true h3) (aV (oMov eC (xQ (AW.ret (TQ.qr ?_)))))
  cases H
  exact eE rfl rfl
 ·refine AW.condF eZ (decide_eq_false h3) (AW.skip (TQ.qn (aS (aV (oFaddrN (m := 1) (eR rfl) rfl (oLoadV (q := 1) (c := (dI a1.Value)) eZ (bS rfl bZ) rfl rfl (oFaddrN (m := 1) (eR rfl) rfl (oLoadV (q := 1) (c := (dI a2.Value)) eZ bZ rfl rfl (oNeq (eR rfl) eZ (xQ ?_))))))))))
  rcases oite H with ⟨h4, H⟩ | ⟨h4, H⟩
  ·refine AW.condT eZ (decide_eq_true h4) (aV (oMov eC (xQ (AW.weaken (wk_mk [192, 128] (kr 4 rfl rfl SL.nil) (BL.drop rfl (BL.drop rfl BL.nil)) BK.nil) (AW.ret (TQ.qr ?_))))))
   cases H
   exact eE rfl rfl
  ·refine AW.condF eZ (decide_eq_false h4) (AW.skip (TQ.qn (aV (oMov eC (xQ (AW.weaken (wk_mk [192, 128] (kr 4 rfl rfl SL.nil) (BL.drop rfl (BL.drop rfl BL.nil)) BK.nil) (AW.ret ?_)))))))
   cases H
   exact eE rfl rfl
theorem c_laws_eqWriteS {a1 : (List TCell)} {a2 : (List TCell)} {r : Bool} (H : m_laws_eqWriteS a1 a2 = some r) : Fn Try.prog k_laws_eqWriteS (lent [(.sl 2 (List.map d_TCell a1)), (.sl 2 (List.map d_TCell a2))]) true [(.bool r)] := by
 refine i_laws_eqWriteS_fn (fle rfl) ?_
 rw [init_mk]
 refine AW.weaken (wk_mk [] (kv 0 (.one (.d (.sl 2 (List.map d_TCell a1)))) rfl rfl (kv 1 (.one (.d (.sl 2 (List.map d_TCell a2)))) rfl rfl SL.nil)) BL.nil BK.nil) ?_
 unfold m_laws_eqWriteS at H
 unfold i_laws_eqWriteS
 refine aV (oMov eC (xQ (aS (aV (oMov (eR rfl) (oLenD eZ (n := a1.length) (List.length_map _) (oMov (eR rfl) (oLenD eZ (n := a2.length) (List.length_map _) (oNeq (eR rfl) eZ (xQ ?_))))))))))
 rcases oite H with ⟨h3, H⟩ | ⟨h3, H⟩
 ·refine AW.condT eZ (decide_eq_true h3) (aV (oMov eC (xQ (AW.ret (TQ.qr ?_)))))
  cases H
  exact eE rfl rfl
 ·refine AW.condF eZ (decide_eq_false h3) (AW.skip (TQ.qn (AW.seqJ (fun t4 : Unit => laws_eqWriteS_j4 t4 = some r) (fun t4 => mk [] [] noG) ?_ ?_)))
  ·intro t4 H
   unfold laws_eqWriteS_j4 at H
   refine aV (oMov eC (xQ (AW.ret ?_)))
   cases H
   exact eE rfl rfl
  ·refine aV (oMov eC (xQ (AW.block (AW.iter (fun s6 : Int => mk [(0, (.one (.d (.sl 2 (List.map d_TCell a1))))), (1, (.one (.d (.sl 2 (List.map d_TCell a2))))), (5, (oI s6))] [] noG) H (wk_mk [] (kR rfl rfl (kR rfl rfl (kR rfl rfl SL.nil))) BL.nil BK.nil) ?_))))
   intro kb7 s6 H
   unfold laws_eqWriteS_b6 at H
   refine aS (aV (oMov (eR rfl) (oMov (eR rfl) (oLenD eZ (n := a1.length) (List.length_map _) (oLss (eR rfl) eZ (xQ ?_))))))
   rcases oite H with ⟨h8, H⟩ | ⟨h8, H⟩
   ·refine AW.condT eZ (decide_eq_true h8) (AW.skip (TQ.qn (aS (AW.block (aS (AW.regd (oMov (eR rfl) (oMov (eR rfl) ?_))))))))
    obtain ⟨v9, h10, H⟩ := obind H
    refine oAtD (eR rfl) eZ h10 (oLoadBA (es := [(dI v9.Key), (dI v9.Value)]) eZ rfl (oMov (eR rfl) (oMov (eR rfl) ?_)))
    obtain ⟨v11, h12, H⟩ := obind H
    refine oAtD (eR rfl) eZ h12 (oLoadBA (es := [(dI v11.Key), (dI v11.Value)]) eZ rfl ?_)
    obtain ⟨v13, h14, H⟩ := obind H
    refine oCall (u := (oB v13)) eC Cl.fn (c_laws_eqWrite h14) (Evs.cons (eR rfl) (Evs.cons eZ Evs.nil)) (VDs.cons (VD.agg rfl) (VDs.cons (VD.agg rfl) VDs.nil)) rfl (oInv eZ (xQ (AW.weaken (wk_mk [] (kr 26 rfl rfl (kr 0 rfl rfl (kr 1 rfl rfl (kr 5 rfl rfl SL.nil)))) BL.nil BK.nil) ?_)))
    rcases oite H with ⟨h15, H⟩ | ⟨h15, H⟩
    ·exact AW.condF eZ (congrArg Bool.not h15) (AW.skip (BQ.qn (TQ.qn (aR (oMov (eR rfl) (oAdd eZ eC (oMov eZ (xNil (TQ.qn ⟨(IntKind.wrap .i64 (s6 + 1)), H, (wk_mk [] (kR rfl rfl (kR rfl rfl (kR rfl rfl SL.nil))) BL.nil BK.nil)⟩)))))))))
    ·refine AW.condT eZ (congrArg Bool.not (nt h15)) (aV (oMov eC (xQ (AW.ret (BQ.qr (TQ.qr (TQ.qr (BQ.qr (TQ.qr ?_)))))))))
     cases H
     exact eE rfl rfl
   ·exact AW.condF eZ (decide_eq_false h8) (AW.exit (TQ.qe (TQ.qe (BQ.qe (TQ.qn ⟨(), H, (wk_mk [] SL.nil BL.nil BK.nil)⟩)))))
theorem c_laws_eqCell {a1 : TCell} {a2 : TCell} {r : Bool} (H : m_laws_eqCell a1 a2 = some r) : Fn Try.prog k_laws_eqCell (lent [(.agg (d_TCell a1)), (.agg (d_TCell a2))]) true [(.bool r)] := by
 refine i_laws_eqCell_fn (fle rfl) ?_
 rw [init_mk]
 refine AW.weaken (wk_mk [] (kv 0 (.agg [(dI a1.Key), (dI a1.Value)]) rfl rfl (kv 1 (.agg [(dI a2.Key), (dI a2.Value)]) rfl rfl SL.nil)) BL.nil BK.nil) ?_
 unfold m_laws_eqCell at H
 unfold i_laws_eqCell
 refine aV (oBox (n := 128) (m := 2) (cs := [(dI a1.Key), (dI a1.Value)]) rfl eZ rfl rfl nZ (oBox (n := 192) (m := 2) (cs := [(dI a2.Key), (dI a2.Value)]) rfl (eR rfl) rfl rfl (nS rfl nZ) (oMov eC (xQ (aS (aV (oFaddrN (m := 0) (eR rfl) rfl (oLoadV (q := 0) (c := (dI a1.Key)) eZ (bS rfl bZ) rfl rfl (oFaddrN (m := 0) (eR rfl) rfl (oLoadV (q := 0) (c := (dI a2.Key)) eZ bZ rfl rfl (oNeq (eR rfl) eZ (xQ ?_))))))))))))
 rcases oite H with ⟨h3, H⟩ | ⟨h3, H⟩
 ·refine AW.condT eZ (decide_eq_true h3) (aV (oMov eC (xQ (AW.ret (TQ.qr ?_)))))
  cases H
  exact eE rfl rfl
 ·refine AW.condF eZ (decide_eq_false h3) (AW.skip (TQ.qn (aS (aV (oFaddrN (m := 1) (eR rfl) rfl (oLoadV (q := 1) (c := (dI a1.Value)) eZ (bS rfl bZ) rfl rfl (oFaddrN (m := 1) (eR rfl) rfl (oLoadV (q := 1) (c := (dI a2.Value)) eZ bZ rfl rfl (oNeq (eR rfl) eZ (xQ ?_))))))))))
  rcases oite H with ⟨h4, H⟩ | ⟨h4, H⟩
  ·refine AW.condT eZ (decide_eq_true h4) (aV (oMov eC (xQ (AW.weaken (wk_mk [192, 128] (kr 4 rfl rfl SL.nil) (BL.drop rfl (BL.drop rfl BL.nil)) BK.nil) (AW.ret (TQ.qr ?_))))))
   cases H
   exact eE rfl rfl
  ·refine AW.condF eZ (decide_eq_false h4) (AW.skip (TQ.qn (aV (oMov eC (xQ (AW.weaken (wk_mk [192, 128] (kr 4 rfl rfl SL.nil) (BL.drop rfl (BL.drop rfl BL.nil)) BK.nil) (AW.ret ?_)))))))
   cases H
   exact eE rfl rfl
theorem c_laws_eqCellS {a1 : (List TCell)} {a2 : (List TCell)} {r : Bool} (H : m_laws_eqCellS a1 a2 = some r) : Fn Try.prog k_laws_eqCellS (lent [(.sl 2 (List.map d_TCell a1)), (.sl 2 (List.map d_TCell a2))]) true [(.bool r)] := by
 refine i_laws_eqCellS_fn (fle rfl) ?_
 rw [init_mk]
 refine AW.weaken (wk_mk [] (kv 0 (.one (.d (.sl 2 (List.map d_TCell a1)))) rfl rfl (kv 1 (.one (.d (.sl 2 (List.map d_TCell a2)))) rfl rfl SL.nil)) BL.nil BK.nil) ?_
 unfold m_laws_eqCellS at H
 unfold i_laws_eqCellS
 refine aV (oMov eC (xQ (aS (aV (oMov (eR rfl) (oLenD eZ (n := a1.length) (List.length_map _) (oMov (eR rfl) (oLenD eZ (n := a2.length) (List.length_map _) (oNeq (eR rfl) eZ (xQ ?_))))))))))
 rcases oite H with ⟨h3, H⟩ | ⟨h3, H⟩
 ·refine AW.condT eZ (decide_eq_true h3) (aV (oMov eC (xQ (AW.ret (TQ.qr ?_)))))
  cases H
  exact eE rfl rfl
 ·refine AW.condF eZ (decide_eq_false h3) (AW.skip (TQ.qn (AW.seqJ (fun t4 : Unit => laws_eqCellS_j4 t4 = some r) (fun t4 => mk [] [] noG) ?_ ?_)))
  ·intro t4 H
   unfold laws_eqCellS_j4 at H
   refine aV (oMov eC (xQ (AW.ret ?_)))
   cases H
   exact eE rfl rfl
  ·refine aV (oMov eC (xQ (AW.block (AW.iter (fun s6 : Int => mk [(0, (.one (.d (.sl 2 (List.map d_TCell a1))))), (1, (.one (.d (.sl 2 (List.map d_TCell a2))))), (5, (oI s6))] [] noG) H (wk_mk [] (kR rfl rfl (kR rfl rfl (kR rfl rfl SL.nil))) BL.nil BK.nil) ?_))))
   intro kb7 s6 H
   unfold laws_eqCellS_b6 at H
   refine aS (aV (oMov (eR rfl) (oMov (eR rfl) (oLenD eZ (n := a1.length) (List.length_map _) (oLss (eR rfl) eZ (xQ ?_))))))
   rcases oite H with ⟨h8, H⟩ | ⟨h8, H⟩
   ·refine AW.condT eZ (decide_eq_true h8) (AW.skip (TQ.qn (aS (AW.block (aS (AW.regd (oMov (eR rfl) (oMov (eR rfl) ?_))))))))
    obtain ⟨v9, h10, H⟩ := obind H
    refine oAtD (eR rfl) eZ h10 (oLoadBA (es := [(dI v9.Key), (dI v9.Value)]) eZ rfl (oMov (eR rfl) (oMov (eR rfl) ?_)))
    obtain ⟨v11, h12, H⟩ := obind H
    refine oAtD (eR rfl) eZ h12 (oLoadBA (es := [(dI v11.Key), (dI v11.Value)]) eZ rfl ?_)
    obtain ⟨v13, h14, H⟩ := obind H
    refine oCall (u := (oB v13)) eC Cl.fn (c_laws_eqCell h14) (Evs.cons (eR rfl) (Evs.cons eZ Evs.nil)) (VDs.cons (VD.agg rfl) (VDs.cons (VD.agg rfl) VDs.nil)) rfl (oInv eZ (xQ (AW.weaken (wk_mk [] (kr 26 rfl rfl (kr 0 rfl rfl (kr 1 rfl rfl (kr 5 rfl rfl SL.nil)))) BL.nil BK.nil) ?_)))
    rcases oite H with ⟨h15, H⟩ | ⟨h15, H⟩
    ·exact AW.condF eZ (congrArg Bool.not h15) (AW.skip (BQ.qn (TQ.qn (aR (oMov (eR rfl) (oAdd eZ eC (oMov eZ (xNil (TQ.qn ⟨(IntKind.wrap .i64 (s6 + 1)), H, (wk_mk [] (kR rfl rfl (kR rfl rfl (kR rfl rfl SL.nil))) BL.nil BK.nil)⟩)))))))))
    ·refine AW.condT eZ (congrArg Bool.not (nt h15)) (aV (oMov eC (xQ (AW.ret (BQ.qr (TQ.qr (TQ.qr (BQ.qr (TQ.qr ?_)))))))))
     cases H
     exact eE rfl rfl
   ·exact AW.condF eZ (decide_eq_false h8) (AW.exit (TQ.qe (TQ.qe (BQ.qe (TQ.qn ⟨(), H, (wk_mk [] SL.nil BL.nil BK.nil)⟩)))))
theorem c_laws_eqShare {a1 : TShare} {a2 : TShare} {r : Bool} (H : m_laws_eqShare a1 a2 = some r) : Fn Try.prog k_laws_eqShare (lent [(.agg (d_TShare a1)), (.agg (d_TShare a2))]) true [(.bool r)] := by
 refine i_laws_eqShare_fn (fle rfl) ?_
 rw [init_mk]
 refine AW.weaken (wk_mk [] (kv 0 (.agg [(dI a1.Group), (.d (.sl 2 (List.map d_TRange a1.Reads))), (.d (.sl 2 (List.map d_TCell a1.Writes))), (dI a1.Vote)]) rfl rfl (kv 1 (.agg [(dI a2.Group), (.d (.sl 2 (List.map d_TRange a2.Reads))), (.d (.sl 2 (List.map d_TCell a2.Writes))), (dI a2.Vote)]) rfl rfl SL.nil)) BL.nil BK.nil) ?_
 unfold m_laws_eqShare at H
 unfold i_laws_eqShare
 refine aV (oBox (n := 128) (m := 4) (cs := [(dI a1.Group), (.d (.sl 2 (List.map d_TRange a1.Reads))), (.d (.sl 2 (List.map d_TCell a1.Writes))), (dI a1.Vote)]) rfl eZ rfl rfl nZ (oBox (n := 192) (m := 4) (cs := [(dI a2.Group), (.d (.sl 2 (List.map d_TRange a2.Reads))), (.d (.sl 2 (List.map d_TCell a2.Writes))), (dI a2.Vote)]) rfl (eR rfl) rfl rfl (nS rfl nZ) (oMov eC (xQ (aS (aV (oFaddrN (m := 0) (eR rfl) rfl (oLoadV (q := 0) (c := (dI a1.Group)) eZ (bS rfl bZ) rfl rfl (oFaddrN (m := 0) (eR rfl) rfl (oLoadV (q := 0) (c := (dI a2.Group)) eZ bZ rfl rfl (oNeq (eR rfl) eZ (xQ ?_))))))))))))
 rcases oite H with ⟨h3, H⟩ | ⟨h3, H⟩
 ·refine AW.condT eZ (decide_eq_true h3) (aV (oMov eC (xQ (AW.ret (TQ.qr ?_)))))
  cases H
  exact eE rfl rfl
 ·refine AW.condF eZ (decide_eq_false h3) (AW.skip (TQ.qn (aS (aV (oFaddrN (m := 1) (eR rfl) rfl (oLoadV (q := 1) (c := (.d (.sl 2 (List.map d_TRange a1.Reads)))) eZ (bS rfl bZ) rfl rfl (oFaddrN (m := 1) (eR rfl) rfl (oLoadV (q := 1) (c := (.d (.sl 2 (List.map d_TRange a2.Reads)))) eZ bZ rfl rfl ?_))))))))
  obtain ⟨v4, h5, H⟩ := obind H
  refine oCall (u := (oB v4)) eC Cl.fn (c_laws_eqRangeS h5) (Evs.cons (eR rfl) (Evs.cons eZ Evs.nil)) (VDs.cons VD.plain (VDs.cons VD.plain VDs.nil)) rfl (oInv eZ (xQ (AW.weaken (wk_mk [] (kr 15 rfl rfl (kr 3 rfl rfl (kr 2 rfl rfl SL.nil))) (BL.keep rfl (BL.keep rfl BL.nil)) (BK.cons (n := 192) rfl bZ rfl rfl (BK.cons (n := 128) rfl (bS rfl bZ) rfl rfl BK.nil))) ?_)))
  rcases oite H with ⟨h6, H⟩ | ⟨h6, H⟩
  ·refine AW.condF eZ (congrArg Bool.not h6) (AW.skip (TQ.qn (aS (aV (oFaddrN (m := 2) (eR rfl) rfl (oLoadV (q := 2) (c := (.d (.sl 2 (List.map d_TCell a1.Writes)))) eZ (bS rfl bZ) rfl rfl (oFaddrN (m := 2) (eR rfl) rfl (oLoadV (q := 2) (c := (.d (.sl 2 (List.map d_TCell a2.Writes)))) eZ bZ rfl rfl ?_))))))))
   obtain ⟨v7, h8, H⟩ := obind H
   refine oCall (u := (oB v7)) eC Cl.fn (c_laws_eqWriteS h8) (Evs.cons (eR rfl) (Evs.cons eZ Evs.nil)) (VDs.cons VD.plain (VDs.cons VD.plain VDs.nil)) rfl (oInv eZ (xQ ?_))
   rcases oite H with ⟨h9, H⟩ | ⟨h9, H⟩
   ·refine AW.condF eZ (congrArg Bool.not h9) (AW.skip (TQ.qn (aS (aV (oFaddrN (m := 3) (eR rfl) rfl (oLoadV (q := 3) (c := (dI a1.Vote)) eZ (bS rfl bZ) rfl rfl (oFaddrN (m := 3) (eR rfl) rfl (oLoadV (q := 3) (c := (dI a2.Vote)) eZ bZ rfl rfl (oNeq (eR rfl) eZ (xQ ?_))))))))))
    rcases oite H with ⟨h10, H⟩ | ⟨h10, H⟩
    ·refine AW.condT eZ (decide_eq_true h10) (aV (oMov eC (xQ (AW.ret (TQ.qr ?_)))))
     cases H
     exact eE rfl rfl
    ·refine AW.condF eZ (decide_eq_false h10) (AW.skip (TQ.qn (aV (oMov eC (xQ (AW.ret ?_))))))
     cases H
     exact eE rfl rfl
   ·refine AW.condT eZ (congrArg Bool.not (nt h9)) (aV (oMov eC (xQ (AW.ret (TQ.qr ?_)))))
    cases H
    exact eE rfl rfl
  ·refine AW.condT eZ (congrArg Bool.not (nt h6)) (aV (oMov eC (xQ (AW.ret (TQ.qr ?_)))))
   cases H
   exact eE rfl rfl
theorem c_laws_eqShareS {a1 : (List TShare)} {a2 : (List TShare)} {r : Bool} (H : m_laws_eqShareS a1 a2 = some r) : Fn Try.prog k_laws_eqShareS (lent [(.sl 4 (List.map d_TShare a1)), (.sl 4 (List.map d_TShare a2))]) true [(.bool r)] := by
 refine i_laws_eqShareS_fn (fle rfl) ?_
 rw [init_mk]
 refine AW.weaken (wk_mk [] (kv 0 (.one (.d (.sl 4 (List.map d_TShare a1)))) rfl rfl (kv 1 (.one (.d (.sl 4 (List.map d_TShare a2)))) rfl rfl SL.nil)) BL.nil BK.nil) ?_
 unfold m_laws_eqShareS at H
 unfold i_laws_eqShareS
 refine aV (oMov eC (xQ (aS (aV (oMov (eR rfl) (oLenD eZ (n := a1.length) (List.length_map _) (oMov (eR rfl) (oLenD eZ (n := a2.length) (List.length_map _) (oNeq (eR rfl) eZ (xQ ?_))))))))))
 rcases oite H with ⟨h3, H⟩ | ⟨h3, H⟩
 ·refine AW.condT eZ (decide_eq_true h3) (aV (oMov eC (xQ (AW.ret (TQ.qr ?_)))))
  cases H
  exact eE rfl rfl
 ·refine AW.condF eZ (decide_eq_false h3) (AW.skip (TQ.qn (AW.seqJ (fun t4 : Unit => laws_eqShareS_j4 t4 = some r) (fun t4 => mk [] [] noG) ?_ ?_)))
  ·intro t4 H
   unfold laws_eqShareS_j4 at H
   refine aV (oMov eC (xQ (AW.ret ?_)))
   cases H
   exact eE rfl rfl
  ·refine aV (oMov eC (xQ (AW.block (AW.iter (fun s6 : Int => mk [(0, (.one (.d (.sl 4 (List.map d_TShare a1))))), (1, (.one (.d (.sl 4 (List.map d_TShare a2))))), (5, (oI s6))] [] noG) H (wk_mk [] (kR rfl rfl (kR rfl rfl (kR rfl rfl SL.nil))) BL.nil BK.nil) ?_))))
   intro kb7 s6 H
   unfold laws_eqShareS_b6 at H
   refine aS (aV (oMov (eR rfl) (oMov (eR rfl) (oLenD eZ (n := a1.length) (List.length_map _) (oLss (eR rfl) eZ (xQ ?_))))))
   rcases oite H with ⟨h8, H⟩ | ⟨h8, H⟩
   ·refine AW.condT eZ (decide_eq_true h8) (AW.skip (TQ.qn (aS (AW.block (aS (AW.regd (oMov (eR rfl) (oMov (eR rfl) ?_))))))))
    obtain ⟨v9, h10, H⟩ := obind H
    refine oAtD (eR rfl) eZ h10 (oLoadBA (es := [(dI v9.Group), (.d (.sl 2 (List.map d_TRange v9.Reads))), (.d (.sl 2 (List.map d_TCell v9.Writes))), (dI v9.Vote)]) eZ rfl (oMov (eR rfl) (oMov (eR rfl) ?_)))
    obtain ⟨v11, h12, H⟩ := obind H
    refine oAtD (eR rfl) eZ h12 (oLoadBA (es := [(dI v11.Group), (.d (.sl 2 (List.map d_TRange v11.Reads))), (.d (.sl 2 (List.map d_TCell v11.Writes))), (dI v11.Vote)]) eZ rfl ?_)
    obtain ⟨v13, h14, H⟩ := obind H
    refine oCall (u := (oB v13)) eC Cl.fn (c_laws_eqShare h14) (Evs.cons (eR rfl) (Evs.cons eZ Evs.nil)) (VDs.cons (VD.agg rfl) (VDs.cons (VD.agg rfl) VDs.nil)) rfl (oInv eZ (xQ (AW.weaken (wk_mk [] (kr 26 rfl rfl (kr 0 rfl rfl (kr 1 rfl rfl (kr 5 rfl rfl SL.nil)))) BL.nil BK.nil) ?_)))
    rcases oite H with ⟨h15, H⟩ | ⟨h15, H⟩
    ·exact AW.condF eZ (congrArg Bool.not h15) (AW.skip (BQ.qn (TQ.qn (aR (oMov (eR rfl) (oAdd eZ eC (oMov eZ (xNil (TQ.qn ⟨(IntKind.wrap .i64 (s6 + 1)), H, (wk_mk [] (kR rfl rfl (kR rfl rfl (kR rfl rfl SL.nil))) BL.nil BK.nil)⟩)))))))))
    ·refine AW.condT eZ (congrArg Bool.not (nt h15)) (aV (oMov eC (xQ (AW.ret (BQ.qr (TQ.qr (TQ.qr (BQ.qr (TQ.qr ?_)))))))))
     cases H
     exact eE rfl rfl
   ·exact AW.condF eZ (decide_eq_false h8) (AW.exit (TQ.qe (TQ.qe (BQ.qe (TQ.qn ⟨(), H, (wk_mk [] SL.nil BL.nil BK.nil)⟩)))))
theorem c_laws_eqLetter {a1 : TLetter} {a2 : TLetter} {r : Bool} (H : m_laws_eqLetter a1 a2 = some r) : Fn Try.prog k_laws_eqLetter (lent [(.agg (d_TLetter a1)), (.agg (d_TLetter a2))]) true [(.bool r)] := by
 refine i_laws_eqLetter_fn (fle rfl) ?_
 rw [init_mk]
 refine AW.weaken (wk_mk [] (kv 0 (.agg [(dI a1.Kind), (dI a1.Group), (dI a1.Client), (dI a1.Req), (dI a1.Tx), (dI a1.Lo), (dI a1.Hi), (dI a1.Rank), (dI a1.Code), (.d (.bool a1.Yes)), (.d (.sl 2 (List.map d_TRange a1.Reads))), (.d (.sl 2 (List.map d_TCell a1.Writes))), (.d (.sl 2 (List.map d_TCell a1.Cells))), (.d (.sl 4 (List.map d_TShare a1.Shares)))]) rfl rfl (kv 1 (.agg [(dI a2.Kind), (dI a2.Group), (dI a2.Client), (dI a2.Req), (dI a2.Tx), (dI a2.Lo), (dI a2.Hi), (dI a2.Rank), (dI a2.Code), (.d (.bool a2.Yes)), (.d (.sl 2 (List.map d_TRange a2.Reads))), (.d (.sl 2 (List.map d_TCell a2.Writes))), (.d (.sl 2 (List.map d_TCell a2.Cells))), (.d (.sl 4 (List.map d_TShare a2.Shares)))]) rfl rfl SL.nil)) BL.nil BK.nil) ?_
 unfold m_laws_eqLetter at H
 unfold i_laws_eqLetter
 refine aV (oBox (n := 128) (m := 14) (cs := [(dI a1.Kind), (dI a1.Group), (dI a1.Client), (dI a1.Req), (dI a1.Tx), (dI a1.Lo), (dI a1.Hi), (dI a1.Rank), (dI a1.Code), (.d (.bool a1.Yes)), (.d (.sl 2 (List.map d_TRange a1.Reads))), (.d (.sl 2 (List.map d_TCell a1.Writes))), (.d (.sl 2 (List.map d_TCell a1.Cells))), (.d (.sl 4 (List.map d_TShare a1.Shares)))]) rfl eZ rfl rfl nZ (oBox (n := 192) (m := 14) (cs := [(dI a2.Kind), (dI a2.Group), (dI a2.Client), (dI a2.Req), (dI a2.Tx), (dI a2.Lo), (dI a2.Hi), (dI a2.Rank), (dI a2.Code), (.d (.bool a2.Yes)), (.d (.sl 2 (List.map d_TRange a2.Reads))), (.d (.sl 2 (List.map d_TCell a2.Writes))), (.d (.sl 2 (List.map d_TCell a2.Cells))), (.d (.sl 4 (List.map d_TShare a2.Shares)))]) rfl (eR rfl) rfl rfl (nS rfl nZ) (oMov eC (xQ (aS (aV (oFaddrN (m := 0) (eR rfl) rfl (oLoadV (q := 0) (c := (dI a1.Kind)) eZ (bS rfl bZ) rfl rfl (oFaddrN (m := 0) (eR rfl) rfl (oLoadV (q := 0) (c := (dI a2.Kind)) eZ bZ rfl rfl (oNeq (eR rfl) eZ (xQ ?_))))))))))))
 rcases oite H with ⟨h3, H⟩ | ⟨h3, H⟩
 ·refine AW.condT eZ (decide_eq_true h3) (aV (oMov eC (xQ (AW.ret (TQ.qr ?_)))))
  cases H
  exact eE rfl rfl
 ·refine AW.condF eZ (decide_eq_false h3) (AW.skip (TQ.qn (aS (aV (oFaddrN (m := 1) (eR rfl) rfl (oLoadV (q := 1) (c := (dI a1.Group)) eZ (bS rfl bZ) rfl rfl (oFaddrN (m := 1) (eR rfl) rfl (oLoadV (q := 1) (c := (dI a2.Group)) eZ bZ rfl rfl (oNeq (eR rfl) eZ (xQ ?_))))))))))
  rcases oite H with ⟨h4, H⟩ | ⟨h4, H⟩
  ·refine AW.condT eZ (decide_eq_true h4) (aV (oMov eC (xQ (AW.weaken (wk_mk [192, 128] (kr 4 rfl rfl SL.nil) (BL.drop rfl (BL.drop rfl BL.nil)) BK.nil) (AW.ret (TQ.qr ?_))))))
   cases H
   exact eE rfl rfl
  ·refine AW.condF eZ (decide_eq_false h4) (AW.skip (TQ.qn (aS (aV (oFaddrN (m := 2) (eR rfl) rfl (oLoadV (q := 2) (c := (dI a1.Client)) eZ (bS rfl bZ) rfl rfl (oFaddrN (m := 2) (eR rfl) rfl (oLoadV (q := 2) (c := (dI a2.Client)) eZ bZ rfl rfl (oNeq (eR rfl) eZ (xQ (AW.weaken (wk_mk [] (kr 19 rfl rfl (kr 3 rfl rfl (kr 2 rfl rfl SL.nil))) (BL.keep rfl (BL.keep rfl BL.nil)) (BK.cons (n := 192) rfl bZ rfl rfl (BK.cons (n := 128) rfl (bS rfl bZ) rfl rfl BK.nil))) ?_)))))))))))
   rcases oite H with ⟨h5, H⟩ | ⟨h5, H⟩
   ·refine AW.condT eZ (decide_eq_true h5) (aV (oMov eC (xQ (AW.ret (TQ.qr ?_)))))
    cases H
    exact eE rfl rfl
   ·refine AW.condF eZ (decide_eq_false h5) (AW.skip (TQ.qn (aS (aV (oFaddrN (m := 3) (eR rfl) rfl (oLoadV (q := 3) (c := (dI a1.Req)) eZ (bS rfl bZ) rfl rfl (oFaddrN (m := 3) (eR rfl) rfl (oLoadV (q := 3) (c := (dI a2.Req)) eZ bZ rfl rfl (oNeq (eR rfl) eZ (xQ ?_))))))))))
    rcases oite H with ⟨h6, H⟩ | ⟨h6, H⟩
    ·refine AW.condT eZ (decide_eq_true h6) (aV (oMov eC (xQ (AW.ret (TQ.qr ?_)))))
     cases H
     exact eE rfl rfl
    ·refine AW.condF eZ (decide_eq_false h6) (AW.skip (TQ.qn (aS (aV (oFaddrN (m := 4) (eR rfl) rfl (oLoadV (q := 4) (c := (dI a1.Tx)) eZ (bS rfl bZ) rfl rfl (oFaddrN (m := 4) (eR rfl) rfl (oLoadV (q := 4) (c := (dI a2.Tx)) eZ bZ rfl rfl (oNeq (eR rfl) eZ (xQ ?_))))))))))
     rcases oite H with ⟨h7, H⟩ | ⟨h7, H⟩
     ·refine AW.condT eZ (decide_eq_true h7) (aV (oMov eC (xQ (AW.ret (TQ.qr ?_)))))
      cases H
      exact eE rfl rfl
     ·refine AW.condF eZ (decide_eq_false h7) (AW.skip (TQ.qn (aS (aV (oFaddrN (m := 5) (eR rfl) rfl (oLoadV (q := 5) (c := (dI a1.Lo)) eZ (bS rfl bZ) rfl rfl (oFaddrN (m := 5) (eR rfl) rfl (oLoadV (q := 5) (c := (dI a2.Lo)) eZ bZ rfl rfl (oNeq (eR rfl) eZ (xQ (AW.weaken (wk_mk [] (kr 34 rfl rfl (kr 3 rfl rfl (kr 2 rfl rfl SL.nil))) (BL.keep rfl (BL.keep rfl BL.nil)) (BK.cons (n := 192) rfl bZ rfl rfl (BK.cons (n := 128) rfl (bS rfl bZ) rfl rfl BK.nil))) ?_)))))))))))
      rcases oite H with ⟨h8, H⟩ | ⟨h8, H⟩
      ·refine AW.condT eZ (decide_eq_true h8) (aV (oMov eC (xQ (AW.ret (TQ.qr ?_)))))
       cases H
       exact eE rfl rfl
      ·refine AW.condF eZ (decide_eq_false h8) (AW.skip (TQ.qn (aS (aV (oFaddrN (m := 6) (eR rfl) rfl (oLoadV (q := 6) (c := (dI a1.Hi)) eZ (bS rfl bZ) rfl rfl (oFaddrN (m := 6) (eR rfl) rfl (oLoadV (q := 6) (c := (dI a2.Hi)) eZ bZ rfl rfl (oNeq (eR rfl) eZ (xQ ?_))))))))))
       rcases oite H with ⟨h9, H⟩ | ⟨h9, H⟩
       ·refine AW.condT eZ (decide_eq_true h9) (aV (oMov eC (xQ (AW.ret (TQ.qr ?_)))))
        cases H
        exact eE rfl rfl
       ·refine AW.condF eZ (decide_eq_false h9) (AW.skip (TQ.qn (aS (aV (oFaddrN (m := 7) (eR rfl) rfl (oLoadV (q := 7) (c := (dI a1.Rank)) eZ (bS rfl bZ) rfl rfl (oFaddrN (m := 7) (eR rfl) rfl (oLoadV (q := 7) (c := (dI a2.Rank)) eZ bZ rfl rfl (oNeq (eR rfl) eZ (xQ ?_))))))))))
        rcases oite H with ⟨h10, H⟩ | ⟨h10, H⟩
        ·refine AW.condT eZ (decide_eq_true h10) (aV (oMov eC (xQ (AW.ret (TQ.qr ?_)))))
         cases H
         exact eE rfl rfl
        ·refine AW.condF eZ (decide_eq_false h10) (AW.skip (TQ.qn (aS (aV (oFaddrN (m := 8) (eR rfl) rfl (oLoadV (q := 8) (c := (dI a1.Code)) eZ (bS rfl bZ) rfl rfl (oFaddrN (m := 8) (eR rfl) rfl (oLoadV (q := 8) (c := (dI a2.Code)) eZ bZ rfl rfl (oNeq (eR rfl) eZ (xQ (AW.weaken (wk_mk [] (kr 49 rfl rfl (kr 3 rfl rfl (kr 2 rfl rfl SL.nil))) (BL.keep rfl (BL.keep rfl BL.nil)) (BK.cons (n := 192) rfl bZ rfl rfl (BK.cons (n := 128) rfl (bS rfl bZ) rfl rfl BK.nil))) ?_)))))))))))
         rcases oite H with ⟨h11, H⟩ | ⟨h11, H⟩
         ·refine AW.condT eZ (decide_eq_true h11) (aV (oMov eC (xQ (AW.ret (TQ.qr ?_)))))
          cases H
          exact eE rfl rfl
         ·refine AW.condF eZ (decide_eq_false h11) (AW.skip (TQ.qn (aS (aV (oFaddrN (m := 9) (eR rfl) rfl (oLoadV (q := 9) (c := (.d (.bool a1.Yes))) eZ (bS rfl bZ) rfl rfl (oFaddrN (m := 9) (eR rfl) rfl (oLoadV (q := 9) (c := (.d (.bool a2.Yes))) eZ bZ rfl rfl (oBne (eR rfl) eZ (xQ ?_))))))))))
          rcases oite H with ⟨h12, H⟩ | ⟨h12, H⟩
          ·refine AW.condT eZ h12 (aV (oMov eC (xQ (AW.ret (TQ.qr ?_)))))
           cases H
           exact eE rfl rfl
          ·refine AW.condF eZ (nt h12) (AW.skip (TQ.qn (aS (aV (oFaddrN (m := 10) (eR rfl) rfl (oLoadV (q := 10) (c := (.d (.sl 2 (List.map d_TRange a1.Reads)))) eZ (bS rfl bZ) rfl rfl (oFaddrN (m := 10) (eR rfl) rfl (oLoadV (q := 10) (c := (.d (.sl 2 (List.map d_TRange a2.Reads)))) eZ bZ rfl rfl ?_))))))))
           obtain ⟨v13, h14, H⟩ := obind H
           refine oCall (u := (oB v13)) eC Cl.fn (c_laws_eqRangeS h14) (Evs.cons (eR rfl) (Evs.cons eZ Evs.nil)) (VDs.cons VD.plain (VDs.cons VD.plain VDs.nil)) rfl (oInv eZ (xQ ?_))
           rcases oite H with ⟨h15, H⟩ | ⟨h15, H⟩
           ·refine AW.condF eZ (congrArg Bool.not h15) (AW.skip (TQ.qn (aS (aV (oFaddrN (m := 11) (eR rfl) rfl (oLoadV (q := 11) (c := (.d (.sl 2 (List.map d_TCell a1.Writes)))) eZ (bS rfl bZ) rfl rfl (oFaddrN (m := 11) (eR rfl) rfl (oLoadV (q := 11) (c := (.d (.sl 2 (List.map d_TCell a2.Writes)))) eZ bZ rfl rfl ?_))))))))
            obtain ⟨v16, h17, H⟩ := obind H
            refine oCall (u := (oB v16)) eC Cl.fn (c_laws_eqWriteS h17) (Evs.cons (eR rfl) (Evs.cons eZ Evs.nil)) (VDs.cons VD.plain (VDs.cons VD.plain VDs.nil)) rfl (oInv eZ (xQ (AW.weaken (wk_mk [] (kr 66 rfl rfl (kr 3 rfl rfl (kr 2 rfl rfl SL.nil))) (BL.keep rfl (BL.keep rfl BL.nil)) (BK.cons (n := 192) rfl bZ rfl rfl (BK.cons (n := 128) rfl (bS rfl bZ) rfl rfl BK.nil))) ?_)))
            rcases oite H with ⟨h18, H⟩ | ⟨h18, H⟩
            ·refine AW.condF eZ (congrArg Bool.not h18) (AW.skip (TQ.qn (aS (aV (oFaddrN (m := 12) (eR rfl) rfl (oLoadV (q := 12) (c := (.d (.sl 2 (List.map d_TCell a1.Cells)))) eZ (bS rfl bZ) rfl rfl (oFaddrN (m := 12) (eR rfl) rfl (oLoadV (q := 12) (c := (.d (.sl 2 (List.map d_TCell a2.Cells)))) eZ bZ rfl rfl ?_))))))))
             obtain ⟨v19, h20, H⟩ := obind H
             refine oCall (u := (oB v19)) eC Cl.fn (c_laws_eqCellS h20) (Evs.cons (eR rfl) (Evs.cons eZ Evs.nil)) (VDs.cons VD.plain (VDs.cons VD.plain VDs.nil)) rfl (oInv eZ (xQ ?_))
             rcases oite H with ⟨h21, H⟩ | ⟨h21, H⟩
             ·refine AW.condF eZ (congrArg Bool.not h21) (AW.skip (TQ.qn (aS (aV (oFaddrN (m := 13) (eR rfl) rfl (oLoadV (q := 13) (c := (.d (.sl 4 (List.map d_TShare a1.Shares)))) eZ (bS rfl bZ) rfl rfl (oFaddrN (m := 13) (eR rfl) rfl (oLoadV (q := 13) (c := (.d (.sl 4 (List.map d_TShare a2.Shares)))) eZ bZ rfl rfl ?_))))))))
              obtain ⟨v22, h23, H⟩ := obind H
              refine oCall (u := (oB v22)) eC Cl.fn (c_laws_eqShareS h23) (Evs.cons (eR rfl) (Evs.cons eZ Evs.nil)) (VDs.cons VD.plain (VDs.cons VD.plain VDs.nil)) rfl (oInv eZ (xQ ?_))
              rcases oite H with ⟨h24, H⟩ | ⟨h24, H⟩
              ·refine AW.condF eZ (congrArg Bool.not h24) (AW.skip (TQ.qn (aV (oMov eC (xQ (AW.weaken (wk_mk [192, 128] (kr 4 rfl rfl SL.nil) (BL.drop rfl (BL.drop rfl BL.nil)) BK.nil) (AW.ret ?_)))))))
               cases H
               exact eE rfl rfl
              ·refine AW.condT eZ (congrArg Bool.not (nt h24)) (aV (oMov eC (xQ (AW.weaken (wk_mk [192, 128] (kr 4 rfl rfl SL.nil) (BL.drop rfl (BL.drop rfl BL.nil)) BK.nil) (AW.ret (TQ.qr ?_))))))
               cases H
               exact eE rfl rfl
             ·refine AW.condT eZ (congrArg Bool.not (nt h21)) (aV (oMov eC (xQ (AW.ret (TQ.qr ?_)))))
              cases H
              exact eE rfl rfl
            ·refine AW.condT eZ (congrArg Bool.not (nt h18)) (aV (oMov eC (xQ (AW.ret (TQ.qr ?_)))))
             cases H
             exact eE rfl rfl
           ·refine AW.condT eZ (congrArg Bool.not (nt h15)) (aV (oMov eC (xQ (AW.ret (TQ.qr ?_)))))
            cases H
            exact eE rfl rfl
end Go.AW
