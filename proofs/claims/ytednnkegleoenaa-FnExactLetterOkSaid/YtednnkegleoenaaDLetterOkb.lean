/- That functions of the program compute what the plain functions say: printed by a program of the prover's own (tool/dec.py). Conditions: each theorem's own. -/
import Derived.Test.YtednnkegleoenaaMLetterOk
import Derived.Test.YtednnkegleoenaaGLetterOk
import Derived.Test.YtednnkegleoenaaDLetterOka
set_option linter.unusedVariables false
set_option linter.unusedSimpArgs false
set_option maxRecDepth 100000
namespace Go.AW
open Go.Proofs
theorem c_spec_LetterOk {a1 : TLetter} {r : Bool} (H : m_spec_LetterOk a1 = some r) : Fn Try.prog k_spec_LetterOk (lent [(.agg (d_TLetter a1))]) true [(.bool r)] := by
 refine i_spec_LetterOk_fn (fle rfl) ?_
 rw [init_mk]
 refine AW.weaken (wk_mk [] (kv 0 (.agg [(dI a1.Kind), (dI a1.Group), (dI a1.Client), (dI a1.Req), (dI a1.Tx), (dI a1.Lo), (dI a1.Hi), (dI a1.Rank), (dI a1.Code), (.d (.bool a1.Yes)), (.d (.sl 2 (List.map d_TRange a1.Reads))), (.d (.sl 2 (List.map d_TCell a1.Writes))), (.d (.sl 2 (List.map d_TCell a1.Cells))), (.d (.sl 4 (List.map d_TShare a1.Shares)))]) rfl rfl SL.nil) BL.nil BK.nil) ?_
 unfold m_spec_LetterOk at H
 unfold i_spec_LetterOk
 refine aV (oBox (n := 64) (m := 14) (cs := [(dI a1.Kind), (dI a1.Group), (dI a1.Client), (dI a1.Req), (dI a1.Tx), (dI a1.Lo), (dI a1.Hi), (dI a1.Rank), (dI a1.Code), (.d (.bool a1.Yes)), (.d (.sl 2 (List.map d_TRange a1.Reads))), (.d (.sl 2 (List.map d_TCell a1.Writes))), (.d (.sl 2 (List.map d_TCell a1.Cells))), (.d (.sl 4 (List.map d_TShare a1.Shares)))]) rfl eZ rfl rfl nZ (oMov eC (xQ (aV (oFaddrN (m := 0) (eR rfl) rfl (oLoadV (q := 0) (c := (dI a1.Kind)) eZ bZ rfl rfl ?_))))))
 obtain ⟨v2, h3, H⟩ := obind H
 refine oCall (u := (.one (.d (.str v2)))) eC Cl.fn (c_spec_l16Has h3) (Evs.cons eZ Evs.nil) (VDs.cons VD.plain VDs.nil) rfl (oMov eZ (xQ (aS (AW.seqJ (fun t4 : Bool => (spec_LetterOk_j4 v2 a1) t4 = some r) (fun t4 => mk [(1, (.one (.ptr (.nm 64 0 0)))), (3, (.one (.d (.str v2)))), (41, (oB t4))] [(64, (.vars 14 [(dI a1.Kind), (dI a1.Group), (dI a1.Client), (dI a1.Req), (dI a1.Tx), (dI a1.Lo), (dI a1.Hi), (dI a1.Rank), (dI a1.Code), (.d (.bool a1.Yes)), (.d (.sl 2 (List.map d_TRange a1.Reads))), (.d (.sl 2 (List.map d_TCell a1.Writes))), (.d (.sl 2 (List.map d_TCell a1.Cells))), (.d (.sl 4 (List.map d_TShare a1.Shares)))]))] noG) ?_ ?_))))
 ·intro t4 H
  unfold spec_LetterOk_j4 at H
  rcases oite H with ⟨h6, H⟩ | ⟨h6, H⟩
  ·refine AW.condT (eR rfl) h6 (aV (oMov eC (xQ (AW.ret (TQ.qr ?_)))))
   cases H
   exact eE rfl rfl
  ·refine AW.condF (eR rfl) (nt h6) (AW.skip (TQ.qn (aS (AW.seqJ (fun t7 : Bool => (spec_LetterOk_j7 v2 a1) t7 = some r) (fun t7 => mk [(1, (.one (.ptr (.nm 64 0 0)))), (3, (.one (.d (.str v2)))), (64, (oB t7))] [(64, (.vars 14 [(dI a1.Kind), (dI a1.Group), (dI a1.Client), (dI a1.Req), (dI a1.Tx), (dI a1.Lo), (dI a1.Hi), (dI a1.Rank), (dI a1.Code), (.d (.bool a1.Yes)), (.d (.sl 2 (List.map d_TRange a1.Reads))), (.d (.sl 2 (List.map d_TCell a1.Writes))), (.d (.sl 2 (List.map d_TCell a1.Cells))), (.d (.sl 4 (List.map d_TShare a1.Shares)))]))] noG) ?_ ?_))))
   ·intro t7 H
    unfold spec_LetterOk_j7 at H
    rcases oite H with ⟨h9, H⟩ | ⟨h9, H⟩
    ·refine AW.condT (eR rfl) h9 (aV (oMov eC (xQ (AW.ret (TQ.qr ?_)))))
     cases H
     exact eE rfl rfl
    ·refine AW.condF (eR rfl) (nt h9) (AW.skip (TQ.qn (aS (AW.seqJ (fun t10 : Bool => (spec_LetterOk_j10 a1 v2) t10 = some r) (fun t10 => mk [(1, (.one (.ptr (.nm 64 0 0)))), (3, (.one (.d (.str v2)))), (89, (oB t10))] [(64, (.vars 14 [(dI a1.Kind), (dI a1.Group), (dI a1.Client), (dI a1.Req), (dI a1.Tx), (dI a1.Lo), (dI a1.Hi), (dI a1.Rank), (dI a1.Code), (.d (.bool a1.Yes)), (.d (.sl 2 (List.map d_TRange a1.Reads))), (.d (.sl 2 (List.map d_TCell a1.Writes))), (.d (.sl 2 (List.map d_TCell a1.Cells))), (.d (.sl 4 (List.map d_TShare a1.Shares)))]))] noG) ?_ ?_))))
     ·intro t10 H
      unfold spec_LetterOk_j10 at H
      rcases oite H with ⟨h12, H⟩ | ⟨h12, H⟩
      ·refine AW.condT (eR rfl) h12 (aV (oMov eC (xQ (AW.ret (TQ.qr ?_)))))
       cases H
       exact eE rfl rfl
      ·refine AW.condF (eR rfl) (nt h12) (AW.skip (TQ.qn (aS (AW.seqJ (fun t13 : Bool => (spec_LetterOk_j13 a1) t13 = some r) (fun t13 => mk [(1, (.one (.ptr (.nm 64 0 0)))), (155, (oB t13))] [(64, (.vars 14 [(dI a1.Kind), (dI a1.Group), (dI a1.Client), (dI a1.Req), (dI a1.Tx), (dI a1.Lo), (dI a1.Hi), (dI a1.Rank), (dI a1.Code), (.d (.bool a1.Yes)), (.d (.sl 2 (List.map d_TRange a1.Reads))), (.d (.sl 2 (List.map d_TCell a1.Writes))), (.d (.sl 2 (List.map d_TCell a1.Cells))), (.d (.sl 4 (List.map d_TShare a1.Shares)))]))] noG) ?_ ?_))))
       ·intro t13 H
        unfold spec_LetterOk_j13 at H
        rcases oite H with ⟨h15, H⟩ | ⟨h15, H⟩
        ·refine AW.condT (eR rfl) h15 (aV (oMov eC (xQ (AW.ret (TQ.qr ?_)))))
         cases H
         exact eE rfl rfl
        ·refine AW.condF (eR rfl) (nt h15) (AW.skip (TQ.qn (AW.seqJ (fun t16 : Unit => (spec_LetterOk_j16 a1) t16 = some r) (fun t16 => mk [(1, (.one (.ptr (.nm 64 0 0))))] [(64, (.vars 14 [(dI a1.Kind), (dI a1.Group), (dI a1.Client), (dI a1.Req), (dI a1.Tx), (dI a1.Lo), (dI a1.Hi), (dI a1.Rank), (dI a1.Code), (.d (.bool a1.Yes)), (.d (.sl 2 (List.map d_TRange a1.Reads))), (.d (.sl 2 (List.map d_TCell a1.Writes))), (.d (.sl 2 (List.map d_TCell a1.Cells))), (.d (.sl 4 (List.map d_TShare a1.Shares)))]))] noG) ?_ ?_)))
         ·intro t16 H
          unfold spec_LetterOk_j16 at H
          refine aS (AW.regd (oFaddrN (m := 13) eZ rfl (oLoadV (q := 13) (c := (.d (.sl 4 (List.map d_TShare a1.Shares)))) eZ bZ rfl rfl ?_)))
          obtain ⟨v18, h19, H⟩ := obind H
          refine oCall (u := (oI v18)) eC Cl.fn (c_spec_l14Votes h19) (Evs.cons eZ (Evs.cons eC Evs.nil)) (VDs.cons VD.plain (VDs.cons VD.plain VDs.nil)) rfl (oFaddrN (m := 13) (eR rfl) rfl (oLoadV (q := 13) (c := (.d (.sl 4 (List.map d_TShare a1.Shares)))) eZ (hB rfl bZ) rfl rfl (oLenD eZ (n := a1.Shares.length) (List.length_map _) (oEql (eR rfl) eZ (oMov eZ (xQ (AW.ret ?_)))))))
          cases H
          exact eE rfl rfl
         ·refine aV (oMov eC (xQ (AW.block (AW.iter (fun s20 : Int => mk [(1, (.one (.ptr (.nm 64 0 0)))), (4, (oI s20))] [(64, (.vars 14 [(dI a1.Kind), (dI a1.Group), (dI a1.Client), (dI a1.Req), (dI a1.Tx), (dI a1.Lo), (dI a1.Hi), (dI a1.Rank), (dI a1.Code), (.d (.bool a1.Yes)), (.d (.sl 2 (List.map d_TRange a1.Reads))), (.d (.sl 2 (List.map d_TCell a1.Writes))), (.d (.sl 2 (List.map d_TCell a1.Cells))), (.d (.sl 4 (List.map d_TShare a1.Shares)))]))] noG) H (wk_mk [] (kR rfl rfl (kR rfl rfl SL.nil)) (BL.keep rfl BL.nil) (BK.cons rfl bZ rfl rfl BK.nil)) ?_))))
          intro kb21 s20 H
          unfold spec_LetterOk_b20 at H
          refine aS (aV (oMov (eR rfl) (oFaddrN (m := 10) (eR rfl) rfl (oLoadV (q := 10) (c := (.d (.sl 2 (List.map d_TRange a1.Reads)))) eZ bZ rfl rfl (oLenD eZ (n := a1.Reads.length) (List.length_map _) (oLss (eR rfl) eZ (xQ ?_)))))))
          rcases oite H with ⟨h22, H⟩ | ⟨h22, H⟩
          ·refine AW.condT eZ (decide_eq_true h22) (AW.skip (TQ.qn (aS (AW.block (aV (oFaddrN (m := 10) (eR rfl) rfl (oLoadV (q := 10) (c := (.d (.sl 2 (List.map d_TRange a1.Reads)))) eZ bZ rfl rfl (oMov (eR rfl) ?_))))))))
           obtain ⟨v23, h24, H⟩ := obind H
           refine oAtD (eR rfl) eZ h24 (oLoadBA (es := [(dI v23.Lo), (dI v23.Hi)]) eZ rfl ?_)
           obtain ⟨v25, h26, H⟩ := obind H
           refine oCall (u := (oB v25)) eC Cl.fn (c_spec_RangeOk h26) (Evs.cons eZ Evs.nil) (VDs.cons (VD.agg rfl) VDs.nil) rfl (oInv eZ (xQ ?_))
           rcases oite H with ⟨h27, H⟩ | ⟨h27, H⟩
           ·exact AW.condF eZ (congrArg Bool.not h27) (AW.skip (BQ.qn (TQ.qn (aR (oMov (eR rfl) (oAdd eZ eC (oMov eZ (xNil (TQ.qn ⟨(IntKind.wrap .i64 (s20 + 1)), H, (wk_mk [] (kR rfl rfl (kR rfl rfl SL.nil)) (BL.keep rfl BL.nil) (BK.cons rfl bZ rfl rfl BK.nil))⟩)))))))))
           ·refine AW.condT eZ (congrArg Bool.not (nt h27)) (aV (oMov eC (xQ (AW.ret (BQ.qr (TQ.qr (TQ.qr (BQ.qr (TQ.qr ?_)))))))))
            cases H
            exact eE rfl rfl
          ·exact AW.condF eZ (decide_eq_false h22) (AW.exit (TQ.qe (TQ.qe (BQ.qe (TQ.qn ⟨(), H, (wk_mk [] (kR rfl rfl SL.nil) (BL.keep rfl BL.nil) (BK.cons rfl bZ rfl rfl BK.nil))⟩)))))
       ·refine aR (oFaddrN (m := 10) eZ rfl (oLoadV (q := 10) (c := (.d (.sl 2 (List.map d_TRange a1.Reads)))) eZ bZ rfl rfl (oLenD eZ (n := a1.Reads.length) (List.length_map _) (oGtr eZ eC (oMov eZ ?_)))))
        rcases oite H with ⟨h28, H⟩ | ⟨h28, H⟩
        ·refine gSkip eZ (decide_eq_true h28) rfl (gSkip (eR rfl) (decide_eq_true h28) rfl (gSkip (eR rfl) (decide_eq_true h28) rfl (gSkip (eR rfl) (decide_eq_true h28) rfl (gSkipU eZ rfl (gSkipU (eR rfl) rfl (gSkipU (eR rfl) rfl (gSkipU (eR rfl) rfl (gSkip (eR rfl) (decide_eq_true h28) rfl (oPickT (eR rfl) (decide_eq_true h28) eC (oMov eZ (gSkip eZ rfl rfl (gSkip (eR rfl) rfl rfl (gSkip (eR rfl) rfl rfl (gSkip (eR rfl) rfl rfl (oPickT (eR rfl) rfl eC (oMov eZ (gSkip eZ rfl rfl (gSkip (eR rfl) rfl rfl (gSkip (eR rfl) rfl rfl (gSkip (eR rfl) rfl rfl (gSkipU eZ rfl (gSkipU (eR rfl) rfl (gSkipU (eR rfl) rfl (gSkipU (eR rfl) rfl (gSkip (eR rfl) rfl rfl (oPickT (eR rfl) rfl eC (oMov eZ (gSkip eZ rfl rfl (gSkip (eR rfl) rfl rfl (gSkip (eR rfl) rfl rfl (gSkip (eR rfl) rfl rfl (oPickT (eR rfl) rfl eC (oMov eZ (gSkip eZ rfl rfl (gSkip (eR rfl) rfl rfl (gSkip (eR rfl) rfl rfl (gSkip (eR rfl) rfl rfl (gSkipU eZ rfl (gSkipU (eR rfl) rfl ?_)))))))))))))))))))))))))))))))))))))))
         exact gSkipU (eR rfl) rfl (gSkipU (eR rfl) rfl (gSkip (eR rfl) rfl rfl (oPickT (eR rfl) rfl eC (oMov eZ (gSkip eZ rfl rfl (gSkip (eR rfl) rfl rfl (gSkip (eR rfl) rfl rfl (gSkip (eR rfl) rfl rfl (oPickT (eR rfl) rfl eC (oMov eZ (gSkip eZ rfl rfl (gSkip (eR rfl) rfl rfl (gSkip (eR rfl) rfl rfl (gSkip (eR rfl) rfl rfl (gSkipU eZ rfl (gSkipU (eR rfl) rfl (gSkipU (eR rfl) rfl (gSkipU (eR rfl) rfl (gSkip (eR rfl) rfl rfl (oPickT (eR rfl) rfl eC (xNil (TQ.qn ⟨true, H, (wk_mk [] (kR rfl rfl (kR rfl rfl SL.nil)) (BL.keep rfl BL.nil) (BK.cons rfl bZ rfl rfl BK.nil))⟩))))))))))))))))))))))
        ·refine gDo eZ (decide_eq_false h28) (oMov (eR rfl) (gDo (eR rfl) (decide_eq_false h28) ?_))
         obtain ⟨v29, h30, H⟩ := obind H
         refine oCall (u := (oB v29)) eC Cl.fn (c_spec_l4In h30) (Evs.cons eZ (Evs.cons eC Evs.nil)) (VDs.cons VD.plain (VDs.cons VD.plain VDs.nil)) rfl (gDo (eR rfl) (decide_eq_false h28) (oInv eZ (gDo (eR rfl) (decide_eq_false h28) (oMov eZ ?_))))
         rcases oite H with ⟨h31, H⟩ | ⟨h31, H⟩
         ·refine gSkip eZ (congrArg Bool.not h31) rfl (gSkip (eR rfl) (congrArg Bool.not h31) rfl (gSkip (eR rfl) (congrArg Bool.not h31) rfl (gSkip (eR rfl) (congrArg Bool.not h31) rfl (gDo (eR rfl) (decide_eq_false h28) (oPickF (eR rfl) (congrArg Bool.not h31) eC (oPickF (eR rfl) (decide_eq_false h28) eZ (oMov eZ (gDo eZ rfl (oFaddrN (m := 11) (eR rfl) rfl (gDo (eR rfl) rfl (oLoadV (q := 11) (c := (.d (.sl 2 (List.map d_TCell a1.Writes)))) eZ bZ rfl rfl (gDo (eR rfl) rfl ?_))))))))))))
          obtain ⟨v32, h33, H⟩ := obind H
          refine oCall (u := (oB v32)) eC Cl.fn (c_spec_WritesOk h33) (Evs.cons eZ Evs.nil) (VDs.cons VD.plain VDs.nil) rfl (gDo (eR rfl) rfl (oInv eZ (oPickF (eR rfl) rfl eZ (oMov eZ ?_))))
          rcases oite H with ⟨h34, H⟩ | ⟨h34, H⟩
          ·refine gDo eZ (congrArg Bool.not h34) (oMov (eR rfl) (gDo (eR rfl) (congrArg Bool.not h34) ?_))
           obtain ⟨v35, h36, H⟩ := obind H
           refine oCall (u := (oB v35)) eC Cl.fn (c_spec_l4In h36) (Evs.cons eZ (Evs.cons eC Evs.nil)) (VDs.cons VD.plain (VDs.cons VD.plain VDs.nil)) rfl (gDo (eR rfl) (congrArg Bool.not h34) (oInv eZ (gDo (eR rfl) (congrArg Bool.not h34) (oMov eZ ?_))))
           rcases oite H with ⟨h37, H⟩ | ⟨h37, H⟩
           ·refine gSkip eZ (congrArg Bool.not h37) rfl (gSkip (eR rfl) (congrArg Bool.not h37) rfl (gSkip (eR rfl) (congrArg Bool.not h37) rfl (gSkip (eR rfl) (congrArg Bool.not h37) rfl (gDo (eR rfl) (congrArg Bool.not h34) (oPickF (eR rfl) (congrArg Bool.not h37) eC (oPickF (eR rfl) (congrArg Bool.not h34) eZ (oMov eZ (gDo eZ rfl (oFaddrN (m := 12) (eR rfl) rfl (gDo (eR rfl) rfl (oLoadV (q := 12) (c := (.d (.sl 2 (List.map d_TCell a1.Cells)))) eZ bZ rfl rfl (gDo (eR rfl) rfl ?_))))))))))))
            obtain ⟨v38, h39, H⟩ := obind H
            refine oCall (u := (oB v38)) eC Cl.fn (c_spec_StoreOk h39) (Evs.cons eZ Evs.nil) (VDs.cons VD.plain VDs.nil) rfl (gDo (eR rfl) rfl (oInv eZ (oPickF (eR rfl) rfl eZ (oMov eZ ?_))))
            rcases oite H with ⟨h40, H⟩ | ⟨h40, H⟩
            ·refine gDo eZ (congrArg Bool.not h40) (oMov (eR rfl) (gDo (eR rfl) (congrArg Bool.not h40) ?_))
             obtain ⟨v41, h42, H⟩ := obind H
             refine oCall (u := (oB v41)) eC Cl.fn (c_spec_l4In h42) (Evs.cons eZ (Evs.cons eC Evs.nil)) (VDs.cons VD.plain (VDs.cons VD.plain VDs.nil)) rfl (gDo (eR rfl) (congrArg Bool.not h40) (oInv eZ (gDo (eR rfl) (congrArg Bool.not h40) (oMov eZ ?_))))
             rcases oite H with ⟨h43, H⟩ | ⟨h43, H⟩
             ·refine gSkip eZ (congrArg Bool.not h43) rfl (gSkip (eR rfl) (congrArg Bool.not h43) rfl (gSkip (eR rfl) (congrArg Bool.not h43) rfl (gSkip (eR rfl) (congrArg Bool.not h43) rfl (gDo (eR rfl) (congrArg Bool.not h40) (oPickF (eR rfl) (congrArg Bool.not h43) eC (oPickF (eR rfl) (congrArg Bool.not h40) eZ (oMov eZ (gDo eZ rfl (oFaddrN (m := 13) (eR rfl) rfl (gDo (eR rfl) rfl (oLoadV (q := 13) (c := (.d (.sl 4 (List.map d_TShare a1.Shares)))) eZ bZ rfl rfl (gDo (eR rfl) rfl ?_))))))))))))
              obtain ⟨v44, h45, H⟩ := obind H
              refine oCall (u := (oB v44)) eC Cl.fn (c_spec_SharesOk h45) (Evs.cons eZ Evs.nil) (VDs.cons VD.plain VDs.nil) rfl (gDo (eR rfl) rfl (oInv eZ (oPickF (eR rfl) rfl eZ (oMov eZ ?_))))
              rcases oite H with ⟨h46, H⟩ | ⟨h46, H⟩
              ·refine gDo eZ (congrArg Bool.not h46) (oMov (eR rfl) (gDo (eR rfl) (congrArg Bool.not h46) ?_))
               obtain ⟨v47, h48, H⟩ := obind H
               refine oCall (u := (oB v47)) eC Cl.fn (c_spec_l4In h48) (Evs.cons eZ (Evs.cons eC Evs.nil)) (VDs.cons VD.plain (VDs.cons VD.plain VDs.nil)) rfl (gDo (eR rfl) (congrArg Bool.not h46) (oInv eZ (gDo (eR rfl) (congrArg Bool.not h46) (oMov eZ ?_))))
               rcases oite H with ⟨h49, H⟩ | ⟨h49, H⟩
               ·exact gSkip eZ (congrArg Bool.not h49) rfl (gSkip (eR rfl) (congrArg Bool.not h49) rfl (gSkip (eR rfl) (congrArg Bool.not h49) rfl (gSkip (eR rfl) (congrArg Bool.not h49) rfl (gDo (eR rfl) (congrArg Bool.not h46) (oPickF (eR rfl) (congrArg Bool.not h49) eC (oPickF (eR rfl) (congrArg Bool.not h46) eZ (xNil (TQ.qn ⟨false, H, (wk_mk [] (kR rfl rfl (kR rfl rfl SL.nil)) (BL.keep rfl BL.nil) (BK.cons rfl bZ rfl rfl BK.nil))⟩))))))))
               ·exact gDo eZ (congrArg Bool.not (nt h49)) (oFaddrN (m := 13) (eR rfl) rfl (gDo (eR rfl) (congrArg Bool.not (nt h49)) (oLoadV (q := 13) (c := (.d (.sl 4 (List.map d_TShare a1.Shares)))) eZ bZ rfl rfl (gDo (eR rfl) (congrArg Bool.not (nt h49)) (oLenD eZ (n := a1.Shares.length) (List.length_map _) (gDo (eR rfl) (congrArg Bool.not (nt h49)) (oGtr eZ eC (gDo (eR rfl) (congrArg Bool.not h46) (oPickT (eR rfl) (congrArg Bool.not (nt h49)) eZ (oPickF (eR rfl) (congrArg Bool.not h46) eZ (xNil (TQ.qn ⟨(decide (0 < (a1.Shares.length : Int))), H, (wk_mk [] (kR rfl rfl (kR rfl rfl SL.nil)) (BL.keep rfl BL.nil) (BK.cons rfl bZ rfl rfl BK.nil))⟩))))))))))))
              ·exact gSkip eZ (congrArg Bool.not (nt h46)) rfl (gSkip (eR rfl) (congrArg Bool.not (nt h46)) rfl (gSkip (eR rfl) (congrArg Bool.not (nt h46)) rfl (gSkip (eR rfl) (congrArg Bool.not (nt h46)) rfl (gSkipU eZ rfl (gSkipU (eR rfl) rfl (gSkipU (eR rfl) rfl (gSkipU (eR rfl) rfl (gSkip (eR rfl) (congrArg Bool.not (nt h46)) rfl (oPickT (eR rfl) (congrArg Bool.not (nt h46)) eC (xNil (TQ.qn ⟨true, H, (wk_mk [] (kR rfl rfl (kR rfl rfl SL.nil)) (BL.keep rfl BL.nil) (BK.cons rfl bZ rfl rfl BK.nil))⟩)))))))))))
             ·refine gDo eZ (congrArg Bool.not (nt h43)) (oFaddrN (m := 12) (eR rfl) rfl (gDo (eR rfl) (congrArg Bool.not (nt h43)) (oLoadV (q := 12) (c := (.d (.sl 2 (List.map d_TCell a1.Cells)))) eZ bZ rfl rfl (gDo (eR rfl) (congrArg Bool.not (nt h43)) (oLenD eZ (n := a1.Cells.length) (List.length_map _) (gDo (eR rfl) (congrArg Bool.not (nt h43)) (oGtr eZ eC (gDo (eR rfl) (congrArg Bool.not h40) (oPickT (eR rfl) (congrArg Bool.not (nt h43)) eZ (oPickF (eR rfl) (congrArg Bool.not h40) eZ (oMov eZ ?_)))))))))))
              rcases oite H with ⟨h50, H⟩ | ⟨h50, H⟩
              ·exact gSkip eZ (decide_eq_true h50) rfl (gSkip (eR rfl) (decide_eq_true h50) rfl (gSkip (eR rfl) (decide_eq_true h50) rfl (gSkip (eR rfl) (decide_eq_true h50) rfl (oPickT (eR rfl) (decide_eq_true h50) eC (oMov eZ (gSkip eZ rfl rfl (gSkip (eR rfl) rfl rfl (gSkip (eR rfl) rfl rfl (gSkip (eR rfl) rfl rfl (gSkipU eZ rfl (gSkipU (eR rfl) rfl (gSkipU (eR rfl) rfl (gSkipU (eR rfl) rfl (gSkip (eR rfl) rfl rfl (oPickT (eR rfl) rfl eC (xNil (TQ.qn ⟨true, H, (wk_mk [] (kR rfl rfl (kR rfl rfl SL.nil)) (BL.keep rfl BL.nil) (BK.cons rfl bZ rfl rfl BK.nil))⟩)))))))))))))))))
              ·refine gDo eZ (decide_eq_false h50) (oFaddrN (m := 13) (eR rfl) rfl (gDo (eR rfl) (decide_eq_false h50) (oLoadV (q := 13) (c := (.d (.sl 4 (List.map d_TShare a1.Shares)))) eZ bZ rfl rfl (gDo (eR rfl) (decide_eq_false h50) ?_))))
               obtain ⟨v51, h52, H⟩ := obind H
               refine oCall (u := (oB v51)) eC Cl.fn (c_spec_SharesOk h52) (Evs.cons eZ Evs.nil) (VDs.cons VD.plain VDs.nil) rfl (gDo (eR rfl) (decide_eq_false h50) (oInv eZ (oPickF (eR rfl) (decide_eq_false h50) eZ (oMov eZ ?_))))
               rcases oite H with ⟨h53, H⟩ | ⟨h53, H⟩
               ·refine gDo eZ (congrArg Bool.not h53) (oMov (eR rfl) (gDo (eR rfl) (congrArg Bool.not h53) ?_))
                obtain ⟨v54, h55, H⟩ := obind H
                refine oCall (u := (oB v54)) eC Cl.fn (c_spec_l4In h55) (Evs.cons eZ (Evs.cons eC Evs.nil)) (VDs.cons VD.plain (VDs.cons VD.plain VDs.nil)) rfl (gDo (eR rfl) (congrArg Bool.not h53) (oInv eZ (gDo (eR rfl) (congrArg Bool.not h53) (oMov eZ ?_))))
                rcases oite H with ⟨h56, H⟩ | ⟨h56, H⟩
                ·exact gSkip eZ (congrArg Bool.not h56) rfl (gSkip (eR rfl) (congrArg Bool.not h56) rfl (gSkip (eR rfl) (congrArg Bool.not h56) rfl (gSkip (eR rfl) (congrArg Bool.not h56) rfl (gDo (eR rfl) (congrArg Bool.not h53) (oPickF (eR rfl) (congrArg Bool.not h56) eC (oPickF (eR rfl) (congrArg Bool.not h53) eZ (xNil (TQ.qn ⟨false, H, (wk_mk [] (kR rfl rfl (kR rfl rfl SL.nil)) (BL.keep rfl BL.nil) (BK.cons rfl bZ rfl rfl BK.nil))⟩))))))))
                ·exact gDo eZ (congrArg Bool.not (nt h56)) (oFaddrN (m := 13) (eR rfl) rfl (gDo (eR rfl) (congrArg Bool.not (nt h56)) (oLoadV (q := 13) (c := (.d (.sl 4 (List.map d_TShare a1.Shares)))) eZ bZ rfl rfl (gDo (eR rfl) (congrArg Bool.not (nt h56)) (oLenD eZ (n := a1.Shares.length) (List.length_map _) (gDo (eR rfl) (congrArg Bool.not (nt h56)) (oGtr eZ eC (gDo (eR rfl) (congrArg Bool.not h53) (oPickT (eR rfl) (congrArg Bool.not (nt h56)) eZ (oPickF (eR rfl) (congrArg Bool.not h53) eZ (xNil (TQ.qn ⟨(decide (0 < (a1.Shares.length : Int))), H, (wk_mk [] (kR rfl rfl (kR rfl rfl SL.nil)) (BL.keep rfl BL.nil) (BK.cons rfl bZ rfl rfl BK.nil))⟩))))))))))))
               ·exact gSkip eZ (congrArg Bool.not (nt h53)) rfl (gSkip (eR rfl) (congrArg Bool.not (nt h53)) rfl (gSkip (eR rfl) (congrArg Bool.not (nt h53)) rfl (gSkip (eR rfl) (congrArg Bool.not (nt h53)) rfl (gSkipU eZ rfl (gSkipU (eR rfl) rfl (gSkipU (eR rfl) rfl (gSkipU (eR rfl) rfl (gSkip (eR rfl) (congrArg Bool.not (nt h53)) rfl (oPickT (eR rfl) (congrArg Bool.not (nt h53)) eC (xNil (TQ.qn ⟨true, H, (wk_mk [] (kR rfl rfl (kR rfl rfl SL.nil)) (BL.keep rfl BL.nil) (BK.cons rfl bZ rfl rfl BK.nil))⟩)))))))))))
            ·exact gSkip eZ (congrArg Bool.not (nt h40)) rfl (gSkip (eR rfl) (congrArg Bool.not (nt h40)) rfl (gSkip (eR rfl) (congrArg Bool.not (nt h40)) rfl (gSkip (eR rfl) (congrArg Bool.not (nt h40)) rfl (gSkipU eZ rfl (gSkipU (eR rfl) rfl (gSkipU (eR rfl) rfl (gSkipU (eR rfl) rfl (gSkip (eR rfl) (congrArg Bool.not (nt h40)) rfl (oPickT (eR rfl) (congrArg Bool.not (nt h40)) eC (oMov eZ (gSkip eZ rfl rfl (gSkip (eR rfl) rfl rfl (gSkip (eR rfl) rfl rfl (gSkip (eR rfl) rfl rfl (oPickT (eR rfl) rfl eC (oMov eZ (gSkip eZ rfl rfl (gSkip (eR rfl) rfl rfl (gSkip (eR rfl) rfl rfl (gSkip (eR rfl) rfl rfl (gSkipU eZ rfl (gSkipU (eR rfl) rfl (gSkipU (eR rfl) rfl (gSkipU (eR rfl) rfl (gSkip (eR rfl) rfl rfl (oPickT (eR rfl) rfl eC (xNil (TQ.qn ⟨true, H, (wk_mk [] (kR rfl rfl (kR rfl rfl SL.nil)) (BL.keep rfl BL.nil) (BK.cons rfl bZ rfl rfl BK.nil))⟩))))))))))))))))))))))))))))
           ·refine gDo eZ (congrArg Bool.not (nt h37)) (oFaddrN (m := 11) (eR rfl) rfl (gDo (eR rfl) (congrArg Bool.not (nt h37)) (oLoadV (q := 11) (c := (.d (.sl 2 (List.map d_TCell a1.Writes)))) eZ bZ rfl rfl (gDo (eR rfl) (congrArg Bool.not (nt h37)) (oLenD eZ (n := a1.Writes.length) (List.length_map _) (gDo (eR rfl) (congrArg Bool.not (nt h37)) (oGtr eZ eC (gDo (eR rfl) (congrArg Bool.not h34) (oPickT (eR rfl) (congrArg Bool.not (nt h37)) eZ (oPickF (eR rfl) (congrArg Bool.not h34) eZ (oMov eZ ?_)))))))))))
            rcases oite H with ⟨h57, H⟩ | ⟨h57, H⟩
            ·exact gSkip eZ (decide_eq_true h57) rfl (gSkip (eR rfl) (decide_eq_true h57) rfl (gSkip (eR rfl) (decide_eq_true h57) rfl (gSkip (eR rfl) (decide_eq_true h57) rfl (oPickT (eR rfl) (decide_eq_true h57) eC (oMov eZ (gSkip eZ rfl rfl (gSkip (eR rfl) rfl rfl (gSkip (eR rfl) rfl rfl (gSkip (eR rfl) rfl rfl (gSkipU eZ rfl (gSkipU (eR rfl) rfl (gSkipU (eR rfl) rfl (gSkipU (eR rfl) rfl (gSkip (eR rfl) rfl rfl (oPickT (eR rfl) rfl eC (oMov eZ (gSkip eZ rfl rfl (gSkip (eR rfl) rfl rfl (gSkip (eR rfl) rfl rfl (gSkip (eR rfl) rfl rfl (oPickT (eR rfl) rfl eC (oMov eZ (gSkip eZ rfl rfl (gSkip (eR rfl) rfl rfl (gSkip (eR rfl) rfl rfl (gSkip (eR rfl) rfl rfl (gSkipU eZ rfl (gSkipU (eR rfl) rfl (gSkipU (eR rfl) rfl (gSkipU (eR rfl) rfl (gSkip (eR rfl) rfl rfl (oPickT (eR rfl) rfl eC (xNil (TQ.qn ⟨true, H, (wk_mk [] (kR rfl rfl (kR rfl rfl SL.nil)) (BL.keep rfl BL.nil) (BK.cons rfl bZ rfl rfl BK.nil))⟩))))))))))))))))))))))))))))))))))
            ·refine gDo eZ (decide_eq_false h57) (oFaddrN (m := 12) (eR rfl) rfl (gDo (eR rfl) (decide_eq_false h57) (oLoadV (q := 12) (c := (.d (.sl 2 (List.map d_TCell a1.Cells)))) eZ bZ rfl rfl (gDo (eR rfl) (decide_eq_false h57) ?_))))
             obtain ⟨v58, h59, H⟩ := obind H
             refine oCall (u := (oB v58)) eC Cl.fn (c_spec_StoreOk h59) (Evs.cons eZ Evs.nil) (VDs.cons VD.plain VDs.nil) rfl (gDo (eR rfl) (decide_eq_false h57) (oInv eZ (oPickF (eR rfl) (decide_eq_false h57) eZ (oMov eZ ?_))))
             rcases oite H with ⟨h60, H⟩ | ⟨h60, H⟩
             ·refine gDo eZ (congrArg Bool.not h60) (oMov (eR rfl) (gDo (eR rfl) (congrArg Bool.not h60) ?_))
              obtain ⟨v61, h62, H⟩ := obind H
              refine oCall (u := (oB v61)) eC Cl.fn (c_spec_l4In h62) (Evs.cons eZ (Evs.cons eC Evs.nil)) (VDs.cons VD.plain (VDs.cons VD.plain VDs.nil)) rfl (gDo (eR rfl) (congrArg Bool.not h60) (oInv eZ (gDo (eR rfl) (congrArg Bool.not h60) (oMov eZ ?_))))
              rcases oite H with ⟨h63, H⟩ | ⟨h63, H⟩
              ·refine gSkip eZ (congrArg Bool.not h63) rfl (gSkip (eR rfl) (congrArg Bool.not h63) rfl (gSkip (eR rfl) (congrArg Bool.not h63) rfl (gSkip (eR rfl) (congrArg Bool.not h63) rfl (gDo (eR rfl) (congrArg Bool.not h60) (oPickF (eR rfl) (congrArg Bool.not h63) eC (oPickF (eR rfl) (congrArg Bool.not h60) eZ (oMov eZ (gDo eZ rfl (oFaddrN (m := 13) (eR rfl) rfl (gDo (eR rfl) rfl (oLoadV (q := 13) (c := (.d (.sl 4 (List.map d_TShare a1.Shares)))) eZ bZ rfl rfl (gDo (eR rfl) rfl ?_))))))))))))
               obtain ⟨v64, h65, H⟩ := obind H
               refine oCall (u := (oB v64)) eC Cl.fn (c_spec_SharesOk h65) (Evs.cons eZ Evs.nil) (VDs.cons VD.plain VDs.nil) rfl (gDo (eR rfl) rfl (oInv eZ (oPickF (eR rfl) rfl eZ (oMov eZ ?_))))
               rcases oite H with ⟨h66, H⟩ | ⟨h66, H⟩
               ·refine gDo eZ (congrArg Bool.not h66) (oMov (eR rfl) (gDo (eR rfl) (congrArg Bool.not h66) ?_))
                obtain ⟨v67, h68, H⟩ := obind H
                refine oCall (u := (oB v67)) eC Cl.fn (c_spec_l4In h68) (Evs.cons eZ (Evs.cons eC Evs.nil)) (VDs.cons VD.plain (VDs.cons VD.plain VDs.nil)) rfl (gDo (eR rfl) (congrArg Bool.not h66) (oInv eZ (gDo (eR rfl) (congrArg Bool.not h66) (oMov eZ ?_))))
                rcases oite H with ⟨h69, H⟩ | ⟨h69, H⟩
                ·exact gSkip eZ (congrArg Bool.not h69) rfl (gSkip (eR rfl) (congrArg Bool.not h69) rfl (gSkip (eR rfl) (congrArg Bool.not h69) rfl (gSkip (eR rfl) (congrArg Bool.not h69) rfl (gDo (eR rfl) (congrArg Bool.not h66) (oPickF (eR rfl) (congrArg Bool.not h69) eC (oPickF (eR rfl) (congrArg Bool.not h66) eZ (xNil (TQ.qn ⟨false, H, (wk_mk [] (kR rfl rfl (kR rfl rfl SL.nil)) (BL.keep rfl BL.nil) (BK.cons rfl bZ rfl rfl BK.nil))⟩))))))))
                ·exact gDo eZ (congrArg Bool.not (nt h69)) (oFaddrN (m := 13) (eR rfl) rfl (gDo (eR rfl) (congrArg Bool.not (nt h69)) (oLoadV (q := 13) (c := (.d (.sl 4 (List.map d_TShare a1.Shares)))) eZ bZ rfl rfl (gDo (eR rfl) (congrArg Bool.not (nt h69)) (oLenD eZ (n := a1.Shares.length) (List.length_map _) (gDo (eR rfl) (congrArg Bool.not (nt h69)) (oGtr eZ eC (gDo (eR rfl) (congrArg Bool.not h66) (oPickT (eR rfl) (congrArg Bool.not (nt h69)) eZ (oPickF (eR rfl) (congrArg Bool.not h66) eZ (xNil (TQ.qn ⟨(decide (0 < (a1.Shares.length : Int))), H, (wk_mk [] (kR rfl rfl (kR rfl rfl SL.nil)) (BL.keep rfl BL.nil) (BK.cons rfl bZ rfl rfl BK.nil))⟩))))))))))))
               ·exact gSkip eZ (congrArg Bool.not (nt h66)) rfl (gSkip (eR rfl) (congrArg Bool.not (nt h66)) rfl (gSkip (eR rfl) (congrArg Bool.not (nt h66)) rfl (gSkip (eR rfl) (congrArg Bool.not (nt h66)) rfl (gSkipU eZ rfl (gSkipU (eR rfl) rfl (gSkipU (eR rfl) rfl (gSkipU (eR rfl) rfl (gSkip (eR rfl) (congrArg Bool.not (nt h66)) rfl (oPickT (eR rfl) (congrArg Bool.not (nt h66)) eC (xNil (TQ.qn ⟨true, H, (wk_mk [] (kR rfl rfl (kR rfl rfl SL.nil)) (BL.keep rfl BL.nil) (BK.cons rfl bZ rfl rfl BK.nil))⟩)))))))))))
              ·refine gDo eZ (congrArg Bool.not (nt h63)) (oFaddrN (m := 12) (eR rfl) rfl (gDo (eR rfl) (congrArg Bool.not (nt h63)) (oLoadV (q := 12) (c := (.d (.sl 2 (List.map d_TCell a1.Cells)))) eZ bZ rfl rfl (gDo (eR rfl) (congrArg Bool.not (nt h63)) (oLenD eZ (n := a1.Cells.length) (List.length_map _) (gDo (eR rfl) (congrArg Bool.not (nt h63)) (oGtr eZ eC (gDo (eR rfl) (congrArg Bool.not h60) (oPickT (eR rfl) (congrArg Bool.not (nt h63)) eZ (oPickF (eR rfl) (congrArg Bool.not h60) eZ (oMov eZ ?_)))))))))))
               rcases oite H with ⟨h70, H⟩ | ⟨h70, H⟩
               ·exact gSkip eZ (decide_eq_true h70) rfl (gSkip (eR rfl) (decide_eq_true h70) rfl (gSkip (eR rfl) (decide_eq_true h70) rfl (gSkip (eR rfl) (decide_eq_true h70) rfl (oPickT (eR rfl) (decide_eq_true h70) eC (oMov eZ (gSkip eZ rfl rfl (gSkip (eR rfl) rfl rfl (gSkip (eR rfl) rfl rfl (gSkip (eR rfl) rfl rfl (gSkipU eZ rfl (gSkipU (eR rfl) rfl (gSkipU (eR rfl) rfl (gSkipU (eR rfl) rfl (gSkip (eR rfl) rfl rfl (oPickT (eR rfl) rfl eC (xNil (TQ.qn ⟨true, H, (wk_mk [] (kR rfl rfl (kR rfl rfl SL.nil)) (BL.keep rfl BL.nil) (BK.cons rfl bZ rfl rfl BK.nil))⟩)))))))))))))))))
               ·refine gDo eZ (decide_eq_false h70) (oFaddrN (m := 13) (eR rfl) rfl (gDo (eR rfl) (decide_eq_false h70) (oLoadV (q := 13) (c := (.d (.sl 4 (List.map d_TShare a1.Shares)))) eZ bZ rfl rfl (gDo (eR rfl) (decide_eq_false h70) ?_))))
                obtain ⟨v71, h72, H⟩ := obind H
                refine oCall (u := (oB v71)) eC Cl.fn (c_spec_SharesOk h72) (Evs.cons eZ Evs.nil) (VDs.cons VD.plain VDs.nil) rfl (gDo (eR rfl) (decide_eq_false h70) (oInv eZ (oPickF (eR rfl) (decide_eq_false h70) eZ (oMov eZ ?_))))
                rcases oite H with ⟨h73, H⟩ | ⟨h73, H⟩
                ·refine gDo eZ (congrArg Bool.not h73) (oMov (eR rfl) (gDo (eR rfl) (congrArg Bool.not h73) ?_))
                 obtain ⟨v74, h75, H⟩ := obind H
                 refine oCall (u := (oB v74)) eC Cl.fn (c_spec_l4In h75) (Evs.cons eZ (Evs.cons eC Evs.nil)) (VDs.cons VD.plain (VDs.cons VD.plain VDs.nil)) rfl (gDo (eR rfl) (congrArg Bool.not h73) (oInv eZ (gDo (eR rfl) (congrArg Bool.not h73) (oMov eZ ?_))))
                 rcases oite H with ⟨h76, H⟩ | ⟨h76, H⟩
                 ·exact gSkip eZ (congrArg Bool.not h76) rfl (gSkip (eR rfl) (congrArg Bool.not h76) rfl (gSkip (eR rfl) (congrArg Bool.not h76) rfl (gSkip (eR rfl) (congrArg Bool.not h76) rfl (gDo (eR rfl) (congrArg Bool.not h73) (oPickF (eR rfl) (congrArg Bool.not h76) eC (oPickF (eR rfl) (congrArg Bool.not h73) eZ (xNil (TQ.qn ⟨false, H, (wk_mk [] (kR rfl rfl (kR rfl rfl SL.nil)) (BL.keep rfl BL.nil) (BK.cons rfl bZ rfl rfl BK.nil))⟩))))))))
                 ·exact gDo eZ (congrArg Bool.not (nt h76)) (oFaddrN (m := 13) (eR rfl) rfl (gDo (eR rfl) (congrArg Bool.not (nt h76)) (oLoadV (q := 13) (c := (.d (.sl 4 (List.map d_TShare a1.Shares)))) eZ bZ rfl rfl (gDo (eR rfl) (congrArg Bool.not (nt h76)) (oLenD eZ (n := a1.Shares.length) (List.length_map _) (gDo (eR rfl) (congrArg Bool.not (nt h76)) (oGtr eZ eC (gDo (eR rfl) (congrArg Bool.not h73) (oPickT (eR rfl) (congrArg Bool.not (nt h76)) eZ (oPickF (eR rfl) (congrArg Bool.not h73) eZ (xNil (TQ.qn ⟨(decide (0 < (a1.Shares.length : Int))), H, (wk_mk [] (kR rfl rfl (kR rfl rfl SL.nil)) (BL.keep rfl BL.nil) (BK.cons rfl bZ rfl rfl BK.nil))⟩))))))))))))
                ·exact gSkip eZ (congrArg Bool.not (nt h73)) rfl (gSkip (eR rfl) (congrArg Bool.not (nt h73)) rfl (gSkip (eR rfl) (congrArg Bool.not (nt h73)) rfl (gSkip (eR rfl) (congrArg Bool.not (nt h73)) rfl (gSkipU eZ rfl (gSkipU (eR rfl) rfl (gSkipU (eR rfl) rfl (gSkipU (eR rfl) rfl (gSkip (eR rfl) (congrArg Bool.not (nt h73)) rfl (oPickT (eR rfl) (congrArg Bool.not (nt h73)) eC (xNil (TQ.qn ⟨true, H, (wk_mk [] (kR rfl rfl (kR rfl rfl SL.nil)) (BL.keep rfl BL.nil) (BK.cons rfl bZ rfl rfl BK.nil))⟩)))))))))))
             ·exact gSkip eZ (congrArg Bool.not (nt h60)) rfl (gSkip (eR rfl) (congrArg Bool.not (nt h60)) rfl (gSkip (eR rfl) (congrArg Bool.not (nt h60)) rfl (gSkip (eR rfl) (congrArg Bool.not (nt h60)) rfl (gSkipU eZ rfl (gSkipU (eR rfl) rfl (gSkipU (eR rfl) rfl (gSkipU (eR rfl) rfl (gSkip (eR rfl) (congrArg Bool.not (nt h60)) rfl (oPickT (eR rfl) (congrArg Bool.not (nt h60)) eC (oMov eZ (gSkip eZ rfl rfl (gSkip (eR rfl) rfl rfl (gSkip (eR rfl) rfl rfl (gSkip (eR rfl) rfl rfl (oPickT (eR rfl) rfl eC (oMov eZ (gSkip eZ rfl rfl (gSkip (eR rfl) rfl rfl (gSkip (eR rfl) rfl rfl (gSkip (eR rfl) rfl rfl (gSkipU eZ rfl (gSkipU (eR rfl) rfl (gSkipU (eR rfl) rfl (gSkipU (eR rfl) rfl (gSkip (eR rfl) rfl rfl (oPickT (eR rfl) rfl eC (xNil (TQ.qn ⟨true, H, (wk_mk [] (kR rfl rfl (kR rfl rfl SL.nil)) (BL.keep rfl BL.nil) (BK.cons rfl bZ rfl rfl BK.nil))⟩))))))))))))))))))))))))))))
          ·refine gSkip eZ (congrArg Bool.not (nt h34)) rfl (gSkip (eR rfl) (congrArg Bool.not (nt h34)) rfl (gSkip (eR rfl) (congrArg Bool.not (nt h34)) rfl (gSkip (eR rfl) (congrArg Bool.not (nt h34)) rfl (gSkipU eZ rfl (gSkipU (eR rfl) rfl (gSkipU (eR rfl) rfl (gSkipU (eR rfl) rfl (gSkip (eR rfl) (congrArg Bool.not (nt h34)) rfl (oPickT (eR rfl) (congrArg Bool.not (nt h34)) eC (oMov eZ (gSkip eZ rfl rfl (gSkip (eR rfl) rfl rfl (gSkip (eR rfl) rfl rfl (gSkip (eR rfl) rfl rfl (oPickT (eR rfl) rfl eC (oMov eZ (gSkip eZ rfl rfl (gSkip (eR rfl) rfl rfl (gSkip (eR rfl) rfl rfl (gSkip (eR rfl) rfl rfl (gSkipU eZ rfl (gSkipU (eR rfl) rfl (gSkipU (eR rfl) rfl (gSkipU (eR rfl) rfl (gSkip (eR rfl) rfl rfl (oPickT (eR rfl) rfl eC (oMov eZ (gSkip eZ rfl rfl (gSkip (eR rfl) rfl rfl (gSkip (eR rfl) rfl rfl (gSkip (eR rfl) rfl rfl (oPickT (eR rfl) rfl eC (oMov eZ (gSkip eZ rfl rfl (gSkip (eR rfl) rfl rfl (gSkip (eR rfl) rfl rfl (gSkip (eR rfl) rfl rfl (gSkipU eZ rfl (gSkipU (eR rfl) rfl ?_)))))))))))))))))))))))))))))))))))))))
           exact gSkipU (eR rfl) rfl (gSkipU (eR rfl) rfl (gSkip (eR rfl) rfl rfl (oPickT (eR rfl) rfl eC (xNil (TQ.qn ⟨true, H, (wk_mk [] (kR rfl rfl (kR rfl rfl SL.nil)) (BL.keep rfl BL.nil) (BK.cons rfl bZ rfl rfl BK.nil))⟩)))))
         ·refine gDo eZ (congrArg Bool.not (nt h31)) (oFaddrN (m := 10) (eR rfl) rfl (gDo (eR rfl) (congrArg Bool.not (nt h31)) (oLoadV (q := 10) (c := (.d (.sl 2 (List.map d_TRange a1.Reads)))) eZ bZ rfl rfl (gDo (eR rfl) (congrArg Bool.not (nt h31)) (oLenD eZ (n := a1.Reads.length) (List.length_map _) (gDo (eR rfl) (congrArg Bool.not (nt h31)) (oGtr eZ eC (gDo (eR rfl) (decide_eq_false h28) (oPickT (eR rfl) (congrArg Bool.not (nt h31)) eZ (oPickF (eR rfl) (decide_eq_false h28) eZ (oMov eZ ?_)))))))))))
          rcases oite H with ⟨h77, H⟩ | ⟨h77, H⟩
          ·refine gSkip eZ (decide_eq_true h77) rfl (gSkip (eR rfl) (decide_eq_true h77) rfl (gSkip (eR rfl) (decide_eq_true h77) rfl (gSkip (eR rfl) (decide_eq_true h77) rfl (oPickT (eR rfl) (decide_eq_true h77) eC (oMov eZ (gSkip eZ rfl rfl (gSkip (eR rfl) rfl rfl (gSkip (eR rfl) rfl rfl (gSkip (eR rfl) rfl rfl (gSkipU eZ rfl (gSkipU (eR rfl) rfl (gSkipU (eR rfl) rfl (gSkipU (eR rfl) rfl (gSkip (eR rfl) rfl rfl (oPickT (eR rfl) rfl eC (oMov eZ (gSkip eZ rfl rfl (gSkip (eR rfl) rfl rfl (gSkip (eR rfl) rfl rfl (gSkip (eR rfl) rfl rfl (oPickT (eR rfl) rfl eC (oMov eZ (gSkip eZ rfl rfl (gSkip (eR rfl) rfl rfl (gSkip (eR rfl) rfl rfl (gSkip (eR rfl) rfl rfl (gSkipU eZ rfl (gSkipU (eR rfl) rfl (gSkipU (eR rfl) rfl (gSkipU (eR rfl) rfl (gSkip (eR rfl) rfl rfl (oPickT (eR rfl) rfl eC (oMov eZ (gSkip eZ rfl rfl (gSkip (eR rfl) rfl rfl (gSkip (eR rfl) rfl rfl (gSkip (eR rfl) rfl rfl (oPickT (eR rfl) rfl eC (oMov eZ ?_)))))))))))))))))))))))))))))))))))))))
           exact gSkip eZ rfl rfl (gSkip (eR rfl) rfl rfl (gSkip (eR rfl) rfl rfl (gSkip (eR rfl) rfl rfl (gSkipU eZ rfl (gSkipU (eR rfl) rfl (gSkipU (eR rfl) rfl (gSkipU (eR rfl) rfl (gSkip (eR rfl) rfl rfl (oPickT (eR rfl) rfl eC (xNil (TQ.qn ⟨true, H, (wk_mk [] (kR rfl rfl (kR rfl rfl SL.nil)) (BL.keep rfl BL.nil) (BK.cons rfl bZ rfl rfl BK.nil))⟩)))))))))))
          ·refine gDo eZ (decide_eq_false h77) (oFaddrN (m := 11) (eR rfl) rfl (gDo (eR rfl) (decide_eq_false h77) (oLoadV (q := 11) (c := (.d (.sl 2 (List.map d_TCell a1.Writes)))) eZ bZ rfl rfl (gDo (eR rfl) (decide_eq_false h77) ?_))))
           obtain ⟨v78, h79, H⟩ := obind H
           refine oCall (u := (oB v78)) eC Cl.fn (c_spec_WritesOk h79) (Evs.cons eZ Evs.nil) (VDs.cons VD.plain VDs.nil) rfl (gDo (eR rfl) (decide_eq_false h77) (oInv eZ (oPickF (eR rfl) (decide_eq_false h77) eZ (oMov eZ ?_))))
           rcases oite H with ⟨h80, H⟩ | ⟨h80, H⟩
           ·refine gDo eZ (congrArg Bool.not h80) (oMov (eR rfl) (gDo (eR rfl) (congrArg Bool.not h80) ?_))
            obtain ⟨v81, h82, H⟩ := obind H
            refine oCall (u := (oB v81)) eC Cl.fn (c_spec_l4In h82) (Evs.cons eZ (Evs.cons eC Evs.nil)) (VDs.cons VD.plain (VDs.cons VD.plain VDs.nil)) rfl (gDo (eR rfl) (congrArg Bool.not h80) (oInv eZ (gDo (eR rfl) (congrArg Bool.not h80) (oMov eZ ?_))))
            rcases oite H with ⟨h83, H⟩ | ⟨h83, H⟩
            ·refine gSkip eZ (congrArg Bool.not h83) rfl (gSkip (eR rfl) (congrArg Bool.not h83) rfl (gSkip (eR rfl) (congrArg Bool.not h83) rfl (gSkip (eR rfl) (congrArg Bool.not h83) rfl (gDo (eR rfl) (congrArg Bool.not h80) (oPickF (eR rfl) (congrArg Bool.not h83) eC (oPickF (eR rfl) (congrArg Bool.not h80) eZ (oMov eZ (gDo eZ rfl (oFaddrN (m := 12) (eR rfl) rfl (gDo (eR rfl) rfl (oLoadV (q := 12) (c := (.d (.sl 2 (List.map d_TCell a1.Cells)))) eZ bZ rfl rfl (gDo (eR rfl) rfl ?_))))))))))))
             obtain ⟨v84, h85, H⟩ := obind H
             refine oCall (u := (oB v84)) eC Cl.fn (c_spec_StoreOk h85) (Evs.cons eZ Evs.nil) (VDs.cons VD.plain VDs.nil) rfl (gDo (eR rfl) rfl (oInv eZ (oPickF (eR rfl) rfl eZ (oMov eZ ?_))))
             rcases oite H with ⟨h86, H⟩ | ⟨h86, H⟩
             ·refine gDo eZ (congrArg Bool.not h86) (oMov (eR rfl) (gDo (eR rfl) (congrArg Bool.not h86) ?_))
              obtain ⟨v87, h88, H⟩ := obind H
              refine oCall (u := (oB v87)) eC Cl.fn (c_spec_l4In h88) (Evs.cons eZ (Evs.cons eC Evs.nil)) (VDs.cons VD.plain (VDs.cons VD.plain VDs.nil)) rfl (gDo (eR rfl) (congrArg Bool.not h86) (oInv eZ (gDo (eR rfl) (congrArg Bool.not h86) (oMov eZ ?_))))
              rcases oite H with ⟨h89, H⟩ | ⟨h89, H⟩
              ·refine gSkip eZ (congrArg Bool.not h89) rfl (gSkip (eR rfl) (congrArg Bool.not h89) rfl (gSkip (eR rfl) (congrArg Bool.not h89) rfl (gSkip (eR rfl) (congrArg Bool.not h89) rfl (gDo (eR rfl) (congrArg Bool.not h86) (oPickF (eR rfl) (congrArg Bool.not h89) eC (oPickF (eR rfl) (congrArg Bool.not h86) eZ (oMov eZ (gDo eZ rfl (oFaddrN (m := 13) (eR rfl) rfl (gDo (eR rfl) rfl (oLoadV (q := 13) (c := (.d (.sl 4 (List.map d_TShare a1.Shares)))) eZ bZ rfl rfl (gDo (eR rfl) rfl ?_))))))))))))
               obtain ⟨v90, h91, H⟩ := obind H
               refine oCall (u := (oB v90)) eC Cl.fn (c_spec_SharesOk h91) (Evs.cons eZ Evs.nil) (VDs.cons VD.plain VDs.nil) rfl (gDo (eR rfl) rfl (oInv eZ (oPickF (eR rfl) rfl eZ (oMov eZ ?_))))
               rcases oite H with ⟨h92, H⟩ | ⟨h92, H⟩
               ·refine gDo eZ (congrArg Bool.not h92) (oMov (eR rfl) (gDo (eR rfl) (congrArg Bool.not h92) ?_))
                obtain ⟨v93, h94, H⟩ := obind H
                refine oCall (u := (oB v93)) eC Cl.fn (c_spec_l4In h94) (Evs.cons eZ (Evs.cons eC Evs.nil)) (VDs.cons VD.plain (VDs.cons VD.plain VDs.nil)) rfl (gDo (eR rfl) (congrArg Bool.not h92) (oInv eZ (gDo (eR rfl) (congrArg Bool.not h92) (oMov eZ ?_))))
                rcases oite H with ⟨h95, H⟩ | ⟨h95, H⟩
                ·exact gSkip eZ (congrArg Bool.not h95) rfl (gSkip (eR rfl) (congrArg Bool.not h95) rfl (gSkip (eR rfl) (congrArg Bool.not h95) rfl (gSkip (eR rfl) (congrArg Bool.not h95) rfl (gDo (eR rfl) (congrArg Bool.not h92) (oPickF (eR rfl) (congrArg Bool.not h95) eC (oPickF (eR rfl) (congrArg Bool.not h92) eZ (xNil (TQ.qn ⟨false, H, (wk_mk [] (kR rfl rfl (kR rfl rfl SL.nil)) (BL.keep rfl BL.nil) (BK.cons rfl bZ rfl rfl BK.nil))⟩))))))))
                ·exact gDo eZ (congrArg Bool.not (nt h95)) (oFaddrN (m := 13) (eR rfl) rfl (gDo (eR rfl) (congrArg Bool.not (nt h95)) (oLoadV (q := 13) (c := (.d (.sl 4 (List.map d_TShare a1.Shares)))) eZ bZ rfl rfl (gDo (eR rfl) (congrArg Bool.not (nt h95)) (oLenD eZ (n := a1.Shares.length) (List.length_map _) (gDo (eR rfl) (congrArg Bool.not (nt h95)) (oGtr eZ eC (gDo (eR rfl) (congrArg Bool.not h92) (oPickT (eR rfl) (congrArg Bool.not (nt h95)) eZ (oPickF (eR rfl) (congrArg Bool.not h92) eZ (xNil (TQ.qn ⟨(decide (0 < (a1.Shares.length : Int))), H, (wk_mk [] (kR rfl rfl (kR rfl rfl SL.nil)) (BL.keep rfl BL.nil) (BK.cons rfl bZ rfl rfl BK.nil))⟩))))))))))))
               ·exact gSkip eZ (congrArg Bool.not (nt h92)) rfl (gSkip (eR rfl) (congrArg Bool.not (nt h92)) rfl (gSkip (eR rfl) (congrArg Bool.not (nt h92)) rfl (gSkip (eR rfl) (congrArg Bool.not (nt h92)) rfl (gSkipU eZ rfl (gSkipU (eR rfl) rfl (gSkipU (eR rfl) rfl (gSkipU (eR rfl) rfl (gSkip (eR rfl) (congrArg Bool.not (nt h92)) rfl (oPickT (eR rfl) (congrArg Bool.not (nt h92)) eC (xNil (TQ.qn ⟨true, H, (wk_mk [] (kR rfl rfl (kR rfl rfl SL.nil)) (BL.keep rfl BL.nil) (BK.cons rfl bZ rfl rfl BK.nil))⟩)))))))))))
              ·refine gDo eZ (congrArg Bool.not (nt h89)) (oFaddrN (m := 12) (eR rfl) rfl (gDo (eR rfl) (congrArg Bool.not (nt h89)) (oLoadV (q := 12) (c := (.d (.sl 2 (List.map d_TCell a1.Cells)))) eZ bZ rfl rfl (gDo (eR rfl) (congrArg Bool.not (nt h89)) (oLenD eZ (n := a1.Cells.length) (List.length_map _) (gDo (eR rfl) (congrArg Bool.not (nt h89)) (oGtr eZ eC (gDo (eR rfl) (congrArg Bool.not h86) (oPickT (eR rfl) (congrArg Bool.not (nt h89)) eZ (oPickF (eR rfl) (congrArg Bool.not h86) eZ (oMov eZ ?_)))))))))))
               rcases oite H with ⟨h96, H⟩ | ⟨h96, H⟩
               ·exact gSkip eZ (decide_eq_true h96) rfl (gSkip (eR rfl) (decide_eq_true h96) rfl (gSkip (eR rfl) (decide_eq_true h96) rfl (gSkip (eR rfl) (decide_eq_true h96) rfl (oPickT (eR rfl) (decide_eq_true h96) eC (oMov eZ (gSkip eZ rfl rfl (gSkip (eR rfl) rfl rfl (gSkip (eR rfl) rfl rfl (gSkip (eR rfl) rfl rfl (gSkipU eZ rfl (gSkipU (eR rfl) rfl (gSkipU (eR rfl) rfl (gSkipU (eR rfl) rfl (gSkip (eR rfl) rfl rfl (oPickT (eR rfl) rfl eC (xNil (TQ.qn ⟨true, H, (wk_mk [] (kR rfl rfl (kR rfl rfl SL.nil)) (BL.keep rfl BL.nil) (BK.cons rfl bZ rfl rfl BK.nil))⟩)))))))))))))))))
               ·refine gDo eZ (decide_eq_false h96) (oFaddrN (m := 13) (eR rfl) rfl (gDo (eR rfl) (decide_eq_false h96) (oLoadV (q := 13) (c := (.d (.sl 4 (List.map d_TShare a1.Shares)))) eZ bZ rfl rfl (gDo (eR rfl) (decide_eq_false h96) ?_))))
                obtain ⟨v97, h98, H⟩ := obind H
                refine oCall (u := (oB v97)) eC Cl.fn (c_spec_SharesOk h98) (Evs.cons eZ Evs.nil) (VDs.cons VD.plain VDs.nil) rfl (gDo (eR rfl) (decide_eq_false h96) (oInv eZ (oPickF (eR rfl) (decide_eq_false h96) eZ (oMov eZ ?_))))
                rcases oite H with ⟨h99, H⟩ | ⟨h99, H⟩
                ·refine gDo eZ (congrArg Bool.not h99) (oMov (eR rfl) (gDo (eR rfl) (congrArg Bool.not h99) ?_))
                 obtain ⟨v100, h101, H⟩ := obind H
                 refine oCall (u := (oB v100)) eC Cl.fn (c_spec_l4In h101) (Evs.cons eZ (Evs.cons eC Evs.nil)) (VDs.cons VD.plain (VDs.cons VD.plain VDs.nil)) rfl (gDo (eR rfl) (congrArg Bool.not h99) (oInv eZ (gDo (eR rfl) (congrArg Bool.not h99) (oMov eZ ?_))))
                 rcases oite H with ⟨h102, H⟩ | ⟨h102, H⟩
                 ·exact gSkip eZ (congrArg Bool.not h102) rfl (gSkip (eR rfl) (congrArg Bool.not h102) rfl (gSkip (eR rfl) (congrArg Bool.not h102) rfl (gSkip (eR rfl) (congrArg Bool.not h102) rfl (gDo (eR rfl) (congrArg Bool.not h99) (oPickF (eR rfl) (congrArg Bool.not h102) eC (oPickF (eR rfl) (congrArg Bool.not h99) eZ (xNil (TQ.qn ⟨false, H, (wk_mk [] (kR rfl rfl (kR rfl rfl SL.nil)) (BL.keep rfl BL.nil) (BK.cons rfl bZ rfl rfl BK.nil))⟩))))))))
                 ·exact gDo eZ (congrArg Bool.not (nt h102)) (oFaddrN (m := 13) (eR rfl) rfl (gDo (eR rfl) (congrArg Bool.not (nt h102)) (oLoadV (q := 13) (c := (.d (.sl 4 (List.map d_TShare a1.Shares)))) eZ bZ rfl rfl (gDo (eR rfl) (congrArg Bool.not (nt h102)) (oLenD eZ (n := a1.Shares.length) (List.length_map _) (gDo (eR rfl) (congrArg Bool.not (nt h102)) (oGtr eZ eC (gDo (eR rfl) (congrArg Bool.not h99) (oPickT (eR rfl) (congrArg Bool.not (nt h102)) eZ (oPickF (eR rfl) (congrArg Bool.not h99) eZ (xNil (TQ.qn ⟨(decide (0 < (a1.Shares.length : Int))), H, (wk_mk [] (kR rfl rfl (kR rfl rfl SL.nil)) (BL.keep rfl BL.nil) (BK.cons rfl bZ rfl rfl BK.nil))⟩))))))))))))
                ·exact gSkip eZ (congrArg Bool.not (nt h99)) rfl (gSkip (eR rfl) (congrArg Bool.not (nt h99)) rfl (gSkip (eR rfl) (congrArg Bool.not (nt h99)) rfl (gSkip (eR rfl) (congrArg Bool.not (nt h99)) rfl (gSkipU eZ rfl (gSkipU (eR rfl) rfl (gSkipU (eR rfl) rfl (gSkipU (eR rfl) rfl (gSkip (eR rfl) (congrArg Bool.not (nt h99)) rfl (oPickT (eR rfl) (congrArg Bool.not (nt h99)) eC (xNil (TQ.qn ⟨true, H, (wk_mk [] (kR rfl rfl (kR rfl rfl SL.nil)) (BL.keep rfl BL.nil) (BK.cons rfl bZ rfl rfl BK.nil))⟩)))))))))))
             ·exact gSkip eZ (congrArg Bool.not (nt h86)) rfl (gSkip (eR rfl) (congrArg Bool.not (nt h86)) rfl (gSkip (eR rfl) (congrArg Bool.not (nt h86)) rfl (gSkip (eR rfl) (congrArg Bool.not (nt h86)) rfl (gSkipU eZ rfl (gSkipU (eR rfl) rfl (gSkipU (eR rfl) rfl (gSkipU (eR rfl) rfl (gSkip (eR rfl) (congrArg Bool.not (nt h86)) rfl (oPickT (eR rfl) (congrArg Bool.not (nt h86)) eC (oMov eZ (gSkip eZ rfl rfl (gSkip (eR rfl) rfl rfl (gSkip (eR rfl) rfl rfl (gSkip (eR rfl) rfl rfl (oPickT (eR rfl) rfl eC (oMov eZ (gSkip eZ rfl rfl (gSkip (eR rfl) rfl rfl (gSkip (eR rfl) rfl rfl (gSkip (eR rfl) rfl rfl (gSkipU eZ rfl (gSkipU (eR rfl) rfl (gSkipU (eR rfl) rfl (gSkipU (eR rfl) rfl (gSkip (eR rfl) rfl rfl (oPickT (eR rfl) rfl eC (xNil (TQ.qn ⟨true, H, (wk_mk [] (kR rfl rfl (kR rfl rfl SL.nil)) (BL.keep rfl BL.nil) (BK.cons rfl bZ rfl rfl BK.nil))⟩))))))))))))))))))))))))))))
            ·refine gDo eZ (congrArg Bool.not (nt h83)) (oFaddrN (m := 11) (eR rfl) rfl (gDo (eR rfl) (congrArg Bool.not (nt h83)) (oLoadV (q := 11) (c := (.d (.sl 2 (List.map d_TCell a1.Writes)))) eZ bZ rfl rfl (gDo (eR rfl) (congrArg Bool.not (nt h83)) (oLenD eZ (n := a1.Writes.length) (List.length_map _) (gDo (eR rfl) (congrArg Bool.not (nt h83)) (oGtr eZ eC (gDo (eR rfl) (congrArg Bool.not h80) (oPickT (eR rfl) (congrArg Bool.not (nt h83)) eZ (oPickF (eR rfl) (congrArg Bool.not h80) eZ (oMov eZ ?_)))))))))))
             rcases oite H with ⟨h103, H⟩ | ⟨h103, H⟩
             ·exact gSkip eZ (decide_eq_true h103) rfl (gSkip (eR rfl) (decide_eq_true h103) rfl (gSkip (eR rfl) (decide_eq_true h103) rfl (gSkip (eR rfl) (decide_eq_true h103) rfl (oPickT (eR rfl) (decide_eq_true h103) eC (oMov eZ (gSkip eZ rfl rfl (gSkip (eR rfl) rfl rfl (gSkip (eR rfl) rfl rfl (gSkip (eR rfl) rfl rfl (gSkipU eZ rfl (gSkipU (eR rfl) rfl (gSkipU (eR rfl) rfl (gSkipU (eR rfl) rfl (gSkip (eR rfl) rfl rfl (oPickT (eR rfl) rfl eC (oMov eZ (gSkip eZ rfl rfl (gSkip (eR rfl) rfl rfl (gSkip (eR rfl) rfl rfl (gSkip (eR rfl) rfl rfl (oPickT (eR rfl) rfl eC (oMov eZ (gSkip eZ rfl rfl (gSkip (eR rfl) rfl rfl (gSkip (eR rfl) rfl rfl (gSkip (eR rfl) rfl rfl (gSkipU eZ rfl (gSkipU (eR rfl) rfl (gSkipU (eR rfl) rfl (gSkipU (eR rfl) rfl (gSkip (eR rfl) rfl rfl (oPickT (eR rfl) rfl eC (xNil (TQ.qn ⟨true, H, (wk_mk [] (kR rfl rfl (kR rfl rfl SL.nil)) (BL.keep rfl BL.nil) (BK.cons rfl bZ rfl rfl BK.nil))⟩))))))))))))))))))))))))))))))))))
             ·refine gDo eZ (decide_eq_false h103) (oFaddrN (m := 12) (eR rfl) rfl (gDo (eR rfl) (decide_eq_false h103) (oLoadV (q := 12) (c := (.d (.sl 2 (List.map d_TCell a1.Cells)))) eZ bZ rfl rfl (gDo (eR rfl) (decide_eq_false h103) ?_))))
              obtain ⟨v104, h105, H⟩ := obind H
              refine oCall (u := (oB v104)) eC Cl.fn (c_spec_StoreOk h105) (Evs.cons eZ Evs.nil) (VDs.cons VD.plain VDs.nil) rfl (gDo (eR rfl) (decide_eq_false h103) (oInv eZ (oPickF (eR rfl) (decide_eq_false h103) eZ (oMov eZ ?_))))
              rcases oite H with ⟨h106, H⟩ | ⟨h106, H⟩
              ·refine gDo eZ (congrArg Bool.not h106) (oMov (eR rfl) (gDo (eR rfl) (congrArg Bool.not h106) ?_))
               obtain ⟨v107, h108, H⟩ := obind H
               refine oCall (u := (oB v107)) eC Cl.fn (c_spec_l4In h108) (Evs.cons eZ (Evs.cons eC Evs.nil)) (VDs.cons VD.plain (VDs.cons VD.plain VDs.nil)) rfl (gDo (eR rfl) (congrArg Bool.not h106) (oInv eZ (gDo (eR rfl) (congrArg Bool.not h106) (oMov eZ ?_))))
               rcases oite H with ⟨h109, H⟩ | ⟨h109, H⟩
               ·refine gSkip eZ (congrArg Bool.not h109) rfl (gSkip (eR rfl) (congrArg Bool.not h109) rfl (gSkip (eR rfl) (congrArg Bool.not h109) rfl (gSkip (eR rfl) (congrArg Bool.not h109) rfl (gDo (eR rfl) (congrArg Bool.not h106) (oPickF (eR rfl) (congrArg Bool.not h109) eC (oPickF (eR rfl) (congrArg Bool.not h106) eZ (oMov eZ (gDo eZ rfl (oFaddrN (m := 13) (eR rfl) rfl (gDo (eR rfl) rfl (oLoadV (q := 13) (c := (.d (.sl 4 (List.map d_TShare a1.Shares)))) eZ bZ rfl rfl (gDo (eR rfl) rfl ?_))))))))))))
                obtain ⟨v110, h111, H⟩ := obind H
                refine oCall (u := (oB v110)) eC Cl.fn (c_spec_SharesOk h111) (Evs.cons eZ Evs.nil) (VDs.cons VD.plain VDs.nil) rfl (gDo (eR rfl) rfl (oInv eZ (oPickF (eR rfl) rfl eZ (oMov eZ ?_))))
                rcases oite H with ⟨h112, H⟩ | ⟨h112, H⟩
                ·refine gDo eZ (congrArg Bool.not h112) (oMov (eR rfl) (gDo (eR rfl) (congrArg Bool.not h112) ?_))
                 obtain ⟨v113, h114, H⟩ := obind H
                 refine oCall (u := (oB v113)) eC Cl.fn (c_spec_l4In h114) (Evs.cons eZ (Evs.cons eC Evs.nil)) (VDs.cons VD.plain (VDs.cons VD.plain VDs.nil)) rfl (gDo (eR rfl) (congrArg Bool.not h112) (oInv eZ (gDo (eR rfl) (congrArg Bool.not h112) (oMov eZ ?_))))
                 rcases oite H with ⟨h115, H⟩ | ⟨h115, H⟩
                 ·exact gSkip eZ (congrArg Bool.not h115) rfl (gSkip (eR rfl) (congrArg Bool.not h115) rfl (gSkip (eR rfl) (congrArg Bool.not h115) rfl (gSkip (eR rfl) (congrArg Bool.not h115) rfl (gDo (eR rfl) (congrArg Bool.not h112) (oPickF (eR rfl) (congrArg Bool.not h115) eC (oPickF (eR rfl) (congrArg Bool.not h112) eZ (xNil (TQ.qn ⟨false, H, (wk_mk [] (kR rfl rfl (kR rfl rfl SL.nil)) (BL.keep rfl BL.nil) (BK.cons rfl bZ rfl rfl BK.nil))⟩))))))))
                 ·exact gDo eZ (congrArg Bool.not (nt h115)) (oFaddrN (m := 13) (eR rfl) rfl (gDo (eR rfl) (congrArg Bool.not (nt h115)) (oLoadV (q := 13) (c := (.d (.sl 4 (List.map d_TShare a1.Shares)))) eZ bZ rfl rfl (gDo (eR rfl) (congrArg Bool.not (nt h115)) (oLenD eZ (n := a1.Shares.length) (List.length_map _) (gDo (eR rfl) (congrArg Bool.not (nt h115)) (oGtr eZ eC (gDo (eR rfl) (congrArg Bool.not h112) (oPickT (eR rfl) (congrArg Bool.not (nt h115)) eZ (oPickF (eR rfl) (congrArg Bool.not h112) eZ (xNil (TQ.qn ⟨(decide (0 < (a1.Shares.length : Int))), H, (wk_mk [] (kR rfl rfl (kR rfl rfl SL.nil)) (BL.keep rfl BL.nil) (BK.cons rfl bZ rfl rfl BK.nil))⟩))))))))))))
                ·exact gSkip eZ (congrArg Bool.not (nt h112)) rfl (gSkip (eR rfl) (congrArg Bool.not (nt h112)) rfl (gSkip (eR rfl) (congrArg Bool.not (nt h112)) rfl (gSkip (eR rfl) (congrArg Bool.not (nt h112)) rfl (gSkipU eZ rfl (gSkipU (eR rfl) rfl (gSkipU (eR rfl) rfl (gSkipU (eR rfl) rfl (gSkip (eR rfl) (congrArg Bool.not (nt h112)) rfl (oPickT (eR rfl) (congrArg Bool.not (nt h112)) eC (xNil (TQ.qn ⟨true, H, (wk_mk [] (kR rfl rfl (kR rfl rfl SL.nil)) (BL.keep rfl BL.nil) (BK.cons rfl bZ rfl rfl BK.nil))⟩)))))))))))
               ·refine gDo eZ (congrArg Bool.not (nt h109)) (oFaddrN (m := 12) (eR rfl) rfl (gDo (eR rfl) (congrArg Bool.not (nt h109)) (oLoadV (q := 12) (c := (.d (.sl 2 (List.map d_TCell a1.Cells)))) eZ bZ rfl rfl (gDo (eR rfl) (congrArg Bool.not (nt h109)) (oLenD eZ (n := a1.Cells.length) (List.length_map _) (gDo (eR rfl) (congrArg Bool.not (nt h109)) (oGtr eZ eC (gDo (eR rfl) (congrArg Bool.not h106) (oPickT (eR rfl) (congrArg Bool.not (nt h109)) eZ (oPickF (eR rfl) (congrArg Bool.not h106) eZ (oMov eZ ?_)))))))))))
                rcases oite H with ⟨h116, H⟩ | ⟨h116, H⟩
                ·exact gSkip eZ (decide_eq_true h116) rfl (gSkip (eR rfl) (decide_eq_true h116) rfl (gSkip (eR rfl) (decide_eq_true h116) rfl (gSkip (eR rfl) (decide_eq_true h116) rfl (oPickT (eR rfl) (decide_eq_true h116) eC (oMov eZ (gSkip eZ rfl rfl (gSkip (eR rfl) rfl rfl (gSkip (eR rfl) rfl rfl (gSkip (eR rfl) rfl rfl (gSkipU eZ rfl (gSkipU (eR rfl) rfl (gSkipU (eR rfl) rfl (gSkipU (eR rfl) rfl (gSkip (eR rfl) rfl rfl (oPickT (eR rfl) rfl eC (xNil (TQ.qn ⟨true, H, (wk_mk [] (kR rfl rfl (kR rfl rfl SL.nil)) (BL.keep rfl BL.nil) (BK.cons rfl bZ rfl rfl BK.nil))⟩)))))))))))))))))
                ·refine gDo eZ (decide_eq_false h116) (oFaddrN (m := 13) (eR rfl) rfl (gDo (eR rfl) (decide_eq_false h116) (oLoadV (q := 13) (c := (.d (.sl 4 (List.map d_TShare a1.Shares)))) eZ bZ rfl rfl (gDo (eR rfl) (decide_eq_false h116) ?_))))
                 obtain ⟨v117, h118, H⟩ := obind H
                 refine oCall (u := (oB v117)) eC Cl.fn (c_spec_SharesOk h118) (Evs.cons eZ Evs.nil) (VDs.cons VD.plain VDs.nil) rfl (gDo (eR rfl) (decide_eq_false h116) (oInv eZ (oPickF (eR rfl) (decide_eq_false h116) eZ (oMov eZ ?_))))
                 rcases oite H with ⟨h119, H⟩ | ⟨h119, H⟩
                 ·refine gDo eZ (congrArg Bool.not h119) (oMov (eR rfl) (gDo (eR rfl) (congrArg Bool.not h119) ?_))
                  obtain ⟨v120, h121, H⟩ := obind H
                  refine oCall (u := (oB v120)) eC Cl.fn (c_spec_l4In h121) (Evs.cons eZ (Evs.cons eC Evs.nil)) (VDs.cons VD.plain (VDs.cons VD.plain VDs.nil)) rfl (gDo (eR rfl) (congrArg Bool.not h119) (oInv eZ (gDo (eR rfl) (congrArg Bool.not h119) (oMov eZ ?_))))
                  rcases oite H with ⟨h122, H⟩ | ⟨h122, H⟩
                  ·exact gSkip eZ (congrArg Bool.not h122) rfl (gSkip (eR rfl) (congrArg Bool.not h122) rfl (gSkip (eR rfl) (congrArg Bool.not h122) rfl (gSkip (eR rfl) (congrArg Bool.not h122) rfl (gDo (eR rfl) (congrArg Bool.not h119) (oPickF (eR rfl) (congrArg Bool.not h122) eC (oPickF (eR rfl) (congrArg Bool.not h119) eZ (xNil (TQ.qn ⟨false, H, (wk_mk [] (kR rfl rfl (kR rfl rfl SL.nil)) (BL.keep rfl BL.nil) (BK.cons rfl bZ rfl rfl BK.nil))⟩))))))))
                  ·exact gDo eZ (congrArg Bool.not (nt h122)) (oFaddrN (m := 13) (eR rfl) rfl (gDo (eR rfl) (congrArg Bool.not (nt h122)) (oLoadV (q := 13) (c := (.d (.sl 4 (List.map d_TShare a1.Shares)))) eZ bZ rfl rfl (gDo (eR rfl) (congrArg Bool.not (nt h122)) (oLenD eZ (n := a1.Shares.length) (List.length_map _) (gDo (eR rfl) (congrArg Bool.not (nt h122)) (oGtr eZ eC (gDo (eR rfl) (congrArg Bool.not h119) (oPickT (eR rfl) (congrArg Bool.not (nt h122)) eZ (oPickF (eR rfl) (congrArg Bool.not h119) eZ (xNil (TQ.qn ⟨(decide (0 < (a1.Shares.length : Int))), H, (wk_mk [] (kR rfl rfl (kR rfl rfl SL.nil)) (BL.keep rfl BL.nil) (BK.cons rfl bZ rfl rfl BK.nil))⟩))))))))))))
                 ·exact gSkip eZ (congrArg Bool.not (nt h119)) rfl (gSkip (eR rfl) (congrArg Bool.not (nt h119)) rfl (gSkip (eR rfl) (congrArg Bool.not (nt h119)) rfl (gSkip (eR rfl) (congrArg Bool.not (nt h119)) rfl (gSkipU eZ rfl (gSkipU (eR rfl) rfl (gSkipU (eR rfl) rfl (gSkipU (eR rfl) rfl (gSkip (eR rfl) (congrArg Bool.not (nt h119)) rfl (oPickT (eR rfl) (congrArg Bool.not (nt h119)) eC (xNil (TQ.qn ⟨true, H, (wk_mk [] (kR rfl rfl (kR rfl rfl SL.nil)) (BL.keep rfl BL.nil) (BK.cons rfl bZ rfl rfl BK.nil))⟩)))))))))))
              ·exact gSkip eZ (congrArg Bool.not (nt h106)) rfl (gSkip (eR rfl) (congrArg Bool.not (nt h106)) rfl (gSkip (eR rfl) (congrArg Bool.not (nt h106)) rfl (gSkip (eR rfl) (congrArg Bool.not (nt h106)) rfl (gSkipU eZ rfl (gSkipU (eR rfl) rfl (gSkipU (eR rfl) rfl (gSkipU (eR rfl) rfl (gSkip (eR rfl) (congrArg Bool.not (nt h106)) rfl (oPickT (eR rfl) (congrArg Bool.not (nt h106)) eC (oMov eZ (gSkip eZ rfl rfl (gSkip (eR rfl) rfl rfl (gSkip (eR rfl) rfl rfl (gSkip (eR rfl) rfl rfl (oPickT (eR rfl) rfl eC (oMov eZ (gSkip eZ rfl rfl (gSkip (eR rfl) rfl rfl (gSkip (eR rfl) rfl rfl (gSkip (eR rfl) rfl rfl (gSkipU eZ rfl (gSkipU (eR rfl) rfl (gSkipU (eR rfl) rfl (gSkipU (eR rfl) rfl (gSkip (eR rfl) rfl rfl (oPickT (eR rfl) rfl eC (xNil (TQ.qn ⟨true, H, (wk_mk [] (kR rfl rfl (kR rfl rfl SL.nil)) (BL.keep rfl BL.nil) (BK.cons rfl bZ rfl rfl BK.nil))⟩))))))))))))))))))))))))))))
           ·refine gSkip eZ (congrArg Bool.not (nt h80)) rfl (gSkip (eR rfl) (congrArg Bool.not (nt h80)) rfl (gSkip (eR rfl) (congrArg Bool.not (nt h80)) rfl (gSkip (eR rfl) (congrArg Bool.not (nt h80)) rfl (gSkipU eZ rfl (gSkipU (eR rfl) rfl (gSkipU (eR rfl) rfl (gSkipU (eR rfl) rfl (gSkip (eR rfl) (congrArg Bool.not (nt h80)) rfl (oPickT (eR rfl) (congrArg Bool.not (nt h80)) eC (oMov eZ (gSkip eZ rfl rfl (gSkip (eR rfl) rfl rfl (gSkip (eR rfl) rfl rfl (gSkip (eR rfl) rfl rfl (oPickT (eR rfl) rfl eC (oMov eZ (gSkip eZ rfl rfl (gSkip (eR rfl) rfl rfl (gSkip (eR rfl) rfl rfl (gSkip (eR rfl) rfl rfl (gSkipU eZ rfl (gSkipU (eR rfl) rfl (gSkipU (eR rfl) rfl (gSkipU (eR rfl) rfl (gSkip (eR rfl) rfl rfl (oPickT (eR rfl) rfl eC (oMov eZ (gSkip eZ rfl rfl (gSkip (eR rfl) rfl rfl (gSkip (eR rfl) rfl rfl (gSkip (eR rfl) rfl rfl (oPickT (eR rfl) rfl eC (oMov eZ (gSkip eZ rfl rfl (gSkip (eR rfl) rfl rfl (gSkip (eR rfl) rfl rfl (gSkip (eR rfl) rfl rfl (gSkipU eZ rfl (gSkipU (eR rfl) rfl ?_)))))))))))))))))))))))))))))))))))))))
            exact gSkipU (eR rfl) rfl (gSkipU (eR rfl) rfl (gSkip (eR rfl) rfl rfl (oPickT (eR rfl) rfl eC (xNil (TQ.qn ⟨true, H, (wk_mk [] (kR rfl rfl (kR rfl rfl SL.nil)) (BL.keep rfl BL.nil) (BK.cons rfl bZ rfl rfl BK.nil))⟩)))))
     ·refine aR (oMov (eR rfl) ?_)
      obtain ⟨v123, h124, H⟩ := obind H
      refine oCall (u := (oB v123)) eC Cl.fn (c_spec_l4In h124) (Evs.cons eZ (Evs.cons eC Evs.nil)) (VDs.cons VD.plain (VDs.cons VD.plain VDs.nil)) rfl (oMov eZ ?_)
      rcases oite H with ⟨h125, H⟩ | ⟨h125, H⟩
      ·refine gDo eZ h125 (oFaddrN (m := 5) (eR rfl) rfl (gDo (eR rfl) h125 (oLoadV (q := 5) (c := (dI a1.Lo)) eZ bZ rfl rfl (gDo (eR rfl) h125 (oFaddrN (m := 6) (eR rfl) rfl (gDo (eR rfl) h125 (oLoadV (q := 6) (c := (dI a1.Hi)) eZ bZ rfl rfl (gDo (eR rfl) h125 ?_))))))))
       obtain ⟨v126, h127, H⟩ := obind H
       refine oCall (u := (oB v126)) eC Cl.fn (c_spec_l16RangeOk h127) (Evs.cons (eR rfl) (Evs.cons eZ Evs.nil)) (VDs.cons VD.plain (VDs.cons VD.plain VDs.nil)) rfl (gDo (eR rfl) h125 (oInv eZ (oPickT (eR rfl) h125 eZ (oMov eZ ?_))))
       rcases oite H with ⟨h128, H⟩ | ⟨h128, H⟩
       ·refine gDo eZ (congrArg Bool.not h128) (oMov (eR rfl) (gDo (eR rfl) (congrArg Bool.not h128) ?_))
        obtain ⟨v129, h130, H⟩ := obind H
        refine oCall (u := (oB v129)) eC Cl.fn (c_spec_l4In h130) (Evs.cons eZ (Evs.cons eC Evs.nil)) (VDs.cons VD.plain (VDs.cons VD.plain VDs.nil)) rfl (gDo (eR rfl) (congrArg Bool.not h128) (oInv eZ (gDo (eR rfl) (congrArg Bool.not h128) (oMov eZ ?_))))
        rcases oite H with ⟨h131, H⟩ | ⟨h131, H⟩
        ·exact gSkip eZ (congrArg Bool.not h131) rfl (gSkip (eR rfl) (congrArg Bool.not h131) rfl (gSkip (eR rfl) (congrArg Bool.not h131) rfl (gSkip (eR rfl) (congrArg Bool.not h131) rfl (gSkipU eZ rfl (gSkipU (eR rfl) rfl (gSkipU (eR rfl) rfl (gSkip (eR rfl) (congrArg Bool.not h131) rfl (gDo (eR rfl) (congrArg Bool.not h128) (oPickF (eR rfl) (congrArg Bool.not h131) eC (oPickF (eR rfl) (congrArg Bool.not h128) eZ (xNil (TQ.qn ⟨false, H, (wk_mk [] (kR rfl rfl (kR rfl rfl (kR rfl rfl SL.nil))) (BL.keep rfl BL.nil) (BK.cons rfl bZ rfl rfl BK.nil))⟩))))))))))))
        ·refine gDo eZ (congrArg Bool.not (nt h131)) (oFaddrN (m := 5) (eR rfl) rfl (gDo (eR rfl) (congrArg Bool.not (nt h131)) (oLoadV (q := 5) (c := (dI a1.Lo)) eZ bZ rfl rfl (gDo (eR rfl) (congrArg Bool.not (nt h131)) (oNeq eZ eC (gDo (eR rfl) (congrArg Bool.not (nt h131)) (oMov eZ ?_)))))))
         rcases oite H with ⟨h132, H⟩ | ⟨h132, H⟩
         ·exact gSkip eZ (decide_eq_true h132) rfl (gSkip (eR rfl) (decide_eq_true h132) rfl (gSkip (eR rfl) (decide_eq_true h132) rfl (gDo (eR rfl) (congrArg Bool.not (nt h131)) (oPickT (eR rfl) (decide_eq_true h132) eC (gDo (eR rfl) (congrArg Bool.not h128) (oPickT (eR rfl) (congrArg Bool.not (nt h131)) eZ (oPickF (eR rfl) (congrArg Bool.not h128) eZ (xNil (TQ.qn ⟨true, H, (wk_mk [] (kR rfl rfl (kR rfl rfl (kR rfl rfl SL.nil))) (BL.keep rfl BL.nil) (BK.cons rfl bZ rfl rfl BK.nil))⟩)))))))))
         ·exact gDo eZ (decide_eq_false h132) (oFaddrN (m := 6) (eR rfl) rfl (gDo (eR rfl) (decide_eq_false h132) (oLoadV (q := 6) (c := (dI a1.Hi)) eZ bZ rfl rfl (gDo (eR rfl) (decide_eq_false h132) (oNeq eZ eC (gDo (eR rfl) (congrArg Bool.not (nt h131)) (oPickF (eR rfl) (decide_eq_false h132) eZ (gDo (eR rfl) (congrArg Bool.not h128) (oPickT (eR rfl) (congrArg Bool.not (nt h131)) eZ (oPickF (eR rfl) (congrArg Bool.not h128) eZ (xNil (TQ.qn ⟨(decide (¬ a1.Hi = 0)), H, (wk_mk [] (kR rfl rfl (kR rfl rfl (kR rfl rfl SL.nil))) (BL.keep rfl BL.nil) (BK.cons rfl bZ rfl rfl BK.nil))⟩))))))))))))
       ·exact gSkip eZ (congrArg Bool.not (nt h128)) rfl (gSkip (eR rfl) (congrArg Bool.not (nt h128)) rfl (gSkip (eR rfl) (congrArg Bool.not (nt h128)) rfl (gSkip (eR rfl) (congrArg Bool.not (nt h128)) rfl (gSkipU eZ rfl (gSkipU (eR rfl) rfl (gSkipU (eR rfl) rfl (gSkipU (eR rfl) rfl (gSkipU eZ rfl (gSkipU (eR rfl) rfl (gSkipU (eR rfl) rfl (gSkipU (eR rfl) rfl (gSkip (eR rfl) (congrArg Bool.not (nt h128)) rfl (oPickT (eR rfl) (congrArg Bool.not (nt h128)) eC (xNil (TQ.qn ⟨true, H, (wk_mk [] (kR rfl rfl (kR rfl rfl (kR rfl rfl SL.nil))) (BL.keep rfl BL.nil) (BK.cons rfl bZ rfl rfl BK.nil))⟩)))))))))))))))
      ·refine gSkip eZ (nt h125) rfl (gSkip (eR rfl) (nt h125) rfl (gSkip (eR rfl) (nt h125) rfl (gSkip (eR rfl) (nt h125) rfl (gSkip (eR rfl) (nt h125) rfl (gSkip (eR rfl) (nt h125) rfl (oPickF (eR rfl) (nt h125) eC (oMov eZ (gDo eZ rfl (oMov (eR rfl) (gDo (eR rfl) rfl ?_))))))))))
       obtain ⟨v133, h134, H⟩ := obind H
       refine oCall (u := (oB v133)) eC Cl.fn (c_spec_l4In h134) (Evs.cons eZ (Evs.cons eC Evs.nil)) (VDs.cons VD.plain (VDs.cons VD.plain VDs.nil)) rfl (gDo (eR rfl) rfl (oInv eZ (gDo (eR rfl) rfl (oMov eZ ?_))))
       rcases oite H with ⟨h135, H⟩ | ⟨h135, H⟩
       ·exact gSkip eZ (congrArg Bool.not h135) rfl (gSkip (eR rfl) (congrArg Bool.not h135) rfl (gSkip (eR rfl) (congrArg Bool.not h135) rfl (gSkip (eR rfl) (congrArg Bool.not h135) rfl (gSkipU eZ rfl (gSkipU (eR rfl) rfl (gSkipU (eR rfl) rfl (gSkip (eR rfl) (congrArg Bool.not h135) rfl (gDo (eR rfl) rfl (oPickF (eR rfl) (congrArg Bool.not h135) eC (oPickF (eR rfl) rfl eZ (xNil (TQ.qn ⟨false, H, (wk_mk [] (kR rfl rfl (kR rfl rfl (kR rfl rfl SL.nil))) (BL.keep rfl BL.nil) (BK.cons rfl bZ rfl rfl BK.nil))⟩))))))))))))
       ·refine gDo eZ (congrArg Bool.not (nt h135)) (oFaddrN (m := 5) (eR rfl) rfl (gDo (eR rfl) (congrArg Bool.not (nt h135)) (oLoadV (q := 5) (c := (dI a1.Lo)) eZ bZ rfl rfl (gDo (eR rfl) (congrArg Bool.not (nt h135)) (oNeq eZ eC (gDo (eR rfl) (congrArg Bool.not (nt h135)) (oMov eZ ?_)))))))
        rcases oite H with ⟨h136, H⟩ | ⟨h136, H⟩
        ·exact gSkip eZ (decide_eq_true h136) rfl (gSkip (eR rfl) (decide_eq_true h136) rfl (gSkip (eR rfl) (decide_eq_true h136) rfl (gDo (eR rfl) (congrArg Bool.not (nt h135)) (oPickT (eR rfl) (decide_eq_true h136) eC (gDo (eR rfl) rfl (oPickT (eR rfl) (congrArg Bool.not (nt h135)) eZ (oPickF (eR rfl) rfl eZ (xNil (TQ.qn ⟨true, H, (wk_mk [] (kR rfl rfl (kR rfl rfl (kR rfl rfl SL.nil))) (BL.keep rfl BL.nil) (BK.cons rfl bZ rfl rfl BK.nil))⟩)))))))))
        ·exact gDo eZ (decide_eq_false h136) (oFaddrN (m := 6) (eR rfl) rfl (gDo (eR rfl) (decide_eq_false h136) (oLoadV (q := 6) (c := (dI a1.Hi)) eZ bZ rfl rfl (gDo (eR rfl) (decide_eq_false h136) (oNeq eZ eC (gDo (eR rfl) (congrArg Bool.not (nt h135)) (oPickF (eR rfl) (decide_eq_false h136) eZ (gDo (eR rfl) rfl (oPickT (eR rfl) (congrArg Bool.not (nt h135)) eZ (oPickF (eR rfl) rfl eZ (xNil (TQ.qn ⟨(decide (¬ a1.Hi = 0)), H, (wk_mk [] (kR rfl rfl (kR rfl rfl (kR rfl rfl SL.nil))) (BL.keep rfl BL.nil) (BK.cons rfl bZ rfl rfl BK.nil))⟩))))))))))))
   ·refine AW.regd (oMov (eR rfl) ?_)
    obtain ⟨v137, h138, H⟩ := obind H
    refine oCall (u := (oB v137)) eC Cl.fn (c_spec_l4In h138) (Evs.cons eZ (Evs.cons eC Evs.nil)) (VDs.cons VD.plain (VDs.cons VD.plain VDs.nil)) rfl (oFaddrN (m := 7) (eR rfl) rfl (oLoadV (q := 7) (c := (dI a1.Rank)) eZ (hB rfl bZ) rfl rfl ?_))
    obtain ⟨v139, h140, H⟩ := obind H
    refine oCall (u := (oB v139)) eC Cl.fn (c_spec_l4Num h140) (Evs.cons (eR rfl) (Evs.cons eZ (Evs.cons eC (Evs.cons eC Evs.nil)))) (VDs.cons VD.plain (VDs.cons VD.plain (VDs.cons VD.plain (VDs.cons VD.plain VDs.nil)))) rfl (oInv eZ (oMov eZ ?_))
    rcases oite H with ⟨h141, H⟩ | ⟨h141, H⟩
    ·refine gDo eZ (congrArg Bool.not h141) (oMov (eR rfl) (gDo (eR rfl) (congrArg Bool.not h141) ?_))
     obtain ⟨v142, h143, H⟩ := obind H
     refine oCall (u := (oB v142)) eC Cl.fn (c_spec_l4In h143) (Evs.cons eZ (Evs.cons eC Evs.nil)) (VDs.cons VD.plain (VDs.cons VD.plain VDs.nil)) rfl (gDo (eR rfl) (congrArg Bool.not h141) (oFaddrN (m := 8) (eR rfl) rfl (gDo (eR rfl) (congrArg Bool.not h141) (oLoadV (q := 8) (c := (dI a1.Code)) eZ (hB rfl bZ) rfl rfl (gDo (eR rfl) (congrArg Bool.not h141) ?_)))))
     obtain ⟨v144, h145, H⟩ := obind H
     refine oCall (u := (oB v144)) eC Cl.fn (c_spec_l4Num h145) (Evs.cons (eR rfl) (Evs.cons eZ (Evs.cons eC (Evs.cons eC Evs.nil)))) (VDs.cons VD.plain (VDs.cons VD.plain (VDs.cons VD.plain (VDs.cons VD.plain VDs.nil)))) rfl (gDo (eR rfl) (congrArg Bool.not h141) (oInv eZ (oPickF (eR rfl) (congrArg Bool.not h141) eZ (oMov eZ ?_))))
     rcases oite H with ⟨h146, H⟩ | ⟨h146, H⟩
     ·refine gDo eZ (congrArg Bool.not h146) (oFaddrN (m := 9) (eR rfl) rfl (gDo (eR rfl) (congrArg Bool.not h146) (oLoadV (q := 9) (c := (.d (.bool a1.Yes))) eZ bZ rfl rfl (gDo (eR rfl) (congrArg Bool.not h146) (oMov eZ ?_)))))
      rcases oite H with ⟨h147, H⟩ | ⟨h147, H⟩
      ·refine gDo eZ h147 (oMov (eR rfl) (gDo (eR rfl) h147 ?_))
       obtain ⟨v148, h149, H⟩ := obind H
       exact oCall (u := (oB v148)) eC Cl.fn (c_spec_l4In h149) (Evs.cons eZ (Evs.cons eC Evs.nil)) (VDs.cons VD.plain (VDs.cons VD.plain VDs.nil)) rfl (gDo (eR rfl) h147 (oInv eZ (gDo (eR rfl) (congrArg Bool.not h146) (oPickT (eR rfl) h147 eZ (oPickF (eR rfl) (congrArg Bool.not h146) eZ (xNil (TQ.qn ⟨(!v148), H, (wk_mk [] (kR rfl rfl (kR rfl rfl (kR rfl rfl SL.nil))) (BL.keep rfl BL.nil) (BK.cons rfl bZ rfl rfl BK.nil))⟩)))))))
      ·exact gSkip eZ (nt h147) rfl (gSkip (eR rfl) (nt h147) rfl (gSkip (eR rfl) (nt h147) rfl (gDo (eR rfl) (congrArg Bool.not h146) (oPickF (eR rfl) (nt h147) eC (oPickF (eR rfl) (congrArg Bool.not h146) eZ (xNil (TQ.qn ⟨false, H, (wk_mk [] (kR rfl rfl (kR rfl rfl (kR rfl rfl SL.nil))) (BL.keep rfl BL.nil) (BK.cons rfl bZ rfl rfl BK.nil))⟩)))))))
     ·exact gSkip eZ (congrArg Bool.not (nt h146)) rfl (gSkip (eR rfl) (congrArg Bool.not (nt h146)) rfl (gSkip (eR rfl) (congrArg Bool.not (nt h146)) rfl (gSkipU eZ rfl (gSkipU (eR rfl) rfl (gSkipU (eR rfl) rfl (gSkip (eR rfl) (congrArg Bool.not (nt h146)) rfl (oPickT (eR rfl) (congrArg Bool.not (nt h146)) eC (xNil (TQ.qn ⟨true, H, (wk_mk [] (kR rfl rfl (kR rfl rfl (kR rfl rfl SL.nil))) (BL.keep rfl BL.nil) (BK.cons rfl bZ rfl rfl BK.nil))⟩)))))))))
    ·exact gSkip eZ (congrArg Bool.not (nt h141)) rfl (gSkip (eR rfl) (congrArg Bool.not (nt h141)) rfl (gSkip (eR rfl) (congrArg Bool.not (nt h141)) rfl (gSkip (eR rfl) (congrArg Bool.not (nt h141)) rfl (gSkip (eR rfl) (congrArg Bool.not (nt h141)) rfl (gSkip (eR rfl) (congrArg Bool.not (nt h141)) rfl (oPickT (eR rfl) (congrArg Bool.not (nt h141)) eC (oMov eZ (gSkip eZ rfl rfl (gSkip (eR rfl) rfl rfl (gSkip (eR rfl) rfl rfl (gSkipU eZ rfl (gSkipU (eR rfl) rfl (gSkipU (eR rfl) rfl (gSkip (eR rfl) rfl rfl (oPickT (eR rfl) rfl eC (xNil (TQ.qn ⟨true, H, (wk_mk [] (kR rfl rfl (kR rfl rfl (kR rfl rfl SL.nil))) (BL.keep rfl BL.nil) (BK.cons rfl bZ rfl rfl BK.nil))⟩)))))))))))))))))
 ·refine AW.regd (oMov eZ (oSEql eZ eC (oMov eZ ?_)))
  rcases oite H with ⟨h150, H⟩ | ⟨h150, H⟩
  ·exact gSkip eZ h150 rfl (gSkip (eR rfl) h150 rfl (gSkip (eR rfl) h150 rfl (gSkip (eR rfl) h150 rfl (gSkip (eR rfl) h150 rfl (gSkip (eR rfl) h150 rfl (oPickT (eR rfl) h150 eC (oMov eZ (gSkip eZ rfl rfl (gSkip (eR rfl) rfl rfl (gSkip (eR rfl) rfl rfl (gSkip (eR rfl) rfl rfl (gSkip (eR rfl) rfl rfl (gSkip (eR rfl) rfl rfl (oPickT (eR rfl) rfl eC (oMov eZ (gSkip eZ rfl rfl (gSkip (eR rfl) rfl rfl (gSkip (eR rfl) rfl rfl (gSkip (eR rfl) rfl rfl (gSkip (eR rfl) rfl rfl (gSkip (eR rfl) rfl rfl (oPickT (eR rfl) rfl eC (oMov eZ (gSkip eZ rfl rfl (gSkip (eR rfl) rfl rfl (gSkip (eR rfl) rfl rfl (gSkip (eR rfl) rfl rfl (gSkip (eR rfl) rfl rfl (gSkip (eR rfl) rfl rfl (oPickT (eR rfl) rfl eC (xNil (TQ.qn ⟨true, H, (wk_mk [] (kR rfl rfl (kR rfl rfl (kR rfl rfl SL.nil))) (BL.keep rfl BL.nil) (BK.cons rfl bZ rfl rfl BK.nil))⟩))))))))))))))))))))))))))))))))
  ·refine gDo eZ (nt h150) (oMov (eR rfl) (gDo (eR rfl) (nt h150) ?_))
   obtain ⟨v151, h152, H⟩ := obind H
   refine oCall (u := (oB v151)) eC Cl.fn (c_spec_l4In h152) (Evs.cons eZ (Evs.cons eC Evs.nil)) (VDs.cons VD.plain (VDs.cons VD.plain VDs.nil)) rfl (gDo (eR rfl) (nt h150) (oFaddrN (m := 1) (eR rfl) rfl (gDo (eR rfl) (nt h150) (oLoadV (q := 1) (c := (dI a1.Group)) eZ (hB rfl bZ) rfl rfl (gDo (eR rfl) (nt h150) ?_)))))
   obtain ⟨v153, h154, H⟩ := obind H
   refine oCall (u := (oB v153)) eC Cl.fn (c_spec_l4Num h154) (Evs.cons (eR rfl) (Evs.cons eZ (Evs.cons eC (Evs.cons eC Evs.nil)))) (VDs.cons VD.plain (VDs.cons VD.plain (VDs.cons VD.plain (VDs.cons VD.plain VDs.nil)))) rfl (gDo (eR rfl) (nt h150) (oInv eZ (oPickF (eR rfl) (nt h150) eZ (oMov eZ ?_))))
   rcases oite H with ⟨h155, H⟩ | ⟨h155, H⟩
   ·refine gDo eZ (congrArg Bool.not h155) (oMov (eR rfl) (gDo (eR rfl) (congrArg Bool.not h155) ?_))
    obtain ⟨v156, h157, H⟩ := obind H
    refine oCall (u := (oB v156)) eC Cl.fn (c_spec_l4In h157) (Evs.cons eZ (Evs.cons eC Evs.nil)) (VDs.cons VD.plain (VDs.cons VD.plain VDs.nil)) rfl (gDo (eR rfl) (congrArg Bool.not h155) (oFaddrN (m := 2) (eR rfl) rfl (gDo (eR rfl) (congrArg Bool.not h155) (oLoadV (q := 2) (c := (dI a1.Client)) eZ (hB rfl bZ) rfl rfl (gDo (eR rfl) (congrArg Bool.not h155) ?_)))))
    obtain ⟨v158, h159, H⟩ := obind H
    refine oCall (u := (oB v158)) eC Cl.fn (c_spec_l4Num h159) (Evs.cons (eR rfl) (Evs.cons eZ (Evs.cons eC (Evs.cons eC Evs.nil)))) (VDs.cons VD.plain (VDs.cons VD.plain (VDs.cons VD.plain (VDs.cons VD.plain VDs.nil)))) rfl (gDo (eR rfl) (congrArg Bool.not h155) (oInv eZ (oPickF (eR rfl) (congrArg Bool.not h155) eZ (oMov eZ ?_))))
    rcases oite H with ⟨h160, H⟩ | ⟨h160, H⟩
    ·refine gDo eZ (congrArg Bool.not h160) (oMov (eR rfl) (gDo (eR rfl) (congrArg Bool.not h160) ?_))
     obtain ⟨v161, h162, H⟩ := obind H
     refine oCall (u := (oB v161)) eC Cl.fn (c_spec_l4In h162) (Evs.cons eZ (Evs.cons eC Evs.nil)) (VDs.cons VD.plain (VDs.cons VD.plain VDs.nil)) rfl (gDo (eR rfl) (congrArg Bool.not h160) (oFaddrN (m := 3) (eR rfl) rfl (gDo (eR rfl) (congrArg Bool.not h160) (oLoadV (q := 3) (c := (dI a1.Req)) eZ (hB rfl bZ) rfl rfl (gDo (eR rfl) (congrArg Bool.not h160) ?_)))))
     obtain ⟨v163, h164, H⟩ := obind H
     refine oCall (u := (oB v163)) eC Cl.fn (c_spec_l4Num h164) (Evs.cons (eR rfl) (Evs.cons eZ (Evs.cons eC (Evs.cons eC Evs.nil)))) (VDs.cons VD.plain (VDs.cons VD.plain (VDs.cons VD.plain (VDs.cons VD.plain VDs.nil)))) rfl (gDo (eR rfl) (congrArg Bool.not h160) (oInv eZ (oPickF (eR rfl) (congrArg Bool.not h160) eZ (oMov eZ ?_))))
     rcases oite H with ⟨h165, H⟩ | ⟨h165, H⟩
     ·refine gDo eZ (congrArg Bool.not h165) (oMov (eR rfl) (gDo (eR rfl) (congrArg Bool.not h165) ?_))
      obtain ⟨v166, h167, H⟩ := obind H
      refine oCall (u := (oB v166)) eC Cl.fn (c_spec_l4In h167) (Evs.cons eZ (Evs.cons eC Evs.nil)) (VDs.cons VD.plain (VDs.cons VD.plain VDs.nil)) rfl (gDo (eR rfl) (congrArg Bool.not h165) (oFaddrN (m := 4) (eR rfl) rfl (gDo (eR rfl) (congrArg Bool.not h165) (oLoadV (q := 4) (c := (dI a1.Tx)) eZ (hB rfl bZ) rfl rfl (gDo (eR rfl) (congrArg Bool.not h165) ?_)))))
      obtain ⟨v168, h169, H⟩ := obind H
      exact oCall (u := (oB v168)) eC Cl.fn (c_spec_l4Num h169) (Evs.cons (eR rfl) (Evs.cons eZ (Evs.cons eC (Evs.cons eC Evs.nil)))) (VDs.cons VD.plain (VDs.cons VD.plain (VDs.cons VD.plain (VDs.cons VD.plain VDs.nil)))) rfl (gDo (eR rfl) (congrArg Bool.not h165) (oInv eZ (oPickF (eR rfl) (congrArg Bool.not h165) eZ (xNil (TQ.qn ⟨(!v168), H, (wk_mk [] (kR rfl rfl (kR rfl rfl (kR rfl rfl SL.nil))) (BL.keep rfl BL.nil) (BK.cons rfl bZ rfl rfl BK.nil))⟩)))))
     ·exact gSkip eZ (congrArg Bool.not (nt h165)) rfl (gSkip (eR rfl) (congrArg Bool.not (nt h165)) rfl (gSkip (eR rfl) (congrArg Bool.not (nt h165)) rfl (gSkip (eR rfl) (congrArg Bool.not (nt h165)) rfl (gSkip (eR rfl) (congrArg Bool.not (nt h165)) rfl (gSkip (eR rfl) (congrArg Bool.not (nt h165)) rfl (oPickT (eR rfl) (congrArg Bool.not (nt h165)) eC (xNil (TQ.qn ⟨true, H, (wk_mk [] (kR rfl rfl (kR rfl rfl (kR rfl rfl SL.nil))) (BL.keep rfl BL.nil) (BK.cons rfl bZ rfl rfl BK.nil))⟩))))))))
    ·exact gSkip eZ (congrArg Bool.not (nt h160)) rfl (gSkip (eR rfl) (congrArg Bool.not (nt h160)) rfl (gSkip (eR rfl) (congrArg Bool.not (nt h160)) rfl (gSkip (eR rfl) (congrArg Bool.not (nt h160)) rfl (gSkip (eR rfl) (congrArg Bool.not (nt h160)) rfl (gSkip (eR rfl) (congrArg Bool.not (nt h160)) rfl (oPickT (eR rfl) (congrArg Bool.not (nt h160)) eC (oMov eZ (gSkip eZ rfl rfl (gSkip (eR rfl) rfl rfl (gSkip (eR rfl) rfl rfl (gSkip (eR rfl) rfl rfl (gSkip (eR rfl) rfl rfl (gSkip (eR rfl) rfl rfl (oPickT (eR rfl) rfl eC (xNil (TQ.qn ⟨true, H, (wk_mk [] (kR rfl rfl (kR rfl rfl (kR rfl rfl SL.nil))) (BL.keep rfl BL.nil) (BK.cons rfl bZ rfl rfl BK.nil))⟩))))))))))))))))
   ·exact gSkip eZ (congrArg Bool.not (nt h155)) rfl (gSkip (eR rfl) (congrArg Bool.not (nt h155)) rfl (gSkip (eR rfl) (congrArg Bool.not (nt h155)) rfl (gSkip (eR rfl) (congrArg Bool.not (nt h155)) rfl (gSkip (eR rfl) (congrArg Bool.not (nt h155)) rfl (gSkip (eR rfl) (congrArg Bool.not (nt h155)) rfl (oPickT (eR rfl) (congrArg Bool.not (nt h155)) eC (oMov eZ (gSkip eZ rfl rfl (gSkip (eR rfl) rfl rfl (gSkip (eR rfl) rfl rfl (gSkip (eR rfl) rfl rfl (gSkip (eR rfl) rfl rfl (gSkip (eR rfl) rfl rfl (oPickT (eR rfl) rfl eC (oMov eZ (gSkip eZ rfl rfl (gSkip (eR rfl) rfl rfl (gSkip (eR rfl) rfl rfl (gSkip (eR rfl) rfl rfl (gSkip (eR rfl) rfl rfl (gSkip (eR rfl) rfl rfl (oPickT (eR rfl) rfl eC (xNil (TQ.qn ⟨true, H, (wk_mk [] (kR rfl rfl (kR rfl rfl (kR rfl rfl SL.nil))) (BL.keep rfl BL.nil) (BK.cons rfl bZ rfl rfl BK.nil))⟩))))))))))))))))))))))))
theorem c_impl_letterHas {a1 : Int} {r : ByteArray} (H : m_impl_letterHas a1 = some r) : Fn Try.prog k_impl_letterHas (lent [(.int .i64 a1)]) true [(.str r)] := by
 refine i_impl_letterHas_fn (fle rfl) ?_
 rw [init_mk]
 refine AW.weaken (wk_mk [] (kv 0 (oI a1) rfl rfl SL.nil) BL.nil BK.nil) ?_
 unfold m_impl_letterHas at H
 unfold i_impl_letterHas
 refine aV (oMov eC (xQ (aS (aV (oMov (eR rfl) (xQ (AW.block (aV (oEql eZ eC (oMov eZ (xQ ?_)))))))))))
 rcases oite H with ⟨h2, H⟩ | ⟨h2, H⟩
 ·refine AW.condT eZ (decide_eq_true h2) (aV (oMov eC (xQ (AW.ret (BQ.qr (TQ.qr ?_))))))
  cases H
  exact eE rfl rfl
 ·refine AW.condF eZ (decide_eq_false h2) (aV (oEql (eR rfl) eC (oMov eZ (xQ ?_))))
  rcases oite H with ⟨h3, H⟩ | ⟨h3, H⟩
  ·refine AW.condT eZ (decide_eq_true h3) (aV (oMov eC (xQ (AW.ret (BQ.qr (TQ.qr ?_))))))
   cases H
   exact eE rfl rfl
  ·refine AW.condF eZ (decide_eq_false h3) (aV (oEql (eR rfl) eC (oMov eZ (xQ ?_))))
   rcases oite H with ⟨h4, H⟩ | ⟨h4, H⟩
   ·refine AW.condT eZ (decide_eq_true h4) (aV (oMov eC (xQ (AW.ret (BQ.qr (TQ.qr ?_))))))
    cases H
    exact eE rfl rfl
   ·refine AW.condF eZ (decide_eq_false h4) (aV (oEql (eR rfl) eC (oMov eZ (xQ ?_))))
    rcases oite H with ⟨h5, H⟩ | ⟨h5, H⟩
    ·refine AW.condT eZ (decide_eq_true h5) (aV (oMov eC (xQ (AW.ret (BQ.qr (TQ.qr ?_))))))
     cases H
     exact eE rfl rfl
    ·refine AW.condF eZ (decide_eq_false h5) (aV (oEql (eR rfl) eC (oMov eZ (xQ ?_))))
     rcases oite H with ⟨h6, H⟩ | ⟨h6, H⟩
     ·refine AW.condT eZ (decide_eq_true h6) (aV (oMov eC (xQ (AW.ret (BQ.qr (TQ.qr ?_))))))
      cases H
      exact eE rfl rfl
     ·refine AW.condF eZ (decide_eq_false h6) (aV (oEql (eR rfl) eC (oMov eZ (xQ ?_))))
      rcases oite H with ⟨h7, H⟩ | ⟨h7, H⟩
      ·refine AW.condT eZ (decide_eq_true h7) (aV (oMov eC (xQ (AW.weaken (wk_mk [] (kr 2 rfl rfl SL.nil) BL.nil BK.nil) (AW.ret (BQ.qr (TQ.qr ?_)))))))
       cases H
       exact eE rfl rfl
      ·refine AW.condF eZ (decide_eq_false h7) (aV (oEql (eR rfl) eC (oMov eZ (xQ (AW.weaken (wk_mk [] (kr 16 rfl rfl (kr 3 rfl rfl SL.nil)) BL.nil BK.nil) ?_)))))
       rcases oite H with ⟨h8, H⟩ | ⟨h8, H⟩
       ·refine AW.condT eZ (decide_eq_true h8) (aV (oMov eC (xQ (AW.ret (BQ.qr (TQ.qr ?_))))))
        cases H
        exact eE rfl rfl
       ·refine AW.condF eZ (decide_eq_false h8) (aV (oEql (eR rfl) eC (oMov eZ (xQ ?_))))
        rcases oite H with ⟨h9, H⟩ | ⟨h9, H⟩
        ·refine AW.condT eZ (decide_eq_true h9) (aV (oMov eC (xQ (AW.ret (BQ.qr (TQ.qr ?_))))))
         cases H
         exact eE rfl rfl
        ·refine AW.condF eZ (decide_eq_false h9) (AW.seqJ (fun t10 : Bool => (impl_letterHas_j10 a1) t10 = some r) (fun t10 => mk [(3, (oI a1)), (20, (oB t10))] [] noG) ?_ ?_)
         ·intro t10 H
          unfold impl_letterHas_j10 at H
          rcases oite H with ⟨h12, H⟩ | ⟨h12, H⟩
          ·refine AW.condT (eR rfl) h12 (aV (oMov eC (xQ (AW.ret (BQ.qr (TQ.qr ?_))))))
           cases H
           exact eE rfl rfl
          ·refine AW.condF (eR rfl) (nt h12) (AW.seqJ (fun t13 : Bool => (impl_letterHas_j13 a1) t13 = some r) (fun t13 => mk [(3, (oI a1)), (23, (oB t13))] [] noG) ?_ ?_)
           ·intro t13 H
            unfold impl_letterHas_j13 at H
            rcases oite H with ⟨h15, H⟩ | ⟨h15, H⟩
            ·refine AW.condT (eR rfl) h15 (aV (oMov eC (xQ (AW.ret (BQ.qr (TQ.qr ?_))))))
             cases H
             exact eE rfl rfl
            ·refine AW.condF (eR rfl) (nt h15) (aV (oEql eZ eC (oMov eZ (xQ ?_))))
             rcases oite H with ⟨h16, H⟩ | ⟨h16, H⟩
             ·refine AW.condT eZ (decide_eq_true h16) (aV (oMov eC (xQ (AW.ret (BQ.qr (TQ.qr ?_))))))
              cases H
              exact eE rfl rfl
             ·refine AW.condF eZ (decide_eq_false h16) (aV (oEql (eR rfl) eC (oMov eZ (xQ ?_))))
              rcases oite H with ⟨h17, H⟩ | ⟨h17, H⟩
              ·refine AW.condT eZ (decide_eq_true h17) (aV (oMov eC (xQ (AW.ret (BQ.qr (TQ.qr ?_))))))
               cases H
               exact eE rfl rfl
              ·refine AW.condF eZ (decide_eq_false h17) (aV (oEql (eR rfl) eC (oMov eZ (xQ ?_))))
               rcases oite H with ⟨h18, H⟩ | ⟨h18, H⟩
               ·refine AW.condT eZ (decide_eq_true h18) (aV (oMov eC (xQ (AW.ret (BQ.qr (TQ.qr ?_))))))
                cases H
                exact eE rfl rfl
               ·refine AW.condF eZ (decide_eq_false h18) (aV (oEql (eR rfl) eC (oMov eZ (xQ ?_))))
                rcases oite H with ⟨h19, H⟩ | ⟨h19, H⟩
                ·refine AW.condT eZ (decide_eq_true h19) (aV (oMov eC (xQ (AW.ret (BQ.qr (TQ.qr ?_))))))
                 cases H
                 exact eE rfl rfl
                ·refine AW.condF eZ (decide_eq_false h19) (AW.skip (BQ.qn (TQ.qn (aV (oMov eC (xQ (AW.ret ?_)))))))
                 cases H
                 exact eE rfl rfl
           ·refine aV (oEql eZ eC (oMov eZ (xQ ?_)))
            rcases oite H with ⟨h20, H⟩ | ⟨h20, H⟩
            ·exact AW.condT eZ (decide_eq_true h20) (AW.skip (TQ.qn ⟨(decide (a1 = 11)), H, (wk_mk [] (kR rfl rfl (kR rfl rfl SL.nil)) BL.nil BK.nil)⟩))
            ·refine AW.condF eZ (decide_eq_false h20) (aV (oEql (eR rfl) eC (oMov eZ (xQ ?_))))
             rcases oite H with ⟨h21, H⟩ | ⟨h21, H⟩
             ·exact AW.condT eZ (decide_eq_true h21) (AW.skip (TQ.qn ⟨(decide (a1 = 15)), H, (wk_mk [] (kR rfl rfl (kR rfl rfl SL.nil)) BL.nil BK.nil)⟩))
             ·exact AW.condF eZ (decide_eq_false h21) (aR (oEql (eR rfl) eC (oMov eZ (xNil (TQ.qn ⟨(decide (a1 = 16)), H, (wk_mk [] (kR rfl rfl (kR rfl rfl SL.nil)) BL.nil BK.nil)⟩)))))
         ·refine aV (oEql (eR rfl) eC (oMov eZ (xQ ?_)))
          rcases oite H with ⟨h22, H⟩ | ⟨h22, H⟩
          ·exact AW.condT eZ (decide_eq_true h22) (AW.skip (TQ.qn ⟨(decide (a1 = 9)), H, (wk_mk [] (kR rfl rfl (kR rfl rfl SL.nil)) BL.nil BK.nil)⟩))
          ·exact AW.condF eZ (decide_eq_false h22) (aR (oEql (eR rfl) eC (oMov eZ (xNil (TQ.qn ⟨(decide (a1 = 10)), H, (wk_mk [] (kR rfl rfl (kR rfl rfl SL.nil)) BL.nil BK.nil)⟩)))))
theorem c_impl_has {a1 : ByteArray} {a2 : Int} {r : Bool} (H : m_impl_has a1 a2 = some r) : Fn Try.prog k_impl_has (lent [(.str a1), (.int .u8 a2)]) true [(.bool r)] := by
 refine i_impl_has_fn (fle rfl) ?_
 rw [init_mk]
 refine AW.weaken (wk_mk [] (kv 0 (.one (.d (.str a1))) rfl rfl (kv 1 (.one (.d (.int .u8 a2))) rfl rfl SL.nil)) BL.nil BK.nil) ?_
 unfold m_impl_has at H
 unfold i_impl_has
 refine aV (oMov eC (xQ (AW.seqJ (fun t3 : Unit => impl_has_j3 t3 = some r) (fun t3 => mk [] [] noG) ?_ ?_)))
 ·intro t3 H
  unfold impl_has_j3 at H
  refine aV (oMov eC (xQ (AW.ret ?_)))
  cases H
  exact eE rfl rfl
 ·refine aV (oMov (eR rfl) (oLenStr eZ (oMov eC (xQ (AW.block (AW.iter (fun s5 : Int => mk [(0, (.one (.d (.str a1)))), (1, (.one (.d (.int .u8 a2)))), (7, (oI (a1.size : Int))), (8, (oI s5))] [] noG) H (wk_mk [] (kR rfl rfl (kR rfl rfl (kR rfl rfl (kR rfl rfl SL.nil)))) BL.nil BK.nil) ?_))))))
  intro kb6 s5 H
  unfold impl_has_b5 at H
  refine aV (oLss (eR rfl) (eR rfl) (xQ (aS ?_)))
  rcases oite H with ⟨h7, H⟩ | ⟨h7, H⟩
  ·refine AW.condT eZ (decide_eq_true h7) (AW.skip (TQ.qn (aS (AW.block (aV (oMov (eR rfl) (oMov eZ (xQ (aV (oMov (eR rfl) (oMov (eR rfl) ?_)))))))))))
   obtain ⟨v8, h9, H⟩ := obind H
   refine oSidx (eR rfl) eZ h9 (oMov (eR rfl) (oEql (eR rfl) eZ (xQ ?_)))
   rcases oite H with ⟨h10, H⟩ | ⟨h10, H⟩
   ·refine AW.condT eZ (decide_eq_true h10) (aV (oMov eC (xQ (AW.ret (BQ.qr (TQ.qr (TQ.qr (BQ.qr (TQ.qr ?_)))))))))
    cases H
    exact eE rfl rfl
   ·exact AW.condF eZ (decide_eq_false h10) (AW.skip (BQ.qn (TQ.qn (aR (oAdd (eR rfl) eC (oMov eZ (xNil (TQ.qn ⟨(IntKind.wrap .i64 (s5 + 1)), H, (wk_mk [] (kR rfl rfl (kR rfl rfl (kR rfl rfl (kR rfl rfl SL.nil)))) BL.nil BK.nil)⟩))))))))
  ·exact AW.condF eZ (decide_eq_false h7) (AW.exit (TQ.qe (TQ.qe (BQ.qe (TQ.qn ⟨(), H, (wk_mk [] SL.nil BL.nil BK.nil)⟩)))))
theorem c_impl_from {a1 : Int} {a2 : Int} {a3 : Int} {r : Bool} (H : m_impl_from a1 a2 a3 = some r) : Fn Try.prog k_impl_from (lent [(.int .i64 a1), (.int .i64 a2), (.int .i64 a3)]) true [(.bool r)] := by
 refine i_impl_from_fn (fle rfl) ?_
 rw [init_mk]
 refine AW.weaken (wk_mk [] (kv 0 (oI a1) rfl rfl (kv 1 (oI a2) rfl rfl (kv 2 (oI a3) rfl rfl SL.nil))) BL.nil BK.nil) ?_
 unfold m_impl_from at H
 unfold i_impl_from
 refine aV (oMov eC (xQ (aV (oMov (eR rfl) (oMov (eR rfl) (oGeq (eR rfl) eZ (oMov eZ ?_)))))))
 rcases oite H with ⟨h4, H⟩ | ⟨h4, H⟩
 ·refine gDo eZ (decide_eq_true h4) (oMov (eR rfl) (gDo (eR rfl) (decide_eq_true h4) (oMov (eR rfl) (gDo (eR rfl) (decide_eq_true h4) (oLeq (eR rfl) eZ (oPickT (eR rfl) (decide_eq_true h4) eZ (oMov eZ (xQ (AW.ret ?_)))))))))
  cases H
  exact eE rfl rfl
 ·refine gSkip eZ (decide_eq_false h4) rfl (gSkip (eR rfl) (decide_eq_false h4) rfl (gSkip (eR rfl) (decide_eq_false h4) rfl (oPickF (eR rfl) (decide_eq_false h4) eC (oMov eZ (xQ (AW.ret ?_))))))
  cases H
  exact eE rfl rfl
theorem c_impl_numRight {a1 : ByteArray} {a2 : Int} {a3 : Int} {a4 : Int} {a5 : Int} {r : Bool} (H : m_impl_numRight a1 a2 a3 a4 a5 = some r) : Fn Try.prog k_impl_numRight (lent [(.str a1), (.int .u8 a2), (.int .i64 a3), (.int .i64 a4), (.int .i64 a5)]) true [(.bool r)] := by
 refine i_impl_numRight_fn (fle rfl) ?_
 rw [init_mk]
 refine AW.weaken (wk_mk [] (kv 0 (.one (.d (.str a1))) rfl rfl (kv 1 (.one (.d (.int .u8 a2))) rfl rfl (kv 2 (oI a3) rfl rfl (kv 3 (oI a4) rfl rfl (kv 4 (oI a5) rfl rfl SL.nil))))) BL.nil BK.nil) ?_
 unfold m_impl_numRight at H
 unfold i_impl_numRight
 refine aV (oMov eC (xQ (aS (aV (oMov (eR rfl) (oMov (eR rfl) ?_))))))
 obtain ⟨v6, h7, H⟩ := obind H
 refine oCall (u := (oB v6)) eC Cl.fn (c_impl_has h7) (Evs.cons (eR rfl) (Evs.cons eZ Evs.nil)) (VDs.cons VD.plain (VDs.cons VD.plain VDs.nil)) rfl (xQ ?_)
 rcases oite H with ⟨h8, H⟩ | ⟨h8, H⟩
 ·refine AW.condT eZ h8 (aV (oMov (eR rfl) (oMov (eR rfl) (oMov (eR rfl) ?_))))
  obtain ⟨v9, h10, H⟩ := obind H
  refine oCall (u := (oB v9)) eC Cl.fn (c_impl_from h10) (Evs.cons (eR rfl) (Evs.cons (eR rfl) (Evs.cons eZ Evs.nil))) (VDs.cons VD.plain (VDs.cons VD.plain (VDs.cons VD.plain VDs.nil))) rfl (oMov eZ (xQ (AW.ret (TQ.qr ?_))))
  cases H
  exact eE rfl rfl
 ·refine AW.condF eZ (nt h8) (AW.skip (TQ.qn (aV (oMov (eR rfl) (oEql eZ eC (oMov eZ (xQ (AW.ret ?_))))))))
  cases H
  exact eE rfl rfl
theorem c_impl_RangeOk {a1 : TRange} {r : Bool} (H : m_impl_RangeOk a1 = some r) : Fn Try.prog k_impl_RangeOk (lent [(.agg (d_TRange a1))]) true [(.bool r)] := by
 refine i_impl_RangeOk_fn (fle rfl) ?_
 rw [init_mk]
 refine AW.weaken (wk_mk [] (kv 0 (.agg [(dI a1.Lo), (dI a1.Hi)]) rfl rfl SL.nil) BL.nil BK.nil) ?_
 unfold m_impl_RangeOk at H
 unfold i_impl_RangeOk
 refine aV (oBox (n := 64) (m := 2) (cs := [(dI a1.Lo), (dI a1.Hi)]) rfl eZ rfl rfl nZ (oMov eC (xQ (aV (oFaddrN (m := 0) (eR rfl) rfl (oLoadV (q := 0) (c := (dI a1.Lo)) eZ bZ rfl rfl (oGeq eZ eC (oMov eZ ?_))))))))
 rcases oite H with ⟨h2, H⟩ | ⟨h2, H⟩
 ·refine gDo eZ (decide_eq_true h2) (oFaddrN (m := 0) (eR rfl) rfl (gDo (eR rfl) (decide_eq_true h2) (oLoadV (q := 0) (c := (dI a1.Lo)) eZ bZ rfl rfl (gDo (eR rfl) (decide_eq_true h2) (oFaddrN (m := 1) (eR rfl) rfl (gDo (eR rfl) (decide_eq_true h2) (oLoadV (q := 1) (c := (dI a1.Hi)) eZ bZ rfl rfl (gDo (eR rfl) (decide_eq_true h2) (oLss (eR rfl) eZ (oPickT (eR rfl) (decide_eq_true h2) eZ (oMov eZ ?_)))))))))))
  rcases oite H with ⟨h3, H⟩ | ⟨h3, H⟩
  ·refine gDo eZ (decide_eq_true h3) (oFaddrN (m := 1) (eR rfl) rfl (gDo (eR rfl) (decide_eq_true h3) (oLoadV (q := 1) (c := (dI a1.Hi)) eZ bZ rfl rfl (gDo (eR rfl) (decide_eq_true h3) (oLeq eZ eC (oPickT (eR rfl) (decide_eq_true h3) eZ (oMov eZ (xQ (AW.weaken (wk_mk [64] (kr 2 rfl rfl SL.nil) (BL.drop rfl BL.nil) BK.nil) (AW.ret ?_))))))))))
   cases H
   exact eE rfl rfl
  ·refine gSkip eZ (decide_eq_false h3) rfl (gSkip (eR rfl) (decide_eq_false h3) rfl (gSkip (eR rfl) (decide_eq_false h3) rfl (oPickF (eR rfl) (decide_eq_false h3) eC (oMov eZ (xQ (AW.weaken (wk_mk [64] (kr 2 rfl rfl SL.nil) (BL.drop rfl BL.nil) BK.nil) (AW.ret ?_)))))))
   cases H
   exact eE rfl rfl
 ·refine gSkip eZ (decide_eq_false h2) rfl (gSkip (eR rfl) (decide_eq_false h2) rfl (gSkip (eR rfl) (decide_eq_false h2) rfl (gSkip (eR rfl) (decide_eq_false h2) rfl (gSkip (eR rfl) (decide_eq_false h2) rfl (oPickF (eR rfl) (decide_eq_false h2) eC (oMov eZ (gSkip eZ rfl rfl (gSkip (eR rfl) rfl rfl (gSkip (eR rfl) rfl rfl (oPickF (eR rfl) rfl eC (oMov eZ (xQ (AW.weaken (wk_mk [64] (kr 2 rfl rfl SL.nil) (BL.drop rfl BL.nil) BK.nil) (AW.ret ?_))))))))))))))
  cases H
  exact eE rfl rfl
theorem c_impl_readsOk_1 {a1 : TRange} {r : Bool} (H : m_impl_readsOk_1 a1 = some r) : Fn Try.prog k_impl_readsOk_1 (lent [(.agg (d_TRange a1))]) true [(.bool r)] := by
 refine i_impl_readsOk_1_fn (fle rfl) ?_
 rw [init_mk]
 refine AW.weaken (wk_mk [] (kv 0 (.agg [(dI a1.Lo), (dI a1.Hi)]) rfl rfl SL.nil) BL.nil BK.nil) ?_
 unfold m_impl_readsOk_1 at H
 unfold i_impl_readsOk_1
 refine aV (oBox (n := 64) (m := 2) (cs := [(dI a1.Lo), (dI a1.Hi)]) rfl eZ rfl rfl nZ (oMov eC (xQ (aV (oLoadVA (es := [(dI a1.Lo), (dI a1.Hi)]) (eR rfl) bZ rfl ?_)))))
 obtain ⟨v2, h3, H⟩ := obind H
 refine oCall (u := (oB v2)) eC Cl.fn (c_impl_RangeOk h3) (Evs.cons eZ Evs.nil) (VDs.cons (VD.agg rfl) VDs.nil) rfl (oInv eZ (oMov eZ (xQ (AW.ret ?_))))
 cases H
 exact eE rfl rfl
theorem c_slices_IndexFunc_Range__readsOk_1 {a1 : (List TRange)} {r : Int} (H : m_slices_IndexFunc_Range__readsOk_1 a1 = some r) : Fn Try.prog k_slices_IndexFunc___impl_Range_impl_Range_ (lent [(.sl 2 (List.map d_TRange a1)), (.fn k_impl_readsOk_1 [])]) true [(.int .i64 r)] := by
 refine i_slices_IndexFunc___impl_Range_impl_Range__fn (fle rfl) ?_
 rw [init_mk]
 refine AW.weaken (wk_mk [] (kv 0 (.one (.d (.sl 2 (List.map d_TRange a1)))) rfl rfl (SL.cons (v := (.one (.fn k_impl_readsOk_1 []))) (eS rfl eZ) rfl (VWk.one (CWk.fn (css := []))) SL.nil)) BL.nil BK.nil) ?_
 unfold m_slices_IndexFunc_Range__readsOk_1 at H
 unfold i_slices_IndexFunc___impl_Range_impl_Range_
 refine aV (oMov eC (xQ (AW.seqJ (fun t2 : Unit => slices_IndexFunc_Range__readsOk_1_j2 t2 = some r) (fun t2 => mk [] [] noG) ?_ ?_)))
 ·intro t2 H
  unfold slices_IndexFunc_Range__readsOk_1_j2 at H
  refine aV (oMov eC (xQ (AW.ret ?_)))
  cases H
  exact eE rfl rfl
 ·refine aV (oMov (eR rfl) (oLenD eZ (n := a1.length) (List.length_map _) (oMov eC (xQ (AW.block (AW.iter (fun s4 : Int => mk [(0, (.one (.d (.sl 2 (List.map d_TRange a1))))), (1, (.one (.fn k_impl_readsOk_1 []))), (7, (oI (a1.length : Int))), (8, (oI s4))] [] noG) H (wk_mk [] (kR rfl rfl (kR rfl rfl (kR rfl rfl (kR rfl rfl SL.nil)))) BL.nil BK.nil) ?_))))))
  intro kb5 s4 H
  unfold slices_IndexFunc_Range__readsOk_1_b4 at H
  refine aV (oLss (eR rfl) (eR rfl) (xQ (aS ?_)))
  rcases oite H with ⟨h6, H⟩ | ⟨h6, H⟩
  ·refine AW.condT eZ (decide_eq_true h6) (AW.skip (TQ.qn (aS (AW.block (aV (oMov (eR rfl) (oMov eZ (xQ (aV (oMov (eR rfl) (oMov (eR rfl) (oMov (eR rfl) ?_))))))))))))
   obtain ⟨v7, h8, H⟩ := obind H
   refine oAtD (eR rfl) eZ h8 (oLoadBA (es := [(dI v7.Lo), (dI v7.Hi)]) eZ rfl ?_)
   obtain ⟨v9, h10, H⟩ := obind H
   refine oCall (u := (oB v9)) (eR rfl) Cl.fn (c_impl_readsOk_1 h10) (Evs.cons eZ Evs.nil) (VDs.cons (VD.agg rfl) VDs.nil) rfl (xQ ?_)
   rcases oite H with ⟨h11, H⟩ | ⟨h11, H⟩
   ·refine AW.condT eZ h11 (aV (oMov (eR rfl) (oMov eZ (xQ (AW.ret (BQ.qr (TQ.qr (TQ.qr (BQ.qr (TQ.qr ?_))))))))))
    cases H
    exact eE rfl rfl
   ·exact AW.condF eZ (nt h11) (AW.skip (BQ.qn (TQ.qn (aR (oAdd (eR rfl) eC (oMov eZ (xNil (TQ.qn ⟨(IntKind.wrap .i64 (s4 + 1)), H, (wk_mk [] (kR rfl rfl (kR rfl rfl (kR rfl rfl (kR rfl rfl SL.nil)))) BL.nil BK.nil)⟩))))))))
  ·exact AW.condF eZ (decide_eq_false h6) (AW.exit (TQ.qe (TQ.qe (BQ.qe (TQ.qn ⟨(), H, (wk_mk [] SL.nil BL.nil BK.nil)⟩)))))
theorem c_slices_ContainsFunc_Range__readsOk_1 {a1 : (List TRange)} {r : Bool} (H : m_slices_ContainsFunc_Range__readsOk_1 a1 = some r) : Fn Try.prog k_slices_ContainsFunc___impl_Range_impl_Range_ (lent [(.sl 2 (List.map d_TRange a1)), (.fn k_impl_readsOk_1 [])]) true [(.bool r)] := by
 refine i_slices_ContainsFunc___impl_Range_impl_Range__fn (fle rfl) ?_
 rw [init_mk]
 refine AW.weaken (wk_mk [] (kv 0 (.one (.d (.sl 2 (List.map d_TRange a1)))) rfl rfl (SL.cons (v := (.one (.fn k_impl_readsOk_1 []))) (eS rfl eZ) rfl (VWk.one (CWk.fn (css := []))) SL.nil)) BL.nil BK.nil) ?_
 unfold m_slices_ContainsFunc_Range__readsOk_1 at H
 unfold i_slices_ContainsFunc___impl_Range_impl_Range_
 refine aV (oMov eC (xQ (aV (oMov (eR rfl) (oMov (eR rfl) ?_)))))
 obtain ⟨v2, h3, H⟩ := obind H
 refine oCall (u := (oI v2)) eC Cl.fn (c_slices_IndexFunc_Range__readsOk_1 h3) (Evs.cons (eR rfl) (Evs.cons eZ Evs.nil)) (VDs.cons VD.plain (VDs.cons (VD.fn PDs.nil) VDs.nil)) rfl (oGeq eZ eC (oMov eZ (xQ (AW.ret ?_))))
 cases H
 exact eE rfl rfl
theorem c_impl_readsOk {a1 : (List TRange)} {r : Bool} (H : m_impl_readsOk a1 = some r) : Fn Try.prog k_impl_readsOk (lent [(.sl 2 (List.map d_TRange a1))]) true [(.bool r)] := by
 refine i_impl_readsOk_fn (fle rfl) ?_
 rw [init_mk]
 refine AW.weaken (wk_mk [] (kv 0 (.one (.d (.sl 2 (List.map d_TRange a1)))) rfl rfl SL.nil) BL.nil BK.nil) ?_
 unfold m_impl_readsOk at H
 unfold i_impl_readsOk
 refine aV (oMov eC (xQ (aV (oMov (eR rfl) (oLenD eZ (n := a1.length) (List.length_map _) (oLeq eZ eC (oMov eZ ?_)))))))
 rcases oite H with ⟨h2, H⟩ | ⟨h2, H⟩
 ·refine gDo eZ (decide_eq_true h2) (oMov (eR rfl) (gDo (eR rfl) (decide_eq_true h2) ?_))
  obtain ⟨v3, h4, H⟩ := obind H
  refine oCall (u := (oB v3)) eC Cl.fn (c_slices_ContainsFunc_Range__readsOk_1 h4) (Evs.cons eZ (Evs.cons eC Evs.nil)) (VDs.cons VD.plain (VDs.cons (VD.fn PDs.nil) VDs.nil)) rfl (gDo (eR rfl) (decide_eq_true h2) (oInv eZ (oPickT (eR rfl) (decide_eq_true h2) eZ (oMov eZ (xQ (AW.ret ?_))))))
  cases H
  exact eE rfl rfl
 ·refine gSkip eZ (decide_eq_false h2) rfl (gSkip (eR rfl) (decide_eq_false h2) rfl (gSkip (eR rfl) (decide_eq_false h2) rfl (oPickF (eR rfl) (decide_eq_false h2) eC (oMov eZ (xQ (AW.ret ?_))))))
  cases H
  exact eE rfl rfl
theorem c_impl_isKey {a1 : Int} {r : Bool} (H : m_impl_isKey a1 = some r) : Fn Try.prog k_impl_isKey (lent [(.int .i64 a1)]) true [(.bool r)] := by
 refine i_impl_isKey_fn (fle rfl) ?_
 rw [init_mk]
 refine AW.weaken (wk_mk [] (kv 0 (oI a1) rfl rfl SL.nil) BL.nil BK.nil) ?_
 unfold m_impl_isKey at H
 unfold i_impl_isKey
 refine aV (oMov eC (xQ (aV (oMov (eR rfl) ?_))))
 obtain ⟨v2, h3, H⟩ := obind H
 refine oCall (u := (oB v2)) eC Cl.fn (c_impl_from h3) (Evs.cons eZ (Evs.cons eC (Evs.cons eC Evs.nil))) (VDs.cons VD.plain (VDs.cons VD.plain (VDs.cons VD.plain VDs.nil))) rfl (oMov eZ (xQ (AW.ret ?_)))
 cases H
 exact eE rfl rfl
theorem c_impl_isAnswer {a1 : Int} {r : Bool} (H : m_impl_isAnswer a1 = some r) : Fn Try.prog k_impl_isAnswer (lent [(.int .i64 a1)]) true [(.bool r)] := by
 refine i_impl_isAnswer_fn (fle rfl) ?_
 rw [init_mk]
 refine AW.weaken (wk_mk [] (kv 0 (oI a1) rfl rfl SL.nil) BL.nil BK.nil) ?_
 unfold m_impl_isAnswer at H
 unfold i_impl_isAnswer
 refine aV (oMov eC (xQ (aV (oMov (eR rfl) ?_))))
 obtain ⟨v2, h3, H⟩ := obind H
 refine oCall (u := (oB v2)) eC Cl.fn (c_impl_from h3) (Evs.cons eZ (Evs.cons eC (Evs.cons eC Evs.nil))) (VDs.cons VD.plain (VDs.cons VD.plain (VDs.cons VD.plain VDs.nil))) rfl (oMov eZ (xQ (AW.ret ?_)))
 cases H
 exact eE rfl rfl
theorem c_impl_WritesOk {a1 : (List TCell)} {r : Bool} (H : m_impl_WritesOk a1 = some r) : Fn Try.prog k_impl_WritesOk (lent [(.sl 2 (List.map d_TCell a1))]) true [(.bool r)] := by
 refine i_impl_WritesOk_fn (fle rfl) ?_
 rw [init_mk]
 refine AW.weaken (wk_mk [] (kv 0 (.one (.d (.sl 2 (List.map d_TCell a1)))) rfl rfl SL.nil) BL.nil BK.nil) ?_
 unfold m_impl_WritesOk at H
 unfold i_impl_WritesOk
 refine aV (oMov eC (xQ (AW.seqJ (fun t2 : Unit => (impl_WritesOk_j2 a1) t2 = some r) (fun t2 => mk [(0, (.one (.d (.sl 2 (List.map d_TCell a1)))))] [] noG) ?_ ?_)))
 ·intro t2 H
  unfold impl_WritesOk_j2 at H
  refine aV (oMov eZ (oLenD eZ (n := a1.length) (List.length_map _) (oLeq eZ eC (oMov eZ (xQ (AW.ret ?_))))))
  cases H
  exact eE rfl rfl
 ·refine aV (oMov (eR rfl) (oLenD eZ (n := a1.length) (List.length_map _) (oMov eC (xQ (AW.block (AW.iter (fun s4 : Int => mk [(0, (.one (.d (.sl 2 (List.map d_TCell a1))))), (5, (.one (.d (.sl 2 (List.map d_TCell a1))))), (6, (oI (a1.length : Int))), (7, (oI s4))] [] noG) H (wk_mk [] (kR rfl rfl (kR rfl rfl (kR rfl rfl (kR rfl rfl SL.nil)))) BL.nil BK.nil) ?_))))))
  intro kb5 s4 H
  unfold impl_WritesOk_b4 at H
  refine aV (oLss (eR rfl) (eR rfl) (xQ (aS ?_)))
  rcases oite H with ⟨h6, H⟩ | ⟨h6, H⟩
  ·refine AW.condT eZ (decide_eq_true h6) (AW.skip (TQ.qn (aS (AW.block (aV (oMov (eR rfl) ?_))))))
   obtain ⟨v7, h8, H⟩ := obind H
   refine oAtD (eR rfl) (eR rfl) h8 (oLoadBA (es := [(dI v7.Key), (dI v7.Value)]) eZ rfl (oVar (n := 256) (m := 2) rfl rfl nZ (oMov (eR rfl) (oStoreV (es := [(dI v7.Key), (dI v7.Value)]) (eR rfl) (eR rfl) rfl rfl bZ rfl (xQ (AW.seqJ (fun t9 : Bool => (impl_WritesOk_j9 kb5 s4) t9 = some r) (fun t9 => mk [(0, (.one (.d (.sl 2 (List.map d_TCell a1))))), (5, (.one (.d (.sl 2 (List.map d_TCell a1))))), (6, (oI (a1.length : Int))), (7, (oI s4)), (36, (oB t9))] [] noG) ?_ ?_))))))
   ·intro t9 H
    unfold impl_WritesOk_j9 at H
    rcases oite H with ⟨h11, H⟩ | ⟨h11, H⟩
    ·refine AW.condT (eR rfl) h11 (aV (oMov eC (xQ (AW.ret (BQ.qr (TQ.qr (TQ.qr (BQ.qr (TQ.qr ?_)))))))))
     cases H
     exact eE rfl rfl
    ·exact AW.condF (eR rfl) (nt h11) (AW.skip (BQ.qn (TQ.qn (aR (oAdd (eR rfl) eC (oMov eZ (xNil (TQ.qn ⟨(IntKind.wrap .i64 (s4 + 1)), H, (wk_mk [] (kR rfl rfl (kR rfl rfl (kR rfl rfl (kR rfl rfl SL.nil)))) BL.nil BK.nil)⟩))))))))
   ·refine AW.regd (oFaddrN (m := 0) (eR rfl) rfl (oLoadV (q := 0) (c := (dI v7.Key)) eZ bZ rfl rfl ?_))
    obtain ⟨v12, h13, H⟩ := obind H
    refine oCall (u := (oB v12)) eC Cl.fn (c_impl_isKey h13) (Evs.cons eZ Evs.nil) (VDs.cons VD.plain VDs.nil) rfl (oInv eZ (oMov eZ ?_))
    rcases oite H with ⟨h14, H⟩ | ⟨h14, H⟩
    ·refine gDo eZ (congrArg Bool.not h14) (oFaddrN (m := 1) (eR rfl) rfl (gDo (eR rfl) (congrArg Bool.not h14) (oLoadV (q := 1) (c := (dI v7.Value)) eZ bZ rfl rfl (gDo (eR rfl) (congrArg Bool.not h14) ?_))))
     obtain ⟨v15, h16, H⟩ := obind H
     refine oCall (u := (oB v15)) eC Cl.fn (c_impl_isAnswer h16) (Evs.cons eZ Evs.nil) (VDs.cons VD.plain VDs.nil) rfl (gDo (eR rfl) (congrArg Bool.not h14) (oInv eZ (oPickF (eR rfl) (congrArg Bool.not h14) eZ (oMov eZ ?_))))
     rcases oite H with ⟨h17, H⟩ | ⟨h17, H⟩
     ·refine gDo eZ (congrArg Bool.not h17) (oMov (eR rfl) (gDo (eR rfl) (congrArg Bool.not h17) (oGtr eZ eC (gDo (eR rfl) (congrArg Bool.not h17) (oMov eZ ?_)))))
      rcases oite H with ⟨h18, H⟩ | ⟨h18, H⟩
      ·refine gDo eZ (decide_eq_true h18) (oMov (eR rfl) (gDo (eR rfl) (decide_eq_true h18) (oMov (eR rfl) (gDo (eR rfl) (decide_eq_true h18) (oSub eZ eC (gDo (eR rfl) (decide_eq_true h18) ?_))))))
       obtain ⟨v19, h20, H⟩ := obind H
       exact oAtD (eR rfl) eZ h20 (gDo (eR rfl) (decide_eq_true h18) (oFaddrB (m := 0) eZ rfl (gDo (eR rfl) (decide_eq_true h18) (oLoadB (e := (.int .i64 v19.Key)) eZ rfl (gDo (eR rfl) (decide_eq_true h18) (oFaddrN (m := 0) (eR rfl) rfl (gDo (eR rfl) (decide_eq_true h18) (oLoadV (q := 0) (c := (dI v7.Key)) eZ bZ rfl rfl (gDo (eR rfl) (decide_eq_true h18) (oGeq (eR rfl) eZ (gDo (eR rfl) (congrArg Bool.not h17) (oPickT (eR rfl) (decide_eq_true h18) eZ (oPickF (eR rfl) (congrArg Bool.not h17) eZ (xNil (TQ.qn ⟨(decide (v7.Key ≤ v19.Key)), H, (wk_mk [256] (kR rfl rfl (kR rfl rfl (kR rfl rfl (kR rfl rfl (kR rfl rfl SL.nil))))) (BL.drop rfl (BL.drop rfl BL.nil)) BK.nil)⟩)))))))))))))))
      ·exact gSkip eZ (decide_eq_false h18) rfl (gSkip (eR rfl) (decide_eq_false h18) rfl (gSkip (eR rfl) (decide_eq_false h18) rfl (gSkip (eR rfl) (decide_eq_false h18) rfl (gSkip (eR rfl) (decide_eq_false h18) rfl (gSkip (eR rfl) (decide_eq_false h18) rfl (gSkip (eR rfl) (decide_eq_false h18) rfl (gSkip (eR rfl) (decide_eq_false h18) rfl (gSkip (eR rfl) (decide_eq_false h18) rfl (gDo (eR rfl) (congrArg Bool.not h17) (oPickF (eR rfl) (decide_eq_false h18) eC (oPickF (eR rfl) (congrArg Bool.not h17) eZ (xNil (TQ.qn ⟨false, H, (wk_mk [256] (kR rfl rfl (kR rfl rfl (kR rfl rfl (kR rfl rfl (kR rfl rfl SL.nil))))) (BL.drop rfl (BL.drop rfl BL.nil)) BK.nil)⟩)))))))))))))
     ·exact gSkip eZ (congrArg Bool.not (nt h17)) rfl (gSkip (eR rfl) (congrArg Bool.not (nt h17)) rfl (gSkip (eR rfl) (congrArg Bool.not (nt h17)) rfl (gSkipU eZ rfl (gSkipU (eR rfl) rfl (gSkipU (eR rfl) rfl (gSkipU (eR rfl) rfl (gSkipU (eR rfl) rfl (gSkipU (eR rfl) rfl (gSkipU (eR rfl) rfl (gSkipU (eR rfl) rfl (gSkipU (eR rfl) rfl (gSkip (eR rfl) (congrArg Bool.not (nt h17)) rfl (oPickT (eR rfl) (congrArg Bool.not (nt h17)) eC (xNil (TQ.qn ⟨true, H, (wk_mk [256] (kR rfl rfl (kR rfl rfl (kR rfl rfl (kR rfl rfl (kR rfl rfl SL.nil))))) (BL.drop rfl (BL.drop rfl BL.nil)) BK.nil)⟩)))))))))))))))
    ·exact gSkip eZ (congrArg Bool.not (nt h14)) rfl (gSkip (eR rfl) (congrArg Bool.not (nt h14)) rfl (gSkip (eR rfl) (congrArg Bool.not (nt h14)) rfl (gSkip (eR rfl) (congrArg Bool.not (nt h14)) rfl (oPickT (eR rfl) (congrArg Bool.not (nt h14)) eC (oMov eZ (gSkip eZ rfl rfl (gSkip (eR rfl) rfl rfl (gSkip (eR rfl) rfl rfl (gSkipU eZ rfl (gSkipU (eR rfl) rfl (gSkipU (eR rfl) rfl (gSkipU (eR rfl) rfl (gSkipU (eR rfl) rfl (gSkipU (eR rfl) rfl (gSkipU (eR rfl) rfl (gSkipU (eR rfl) rfl (gSkipU (eR rfl) rfl (gSkip (eR rfl) rfl rfl (oPickT (eR rfl) rfl eC (xNil (TQ.qn ⟨true, H, (wk_mk [256] (kR rfl rfl (kR rfl rfl (kR rfl rfl (kR rfl rfl (kR rfl rfl SL.nil))))) (BL.drop rfl (BL.drop rfl BL.nil)) BK.nil)⟩)))))))))))))))))))))
  ·exact AW.condF eZ (decide_eq_false h6) (AW.exit (TQ.qe (TQ.qe (BQ.qe (TQ.qn ⟨(), H, (wk_mk [] (kR rfl rfl SL.nil) BL.nil BK.nil)⟩)))))
theorem c_impl_isWhole {a1 : Int} {r : Bool} (H : m_impl_isWhole a1 = some r) : Fn Try.prog k_impl_isWhole (lent [(.int .i64 a1)]) true [(.bool r)] := by
 refine i_impl_isWhole_fn (fle rfl) ?_
 rw [init_mk]
 refine AW.weaken (wk_mk [] (kv 0 (oI a1) rfl rfl SL.nil) BL.nil BK.nil) ?_
 unfold m_impl_isWhole at H
 unfold i_impl_isWhole
 refine aV (oMov eC (xQ (aV (oMov (eR rfl) ?_))))
 obtain ⟨v2, h3, H⟩ := obind H
 refine oCall (u := (oB v2)) eC Cl.fn (c_impl_from h3) (Evs.cons eZ (Evs.cons eC (Evs.cons eC Evs.nil))) (VDs.cons VD.plain (VDs.cons VD.plain (VDs.cons VD.plain VDs.nil))) rfl (oMov eZ (xQ (AW.ret ?_)))
 cases H
 exact eE rfl rfl
theorem c_impl_StoreOk {a1 : (List TCell)} {r : Bool} (H : m_impl_StoreOk a1 = some r) : Fn Try.prog k_impl_StoreOk (lent [(.sl 2 (List.map d_TCell a1))]) true [(.bool r)] := by
 refine i_impl_StoreOk_fn (fle rfl) ?_
 rw [init_mk]
 refine AW.weaken (wk_mk [] (kv 0 (.one (.d (.sl 2 (List.map d_TCell a1)))) rfl rfl SL.nil) BL.nil BK.nil) ?_
 unfold m_impl_StoreOk at H
 unfold i_impl_StoreOk
 refine aV (oMov eC (xQ (AW.seqJ (fun t2 : Unit => (impl_StoreOk_j2 a1) t2 = some r) (fun t2 => mk [(0, (.one (.d (.sl 2 (List.map d_TCell a1)))))] [] noG) ?_ ?_)))
 ·intro t2 H
  unfold impl_StoreOk_j2 at H
  refine aV (oMov eZ (oLenD eZ (n := a1.length) (List.length_map _) (oLeq eZ eC (oMov eZ (xQ (AW.ret ?_))))))
  cases H
  exact eE rfl rfl
 ·refine aV (oMov (eR rfl) (oLenD eZ (n := a1.length) (List.length_map _) (oMov eC (xQ (AW.block (AW.iter (fun s4 : Int => mk [(0, (.one (.d (.sl 2 (List.map d_TCell a1))))), (5, (.one (.d (.sl 2 (List.map d_TCell a1))))), (6, (oI (a1.length : Int))), (7, (oI s4))] [] noG) H (wk_mk [] (kR rfl rfl (kR rfl rfl (kR rfl rfl (kR rfl rfl SL.nil)))) BL.nil BK.nil) ?_))))))
  intro kb5 s4 H
  unfold impl_StoreOk_b4 at H
  refine aV (oLss (eR rfl) (eR rfl) (xQ (aS ?_)))
  rcases oite H with ⟨h6, H⟩ | ⟨h6, H⟩
  ·refine AW.condT eZ (decide_eq_true h6) (AW.skip (TQ.qn (aS (AW.block (aV (oMov (eR rfl) ?_))))))
   obtain ⟨v7, h8, H⟩ := obind H
   refine oAtD (eR rfl) (eR rfl) h8 (oLoadBA (es := [(dI v7.Key), (dI v7.Value)]) eZ rfl (oVar (n := 256) (m := 2) rfl rfl nZ (oMov (eR rfl) (oStoreV (es := [(dI v7.Key), (dI v7.Value)]) (eR rfl) (eR rfl) rfl rfl bZ rfl (xQ (AW.seqJ (fun t9 : Bool => (impl_StoreOk_j9 kb5 s4) t9 = some r) (fun t9 => mk [(0, (.one (.d (.sl 2 (List.map d_TCell a1))))), (5, (.one (.d (.sl 2 (List.map d_TCell a1))))), (6, (oI (a1.length : Int))), (7, (oI s4)), (36, (oB t9))] [] noG) ?_ ?_))))))
   ·intro t9 H
    unfold impl_StoreOk_j9 at H
    rcases oite H with ⟨h11, H⟩ | ⟨h11, H⟩
    ·refine AW.condT (eR rfl) h11 (aV (oMov eC (xQ (AW.ret (BQ.qr (TQ.qr (TQ.qr (BQ.qr (TQ.qr ?_)))))))))
     cases H
     exact eE rfl rfl
    ·exact AW.condF (eR rfl) (nt h11) (AW.skip (BQ.qn (TQ.qn (aR (oAdd (eR rfl) eC (oMov eZ (xNil (TQ.qn ⟨(IntKind.wrap .i64 (s4 + 1)), H, (wk_mk [] (kR rfl rfl (kR rfl rfl (kR rfl rfl (kR rfl rfl SL.nil)))) BL.nil BK.nil)⟩))))))))
   ·refine AW.regd (oFaddrN (m := 0) (eR rfl) rfl (oLoadV (q := 0) (c := (dI v7.Key)) eZ bZ rfl rfl ?_))
    obtain ⟨v12, h13, H⟩ := obind H
    refine oCall (u := (oB v12)) eC Cl.fn (c_impl_isKey h13) (Evs.cons eZ Evs.nil) (VDs.cons VD.plain VDs.nil) rfl (oInv eZ (oMov eZ ?_))
    rcases oite H with ⟨h14, H⟩ | ⟨h14, H⟩
    ·refine gDo eZ (congrArg Bool.not h14) (oFaddrN (m := 1) (eR rfl) rfl (gDo (eR rfl) (congrArg Bool.not h14) (oLoadV (q := 1) (c := (dI v7.Value)) eZ bZ rfl rfl (gDo (eR rfl) (congrArg Bool.not h14) ?_))))
     obtain ⟨v15, h16, H⟩ := obind H
     refine oCall (u := (oB v15)) eC Cl.fn (c_impl_isWhole h16) (Evs.cons eZ Evs.nil) (VDs.cons VD.plain VDs.nil) rfl (gDo (eR rfl) (congrArg Bool.not h14) (oInv eZ (oPickF (eR rfl) (congrArg Bool.not h14) eZ (oMov eZ ?_))))
     rcases oite H with ⟨h17, H⟩ | ⟨h17, H⟩
     ·refine gDo eZ (congrArg Bool.not h17) (oMov (eR rfl) (gDo (eR rfl) (congrArg Bool.not h17) (oGtr eZ eC (gDo (eR rfl) (congrArg Bool.not h17) (oMov eZ ?_)))))
      rcases oite H with ⟨h18, H⟩ | ⟨h18, H⟩
      ·refine gDo eZ (decide_eq_true h18) (oMov (eR rfl) (gDo (eR rfl) (decide_eq_true h18) (oMov (eR rfl) (gDo (eR rfl) (decide_eq_true h18) (oSub eZ eC (gDo (eR rfl) (decide_eq_true h18) ?_))))))
       obtain ⟨v19, h20, H⟩ := obind H
       exact oAtD (eR rfl) eZ h20 (gDo (eR rfl) (decide_eq_true h18) (oFaddrB (m := 0) eZ rfl (gDo (eR rfl) (decide_eq_true h18) (oLoadB (e := (.int .i64 v19.Key)) eZ rfl (gDo (eR rfl) (decide_eq_true h18) (oFaddrN (m := 0) (eR rfl) rfl (gDo (eR rfl) (decide_eq_true h18) (oLoadV (q := 0) (c := (dI v7.Key)) eZ bZ rfl rfl (gDo (eR rfl) (decide_eq_true h18) (oGeq (eR rfl) eZ (gDo (eR rfl) (congrArg Bool.not h17) (oPickT (eR rfl) (decide_eq_true h18) eZ (oPickF (eR rfl) (congrArg Bool.not h17) eZ (xNil (TQ.qn ⟨(decide (v7.Key ≤ v19.Key)), H, (wk_mk [256] (kR rfl rfl (kR rfl rfl (kR rfl rfl (kR rfl rfl (kR rfl rfl SL.nil))))) (BL.drop rfl (BL.drop rfl BL.nil)) BK.nil)⟩)))))))))))))))
      ·exact gSkip eZ (decide_eq_false h18) rfl (gSkip (eR rfl) (decide_eq_false h18) rfl (gSkip (eR rfl) (decide_eq_false h18) rfl (gSkip (eR rfl) (decide_eq_false h18) rfl (gSkip (eR rfl) (decide_eq_false h18) rfl (gSkip (eR rfl) (decide_eq_false h18) rfl (gSkip (eR rfl) (decide_eq_false h18) rfl (gSkip (eR rfl) (decide_eq_false h18) rfl (gSkip (eR rfl) (decide_eq_false h18) rfl (gDo (eR rfl) (congrArg Bool.not h17) (oPickF (eR rfl) (decide_eq_false h18) eC (oPickF (eR rfl) (congrArg Bool.not h17) eZ (xNil (TQ.qn ⟨false, H, (wk_mk [256] (kR rfl rfl (kR rfl rfl (kR rfl rfl (kR rfl rfl (kR rfl rfl SL.nil))))) (BL.drop rfl (BL.drop rfl BL.nil)) BK.nil)⟩)))))))))))))
     ·exact gSkip eZ (congrArg Bool.not (nt h17)) rfl (gSkip (eR rfl) (congrArg Bool.not (nt h17)) rfl (gSkip (eR rfl) (congrArg Bool.not (nt h17)) rfl (gSkipU eZ rfl (gSkipU (eR rfl) rfl (gSkipU (eR rfl) rfl (gSkipU (eR rfl) rfl (gSkipU (eR rfl) rfl (gSkipU (eR rfl) rfl (gSkipU (eR rfl) rfl (gSkipU (eR rfl) rfl (gSkipU (eR rfl) rfl (gSkip (eR rfl) (congrArg Bool.not (nt h17)) rfl (oPickT (eR rfl) (congrArg Bool.not (nt h17)) eC (xNil (TQ.qn ⟨true, H, (wk_mk [256] (kR rfl rfl (kR rfl rfl (kR rfl rfl (kR rfl rfl (kR rfl rfl SL.nil))))) (BL.drop rfl (BL.drop rfl BL.nil)) BK.nil)⟩)))))))))))))))
    ·exact gSkip eZ (congrArg Bool.not (nt h14)) rfl (gSkip (eR rfl) (congrArg Bool.not (nt h14)) rfl (gSkip (eR rfl) (congrArg Bool.not (nt h14)) rfl (gSkip (eR rfl) (congrArg Bool.not (nt h14)) rfl (oPickT (eR rfl) (congrArg Bool.not (nt h14)) eC (oMov eZ (gSkip eZ rfl rfl (gSkip (eR rfl) rfl rfl (gSkip (eR rfl) rfl rfl (gSkipU eZ rfl (gSkipU (eR rfl) rfl (gSkipU (eR rfl) rfl (gSkipU (eR rfl) rfl (gSkipU (eR rfl) rfl (gSkipU (eR rfl) rfl (gSkipU (eR rfl) rfl (gSkipU (eR rfl) rfl (gSkipU (eR rfl) rfl (gSkip (eR rfl) rfl rfl (oPickT (eR rfl) rfl eC (xNil (TQ.qn ⟨true, H, (wk_mk [256] (kR rfl rfl (kR rfl rfl (kR rfl rfl (kR rfl rfl (kR rfl rfl SL.nil))))) (BL.drop rfl (BL.drop rfl BL.nil)) BK.nil)⟩)))))))))))))))))))))
  ·exact AW.condF eZ (decide_eq_false h6) (AW.exit (TQ.qe (TQ.qe (BQ.qe (TQ.qn ⟨(), H, (wk_mk [] (kR rfl rfl SL.nil) BL.nil BK.nil)⟩)))))
theorem c_impl_isGroup {a1 : Int} {r : Bool} (H : m_impl_isGroup a1 = some r) : Fn Try.prog k_impl_isGroup (lent [(.int .i64 a1)]) true [(.bool r)] := by
 refine i_impl_isGroup_fn (fle rfl) ?_
 rw [init_mk]
 refine AW.weaken (wk_mk [] (kv 0 (oI a1) rfl rfl SL.nil) BL.nil BK.nil) ?_
 unfold m_impl_isGroup at H
 unfold i_impl_isGroup
 refine aV (oMov eC (xQ (aV (oMov (eR rfl) ?_))))
 obtain ⟨v2, h3, H⟩ := obind H
 refine oCall (u := (oB v2)) eC Cl.fn (c_impl_from h3) (Evs.cons eZ (Evs.cons eC (Evs.cons eC Evs.nil))) (VDs.cons VD.plain (VDs.cons VD.plain (VDs.cons VD.plain VDs.nil))) rfl (oMov eZ (xQ (AW.ret ?_)))
 cases H
 exact eE rfl rfl
theorem c_impl_SharesOk {a1 : (List TShare)} {r : Bool} (H : m_impl_SharesOk a1 = some r) : Fn Try.prog k_impl_SharesOk (lent [(.sl 4 (List.map d_TShare a1))]) true [(.bool r)] := by
 refine i_impl_SharesOk_fn (fle rfl) ?_
 rw [init_mk]
 refine AW.weaken (t := mk [(0, (.one (.d (.sl 4 (List.map d_TShare a1)))))] [] (lk [])) (wk_mk [] (kv 0 (.one (.d (.sl 4 (List.map d_TShare a1)))) rfl rfl SL.nil) BL.nil BK.nil) ?_
 unfold m_impl_SharesOk at H
 unfold i_impl_SharesOk
 refine aV (oMov eC (xQ (AW.seqJ (fun t2 : Unit => (impl_SharesOk_j2 a1) t2 = some r) (fun t2 => mk [(0, (.one (.d (.sl 4 (List.map d_TShare a1)))))] [] (lk [])) ?_ ?_)))
 ·intro t2 H
  unfold impl_SharesOk_j2 at H
  refine aV (oMov eZ (oLenD eZ (n := a1.length) (List.length_map _) (oLeq eZ eC (oMov eZ (xQ (AW.ret ?_))))))
  cases H
  exact eE rfl rfl
 ·refine aV (oMov (eR rfl) (oLenD eZ (n := a1.length) (List.length_map _) (oMov eC (xQ (AW.block (AW.iter (fun s4 : Int => mk [(0, (.one (.d (.sl 4 (List.map d_TShare a1))))), (5, (.one (.d (.sl 4 (List.map d_TShare a1))))), (6, (oI (a1.length : Int))), (7, (oI s4))] [] (lk [])) H (wk_mkG [] (kR rfl rfl (kR rfl rfl (kR rfl rfl (kR rfl rfl SL.nil)))) BL.nil BK.nil GK.nil) ?_))))))
  intro kb5 s4 H
  unfold impl_SharesOk_b4 at H
  refine aV (oLss (eR rfl) (eR rfl) (xQ (aS ?_)))
  rcases oite H with ⟨h6, H⟩ | ⟨h6, H⟩
  ·refine AW.condT eZ (decide_eq_true h6) (AW.skip (TQ.qn (aS (AW.block (aS (AW.regm (rmOne (oMov (eR rfl) (xNil (rmOne ?_))))))))))
   obtain ⟨v7, h8, H⟩ := obind H
   refine oAtD (eR rfl) (eR rfl) h8 (xNil (rmOne (oLoadBA (es := [(dI v7.Group), (.d (.sl 2 (List.map d_TRange v7.Reads))), (.d (.sl 2 (List.map d_TCell v7.Writes))), (dI v7.Vote)]) eZ rfl (xNil (rmOne (oVar (n := 256) (m := 4) rfl rfl nZ (xNil (rmOne (oMov (eR rfl) (xNil (rmOne (oStoreV (es := [(dI v7.Group), (.d (.sl 2 (List.map d_TRange v7.Reads))), (.d (.sl 2 (List.map d_TCell v7.Writes))), (dI v7.Vote)]) (eR rfl) (eR rfl) rfl rfl bZ rfl (xNil (rmRest (xQ (AW.seqJ (fun t9 : Bool => (impl_SharesOk_j9 kb5 s4) t9 = some r) (fun t9 => mk [(0, (.one (.d (.sl 4 (List.map d_TShare a1))))), (5, (.one (.d (.sl 4 (List.map d_TShare a1))))), (6, (oI (a1.length : Int))), (7, (oI s4)), (48, (oB t9))] [] (lk [])) ?_ ?_))))))))))))))))
   ·intro t9 H
    unfold impl_SharesOk_j9 at H
    rcases oite H with ⟨h11, H⟩ | ⟨h11, H⟩
    ·refine AW.condT (eR rfl) h11 (aV (oMov eC (xQ (AW.ret (BQ.qr (TQ.qr (TQ.qr (BQ.qr (TQ.qr ?_)))))))))
     cases H
     exact eE rfl rfl
    ·exact AW.condF (eR rfl) (nt h11) (AW.skip (BQ.qn (TQ.qn (aR (oAdd (eR rfl) eC (oMov eZ (xNil (TQ.qn ⟨(IntKind.wrap .i64 (s4 + 1)), H, (wk_mkG [] (kR rfl rfl (kR rfl rfl (kR rfl rfl (kR rfl rfl SL.nil)))) BL.nil BK.nil GK.nil)⟩))))))))
   ·refine AW.regd (oFaddrN (m := 0) (eR rfl) rfl (oLoadV (q := 0) (c := (dI v7.Group)) eZ bZ rfl rfl ?_))
    obtain ⟨v12, h13, H⟩ := obind H
    refine oCall (u := (oB v12)) eC Cl.fn (c_impl_isGroup h13) (Evs.cons eZ Evs.nil) (VDs.cons VD.plain VDs.nil) rfl (oInv eZ (oMov eZ ?_))
    rcases oite H with ⟨h14, H⟩ | ⟨h14, H⟩
    ·refine gDo eZ (congrArg Bool.not h14) (oMov (eR rfl) (gDo (eR rfl) (congrArg Bool.not h14) (oGtr eZ eC (gDo (eR rfl) (congrArg Bool.not h14) (oMov eZ ?_)))))
     rcases oite H with ⟨h15, H⟩ | ⟨h15, H⟩
     ·refine gDo eZ (decide_eq_true h15) (oMov (eR rfl) (gDo (eR rfl) (decide_eq_true h15) (oMov (eR rfl) (gDo (eR rfl) (decide_eq_true h15) (oSub eZ eC (gDo (eR rfl) (decide_eq_true h15) ?_))))))
      obtain ⟨v16, h17, H⟩ := obind H
      refine oAtD (eR rfl) eZ h17 (gDo (eR rfl) (decide_eq_true h15) (oFaddrB (m := 0) eZ rfl (gDo (eR rfl) (decide_eq_true h15) (oLoadB (e := (.int .i64 v16.Group)) eZ rfl (gDo (eR rfl) (decide_eq_true h15) (oFaddrN (m := 0) (eR rfl) rfl (gDo (eR rfl) (decide_eq_true h15) (oLoadV (q := 0) (c := (dI v7.Group)) eZ bZ rfl rfl (gDo (eR rfl) (decide_eq_true h15) (oGeq (eR rfl) eZ (gDo (eR rfl) (congrArg Bool.not h14) (oPickT (eR rfl) (decide_eq_true h15) eZ (oPickF (eR rfl) (congrArg Bool.not h14) eZ (oMov eZ ?_))))))))))))))
      rcases oite H with ⟨h18, H⟩ | ⟨h18, H⟩
      ·exact gSkip eZ (decide_eq_true h18) rfl (gSkip (eR rfl) (decide_eq_true h18) rfl (gSkip (eR rfl) (decide_eq_true h18) rfl (gSkip (eR rfl) (decide_eq_true h18) rfl (oPickT (eR rfl) (decide_eq_true h18) eC (oMov eZ (gSkip eZ rfl rfl (gSkip (eR rfl) rfl rfl (gSkip (eR rfl) rfl rfl (gSkip (eR rfl) rfl rfl (oPickT (eR rfl) rfl eC (oMov eZ (gSkip eZ rfl rfl (gSkip (eR rfl) rfl rfl (gSkip (eR rfl) rfl rfl (gSkip (eR rfl) rfl rfl (oPickT (eR rfl) rfl eC (xNil (TQ.qn ⟨true, H, (wk_mkG [256] (kR rfl rfl (kR rfl rfl (kR rfl rfl (kR rfl rfl (kR rfl rfl SL.nil))))) (BL.drop rfl (BL.drop rfl BL.nil)) BK.nil GK.nil)⟩))))))))))))))))))
      ·refine gDo eZ (decide_eq_false h18) (oFaddrN (m := 1) (eR rfl) rfl (gDo (eR rfl) (decide_eq_false h18) (oLoadV (q := 1) (c := (.d (.sl 2 (List.map d_TRange v7.Reads)))) eZ bZ rfl rfl (gDo (eR rfl) (decide_eq_false h18) ?_))))
       obtain ⟨v19, h20, H⟩ := obind H
       refine oCall (u := (oB v19)) eC Cl.fn (c_impl_readsOk h20) (Evs.cons eZ Evs.nil) (VDs.cons VD.plain VDs.nil) rfl (gDo (eR rfl) (decide_eq_false h18) (oInv eZ (oPickF (eR rfl) (decide_eq_false h18) eZ (oMov eZ ?_))))
       rcases oite H with ⟨h21, H⟩ | ⟨h21, H⟩
       ·refine gDo eZ (congrArg Bool.not h21) (oFaddrN (m := 2) (eR rfl) rfl (gDo (eR rfl) (congrArg Bool.not h21) (oLoadV (q := 2) (c := (.d (.sl 2 (List.map d_TCell v7.Writes)))) eZ bZ rfl rfl (gDo (eR rfl) (congrArg Bool.not h21) ?_))))
        obtain ⟨v22, h23, H⟩ := obind H
        refine oCall (u := (oB v22)) eC Cl.fn (c_impl_WritesOk h23) (Evs.cons eZ Evs.nil) (VDs.cons VD.plain VDs.nil) rfl (gDo (eR rfl) (congrArg Bool.not h21) (oInv eZ (oPickF (eR rfl) (congrArg Bool.not h21) eZ (oMov eZ ?_))))
        rcases oite H with ⟨h24, H⟩ | ⟨h24, H⟩
        ·refine gDo eZ (congrArg Bool.not h24) (oFaddrN (m := 3) (eR rfl) rfl (gDo (eR rfl) (congrArg Bool.not h24) (oLoadV (q := 3) (c := (dI v7.Vote)) eZ bZ rfl rfl (gDo (eR rfl) (congrArg Bool.not h24) ?_))))
         obtain ⟨v25, h26, H⟩ := obind H
         exact oCall (u := (oB v25)) eC Cl.fn (c_impl_from h26) (Evs.cons eZ (Evs.cons eC (Evs.cons eC Evs.nil))) (VDs.cons VD.plain (VDs.cons VD.plain (VDs.cons VD.plain VDs.nil))) rfl (gDo (eR rfl) (congrArg Bool.not h24) (oInv eZ (oPickF (eR rfl) (congrArg Bool.not h24) eZ (xNil (TQ.qn ⟨(!v25), H, (wk_mkG [256] (kR rfl rfl (kR rfl rfl (kR rfl rfl (kR rfl rfl (kR rfl rfl SL.nil))))) (BL.drop rfl (BL.drop rfl BL.nil)) BK.nil GK.nil)⟩)))))
        ·exact gSkip eZ (congrArg Bool.not (nt h24)) rfl (gSkip (eR rfl) (congrArg Bool.not (nt h24)) rfl (gSkip (eR rfl) (congrArg Bool.not (nt h24)) rfl (gSkip (eR rfl) (congrArg Bool.not (nt h24)) rfl (oPickT (eR rfl) (congrArg Bool.not (nt h24)) eC (xNil (TQ.qn ⟨true, H, (wk_mkG [256] (kR rfl rfl (kR rfl rfl (kR rfl rfl (kR rfl rfl (kR rfl rfl SL.nil))))) (BL.drop rfl (BL.drop rfl BL.nil)) BK.nil GK.nil)⟩))))))
       ·exact gSkip eZ (congrArg Bool.not (nt h21)) rfl (gSkip (eR rfl) (congrArg Bool.not (nt h21)) rfl (gSkip (eR rfl) (congrArg Bool.not (nt h21)) rfl (gSkip (eR rfl) (congrArg Bool.not (nt h21)) rfl (oPickT (eR rfl) (congrArg Bool.not (nt h21)) eC (oMov eZ (gSkip eZ rfl rfl (gSkip (eR rfl) rfl rfl (gSkip (eR rfl) rfl rfl (gSkip (eR rfl) rfl rfl (oPickT (eR rfl) rfl eC (xNil (TQ.qn ⟨true, H, (wk_mkG [256] (kR rfl rfl (kR rfl rfl (kR rfl rfl (kR rfl rfl (kR rfl rfl SL.nil))))) (BL.drop rfl (BL.drop rfl BL.nil)) BK.nil GK.nil)⟩))))))))))))
     ·refine gSkip eZ (decide_eq_false h15) rfl (gSkip (eR rfl) (decide_eq_false h15) rfl (gSkip (eR rfl) (decide_eq_false h15) rfl (gSkip (eR rfl) (decide_eq_false h15) rfl (gSkip (eR rfl) (decide_eq_false h15) rfl (gSkip (eR rfl) (decide_eq_false h15) rfl (gSkip (eR rfl) (decide_eq_false h15) rfl (gSkip (eR rfl) (decide_eq_false h15) rfl (gSkip (eR rfl) (decide_eq_false h15) rfl (gDo (eR rfl) (congrArg Bool.not h14) (oPickF (eR rfl) (decide_eq_false h15) eC (oPickF (eR rfl) (congrArg Bool.not h14) eZ (oMov eZ (gDo eZ rfl (oFaddrN (m := 1) (eR rfl) rfl (gDo (eR rfl) rfl (oLoadV (q := 1) (c := (.d (.sl 2 (List.map d_TRange v7.Reads)))) eZ bZ rfl rfl (gDo (eR rfl) rfl ?_)))))))))))))))))
      obtain ⟨v27, h28, H⟩ := obind H
      refine oCall (u := (oB v27)) eC Cl.fn (c_impl_readsOk h28) (Evs.cons eZ Evs.nil) (VDs.cons VD.plain VDs.nil) rfl (gDo (eR rfl) rfl (oInv eZ (oPickF (eR rfl) rfl eZ (oMov eZ ?_))))
      rcases oite H with ⟨h29, H⟩ | ⟨h29, H⟩
      ·refine gDo eZ (congrArg Bool.not h29) (oFaddrN (m := 2) (eR rfl) rfl (gDo (eR rfl) (congrArg Bool.not h29) (oLoadV (q := 2) (c := (.d (.sl 2 (List.map d_TCell v7.Writes)))) eZ bZ rfl rfl (gDo (eR rfl) (congrArg Bool.not h29) ?_))))
       obtain ⟨v30, h31, H⟩ := obind H
       refine oCall (u := (oB v30)) eC Cl.fn (c_impl_WritesOk h31) (Evs.cons eZ Evs.nil) (VDs.cons VD.plain VDs.nil) rfl (gDo (eR rfl) (congrArg Bool.not h29) (oInv eZ (oPickF (eR rfl) (congrArg Bool.not h29) eZ (oMov eZ ?_))))
       rcases oite H with ⟨h32, H⟩ | ⟨h32, H⟩
       ·refine gDo eZ (congrArg Bool.not h32) (oFaddrN (m := 3) (eR rfl) rfl (gDo (eR rfl) (congrArg Bool.not h32) (oLoadV (q := 3) (c := (dI v7.Vote)) eZ bZ rfl rfl (gDo (eR rfl) (congrArg Bool.not h32) ?_))))
        obtain ⟨v33, h34, H⟩ := obind H
        exact oCall (u := (oB v33)) eC Cl.fn (c_impl_from h34) (Evs.cons eZ (Evs.cons eC (Evs.cons eC Evs.nil))) (VDs.cons VD.plain (VDs.cons VD.plain (VDs.cons VD.plain VDs.nil))) rfl (gDo (eR rfl) (congrArg Bool.not h32) (oInv eZ (oPickF (eR rfl) (congrArg Bool.not h32) eZ (xNil (TQ.qn ⟨(!v33), H, (wk_mkG [256] (kR rfl rfl (kR rfl rfl (kR rfl rfl (kR rfl rfl (kR rfl rfl SL.nil))))) (BL.drop rfl (BL.drop rfl BL.nil)) BK.nil GK.nil)⟩)))))
       ·exact gSkip eZ (congrArg Bool.not (nt h32)) rfl (gSkip (eR rfl) (congrArg Bool.not (nt h32)) rfl (gSkip (eR rfl) (congrArg Bool.not (nt h32)) rfl (gSkip (eR rfl) (congrArg Bool.not (nt h32)) rfl (oPickT (eR rfl) (congrArg Bool.not (nt h32)) eC (xNil (TQ.qn ⟨true, H, (wk_mkG [256] (kR rfl rfl (kR rfl rfl (kR rfl rfl (kR rfl rfl (kR rfl rfl SL.nil))))) (BL.drop rfl (BL.drop rfl BL.nil)) BK.nil GK.nil)⟩))))))
      ·exact gSkip eZ (congrArg Bool.not (nt h29)) rfl (gSkip (eR rfl) (congrArg Bool.not (nt h29)) rfl (gSkip (eR rfl) (congrArg Bool.not (nt h29)) rfl (gSkip (eR rfl) (congrArg Bool.not (nt h29)) rfl (oPickT (eR rfl) (congrArg Bool.not (nt h29)) eC (oMov eZ (gSkip eZ rfl rfl (gSkip (eR rfl) rfl rfl (gSkip (eR rfl) rfl rfl (gSkip (eR rfl) rfl rfl (oPickT (eR rfl) rfl eC (xNil (TQ.qn ⟨true, H, (wk_mkG [256] (kR rfl rfl (kR rfl rfl (kR rfl rfl (kR rfl rfl (kR rfl rfl SL.nil))))) (BL.drop rfl (BL.drop rfl BL.nil)) BK.nil GK.nil)⟩))))))))))))
    ·exact gSkip eZ (congrArg Bool.not (nt h14)) rfl (gSkip (eR rfl) (congrArg Bool.not (nt h14)) rfl (gSkip (eR rfl) (congrArg Bool.not (nt h14)) rfl (gSkipU eZ rfl (gSkipU (eR rfl) rfl (gSkipU (eR rfl) rfl (gSkipU (eR rfl) rfl (gSkipU (eR rfl) rfl (gSkipU (eR rfl) rfl (gSkipU (eR rfl) rfl (gSkipU (eR rfl) rfl (gSkipU (eR rfl) rfl (gSkip (eR rfl) (congrArg Bool.not (nt h14)) rfl (oPickT (eR rfl) (congrArg Bool.not (nt h14)) eC (oMov eZ (gSkip eZ rfl rfl (gSkip (eR rfl) rfl rfl (gSkip (eR rfl) rfl rfl (gSkip (eR rfl) rfl rfl (oPickT (eR rfl) rfl eC (oMov eZ (gSkip eZ rfl rfl (gSkip (eR rfl) rfl rfl (gSkip (eR rfl) rfl rfl (gSkip (eR rfl) rfl rfl (oPickT (eR rfl) rfl eC (oMov eZ (gSkip eZ rfl rfl (gSkip (eR rfl) rfl rfl (gSkip (eR rfl) rfl rfl (gSkip (eR rfl) rfl rfl (oPickT (eR rfl) rfl eC (xNil (TQ.qn ⟨true, H, (wk_mkG [256] (kR rfl rfl (kR rfl rfl (kR rfl rfl (kR rfl rfl (kR rfl rfl SL.nil))))) (BL.drop rfl (BL.drop rfl BL.nil)) BK.nil GK.nil)⟩)))))))))))))))))))))))))))))))))
  ·exact AW.condF eZ (decide_eq_false h6) (AW.exit (TQ.qe (TQ.qe (BQ.qe (TQ.qn ⟨(), H, (wk_mkG [] (kR rfl rfl SL.nil) BL.nil BK.nil GK.nil)⟩)))))
theorem c_impl_votes_1 {a1 : TShare} {a2 : Int} {r : Bool} (H : m_impl_votes_1 a1 a2 = some r) : Fn Try.prog k_impl_votes_1 (lent [(.agg (d_TShare a1)), (.ptr (d_i64 a2))]) true [(.bool r)] := by
 refine i_impl_votes_1_fn (fle rfl) ?_
 rw [init_mk]
 refine AW.weaken (wk_mk [] (kv 0 (.agg [(dI a1.Group), (.d (.sl 2 (List.map d_TRange a1.Reads))), (.d (.sl 2 (List.map d_TCell a1.Writes))), (dI a1.Vote)]) rfl rfl (SL.cons (v := (.one (.ptr (.bd (d_i64 a2) 0)))) (eS rfl eZ) rfl (VWk.one CWk.ptr) SL.nil)) BL.nil BK.nil) ?_
 unfold m_impl_votes_1 at H
 unfold i_impl_votes_1
 refine aV (oBox (n := 128) (m := 4) (cs := [(dI a1.Group), (.d (.sl 2 (List.map d_TRange a1.Reads))), (.d (.sl 2 (List.map d_TCell a1.Writes))), (dI a1.Vote)]) rfl eZ rfl rfl nZ (oMov eC (xQ (aV (oFaddrN (m := 3) (eR rfl) rfl (oLoadV (q := 3) (c := (dI a1.Vote)) eZ bZ rfl rfl (oLoadB (e := (.int .i64 a2)) (eR rfl) rfl (oEql (eR rfl) eZ (oMov eZ (xQ (AW.ret ?_)))))))))))
 cases H
 exact eE rfl rfl
theorem c_slices_IndexFunc_Share__votes_1 {a1 : (List TShare)} {a2 : Int} {r : Int} (H : m_slices_IndexFunc_Share__votes_1 a1 a2 = some r) : Fn Try.prog k_slices_IndexFunc___impl_Share_impl_Share_ (lent [(.sl 4 (List.map d_TShare a1)), (.fn k_impl_votes_1 [.ptr (d_i64 a2)])]) true [(.int .i64 r)] := by
 refine i_slices_IndexFunc___impl_Share_impl_Share__fn (fle rfl) ?_
 rw [init_mk]
 refine AW.weaken (wk_mk [] (kv 0 (.one (.d (.sl 4 (List.map d_TShare a1)))) rfl rfl (SL.cons (v := (.one (.fn k_impl_votes_1 [(.bd (d_i64 a2) 0)]))) (eS rfl eZ) rfl (VWk.one (CWk.fn (css := [d_i64 a2]))) SL.nil)) BL.nil BK.nil) ?_
 unfold m_slices_IndexFunc_Share__votes_1 at H
 unfold i_slices_IndexFunc___impl_Share_impl_Share_
 refine aV (oMov eC (xQ (AW.seqJ (fun t3 : Unit => slices_IndexFunc_Share__votes_1_j3 t3 = some r) (fun t3 => mk [] [] noG) ?_ ?_)))
 ·intro t3 H
  unfold slices_IndexFunc_Share__votes_1_j3 at H
  refine aV (oMov eC (xQ (AW.ret ?_)))
  cases H
  exact eE rfl rfl
 ·refine aV (oMov (eR rfl) (oLenD eZ (n := a1.length) (List.length_map _) (oMov eC (xQ (AW.block (AW.iter (fun s5 : Int => mk [(0, (.one (.d (.sl 4 (List.map d_TShare a1))))), (1, (.one (.fn k_impl_votes_1 [(.bd (d_i64 a2) 0)]))), (7, (oI (a1.length : Int))), (8, (oI s5))] [] noG) H (wk_mk [] (kR rfl rfl (kR rfl rfl (kR rfl rfl (kR rfl rfl SL.nil)))) BL.nil BK.nil) ?_))))))
  intro kb6 s5 H
  unfold slices_IndexFunc_Share__votes_1_b5 at H
  refine aV (oLss (eR rfl) (eR rfl) (xQ (aS ?_)))
  rcases oite H with ⟨h7, H⟩ | ⟨h7, H⟩
  ·refine AW.condT eZ (decide_eq_true h7) (AW.skip (TQ.qn (aS (AW.block (aV (oMov (eR rfl) (oMov eZ (xQ (aV (oMov (eR rfl) (oMov (eR rfl) (oMov (eR rfl) ?_))))))))))))
   obtain ⟨v8, h9, H⟩ := obind H
   refine oAtD (eR rfl) eZ h9 (oLoadBA (es := [(dI v8.Group), (.d (.sl 2 (List.map d_TRange v8.Reads))), (.d (.sl 2 (List.map d_TCell v8.Writes))), (dI v8.Vote)]) eZ rfl ?_)
   obtain ⟨v10, h11, H⟩ := obind H
   refine oCall (u := (oB v10)) (eR rfl) Cl.fn (c_impl_votes_1 h11) (Evs.cons eZ Evs.nil) (VDs.cons (VD.agg rfl) (VDs.cons VD.ptrB VDs.nil)) rfl (xQ ?_)
   rcases oite H with ⟨h12, H⟩ | ⟨h12, H⟩
   ·refine AW.condT eZ h12 (aV (oMov (eR rfl) (oMov eZ (xQ (AW.ret (BQ.qr (TQ.qr (TQ.qr (BQ.qr (TQ.qr ?_))))))))))
    cases H
    exact eE rfl rfl
   ·exact AW.condF eZ (nt h12) (AW.skip (BQ.qn (TQ.qn (aR (oAdd (eR rfl) eC (oMov eZ (xNil (TQ.qn ⟨(IntKind.wrap .i64 (s5 + 1)), H, (wk_mk [] (kR rfl rfl (kR rfl rfl (kR rfl rfl (kR rfl rfl SL.nil)))) BL.nil BK.nil)⟩))))))))
  ·exact AW.condF eZ (decide_eq_false h7) (AW.exit (TQ.qe (TQ.qe (BQ.qe (TQ.qn ⟨(), H, (wk_mk [] SL.nil BL.nil BK.nil)⟩)))))
theorem c_slices_ContainsFunc_Share__votes_1 {a1 : (List TShare)} {a2 : Int} {r : Bool} (H : m_slices_ContainsFunc_Share__votes_1 a1 a2 = some r) : Fn Try.prog k_slices_ContainsFunc___impl_Share_impl_Share_ (lent [(.sl 4 (List.map d_TShare a1)), (.fn k_impl_votes_1 [.ptr (d_i64 a2)])]) true [(.bool r)] := by
 refine i_slices_ContainsFunc___impl_Share_impl_Share__fn (fle rfl) ?_
 rw [init_mk]
 refine AW.weaken (wk_mk [] (kv 0 (.one (.d (.sl 4 (List.map d_TShare a1)))) rfl rfl (SL.cons (v := (.one (.fn k_impl_votes_1 [(.bd (d_i64 a2) 0)]))) (eS rfl eZ) rfl (VWk.one (CWk.fn (css := [d_i64 a2]))) SL.nil)) BL.nil BK.nil) ?_
 unfold m_slices_ContainsFunc_Share__votes_1 at H
 unfold i_slices_ContainsFunc___impl_Share_impl_Share_
 refine aV (oMov eC (xQ (aV (oMov (eR rfl) (oMov (eR rfl) ?_)))))
 obtain ⟨v3, h4, H⟩ := obind H
 refine oCall (u := (oI v3)) eC Cl.fn (c_slices_IndexFunc_Share__votes_1 h4) (Evs.cons (eR rfl) (Evs.cons eZ Evs.nil)) (VDs.cons VD.plain (VDs.cons (VD.fn (PDs.cons VD.ptrB PDs.nil)) VDs.nil)) rfl (oGeq eZ eC (oMov eZ (xQ (AW.ret ?_))))
 cases H
 exact eE rfl rfl
theorem c_impl_votes {a1 : (List TShare)} {a2 : Int} {r : Bool} (H : m_impl_votes a1 a2 = some r) : Fn Try.prog k_impl_votes (lent [(.sl 4 (List.map d_TShare a1)), (.int .i64 a2)]) true [(.bool r)] := by
 refine i_impl_votes_fn (fle rfl) ?_
 rw [init_mk]
 refine AW.weaken (wk_mk [] (kv 0 (.one (.d (.sl 4 (List.map d_TShare a1)))) rfl rfl (kv 1 (oI a2) rfl rfl SL.nil)) BL.nil BK.nil) ?_
 unfold m_impl_votes at H
 unfold i_impl_votes
 refine aV (oBox (n := 192) (m := 1) (cs := [(dI a2)]) rfl (eR rfl) rfl rfl nZ (oMov eC (xQ (aV (oMov (eR rfl) (oMkfn (ps := [(.nm 192 0 0)]) (Evs.cons (eR rfl) Evs.nil) ?_))))))
 obtain ⟨v3, h4, H⟩ := obind H
 refine oCall (u := (oB v3)) eC Cl.fn (c_slices_ContainsFunc_Share__votes_1 h4) (Evs.cons (eR rfl) (Evs.cons eZ Evs.nil)) (VDs.cons VD.plain (VDs.cons (VD.fn (PDs.cons (VD.ptrN bZ (CDs.plain CDs.nil)) PDs.nil)) VDs.nil)) rfl (oMov eZ (xQ (AW.ret ?_)))
 cases H
 exact eE rfl rfl
end Go.AW
