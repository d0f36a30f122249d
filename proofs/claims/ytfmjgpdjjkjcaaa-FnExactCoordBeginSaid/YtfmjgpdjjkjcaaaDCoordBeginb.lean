/- That functions of the program compute what the plain functions say: printed by a program of the prover's own (tool/dec.py). Conditions: each theorem's own. -/
import Derived.Test.YtfmjgpdjjkjcaaaMCoordBegin
import Derived.Test.YtfmjgpdjjkjcaaaGCoordBegin
import Derived.Test.YtfmjgpdjjkjcaaaDCoordBegina
set_option linter.unusedVariables false
set_option linter.unusedSimpArgs false
set_option maxRecDepth 100000
namespace Go.AW
open Go.Proofs
theorem c_impl_SharesOk {a1 : (List TShare)} {r : Bool} (H : m_impl_SharesOk a1 = some r) : Fn Try.prog k_impl_SharesOk (lent [(.sl 4 (List.map d_TShare a1))]) true [(.bool r)] := by
 refine i_impl_SharesOk_fn (fle rfl) ?_
 rw [init_mk]
 refine AW.weaken (t := mk [(0, (.one (.d (.sl 4 (List.map d_TShare a1)))))] [] (lk [])) (wk_mk [] (kv 0 (.one (.d (.sl 4 (List.map d_TShare a1)))) rfl rfl SL.nil) BL.nil BK.nil) ?_
 unfold m_impl_SharesOk at H
 unfold i_impl_SharesOk
 refine aV (oMov eC (xQ (AW.seqJ (fun t2 : Unit => (impl_SharesOk_j2 a1) t2 = some r) (fun t2 => mk [(0, (.one (.d (.sl 4 (List.map d_TShare a1)))))] [] (lk [])) ?_ ?_)))
 ·intro t2 H
  unfold impl_SharesOk_j2 at H
  refine aV (oMov eZ (oLenD eZ (n := a1.length) (List.length_map _) (oLeq eZ eC (oMov eZ (xQ (AW.ret ?_))))))
  cases H
  exact eE rfl rfl
 ·refine aV (oMov (eR rfl) (oLenD eZ (n := a1.length) (List.length_map _) (oMov eC (xQ (AW.block (AW.iter (fun s4 : Int => mk [(0, (.one (.d (.sl 4 (List.map d_TShare a1))))), (5, (.one (.d (.sl 4 (List.map d_TShare a1))))), (6, (oI (a1.length : Int))), (7, (oI s4))] [] (lk [])) H (wk_mkG [] (kR rfl rfl (kR rfl rfl (kR rfl rfl (kR rfl rfl SL.nil)))) BL.nil BK.nil GK.nil) ?_))))))
  intro kb5 s4 H
  unfold impl_SharesOk_b4 at H
  refine aV (oLss (eR rfl) (eR rfl) (xQ (aS ?_)))
  rcases oite H with ⟨h6, H⟩ | ⟨h6, H⟩
  ·refine AW.condT eZ (decide_eq_true h6) (AW.skip (TQ.qn (aS (AW.block (aS (AW.regm (rmOne (oMov (eR rfl) (xNil (rmOne ?_))))))))))
   obtain ⟨v7, h8, H⟩ := obind H
   refine oAtD (eR rfl) (eR rfl) h8 (xNil (rmOne (oLoadBA (es := [(dI v7.Group), (.d (.sl 2 (List.map d_TRange v7.Reads))), (.d (.sl 2 (List.map d_TCell v7.Writes))), (dI v7.Vote)]) eZ rfl (xNil (rmOne (oVar (n := 256) (m := 4) rfl rfl nZ (xNil (rmOne (oMov (eR rfl) (xNil (rmOne (oStoreV (es := [(dI v7.Group), (.d (.sl 2 (List.map d_TRange v7.Reads))), (.d (.sl 2 (List.map d_TCell v7.Writes))), (dI v7.Vote)]) (eR rfl) (eR rfl) rfl rfl bZ rfl (xNil (rmRest (xQ (AW.seqJ (fun t9 : Bool => (impl_SharesOk_j9 kb5 s4) t9 = some r) (fun t9 => mk [(0, (.one (.d (.sl 4 (List.map d_TShare a1))))), (5, (.one (.d (.sl 4 (List.map d_TShare a1))))), (6, (oI (a1.length : Int))), (7, (oI s4)), (48, (oB t9))] [] (lk [])) ?_ ?_))))))))))))))))
   ·intro t9 H
    unfold impl_SharesOk_j9 at H
    rcases oite H with ⟨h11, H⟩ | ⟨h11, H⟩
    ·refine AW.condT (eR rfl) h11 (aV (oMov eC (xQ (AW.ret (BQ.qr (TQ.qr (TQ.qr (BQ.qr (TQ.qr ?_)))))))))
     cases H
     exact eE rfl rfl
    ·exact AW.condF (eR rfl) (nt h11) (AW.skip (BQ.qn (TQ.qn (aR (oAdd (eR rfl) eC (oMov eZ (xNil (TQ.qn ⟨(IntKind.wrap .i64 (s4 + 1)), H, (wk_mkG [] (kR rfl rfl (kR rfl rfl (kR rfl rfl (kR rfl rfl SL.nil)))) BL.nil BK.nil GK.nil)⟩))))))))
   ·refine AW.regd (oFaddrN (m := 0) (eR rfl) rfl (oLoadV (q := 0) (c := (dI v7.Group)) eZ bZ rfl rfl ?_))
    obtain ⟨v12, h13, H⟩ := obind H
    refine oCall (u := (oB v12)) eC Cl.fn (c_impl_isGroup h13) (Evs.cons eZ Evs.nil) (VDs.cons VD.plain VDs.nil) rfl (oInv eZ (oMov eZ ?_))
    rcases oite H with ⟨h14, H⟩ | ⟨h14, H⟩
    ·refine gDo eZ (congrArg Bool.not h14) (oMov (eR rfl) (gDo (eR rfl) (congrArg Bool.not h14) (oGtr eZ eC (gDo (eR rfl) (congrArg Bool.not h14) (oMov eZ ?_)))))
     rcases oite H with ⟨h15, H⟩ | ⟨h15, H⟩
     ·refine gDo eZ (decide_eq_true h15) (oMov (eR rfl) (gDo (eR rfl) (decide_eq_true h15) (oMov (eR rfl) (gDo (eR rfl) (decide_eq_true h15) (oSub eZ eC (gDo (eR rfl) (decide_eq_true h15) ?_))))))
      obtain ⟨v16, h17, H⟩ := obind H
      refine oAtD (eR rfl) eZ h17 (gDo (eR rfl) (decide_eq_true h15) (oFaddrB (m := 0) eZ rfl (gDo (eR rfl) (decide_eq_true h15) (oLoadB (e := (.int .i64 v16.Group)) eZ rfl (gDo (eR rfl) (decide_eq_true h15) (oFaddrN (m := 0) (eR rfl) rfl (gDo (eR rfl) (decide_eq_true h15) (oLoadV (q := 0) (c := (dI v7.Group)) eZ bZ rfl rfl (gDo (eR rfl) (decide_eq_true h15) (oGeq (eR rfl) eZ (gDo (eR rfl) (congrArg Bool.not h14) (oPickT (eR rfl) (decide_eq_true h15) eZ (oPickF (eR rfl) (congrArg Bool.not h14) eZ (oMov eZ ?_))))))))))))))
      rcases oite H with ⟨h18, H⟩ | ⟨h18, H⟩
      ·exact gSkip eZ (decide_eq_true h18) rfl (gSkip (eR rfl) (decide_eq_true h18) rfl (gSkip (eR rfl) (decide_eq_true h18) rfl (gSkip (eR rfl) (decide_eq_true h18) rfl (oPickT (eR rfl) (decide_eq_true h18) eC (oMov eZ (gSkip eZ rfl rfl (gSkip (eR rfl) rfl rfl (gSkip (eR rfl) rfl rfl (gSkip (eR rfl) rfl rfl (oPickT (eR rfl) rfl eC (oMov eZ (gSkip eZ rfl rfl (gSkip (eR rfl) rfl rfl (gSkip (eR rfl) rfl rfl (gSkip (eR rfl) rfl rfl (oPickT (eR rfl) rfl eC (xNil (TQ.qn ⟨true, H, (wk_mkG [256] (kR rfl rfl (kR rfl rfl (kR rfl rfl (kR rfl rfl (kR rfl rfl SL.nil))))) (BL.drop rfl (BL.drop rfl BL.nil)) BK.nil GK.nil)⟩))))))))))))))))))
      ·refine gDo eZ (decide_eq_false h18) (oFaddrN (m := 1) (eR rfl) rfl (gDo (eR rfl) (decide_eq_false h18) (oLoadV (q := 1) (c := (.d (.sl 2 (List.map d_TRange v7.Reads)))) eZ bZ rfl rfl (gDo (eR rfl) (decide_eq_false h18) ?_))))
       obtain ⟨v19, h20, H⟩ := obind H
       refine oCall (u := (oB v19)) eC Cl.fn (c_impl_readsOk h20) (Evs.cons eZ Evs.nil) (VDs.cons VD.plain VDs.nil) rfl (gDo (eR rfl) (decide_eq_false h18) (oInv eZ (oPickF (eR rfl) (decide_eq_false h18) eZ (oMov eZ ?_))))
       rcases oite H with ⟨h21, H⟩ | ⟨h21, H⟩
       ·refine gDo eZ (congrArg Bool.not h21) (oFaddrN (m := 2) (eR rfl) rfl (gDo (eR rfl) (congrArg Bool.not h21) (oLoadV (q := 2) (c := (.d (.sl 2 (List.map d_TCell v7.Writes)))) eZ bZ rfl rfl (gDo (eR rfl) (congrArg Bool.not h21) ?_))))
        obtain ⟨v22, h23, H⟩ := obind H
        refine oCall (u := (oB v22)) eC Cl.fn (c_impl_WritesOk h23) (Evs.cons eZ Evs.nil) (VDs.cons VD.plain VDs.nil) rfl (gDo (eR rfl) (congrArg Bool.not h21) (oInv eZ (oPickF (eR rfl) (congrArg Bool.not h21) eZ (oMov eZ ?_))))
        rcases oite H with ⟨h24, H⟩ | ⟨h24, H⟩
        ·refine gDo eZ (congrArg Bool.not h24) (oFaddrN (m := 3) (eR rfl) rfl (gDo (eR rfl) (congrArg Bool.not h24) (oLoadV (q := 3) (c := (dI v7.Vote)) eZ bZ rfl rfl (gDo (eR rfl) (congrArg Bool.not h24) ?_))))
         obtain ⟨v25, h26, H⟩ := obind H
         exact oCall (u := (oB v25)) eC Cl.fn (c_impl_from h26) (Evs.cons eZ (Evs.cons eC (Evs.cons eC Evs.nil))) (VDs.cons VD.plain (VDs.cons VD.plain (VDs.cons VD.plain VDs.nil))) rfl (gDo (eR rfl) (congrArg Bool.not h24) (oInv eZ (oPickF (eR rfl) (congrArg Bool.not h24) eZ (xNil (TQ.qn ⟨(!v25), H, (wk_mkG [256] (kR rfl rfl (kR rfl rfl (kR rfl rfl (kR rfl rfl (kR rfl rfl SL.nil))))) (BL.drop rfl (BL.drop rfl BL.nil)) BK.nil GK.nil)⟩)))))
        ·exact gSkip eZ (congrArg Bool.not (nt h24)) rfl (gSkip (eR rfl) (congrArg Bool.not (nt h24)) rfl (gSkip (eR rfl) (congrArg Bool.not (nt h24)) rfl (gSkip (eR rfl) (congrArg Bool.not (nt h24)) rfl (oPickT (eR rfl) (congrArg Bool.not (nt h24)) eC (xNil (TQ.qn ⟨true, H, (wk_mkG [256] (kR rfl rfl (kR rfl rfl (kR rfl rfl (kR rfl rfl (kR rfl rfl SL.nil))))) (BL.drop rfl (BL.drop rfl BL.nil)) BK.nil GK.nil)⟩))))))
       ·exact gSkip eZ (congrArg Bool.not (nt h21)) rfl (gSkip (eR rfl) (congrArg Bool.not (nt h21)) rfl (gSkip (eR rfl) (congrArg Bool.not (nt h21)) rfl (gSkip (eR rfl) (congrArg Bool.not (nt h21)) rfl (oPickT (eR rfl) (congrArg Bool.not (nt h21)) eC (oMov eZ (gSkip eZ rfl rfl (gSkip (eR rfl) rfl rfl (gSkip (eR rfl) rfl rfl (gSkip (eR rfl) rfl rfl (oPickT (eR rfl) rfl eC (xNil (TQ.qn ⟨true, H, (wk_mkG [256] (kR rfl rfl (kR rfl rfl (kR rfl rfl (kR rfl rfl (kR rfl rfl SL.nil))))) (BL.drop rfl (BL.drop rfl BL.nil)) BK.nil GK.nil)⟩))))))))))))
     ·refine gSkip eZ (decide_eq_false h15) rfl (gSkip (eR rfl) (decide_eq_false h15) rfl (gSkip (eR rfl) (decide_eq_false h15) rfl (gSkip (eR rfl) (decide_eq_false h15) rfl (gSkip (eR rfl) (decide_eq_false h15) rfl (gSkip (eR rfl) (decide_eq_false h15) rfl (gSkip (eR rfl) (decide_eq_false h15) rfl (gSkip (eR rfl) (decide_eq_false h15) rfl (gSkip (eR rfl) (decide_eq_false h15) rfl (gDo (eR rfl) (congrArg Bool.not h14) (oPickF (eR rfl) (decide_eq_false h15) eC (oPickF (eR rfl) (congrArg Bool.not h14) eZ (oMov eZ (gDo eZ rfl (oFaddrN (m := 1) (eR rfl) rfl (gDo (eR rfl) rfl (oLoadV (q := 1) (c := (.d (.sl 2 (List.map d_TRange v7.Reads)))) eZ bZ rfl rfl (gDo (eR rfl) rfl ?_)))))))))))))))))
      obtain ⟨v27, h28, H⟩ := obind H
      refine oCall (u := (oB v27)) eC Cl.fn (c_impl_readsOk h28) (Evs.cons eZ Evs.nil) (VDs.cons VD.plain VDs.nil) rfl (gDo (eR rfl) rfl (oInv eZ (oPickF (eR rfl) rfl eZ (oMov eZ ?_))))
      rcases oite H with ⟨h29, H⟩ | ⟨h29, H⟩
      ·refine gDo eZ (congrArg Bool.not h29) (oFaddrN (m := 2) (eR rfl) rfl (gDo (eR rfl) (congrArg Bool.not h29) (oLoadV (q := 2) (c := (.d (.sl 2 (List.map d_TCell v7.Writes)))) eZ bZ rfl rfl (gDo (eR rfl) (congrArg Bool.not h29) ?_))))
       obtain ⟨v30, h31, H⟩ := obind H
       refine oCall (u := (oB v30)) eC Cl.fn (c_impl_WritesOk h31) (Evs.cons eZ Evs.nil) (VDs.cons VD.plain VDs.nil) rfl (gDo (eR rfl) (congrArg Bool.not h29) (oInv eZ (oPickF (eR rfl) (congrArg Bool.not h29) eZ (oMov eZ ?_))))
       rcases oite H with ⟨h32, H⟩ | ⟨h32, H⟩
       ·refine gDo eZ (congrArg Bool.not h32) (oFaddrN (m := 3) (eR rfl) rfl (gDo (eR rfl) (congrArg Bool.not h32) (oLoadV (q := 3) (c := (dI v7.Vote)) eZ bZ rfl rfl (gDo (eR rfl) (congrArg Bool.not h32) ?_))))
        obtain ⟨v33, h34, H⟩ := obind H
        exact oCall (u := (oB v33)) eC Cl.fn (c_impl_from h34) (Evs.cons eZ (Evs.cons eC (Evs.cons eC Evs.nil))) (VDs.cons VD.plain (VDs.cons VD.plain (VDs.cons VD.plain VDs.nil))) rfl (gDo (eR rfl) (congrArg Bool.not h32) (oInv eZ (oPickF (eR rfl) (congrArg Bool.not h32) eZ (xNil (TQ.qn ⟨(!v33), H, (wk_mkG [256] (kR rfl rfl (kR rfl rfl (kR rfl rfl (kR rfl rfl (kR rfl rfl SL.nil))))) (BL.drop rfl (BL.drop rfl BL.nil)) BK.nil GK.nil)⟩)))))
       ·exact gSkip eZ (congrArg Bool.not (nt h32)) rfl (gSkip (eR rfl) (congrArg Bool.not (nt h32)) rfl (gSkip (eR rfl) (congrArg Bool.not (nt h32)) rfl (gSkip (eR rfl) (congrArg Bool.not (nt h32)) rfl (oPickT (eR rfl) (congrArg Bool.not (nt h32)) eC (xNil (TQ.qn ⟨true, H, (wk_mkG [256] (kR rfl rfl (kR rfl rfl (kR rfl rfl (kR rfl rfl (kR rfl rfl SL.nil))))) (BL.drop rfl (BL.drop rfl BL.nil)) BK.nil GK.nil)⟩))))))
      ·exact gSkip eZ (congrArg Bool.not (nt h29)) rfl (gSkip (eR rfl) (congrArg Bool.not (nt h29)) rfl (gSkip (eR rfl) (congrArg Bool.not (nt h29)) rfl (gSkip (eR rfl) (congrArg Bool.not (nt h29)) rfl (oPickT (eR rfl) (congrArg Bool.not (nt h29)) eC (oMov eZ (gSkip eZ rfl rfl (gSkip (eR rfl) rfl rfl (gSkip (eR rfl) rfl rfl (gSkip (eR rfl) rfl rfl (oPickT (eR rfl) rfl eC (xNil (TQ.qn ⟨true, H, (wk_mkG [256] (kR rfl rfl (kR rfl rfl (kR rfl rfl (kR rfl rfl (kR rfl rfl SL.nil))))) (BL.drop rfl (BL.drop rfl BL.nil)) BK.nil GK.nil)⟩))))))))))))
    ·exact gSkip eZ (congrArg Bool.not (nt h14)) rfl (gSkip (eR rfl) (congrArg Bool.not (nt h14)) rfl (gSkip (eR rfl) (congrArg Bool.not (nt h14)) rfl (gSkipU eZ rfl (gSkipU (eR rfl) rfl (gSkipU (eR rfl) rfl (gSkipU (eR rfl) rfl (gSkipU (eR rfl) rfl (gSkipU (eR rfl) rfl (gSkipU (eR rfl) rfl (gSkipU (eR rfl) rfl (gSkipU (eR rfl) rfl (gSkip (eR rfl) (congrArg Bool.not (nt h14)) rfl (oPickT (eR rfl) (congrArg Bool.not (nt h14)) eC (oMov eZ (gSkip eZ rfl rfl (gSkip (eR rfl) rfl rfl (gSkip (eR rfl) rfl rfl (gSkip (eR rfl) rfl rfl (oPickT (eR rfl) rfl eC (oMov eZ (gSkip eZ rfl rfl (gSkip (eR rfl) rfl rfl (gSkip (eR rfl) rfl rfl (gSkip (eR rfl) rfl rfl (oPickT (eR rfl) rfl eC (oMov eZ (gSkip eZ rfl rfl (gSkip (eR rfl) rfl rfl (gSkip (eR rfl) rfl rfl (gSkip (eR rfl) rfl rfl (oPickT (eR rfl) rfl eC (xNil (TQ.qn ⟨true, H, (wk_mkG [256] (kR rfl rfl (kR rfl rfl (kR rfl rfl (kR rfl rfl (kR rfl rfl SL.nil))))) (BL.drop rfl (BL.drop rfl BL.nil)) BK.nil GK.nil)⟩)))))))))))))))))))))))))))))))))
  ·exact AW.condF eZ (decide_eq_false h6) (AW.exit (TQ.qe (TQ.qe (BQ.qe (TQ.qn ⟨(), H, (wk_mkG [] (kR rfl rfl SL.nil) BL.nil BK.nil GK.nil)⟩)))))
theorem c_impl_votes_1 {a1 : TShare} {a2 : Int} {r : Bool} (H : m_impl_votes_1 a1 a2 = some r) : Fn Try.prog k_impl_votes_1 (lent [(.agg (d_TShare a1)), (.ptr (d_i64 a2))]) true [(.bool r)] := by
 refine i_impl_votes_1_fn (fle rfl) ?_
 rw [init_mk]
 refine AW.weaken (wk_mk [] (kv 0 (.agg [(dI a1.Group), (.d (.sl 2 (List.map d_TRange a1.Reads))), (.d (.sl 2 (List.map d_TCell a1.Writes))), (dI a1.Vote)]) rfl rfl (SL.cons (v := (.one (.ptr (.bd (d_i64 a2) 0)))) (eS rfl eZ) rfl (VWk.one CWk.ptr) SL.nil)) BL.nil BK.nil) ?_
 unfold m_impl_votes_1 at H
 unfold i_impl_votes_1
 refine aV (oBox (n := 128) (m := 4) (cs := [(dI a1.Group), (.d (.sl 2 (List.map d_TRange a1.Reads))), (.d (.sl 2 (List.map d_TCell a1.Writes))), (dI a1.Vote)]) rfl eZ rfl rfl nZ (oMov eC (xQ (aV (oFaddrN (m := 3) (eR rfl) rfl (oLoadV (q := 3) (c := (dI a1.Vote)) eZ bZ rfl rfl (oLoadB (e := (.int .i64 a2)) (eR rfl) rfl (oEql (eR rfl) eZ (oMov eZ (xQ (AW.ret ?_)))))))))))
 cases H
 exact eE rfl rfl
theorem c_slices_IndexFunc_Share__votes_1 {a1 : (List TShare)} {a2 : Int} {r : Int} (H : m_slices_IndexFunc_Share__votes_1 a1 a2 = some r) : Fn Try.prog k_slices_IndexFunc___impl_Share_impl_Share_ (lent [(.sl 4 (List.map d_TShare a1)), (.fn k_impl_votes_1 [.ptr (d_i64 a2)])]) true [(.int .i64 r)] := by
 refine i_slices_IndexFunc___impl_Share_impl_Share__fn (fle rfl) ?_
 rw [init_mk]
 refine AW.weaken (wk_mk [] (kv 0 (.one (.d (.sl 4 (List.map d_TShare a1)))) rfl rfl (SL.cons (v := (.one (.fn k_impl_votes_1 [(.bd (d_i64 a2) 0)]))) (eS rfl eZ) rfl (VWk.one (CWk.fn (css := [d_i64 a2]))) SL.nil)) BL.nil BK.nil) ?_
 unfold m_slices_IndexFunc_Share__votes_1 at H
 unfold i_slices_IndexFunc___impl_Share_impl_Share_
 refine aV (oMov eC (xQ (AW.seqJ (fun t3 : Unit => slices_IndexFunc_Share__votes_1_j3 t3 = some r) (fun t3 => mk [] [] noG) ?_ ?_)))
 ·intro t3 H
  unfold slices_IndexFunc_Share__votes_1_j3 at H
  refine aV (oMov eC (xQ (AW.ret ?_)))
  cases H
  exact eE rfl rfl
 ·refine aV (oMov (eR rfl) (oLenD eZ (n := a1.length) (List.length_map _) (oMov eC (xQ (AW.block (AW.iter (fun s5 : Int => mk [(0, (.one (.d (.sl 4 (List.map d_TShare a1))))), (1, (.one (.fn k_impl_votes_1 [(.bd (d_i64 a2) 0)]))), (7, (oI (a1.length : Int))), (8, (oI s5))] [] noG) H (wk_mk [] (kR rfl rfl (kR rfl rfl (kR rfl rfl (kR rfl rfl SL.nil)))) BL.nil BK.nil) ?_))))))
  intro kb6 s5 H
  unfold slices_IndexFunc_Share__votes_1_b5 at H
  refine aV (oLss (eR rfl) (eR rfl) (xQ (aS ?_)))
  rcases oite H with ⟨h7, H⟩ | ⟨h7, H⟩
  ·refine AW.condT eZ (decide_eq_true h7) (AW.skip (TQ.qn (aS (AW.block (aV (oMov (eR rfl) (oMov eZ (xQ (aV (oMov (eR rfl) (oMov (eR rfl) (oMov (eR rfl) ?_))))))))))))
   obtain ⟨v8, h9, H⟩ := obind H
   refine oAtD (eR rfl) eZ h9 (oLoadBA (es := [(dI v8.Group), (.d (.sl 2 (List.map d_TRange v8.Reads))), (.d (.sl 2 (List.map d_TCell v8.Writes))), (dI v8.Vote)]) eZ rfl ?_)
   obtain ⟨v10, h11, H⟩ := obind H
   refine oCall (u := (oB v10)) (eR rfl) Cl.fn (c_impl_votes_1 h11) (Evs.cons eZ Evs.nil) (VDs.cons (VD.agg rfl) (VDs.cons VD.ptrB VDs.nil)) rfl (xQ ?_)
   rcases oite H with ⟨h12, H⟩ | ⟨h12, H⟩
   ·refine AW.condT eZ h12 (aV (oMov (eR rfl) (oMov eZ (xQ (AW.ret (BQ.qr (TQ.qr (TQ.qr (BQ.qr (TQ.qr ?_))))))))))
    cases H
    exact eE rfl rfl
   ·exact AW.condF eZ (nt h12) (AW.skip (BQ.qn (TQ.qn (aR (oAdd (eR rfl) eC (oMov eZ (xNil (TQ.qn ⟨(IntKind.wrap .i64 (s5 + 1)), H, (wk_mk [] (kR rfl rfl (kR rfl rfl (kR rfl rfl (kR rfl rfl SL.nil)))) BL.nil BK.nil)⟩))))))))
  ·exact AW.condF eZ (decide_eq_false h7) (AW.exit (TQ.qe (TQ.qe (BQ.qe (TQ.qn ⟨(), H, (wk_mk [] SL.nil BL.nil BK.nil)⟩)))))
theorem c_slices_ContainsFunc_Share__votes_1 {a1 : (List TShare)} {a2 : Int} {r : Bool} (H : m_slices_ContainsFunc_Share__votes_1 a1 a2 = some r) : Fn Try.prog k_slices_ContainsFunc___impl_Share_impl_Share_ (lent [(.sl 4 (List.map d_TShare a1)), (.fn k_impl_votes_1 [.ptr (d_i64 a2)])]) true [(.bool r)] := by
 refine i_slices_ContainsFunc___impl_Share_impl_Share__fn (fle rfl) ?_
 rw [init_mk]
 refine AW.weaken (wk_mk [] (kv 0 (.one (.d (.sl 4 (List.map d_TShare a1)))) rfl rfl (SL.cons (v := (.one (.fn k_impl_votes_1 [(.bd (d_i64 a2) 0)]))) (eS rfl eZ) rfl (VWk.one (CWk.fn (css := [d_i64 a2]))) SL.nil)) BL.nil BK.nil) ?_
 unfold m_slices_ContainsFunc_Share__votes_1 at H
 unfold i_slices_ContainsFunc___impl_Share_impl_Share_
 refine aV (oMov eC (xQ (aV (oMov (eR rfl) (oMov (eR rfl) ?_)))))
 obtain ⟨v3, h4, H⟩ := obind H
 refine oCall (u := (oI v3)) eC Cl.fn (c_slices_IndexFunc_Share__votes_1 h4) (Evs.cons (eR rfl) (Evs.cons eZ Evs.nil)) (VDs.cons VD.plain (VDs.cons (VD.fn (PDs.cons VD.ptrB PDs.nil)) VDs.nil)) rfl (oGeq eZ eC (oMov eZ (xQ (AW.ret ?_))))
 cases H
 exact eE rfl rfl
theorem c_impl_votes {a1 : (List TShare)} {a2 : Int} {r : Bool} (H : m_impl_votes a1 a2 = some r) : Fn Try.prog k_impl_votes (lent [(.sl 4 (List.map d_TShare a1)), (.int .i64 a2)]) true [(.bool r)] := by
 refine i_impl_votes_fn (fle rfl) ?_
 rw [init_mk]
 refine AW.weaken (wk_mk [] (kv 0 (.one (.d (.sl 4 (List.map d_TShare a1)))) rfl rfl (kv 1 (oI a2) rfl rfl SL.nil)) BL.nil BK.nil) ?_
 unfold m_impl_votes at H
 unfold i_impl_votes
 refine aV (oBox (n := 192) (m := 1) (cs := [(dI a2)]) rfl (eR rfl) rfl rfl nZ (oMov eC (xQ (aV (oMov (eR rfl) (oMkfn (ps := [(.nm 192 0 0)]) (Evs.cons (eR rfl) Evs.nil) ?_))))))
 obtain ⟨v3, h4, H⟩ := obind H
 refine oCall (u := (oB v3)) eC Cl.fn (c_slices_ContainsFunc_Share__votes_1 h4) (Evs.cons (eR rfl) (Evs.cons eZ Evs.nil)) (VDs.cons VD.plain (VDs.cons (VD.fn (PDs.cons (VD.ptrN bZ (CDs.plain CDs.nil)) PDs.nil)) VDs.nil)) rfl (oMov eZ (xQ (AW.ret ?_)))
 cases H
 exact eE rfl rfl
theorem c_impl_recOk {a1 : TRec} {r : Bool} (H : m_impl_recOk a1 = some r) : Fn Try.prog k_impl_recOk (lent [(.agg (d_TRec a1))]) true [(.bool r)] := by
 refine i_impl_recOk_fn (fle rfl) ?_
 rw [init_mk]
 refine AW.weaken (wk_mk [] (kv 0 (.agg [(dI a1.Tx), (dI a1.Client), (dI a1.Req), (dI a1.State), (.d (.sl 4 (List.map d_TShare a1.Shares)))]) rfl rfl SL.nil) BL.nil BK.nil) ?_
 unfold m_impl_recOk at H
 unfold i_impl_recOk
 refine aV (oBox (n := 64) (m := 5) (cs := [(dI a1.Tx), (dI a1.Client), (dI a1.Req), (dI a1.State), (.d (.sl 4 (List.map d_TShare a1.Shares)))]) rfl eZ rfl rfl nZ (oMov eC (xQ (aS (AW.seqJ (fun t2 : Bool => (impl_recOk_j2 a1) t2 = some r) (fun t2 => mk [(1, (.one (.ptr (.nm 64 0 0)))), (18, (oB t2))] [(64, (.vars 5 [(dI a1.Tx), (dI a1.Client), (dI a1.Req), (dI a1.State), (.d (.sl 4 (List.map d_TShare a1.Shares)))]))] noG) ?_ ?_)))))
 ·intro t2 H
  unfold impl_recOk_j2 at H
  rcases oite H with ⟨h4, H⟩ | ⟨h4, H⟩
  ·refine AW.condT (eR rfl) h4 (aV (oMov eC (xQ (AW.ret (TQ.qr ?_)))))
   cases H
   exact eE rfl rfl
  ·refine AW.condF (eR rfl) (nt h4) (AW.skip (TQ.qn (aS (aV (oFaddrN (m := 3) eZ rfl (oLoadV (q := 3) (c := (dI a1.State)) eZ bZ rfl rfl (xQ (AW.block (aV (oEql eZ eC (oMov eZ (xQ ?_))))))))))))
   rcases oite H with ⟨h5, H⟩ | ⟨h5, H⟩
   ·refine AW.condT eZ (decide_eq_true h5) (aV (oFaddrN (m := 4) (eR rfl) rfl (oLoadV (q := 4) (c := (.d (.sl 4 (List.map d_TShare a1.Shares)))) eZ bZ rfl rfl (oLenD eZ (n := a1.Shares.length) (List.length_map _) (oEql eZ eC (oMov eZ (xQ (AW.ret (BQ.qr (TQ.qr ?_))))))))))
    cases H
    exact eE rfl rfl
   ·refine AW.condF eZ (decide_eq_false h5) (aV (oEql (eR rfl) eC (oMov eZ (xQ ?_))))
    rcases oite H with ⟨h6, H⟩ | ⟨h6, H⟩
    ·refine AW.condT eZ (decide_eq_true h6) (aV (oFaddrN (m := 4) (eR rfl) rfl (oLoadV (q := 4) (c := (.d (.sl 4 (List.map d_TShare a1.Shares)))) eZ bZ rfl rfl ?_)))
     obtain ⟨v7, h8, H⟩ := obind H
     refine oCall (u := (oB v7)) eC Cl.fn (c_impl_votes h8) (Evs.cons eZ (Evs.cons eC Evs.nil)) (VDs.cons VD.plain (VDs.cons VD.plain VDs.nil)) rfl (oMov eZ ?_)
     rcases oite H with ⟨h9, H⟩ | ⟨h9, H⟩
     ·refine gDo eZ h9 (oFaddrN (m := 4) (eR rfl) rfl (gDo (eR rfl) h9 (oLoadV (q := 4) (c := (.d (.sl 4 (List.map d_TShare a1.Shares)))) eZ bZ rfl rfl (gDo (eR rfl) h9 ?_))))
      obtain ⟨v10, h11, H⟩ := obind H
      refine oCall (u := (oB v10)) eC Cl.fn (c_impl_votes h11) (Evs.cons eZ (Evs.cons eC Evs.nil)) (VDs.cons VD.plain (VDs.cons VD.plain VDs.nil)) rfl (gDo (eR rfl) h9 (oInv eZ (oPickT (eR rfl) h9 eZ (oMov eZ (xQ (AW.weaken (wk_mk [64] (kr 2 rfl rfl SL.nil) (BL.drop rfl BL.nil) BK.nil) (AW.ret (BQ.qr (TQ.qr ?_)))))))))
      cases H
      exact eE rfl rfl
     ·refine gSkip eZ (nt h9) rfl (gSkip (eR rfl) (nt h9) rfl (gSkip (eR rfl) (nt h9) rfl (gSkip (eR rfl) (nt h9) rfl (oPickF (eR rfl) (nt h9) eC (oMov eZ (xQ (AW.weaken (wk_mk [64] (kr 2 rfl rfl SL.nil) (BL.drop rfl BL.nil) BK.nil) (AW.ret (BQ.qr (TQ.qr ?_))))))))))
      cases H
      exact eE rfl rfl
    ·refine AW.condF eZ (decide_eq_false h6) (aV (oEql (eR rfl) eC (oMov eZ (xQ ?_))))
     rcases oite H with ⟨h12, H⟩ | ⟨h12, H⟩
     ·refine AW.condT eZ (decide_eq_true h12) (aV (oFaddrN (m := 4) (eR rfl) rfl (oLoadV (q := 4) (c := (.d (.sl 4 (List.map d_TShare a1.Shares)))) eZ bZ rfl rfl ?_)))
      obtain ⟨v13, h14, H⟩ := obind H
      refine oCall (u := (oB v13)) eC Cl.fn (c_impl_votes h14) (Evs.cons eZ (Evs.cons eC Evs.nil)) (VDs.cons VD.plain (VDs.cons VD.plain VDs.nil)) rfl (oInv eZ (oMov eZ ?_))
      rcases oite H with ⟨h15, H⟩ | ⟨h15, H⟩
      ·refine gSkip eZ (congrArg Bool.not h15) rfl (gSkip (eR rfl) (congrArg Bool.not h15) rfl (gSkip (eR rfl) (congrArg Bool.not h15) rfl (gSkip (eR rfl) (congrArg Bool.not h15) rfl (oPickF (eR rfl) (congrArg Bool.not h15) eC (oMov eZ (xQ (AW.weaken (wk_mk [64] (kr 2 rfl rfl SL.nil) (BL.drop rfl BL.nil) BK.nil) (AW.ret (BQ.qr (TQ.qr ?_))))))))))
       cases H
       exact eE rfl rfl
      ·refine gDo eZ (congrArg Bool.not (nt h15)) (oFaddrN (m := 4) (eR rfl) rfl (gDo (eR rfl) (congrArg Bool.not (nt h15)) (oLoadV (q := 4) (c := (.d (.sl 4 (List.map d_TShare a1.Shares)))) eZ bZ rfl rfl (gDo (eR rfl) (congrArg Bool.not (nt h15)) ?_))))
       obtain ⟨v16, h17, H⟩ := obind H
       refine oCall (u := (oB v16)) eC Cl.fn (c_impl_votes h17) (Evs.cons eZ (Evs.cons eC Evs.nil)) (VDs.cons VD.plain (VDs.cons VD.plain VDs.nil)) rfl (gDo (eR rfl) (congrArg Bool.not (nt h15)) (oInv eZ (oPickT (eR rfl) (congrArg Bool.not (nt h15)) eZ (oMov eZ (xQ (AW.weaken (wk_mk [64] (kr 2 rfl rfl SL.nil) (BL.drop rfl BL.nil) BK.nil) (AW.ret (BQ.qr (TQ.qr ?_)))))))))
       cases H
       exact eE rfl rfl
     ·refine AW.condF eZ (decide_eq_false h12) (AW.skip (BQ.qn (TQ.qn (aV (oFaddrN (m := 3) (eR rfl) rfl (oLoadV (q := 3) (c := (dI a1.State)) eZ bZ rfl rfl (oEql eZ eC (oMov eZ (xQ (AW.ret ?_))))))))))
      cases H
      exact eE rfl rfl
 ·refine aR (oFaddrN (m := 1) (eR rfl) rfl (oLoadV (q := 1) (c := (dI a1.Client)) eZ bZ rfl rfl ?_))
  obtain ⟨v18, h19, H⟩ := obind H
  refine oCall (u := (oB v18)) eC Cl.fn (c_impl_isWhole h19) (Evs.cons eZ Evs.nil) (VDs.cons VD.plain VDs.nil) rfl (oInv eZ (oMov eZ ?_))
  rcases oite H with ⟨h20, H⟩ | ⟨h20, H⟩
  ·refine gDo eZ (congrArg Bool.not h20) (oFaddrN (m := 2) (eR rfl) rfl (gDo (eR rfl) (congrArg Bool.not h20) (oLoadV (q := 2) (c := (dI a1.Req)) eZ bZ rfl rfl (gDo (eR rfl) (congrArg Bool.not h20) ?_))))
   obtain ⟨v21, h22, H⟩ := obind H
   refine oCall (u := (oB v21)) eC Cl.fn (c_impl_isReq h22) (Evs.cons eZ Evs.nil) (VDs.cons VD.plain VDs.nil) rfl (gDo (eR rfl) (congrArg Bool.not h20) (oInv eZ (oPickF (eR rfl) (congrArg Bool.not h20) eZ (oMov eZ ?_))))
   rcases oite H with ⟨h23, H⟩ | ⟨h23, H⟩
   ·refine gDo eZ (congrArg Bool.not h23) (oFaddrN (m := 4) (eR rfl) rfl (gDo (eR rfl) (congrArg Bool.not h23) (oLoadV (q := 4) (c := (.d (.sl 4 (List.map d_TShare a1.Shares)))) eZ bZ rfl rfl (gDo (eR rfl) (congrArg Bool.not h23) ?_))))
    obtain ⟨v24, h25, H⟩ := obind H
    exact oCall (u := (oB v24)) eC Cl.fn (c_impl_SharesOk h25) (Evs.cons eZ Evs.nil) (VDs.cons VD.plain VDs.nil) rfl (gDo (eR rfl) (congrArg Bool.not h23) (oInv eZ (oPickF (eR rfl) (congrArg Bool.not h23) eZ (xNil (TQ.qn ⟨(!v24), H, (wk_mk [] (kR rfl rfl (kR rfl rfl SL.nil)) (BL.keep rfl BL.nil) (BK.cons rfl bZ rfl rfl BK.nil))⟩)))))
   ·exact gSkip eZ (congrArg Bool.not (nt h23)) rfl (gSkip (eR rfl) (congrArg Bool.not (nt h23)) rfl (gSkip (eR rfl) (congrArg Bool.not (nt h23)) rfl (gSkip (eR rfl) (congrArg Bool.not (nt h23)) rfl (oPickT (eR rfl) (congrArg Bool.not (nt h23)) eC (xNil (TQ.qn ⟨true, H, (wk_mk [] (kR rfl rfl (kR rfl rfl SL.nil)) (BL.keep rfl BL.nil) (BK.cons rfl bZ rfl rfl BK.nil))⟩))))))
  ·exact gSkip eZ (congrArg Bool.not (nt h20)) rfl (gSkip (eR rfl) (congrArg Bool.not (nt h20)) rfl (gSkip (eR rfl) (congrArg Bool.not (nt h20)) rfl (gSkip (eR rfl) (congrArg Bool.not (nt h20)) rfl (oPickT (eR rfl) (congrArg Bool.not (nt h20)) eC (oMov eZ (gSkip eZ rfl rfl (gSkip (eR rfl) rfl rfl (gSkip (eR rfl) rfl rfl (gSkip (eR rfl) rfl rfl (oPickT (eR rfl) rfl eC (xNil (TQ.qn ⟨true, H, (wk_mk [] (kR rfl rfl (kR rfl rfl SL.nil)) (BL.keep rfl BL.nil) (BK.cons rfl bZ rfl rfl BK.nil))⟩))))))))))))
theorem c_impl_CoordOk_1 {a1 : TRec} {a2 : TRec} {r : Bool} (H : m_impl_CoordOk_1 a1 a2 = some r) : Fn Try.prog k_impl_CoordOk_1 (lent [(.agg (d_TRec a1)), (.ptr (d_TRec a2))]) true [(.bool r)] := by
 refine i_impl_CoordOk_1_fn (fle rfl) ?_
 rw [init_mk]
 refine AW.weaken (wk_mk [] (kv 0 (.agg [(dI a1.Tx), (dI a1.Client), (dI a1.Req), (dI a1.State), (.d (.sl 4 (List.map d_TShare a1.Shares)))]) rfl rfl (SL.cons (v := (.one (.ptr (.bd (d_TRec a2) 0)))) (eS rfl eZ) rfl (VWk.one CWk.ptr) SL.nil)) BL.nil BK.nil) ?_
 unfold m_impl_CoordOk_1 at H
 unfold i_impl_CoordOk_1
 refine aV (oBox (n := 128) (m := 5) (cs := [(dI a1.Tx), (dI a1.Client), (dI a1.Req), (dI a1.State), (.d (.sl 4 (List.map d_TShare a1.Shares)))]) rfl eZ rfl rfl nZ (oMov eC (xQ (aV (oFaddrN (m := 1) (eR rfl) rfl (oLoadV (q := 1) (c := (dI a1.Client)) eZ bZ rfl rfl (oFaddrB (m := 1) (eR rfl) rfl (oLoadB (e := (.int .i64 a2.Client)) eZ rfl (oEql (eR rfl) eZ (oMov eZ ?_))))))))))
 rcases oite H with ⟨h3, H⟩ | ⟨h3, H⟩
 ·refine gDo eZ (decide_eq_true h3) (oFaddrN (m := 2) (eR rfl) rfl (gDo (eR rfl) (decide_eq_true h3) (oLoadV (q := 2) (c := (dI a1.Req)) eZ bZ rfl rfl (gDo (eR rfl) (decide_eq_true h3) (oFaddrB (m := 2) (eR rfl) rfl (gDo (eR rfl) (decide_eq_true h3) (oLoadB (e := (.int .i64 a2.Req)) eZ rfl (gDo (eR rfl) (decide_eq_true h3) (oEql (eR rfl) eZ (oPickT (eR rfl) (decide_eq_true h3) eZ (oMov eZ (xQ (AW.weaken (wk_mk [128] (kr 3 rfl rfl SL.nil) (BL.drop rfl BL.nil) BK.nil) (AW.ret ?_))))))))))))))
  cases H
  exact eE rfl rfl
 ·refine gSkip eZ (decide_eq_false h3) rfl (gSkip (eR rfl) (decide_eq_false h3) rfl (gSkip (eR rfl) (decide_eq_false h3) rfl (gSkip (eR rfl) (decide_eq_false h3) rfl (gSkip (eR rfl) (decide_eq_false h3) rfl (oPickF (eR rfl) (decide_eq_false h3) eC (oMov eZ (xQ (AW.weaken (wk_mk [128] (kr 3 rfl rfl SL.nil) (BL.drop rfl BL.nil) BK.nil) (AW.ret ?_)))))))))
  cases H
  exact eE rfl rfl
theorem c_slices_IndexFunc_Rec__CoordOk_1 {a1 : (List TRec)} {a2 : TRec} {r : Int} (H : m_slices_IndexFunc_Rec__CoordOk_1 a1 a2 = some r) : Fn Try.prog k_slices_IndexFunc___impl_Rec_impl_Rec_ (lent [(.sl 5 (List.map d_TRec a1)), (.fn k_impl_CoordOk_1 [.ptr (d_TRec a2)])]) true [(.int .i64 r)] := by
 refine i_slices_IndexFunc___impl_Rec_impl_Rec__fn (fle rfl) ?_
 rw [init_mk]
 refine AW.weaken (wk_mk [] (kv 0 (.one (.d (.sl 5 (List.map d_TRec a1)))) rfl rfl (SL.cons (v := (.one (.fn k_impl_CoordOk_1 [(.bd (d_TRec a2) 0)]))) (eS rfl eZ) rfl (VWk.one (CWk.fn (css := [d_TRec a2]))) SL.nil)) BL.nil BK.nil) ?_
 unfold m_slices_IndexFunc_Rec__CoordOk_1 at H
 unfold i_slices_IndexFunc___impl_Rec_impl_Rec_
 refine aV (oMov eC (xQ (AW.seqJ (fun t3 : Unit => slices_IndexFunc_Rec__CoordOk_1_j3 t3 = some r) (fun t3 => mk [] [] noG) ?_ ?_)))
 ·intro t3 H
  unfold slices_IndexFunc_Rec__CoordOk_1_j3 at H
  refine aV (oMov eC (xQ (AW.ret ?_)))
  cases H
  exact eE rfl rfl
 ·refine aV (oMov (eR rfl) (oLenD eZ (n := a1.length) (List.length_map _) (oMov eC (xQ (AW.block (AW.iter (fun s5 : Int => mk [(0, (.one (.d (.sl 5 (List.map d_TRec a1))))), (1, (.one (.fn k_impl_CoordOk_1 [(.bd (d_TRec a2) 0)]))), (7, (oI (a1.length : Int))), (8, (oI s5))] [] noG) H (wk_mk [] (kR rfl rfl (kR rfl rfl (kR rfl rfl (kR rfl rfl SL.nil)))) BL.nil BK.nil) ?_))))))
  intro kb6 s5 H
  unfold slices_IndexFunc_Rec__CoordOk_1_b5 at H
  refine aV (oLss (eR rfl) (eR rfl) (xQ (aS ?_)))
  rcases oite H with ⟨h7, H⟩ | ⟨h7, H⟩
  ·refine AW.condT eZ (decide_eq_true h7) (AW.skip (TQ.qn (aS (AW.block (aV (oMov (eR rfl) (oMov eZ (xQ (aV (oMov (eR rfl) (oMov (eR rfl) (oMov (eR rfl) ?_))))))))))))
   obtain ⟨v8, h9, H⟩ := obind H
   refine oAtD (eR rfl) eZ h9 (oLoadBA (es := [(dI v8.Tx), (dI v8.Client), (dI v8.Req), (dI v8.State), (.d (.sl 4 (List.map d_TShare v8.Shares)))]) eZ rfl ?_)
   obtain ⟨v10, h11, H⟩ := obind H
   refine oCall (u := (oB v10)) (eR rfl) Cl.fn (c_impl_CoordOk_1 h11) (Evs.cons eZ Evs.nil) (VDs.cons (VD.agg rfl) (VDs.cons VD.ptrB VDs.nil)) rfl (xQ ?_)
   rcases oite H with ⟨h12, H⟩ | ⟨h12, H⟩
   ·refine AW.condT eZ h12 (aV (oMov (eR rfl) (oMov eZ (xQ (AW.ret (BQ.qr (TQ.qr (TQ.qr (BQ.qr (TQ.qr ?_))))))))))
    cases H
    exact eE rfl rfl
   ·exact AW.condF eZ (nt h12) (AW.skip (BQ.qn (TQ.qn (aR (oAdd (eR rfl) eC (oMov eZ (xNil (TQ.qn ⟨(IntKind.wrap .i64 (s5 + 1)), H, (wk_mk [] (kR rfl rfl (kR rfl rfl (kR rfl rfl (kR rfl rfl SL.nil)))) BL.nil BK.nil)⟩))))))))
  ·exact AW.condF eZ (decide_eq_false h7) (AW.exit (TQ.qe (TQ.qe (BQ.qe (TQ.qn ⟨(), H, (wk_mk [] SL.nil BL.nil BK.nil)⟩)))))
theorem c_slices_ContainsFunc_Rec__CoordOk_1 {a1 : (List TRec)} {a2 : TRec} {r : Bool} (H : m_slices_ContainsFunc_Rec__CoordOk_1 a1 a2 = some r) : Fn Try.prog k_slices_ContainsFunc___impl_Rec_impl_Rec_ (lent [(.sl 5 (List.map d_TRec a1)), (.fn k_impl_CoordOk_1 [.ptr (d_TRec a2)])]) true [(.bool r)] := by
 refine i_slices_ContainsFunc___impl_Rec_impl_Rec__fn (fle rfl) ?_
 rw [init_mk]
 refine AW.weaken (wk_mk [] (kv 0 (.one (.d (.sl 5 (List.map d_TRec a1)))) rfl rfl (SL.cons (v := (.one (.fn k_impl_CoordOk_1 [(.bd (d_TRec a2) 0)]))) (eS rfl eZ) rfl (VWk.one (CWk.fn (css := [d_TRec a2]))) SL.nil)) BL.nil BK.nil) ?_
 unfold m_slices_ContainsFunc_Rec__CoordOk_1 at H
 unfold i_slices_ContainsFunc___impl_Rec_impl_Rec_
 refine aV (oMov eC (xQ (aV (oMov (eR rfl) (oMov (eR rfl) ?_)))))
 obtain ⟨v3, h4, H⟩ := obind H
 refine oCall (u := (oI v3)) eC Cl.fn (c_slices_IndexFunc_Rec__CoordOk_1 h4) (Evs.cons (eR rfl) (Evs.cons eZ Evs.nil)) (VDs.cons VD.plain (VDs.cons (VD.fn (PDs.cons VD.ptrB PDs.nil)) VDs.nil)) rfl (oGeq eZ eC (oMov eZ (xQ (AW.ret ?_))))
 cases H
 exact eE rfl rfl
theorem c_slices_Index_int {a1 : (List Int)} {a2 : Int} {r : Int} (H : m_slices_Index_int a1 a2 = some r) : Fn Try.prog k_slices_Index___int_int_ (lent [(.sl 1 (List.map d_i64 a1)), (.int .i64 a2)]) true [(.int .i64 r)] := by
 refine i_slices_Index___int_int__fn (fle rfl) ?_
 rw [init_mk]
 refine AW.weaken (wk_mk [] (kv 0 (.one (.d (.sl 1 (List.map d_i64 a1)))) rfl rfl (kv 1 (oI a2) rfl rfl SL.nil)) BL.nil BK.nil) ?_
 unfold m_slices_Index_int at H
 unfold i_slices_Index___int_int_
 refine aV (oMov eC (xQ (AW.seqJ (fun t3 : Unit => slices_Index_int_j3 t3 = some r) (fun t3 => mk [] [] noG) ?_ ?_)))
 ·intro t3 H
  unfold slices_Index_int_j3 at H
  refine aV (oMov eC (xQ (AW.ret ?_)))
  cases H
  exact eE rfl rfl
 ·refine aV (oMov (eR rfl) (oLenD eZ (n := a1.length) (List.length_map _) (oMov eC (xQ (AW.block (AW.iter (fun s5 : Int => mk [(0, (.one (.d (.sl 1 (List.map d_i64 a1))))), (1, (oI a2)), (7, (oI (a1.length : Int))), (8, (oI s5))] [] noG) H (wk_mk [] (kR rfl rfl (kR rfl rfl (kR rfl rfl (kR rfl rfl SL.nil)))) BL.nil BK.nil) ?_))))))
  intro kb6 s5 H
  unfold slices_Index_int_b5 at H
  refine aV (oLss (eR rfl) (eR rfl) (xQ (aS ?_)))
  rcases oite H with ⟨h7, H⟩ | ⟨h7, H⟩
  ·refine AW.condT eZ (decide_eq_true h7) (AW.skip (TQ.qn (aS (AW.block (aV (oMov (eR rfl) (oMov eZ (xQ (aV (oMov (eR rfl) (oMov (eR rfl) (oMov (eR rfl) ?_))))))))))))
   obtain ⟨v8, h9, H⟩ := obind H
   refine oAtD (eR rfl) eZ h9 (oLoadB (e := (.int .i64 v8)) eZ rfl (oEql (eR rfl) eZ (xQ ?_)))
   rcases oite H with ⟨h10, H⟩ | ⟨h10, H⟩
   ·refine AW.condT eZ (decide_eq_true h10) (aV (oMov (eR rfl) (oMov eZ (xQ (AW.ret (BQ.qr (TQ.qr (TQ.qr (BQ.qr (TQ.qr ?_))))))))))
    cases H
    exact eE rfl rfl
   ·exact AW.condF eZ (decide_eq_false h10) (AW.skip (BQ.qn (TQ.qn (aR (oAdd (eR rfl) eC (oMov eZ (xNil (TQ.qn ⟨(IntKind.wrap .i64 (s5 + 1)), H, (wk_mk [] (kR rfl rfl (kR rfl rfl (kR rfl rfl (kR rfl rfl SL.nil)))) BL.nil BK.nil)⟩))))))))
  ·exact AW.condF eZ (decide_eq_false h7) (AW.exit (TQ.qe (TQ.qe (BQ.qe (TQ.qn ⟨(), H, (wk_mk [] SL.nil BL.nil BK.nil)⟩)))))
theorem c_slices_Contains_int {a1 : (List Int)} {a2 : Int} {r : Bool} (H : m_slices_Contains_int a1 a2 = some r) : Fn Try.prog k_slices_Contains___int_int_ (lent [(.sl 1 (List.map d_i64 a1)), (.int .i64 a2)]) true [(.bool r)] := by
 refine i_slices_Contains___int_int__fn (fle rfl) ?_
 rw [init_mk]
 refine AW.weaken (wk_mk [] (kv 0 (.one (.d (.sl 1 (List.map d_i64 a1)))) rfl rfl (kv 1 (oI a2) rfl rfl SL.nil)) BL.nil BK.nil) ?_
 unfold m_slices_Contains_int at H
 unfold i_slices_Contains___int_int_
 refine aV (oMov eC (xQ (aV (oMov (eR rfl) (oMov (eR rfl) ?_)))))
 obtain ⟨v3, h4, H⟩ := obind H
 refine oCall (u := (oI v3)) eC Cl.fn (c_slices_Index_int h4) (Evs.cons (eR rfl) (Evs.cons eZ Evs.nil)) (VDs.cons VD.plain (VDs.cons VD.plain VDs.nil)) rfl (oGeq eZ eC (oMov eZ (xQ (AW.ret ?_))))
 cases H
 exact eE rfl rfl
theorem c_impl_CoordOk {a1 : TCoord} {r : Bool} (H : m_impl_CoordOk a1 = some r) : Fn Try.prog k_impl_CoordOk (lent [(.agg (d_TCoord a1))]) true [(.bool r)] := by
 refine i_impl_CoordOk_fn (fle rfl) ?_
 rw [init_mk]
 refine AW.weaken (t := mk [(0, (.agg [(.d (.sl 5 (List.map d_TRec a1.Recs))), (.d (.sl 1 (List.map d_i64 a1.Order)))]))] [] (lk [])) (wk_mk [] (kv 0 (.agg [(.d (.sl 5 (List.map d_TRec a1.Recs))), (.d (.sl 1 (List.map d_i64 a1.Order)))]) rfl rfl SL.nil) BL.nil BK.nil) ?_
 unfold m_impl_CoordOk at H
 unfold i_impl_CoordOk
 refine aV (oBox (n := 64) (m := 2) (cs := [(.d (.sl 5 (List.map d_TRec a1.Recs))), (.d (.sl 1 (List.map d_i64 a1.Order)))]) rfl eZ rfl rfl nZ (oMov eC (xQ (aS (aV (oFaddrN (m := 0) (eR rfl) rfl (oLoadV (q := 0) (c := (.d (.sl 5 (List.map d_TRec a1.Recs)))) eZ bZ rfl rfl (oLenD eZ (n := a1.Recs.length) (List.length_map _) (oGtr eZ eC (xQ ?_))))))))))
 rcases oite H with ⟨h2, H⟩ | ⟨h2, H⟩
 ·refine AW.condT eZ (decide_eq_true h2) (aV (oMov eC (xQ (AW.ret (TQ.qr ?_)))))
  cases H
  exact eE rfl rfl
 ·refine AW.condF eZ (decide_eq_false h2) (AW.skip (TQ.qn (aV (oMov eC (xQ (AW.seqJ (fun t3 : Int => (impl_CoordOk_j3 a1) t3 = some r) (fun t3 => mk [(1, (.one (.ptr (.nm 64 0 0)))), (3, (oI t3))] [(64, (.vars 2 [(.d (.sl 5 (List.map d_TRec a1.Recs))), (.d (.sl 1 (List.map d_i64 a1.Order)))]))] (lk [])) ?_ ?_))))))
  ·intro t3 H
   unfold impl_CoordOk_j3 at H
   refine AW.seqJ (fun t5 : Unit => (impl_CoordOk_j5 t3 a1) t5 = some r) (fun t5 => mk [(1, (.one (.ptr (.nm 64 0 0)))), (3, (oI t3))] [(64, (.vars 2 [(.d (.sl 5 (List.map d_TRec a1.Recs))), (.d (.sl 1 (List.map d_i64 a1.Order)))]))] (lk [])) ?_ ?_
   ·intro t5 H
    unfold impl_CoordOk_j5 at H
    refine aV (oMov (eR rfl) (oFaddrN (m := 1) (eR rfl) rfl (oLoadV (q := 1) (c := (.d (.sl 1 (List.map d_i64 a1.Order)))) eZ bZ rfl rfl (oLenD eZ (n := a1.Order.length) (List.length_map _) (oEql (eR rfl) eZ (oMov eZ (xQ (AW.ret ?_))))))))
    cases H
    exact eE rfl rfl
   ·refine aV (oFaddrN (m := 1) eZ rfl (oLoadV (q := 1) (c := (.d (.sl 1 (List.map d_i64 a1.Order)))) eZ bZ rfl rfl (oLenD eZ (n := a1.Order.length) (List.length_map _) (oMov eC (xQ (AW.block (AW.iter (fun s7 : Int => mk [(1, (.one (.ptr (.nm 64 0 0)))), (3, (oI t3)), (45, (.one (.d (.sl 1 (List.map d_i64 a1.Order))))), (46, (oI (a1.Order.length : Int))), (47, (oI s7))] [(64, (.vars 2 [(.d (.sl 5 (List.map d_TRec a1.Recs))), (.d (.sl 1 (List.map d_i64 a1.Order)))]))] (lk [])) H (wk_mkG [] (kR rfl rfl (kR rfl rfl (kR rfl rfl (kR rfl rfl (kR rfl rfl SL.nil))))) (BL.keep rfl BL.nil) (BK.cons rfl bZ rfl rfl BK.nil) GK.nil) ?_)))))))
    intro kb8 s7 H
    unfold impl_CoordOk_b7 at H
    refine aV (oLss (eR rfl) (eR rfl) (xQ (aS ?_)))
    rcases oite H with ⟨h9, H⟩ | ⟨h9, H⟩
    ·refine AW.condT eZ (decide_eq_true h9) (AW.skip (TQ.qn (aS (AW.block (aV (oMov (eR rfl) ?_))))))
     obtain ⟨v10, h11, H⟩ := obind H
     refine oAtD (eR rfl) (eR rfl) h11 (oLoadB (e := (.int .i64 v10)) eZ rfl (oMov (eR rfl) (oMov (eR rfl) (xQ (AW.seqJ (fun t12 : Bool => (impl_CoordOk_j12 kb8 s7) t12 = some r) (fun t12 => mk [(1, (.one (.ptr (.nm 64 0 0)))), (3, (oI t3)), (45, (.one (.d (.sl 1 (List.map d_i64 a1.Order))))), (46, (oI (a1.Order.length : Int))), (47, (oI s7)), (75, (oB t12))] [(64, (.vars 2 [(.d (.sl 5 (List.map d_TRec a1.Recs))), (.d (.sl 1 (List.map d_i64 a1.Order)))]))] (lk [])) ?_ ?_)))))
     ·intro t12 H
      unfold impl_CoordOk_j12 at H
      rcases oite H with ⟨h14, H⟩ | ⟨h14, H⟩
      ·refine AW.condT (eR rfl) h14 (aV (oMov eC (xQ (AW.ret (BQ.qr (TQ.qr (TQ.qr (BQ.qr (TQ.qr ?_)))))))))
       cases H
       exact eE rfl rfl
      ·exact AW.condF (eR rfl) (nt h14) (AW.skip (BQ.qn (TQ.qn (aR (oAdd (eR rfl) eC (oMov eZ (xNil (TQ.qn ⟨(IntKind.wrap .i64 (s7 + 1)), H, (wk_mkG [] (kR rfl rfl (kR rfl rfl (kR rfl rfl (kR rfl rfl (kR rfl rfl SL.nil))))) (BL.keep rfl BL.nil) (BK.cons rfl bZ rfl rfl BK.nil) GK.nil)⟩))))))))
     ·refine aR (oMov eZ (oFaddrN (m := 0) (eR rfl) rfl (oLoadV (q := 0) (c := (.d (.sl 5 (List.map d_TRec a1.Recs)))) eZ bZ rfl rfl (oLenD eZ (n := a1.Recs.length) (List.length_map _) ?_))))
      obtain ⟨v15, h16, H⟩ := obind H
      refine oCall (u := (oB v15)) eC Cl.fn (c_impl_from h16) (Evs.cons (eR rfl) (Evs.cons eC (Evs.cons eZ Evs.nil))) (VDs.cons VD.plain (VDs.cons VD.plain (VDs.cons VD.plain VDs.nil))) rfl (oInv eZ (oMov eZ ?_))
      rcases oite H with ⟨h17, H⟩ | ⟨h17, H⟩
      ·refine gDo eZ (congrArg Bool.not h17) (oFaddrN (m := 0) (eR rfl) rfl (gDo (eR rfl) (congrArg Bool.not h17) (oLoadV (q := 0) (c := (.d (.sl 5 (List.map d_TRec a1.Recs)))) eZ bZ rfl rfl (gDo (eR rfl) (congrArg Bool.not h17) (oMov (eR rfl) (gDo (eR rfl) (congrArg Bool.not h17) (oSub eZ eC (gDo (eR rfl) (congrArg Bool.not h17) ?_))))))))
       obtain ⟨v18, h19, H⟩ := obind H
       refine oAtD (eR rfl) eZ h19 (gDo (eR rfl) (congrArg Bool.not h17) (oFaddrB (m := 3) eZ rfl (gDo (eR rfl) (congrArg Bool.not h17) (oLoadB (e := (.int .i64 v18.State)) eZ rfl (gDo (eR rfl) (congrArg Bool.not h17) (oNeq eZ eC (oPickF (eR rfl) (congrArg Bool.not h17) eZ (oMov eZ ?_))))))))
       rcases oite H with ⟨h20, H⟩ | ⟨h20, H⟩
       ·exact gSkip eZ (decide_eq_true h20) rfl (gSkip (eR rfl) (decide_eq_true h20) rfl (gSkip (eR rfl) (decide_eq_true h20) rfl (gSkip (eR rfl) (decide_eq_true h20) rfl (gSkip (eR rfl) (decide_eq_true h20) rfl (gSkip (eR rfl) (decide_eq_true h20) rfl (oPickT (eR rfl) (decide_eq_true h20) eC (xNil (TQ.qn ⟨true, H, (wk_mkG [] (kR rfl rfl (kR rfl rfl (kR rfl rfl (kR rfl rfl (kR rfl rfl (kR rfl rfl SL.nil)))))) (BL.keep rfl BL.nil) (BK.cons rfl bZ rfl rfl BK.nil) GK.nil)⟩))))))))
       ·refine gDo eZ (decide_eq_false h20) (oFaddrN (m := 1) (eR rfl) rfl (gDo (eR rfl) (decide_eq_false h20) (oLoadV (q := 1) (c := (.d (.sl 1 (List.map d_i64 a1.Order)))) eZ bZ rfl rfl (gDo (eR rfl) (decide_eq_false h20) (oMov (eR rfl) (gDo (eR rfl) (decide_eq_false h20) ?_))))))
        obtain ⟨v21, h22, H⟩ := obind H
        refine oCutD (eR rfl) Bd.no (n := (a1.Order.length : Int)) rfl (Bd.at eZ) h22 (gDo (eR rfl) (decide_eq_false h20) (oMov (eR rfl) (gDo (eR rfl) (decide_eq_false h20) ?_)))
        obtain ⟨v23, h24, H⟩ := obind H
        exact oCall (u := (oB v23)) eC Cl.fn (c_slices_Contains_int h24) (Evs.cons (eR rfl) (Evs.cons eZ Evs.nil)) (VDs.cons VD.plain (VDs.cons VD.plain VDs.nil)) rfl (oPickF (eR rfl) (decide_eq_false h20) eZ (xNil (TQ.qn ⟨v23, H, (wk_mkG [] (kR rfl rfl (kR rfl rfl (kR rfl rfl (kR rfl rfl (kR rfl rfl (kR rfl rfl SL.nil)))))) (BL.keep rfl BL.nil) (BK.cons rfl bZ rfl rfl BK.nil) GK.nil)⟩)))
      ·exact gSkip eZ (congrArg Bool.not (nt h17)) rfl (gSkip (eR rfl) (congrArg Bool.not (nt h17)) rfl (gSkip (eR rfl) (congrArg Bool.not (nt h17)) rfl (gSkip (eR rfl) (congrArg Bool.not (nt h17)) rfl (gSkip (eR rfl) (congrArg Bool.not (nt h17)) rfl (gSkip (eR rfl) (congrArg Bool.not (nt h17)) rfl (gSkip (eR rfl) (congrArg Bool.not (nt h17)) rfl (gSkip (eR rfl) (congrArg Bool.not (nt h17)) rfl (oPickT (eR rfl) (congrArg Bool.not (nt h17)) eC (oMov eZ (gSkip eZ rfl rfl (gSkip (eR rfl) rfl rfl (gSkip (eR rfl) rfl rfl (gSkip (eR rfl) rfl rfl (gSkip (eR rfl) rfl rfl (gSkip (eR rfl) rfl rfl (oPickT (eR rfl) rfl eC (xNil (TQ.qn ⟨true, H, (wk_mkG [] (kR rfl rfl (kR rfl rfl (kR rfl rfl (kR rfl rfl (kR rfl rfl (kR rfl rfl SL.nil)))))) (BL.keep rfl BL.nil) (BK.cons rfl bZ rfl rfl BK.nil) GK.nil)⟩))))))))))))))))))
    ·exact AW.condF eZ (decide_eq_false h9) (AW.exit (TQ.qe (TQ.qe (BQ.qe (TQ.qn ⟨(), H, (wk_mkG [] (kR rfl rfl (kR rfl rfl SL.nil)) (BL.keep rfl BL.nil) (BK.cons rfl bZ rfl rfl BK.nil) GK.nil)⟩)))))
  ·refine aV (oFaddrN (m := 0) (eR rfl) rfl (oLoadV (q := 0) (c := (.d (.sl 5 (List.map d_TRec a1.Recs)))) eZ bZ rfl rfl (oLenD eZ (n := a1.Recs.length) (List.length_map _) (oMov eC (xQ (AW.block (AW.iter (fun s25 : (Int × Int) => mk [(1, (.one (.ptr (.nm 64 0 0)))), (3, (oI s25.1)), (13, (.one (.d (.sl 5 (List.map d_TRec a1.Recs))))), (14, (oI (a1.Recs.length : Int))), (15, (oI s25.2))] [(64, (.vars 2 [(.d (.sl 5 (List.map d_TRec a1.Recs))), (.d (.sl 1 (List.map d_i64 a1.Order)))]))] (lk [])) H (wk_mkG [] (kR rfl rfl (kR rfl rfl (kR rfl rfl (kR rfl rfl (kR rfl rfl SL.nil))))) (BL.keep rfl BL.nil) (BK.cons rfl bZ rfl rfl BK.nil) GK.nil) ?_)))))))
   intro kb26 s25 H
   unfold impl_CoordOk_b25 at H
   refine aV (oLss (eR rfl) (eR rfl) (xQ (aS ?_)))
   rcases oite H with ⟨h27, H⟩ | ⟨h27, H⟩
   ·refine AW.condT eZ (decide_eq_true h27) (AW.skip (TQ.qn (aS (AW.block (aS (AW.regm (rmOne (oMov (eR rfl) (xNil (rmOne ?_))))))))))
    obtain ⟨v28, h29, H⟩ := obind H
    refine oAtD (eR rfl) (eR rfl) h29 (xNil (rmOne (oLoadBA (es := [(dI v28.Tx), (dI v28.Client), (dI v28.Req), (dI v28.State), (.d (.sl 4 (List.map d_TShare v28.Shares)))]) eZ rfl (xNil (rmOne (oVar (n := 320) (m := 5) rfl rfl (nS rfl nZ) (xNil (rmOne (oMov (eR rfl) (xNil (rmOne (oStoreV (es := [(dI v28.Tx), (dI v28.Client), (dI v28.Req), (dI v28.State), (.d (.sl 4 (List.map d_TShare v28.Shares)))]) (eR rfl) (eR rfl) rfl rfl bZ rfl (xNil (rmRest (xQ (aS (AW.seqJ (fun t30 : Bool => (impl_CoordOk_j30 v28 kb26 s25) t30 = some r) (fun t30 => mk [(1, (.one (.ptr (.nm 64 0 0)))), (3, (oI s25.1)), (5, (.one (.ptr (.nm 320 0 0)))), (13, (.one (.d (.sl 5 (List.map d_TRec a1.Recs))))), (14, (oI (a1.Recs.length : Int))), (15, (oI s25.2)), (37, (oB t30))] [(64, (.vars 2 [(.d (.sl 5 (List.map d_TRec a1.Recs))), (.d (.sl 1 (List.map d_i64 a1.Order)))])), (320, (.vars 5 [(dI v28.Tx), (dI v28.Client), (dI v28.Req), (dI v28.State), (.d (.sl 4 (List.map d_TShare v28.Shares)))]))] (lk [])) ?_ ?_)))))))))))))))))
    ·intro t30 H
     unfold impl_CoordOk_j30 at H
     rcases oite H with ⟨h32, H⟩ | ⟨h32, H⟩
     ·refine AW.condT (eR rfl) h32 (aV (oMov eC (xQ (AW.ret (TQ.qr (BQ.qr (TQ.qr (TQ.qr (BQ.qr (TQ.qr ?_))))))))))
      cases H
      exact eE rfl rfl
     ·refine AW.condF (eR rfl) (nt h32) (AW.skip (TQ.qn (aV (oFaddrN (m := 3) (eR rfl) rfl (oLoadV (q := 3) (c := (dI v28.State)) eZ (bS rfl bZ) rfl rfl (oEql eZ eC (xQ ?_)))))))
      rcases oite H with ⟨h33, H⟩ | ⟨h33, H⟩
      ·exact AW.condT eZ (decide_eq_true h33) (aR (oMov (eR rfl) (oAdd eZ eC (oMov eZ (xNil (BQ.qn (TQ.qn (aR (oAdd (eR rfl) eC (oMov eZ (xNil (TQ.qn ⟨((IntKind.wrap .i64 (s25.1 + 1)), (IntKind.wrap .i64 (s25.2 + 1))), H, (wk_mkG [320] (kR rfl rfl (kR rfl rfl (kR rfl rfl (kR rfl rfl (kR rfl rfl SL.nil))))) (BL.keep rfl (BL.drop rfl BL.nil)) (BK.cons rfl bZ rfl rfl BK.nil) GK.nil)⟩))))))))))))
      ·exact AW.condF eZ (decide_eq_false h33) (AW.skip (BQ.qn (TQ.qn (aR (oAdd (eR rfl) eC (oMov eZ (xNil (TQ.qn ⟨(s25.1, (IntKind.wrap .i64 (s25.2 + 1))), H, (wk_mkG [320] (kR rfl rfl (kR rfl rfl (kR rfl rfl (kR rfl rfl (kR rfl rfl SL.nil))))) (BL.keep rfl (BL.drop rfl BL.nil)) (BK.cons rfl bZ rfl rfl BK.nil) GK.nil)⟩))))))))
    ·refine aR (oFaddrN (m := 0) (eR rfl) rfl (oLoadV (q := 0) (c := (dI v28.Tx)) eZ bZ rfl rfl (oMov (eR rfl) (oAdd eZ eC (oNeq (eR rfl) eZ (oMov eZ ?_))))))
     rcases oite H with ⟨h34, H⟩ | ⟨h34, H⟩
     ·exact gSkip eZ (decide_eq_true h34) rfl (gSkip (eR rfl) (decide_eq_true h34) rfl (gSkip (eR rfl) (decide_eq_true h34) rfl (oPickT (eR rfl) (decide_eq_true h34) eC (oMov eZ (gSkip eZ rfl rfl (gSkip (eR rfl) rfl rfl (gSkip (eR rfl) rfl rfl (gSkip (eR rfl) rfl rfl (gSkip (eR rfl) rfl rfl (gSkip (eR rfl) rfl rfl (oPickT (eR rfl) rfl eC (xNil (TQ.qn ⟨true, H, (wk_mkG [] (kR rfl rfl (kR rfl rfl (kR rfl rfl (kR rfl rfl (kR rfl rfl (kR rfl rfl (kR rfl rfl SL.nil))))))) (BL.keep rfl (BL.keep rfl (BL.keep rfl BL.nil))) (BK.cons rfl (bS rfl (bS rfl bZ)) rfl rfl (BK.cons rfl bZ rfl rfl BK.nil)) GK.nil)⟩)))))))))))))
     ·refine gDo eZ (decide_eq_false h34) (oLoadVA (es := [(dI v28.Tx), (dI v28.Client), (dI v28.Req), (dI v28.State), (.d (.sl 4 (List.map d_TShare v28.Shares)))]) (eR rfl) bZ rfl (gDo (eR rfl) (decide_eq_false h34) ?_))
      obtain ⟨v35, h36, H⟩ := obind H
      refine oCall (u := (oB v35)) eC Cl.fn (c_impl_recOk h36) (Evs.cons eZ Evs.nil) (VDs.cons (VD.agg rfl) VDs.nil) rfl (gDo (eR rfl) (decide_eq_false h34) (oInv eZ (oPickF (eR rfl) (decide_eq_false h34) eZ (oMov eZ ?_))))
      rcases oite H with ⟨h37, H⟩ | ⟨h37, H⟩
      ·refine gDo eZ (congrArg Bool.not h37) (oFaddrN (m := 0) (eR rfl) rfl (gDo (eR rfl) (congrArg Bool.not h37) (oLoadV (q := 0) (c := (.d (.sl 5 (List.map d_TRec a1.Recs)))) eZ (bS rfl (bS rfl bZ)) rfl rfl (gDo (eR rfl) (congrArg Bool.not h37) (oMov (eR rfl) (gDo (eR rfl) (congrArg Bool.not h37) ?_))))))
       obtain ⟨v38, h39, H⟩ := obind H
       refine oCutD (eR rfl) Bd.no (n := (a1.Recs.length : Int)) rfl (Bd.at eZ) h39 (gDo (eR rfl) (congrArg Bool.not h37) (oMkfn (ps := [(.nm 320 0 0)]) (Evs.cons (eR rfl) Evs.nil) (gDo (eR rfl) (congrArg Bool.not h37) ?_)))
       obtain ⟨v40, h41, H⟩ := obind H
       exact oCall (u := (oB v40)) eC Cl.fn (c_slices_ContainsFunc_Rec__CoordOk_1 h41) (Evs.cons (eR rfl) (Evs.cons eZ Evs.nil)) (VDs.cons VD.plain (VDs.cons (VD.fn (PDs.cons (VD.ptrN bZ (CDs.plain (CDs.plain (CDs.plain (CDs.plain (CDs.plain CDs.nil)))))) PDs.nil)) VDs.nil)) rfl (oPickF (eR rfl) (congrArg Bool.not h37) eZ (xNil (TQ.qn ⟨v40, H, (wk_mkG [] (kR rfl rfl (kR rfl rfl (kR rfl rfl (kR rfl rfl (kR rfl rfl (kR rfl rfl (kR rfl rfl SL.nil))))))) (BL.keep rfl (BL.keep rfl (BL.keep rfl BL.nil))) (BK.cons rfl (bS rfl (bS rfl bZ)) rfl rfl (BK.cons rfl bZ rfl rfl BK.nil)) GK.nil)⟩)))
      ·exact gSkip eZ (congrArg Bool.not (nt h37)) rfl (gSkip (eR rfl) (congrArg Bool.not (nt h37)) rfl (gSkip (eR rfl) (congrArg Bool.not (nt h37)) rfl (gSkip (eR rfl) (congrArg Bool.not (nt h37)) rfl (gSkip (eR rfl) (congrArg Bool.not (nt h37)) rfl (gSkip (eR rfl) (congrArg Bool.not (nt h37)) rfl (oPickT (eR rfl) (congrArg Bool.not (nt h37)) eC (xNil (TQ.qn ⟨true, H, (wk_mkG [] (kR rfl rfl (kR rfl rfl (kR rfl rfl (kR rfl rfl (kR rfl rfl (kR rfl rfl (kR rfl rfl SL.nil))))))) (BL.keep rfl (BL.keep rfl (BL.keep rfl BL.nil))) (BK.cons rfl (bS rfl (bS rfl bZ)) rfl rfl (BK.cons rfl bZ rfl rfl BK.nil)) GK.nil)⟩))))))))
   ·exact AW.condF eZ (decide_eq_false h27) (AW.exit (TQ.qe (TQ.qe (BQ.qe (TQ.qn ⟨s25.1, H, (wk_mkG [] (kR rfl rfl (kR rfl rfl SL.nil)) (BL.keep rfl BL.nil) (BK.cons rfl bZ rfl rfl BK.nil) GK.nil)⟩)))))
theorem c_slices_Clone_int {a1 : (List Int)} {r : (List Int)} (H : m_slices_Clone_int a1 = some r) : Fn Try.prog k_slices_Clone___int_int_ (lent [(.sl 1 (List.map d_i64 a1))]) true [(.sl 1 (List.map d_i64 r))] := by
 refine i_slices_Clone___int_int__fn (fle rfl) ?_
 rw [init_mk]
 refine AW.weaken (wk_mk [] (kv 0 (.one (.d (.sl 1 (List.map d_i64 a1)))) rfl rfl SL.nil) BL.nil BK.nil) ?_
 unfold m_slices_Clone_int at H
 unfold i_slices_Clone___int_int_
 refine aV (oMov eC (xQ (AW.seqJ (fun t2 : Unit => (slices_Clone_int_j2 a1) t2 = some r) (fun t2 => mk [(0, (.one (.d (.sl 1 (List.map d_i64 a1)))))] [] noG) ?_ ?_)))
 ·intro t2 H
  unfold slices_Clone_int_j2 at H
  refine aV (oBsliceZ (m := 320) rfl nZ (oMov (eR rfl) ?_))
  obtain ⟨h4, H⟩ := oguard H
  refine oAppZ (f := d_i64) (m := 448) (own := true) (ys := a1) (q := a1.length) rfl rfl (eR rfl) eZ (El.lent fun _ _ => rfl) rfl h4 (by decide) nZ (oMov eZ (xQ (AW.ret ?_)))
  cases H
  exact endsR (RL.cons (RV.tmp eZ) (VO.sl bZ (List.length_map _) (allFlat fun _ => rfl)) RL.nil) (by decide)
 ·refine aV (oMov (eR rfl) ?_)
  rcases oite H with ⟨h5, H⟩ | ⟨h5, H⟩
  ·refine oNilD0 eZ h5 (xQ (AW.condU eZ ?_ ?_))
   ·have H : (some ([] : (List Int))) = some r := by rw [← H]; simp [List.eq_nil_of_length_eq_zero h5, slices_Clone_int_j2]
    refine aV (oMov eC (xQ (AW.ret (TQ.qr ?_))))
    cases H
    exact endsR (RL.cons (RV.tmp eZ) VO.zs RL.nil) List.nodup_nil
   ·exact AW.skip (TQ.qn ⟨(), H, (wk_mk [] (kR rfl rfl SL.nil) BL.nil BK.nil)⟩)
  ·exact oNilD eZ h5 (xQ (AW.condF eZ rfl (AW.skip (TQ.qn ⟨(), H, (wk_mk [] (kR rfl rfl SL.nil) BL.nil BK.nil)⟩))))
theorem c_slices_Clone_Range {a1 : (List TRange)} {r : (List TRange)} (H : m_slices_Clone_Range a1 = some r) : Fn Try.prog k_slices_Clone___impl_Range_impl_Range_ (lent [(.sl 2 (List.map d_TRange a1))]) true [(.sl 2 (List.map d_TRange r))] := by
 refine i_slices_Clone___impl_Range_impl_Range__fn (fle rfl) ?_
 rw [init_mk]
 refine AW.weaken (wk_mk [] (kv 0 (.one (.d (.sl 2 (List.map d_TRange a1)))) rfl rfl SL.nil) BL.nil BK.nil) ?_
 unfold m_slices_Clone_Range at H
 unfold i_slices_Clone___impl_Range_impl_Range_
 refine aV (oMov eC (xQ (AW.seqJ (fun t2 : Unit => (slices_Clone_Range_j2 a1) t2 = some r) (fun t2 => mk [(0, (.one (.d (.sl 2 (List.map d_TRange a1)))))] [] noG) ?_ ?_)))
 ·intro t2 H
  unfold slices_Clone_Range_j2 at H
  refine aV (oBsliceZ (m := 320) rfl nZ (oMov (eR rfl) ?_))
  obtain ⟨h4, H⟩ := oguard H
  refine oAppZ (f := d_TRange) (m := 448) (own := true) (ys := a1) (q := a1.length) rfl rfl (eR rfl) eZ (El.lent fun _ _ => rfl) rfl h4 (by decide) nZ (oMov eZ (xQ (AW.ret ?_)))
  cases H
  exact endsR (RL.cons (RV.tmp eZ) (VO.sl bZ (List.length_map _) (allFlat fun _ => rfl)) RL.nil) (by decide)
 ·refine aV (oMov (eR rfl) ?_)
  rcases oite H with ⟨h5, H⟩ | ⟨h5, H⟩
  ·refine oNilD0 eZ h5 (xQ (AW.condU eZ ?_ ?_))
   ·have H : (some ([] : (List TRange))) = some r := by rw [← H]; simp [List.eq_nil_of_length_eq_zero h5, slices_Clone_Range_j2]
    refine aV (oMov eC (xQ (AW.ret (TQ.qr ?_))))
    cases H
    exact endsR (RL.cons (RV.tmp eZ) VO.zs RL.nil) List.nodup_nil
   ·exact AW.skip (TQ.qn ⟨(), H, (wk_mk [] (kR rfl rfl SL.nil) BL.nil BK.nil)⟩)
  ·exact oNilD eZ h5 (xQ (AW.condF eZ rfl (AW.skip (TQ.qn ⟨(), H, (wk_mk [] (kR rfl rfl SL.nil) BL.nil BK.nil)⟩))))
theorem c_slices_Clone_Write {a1 : (List TCell)} {r : (List TCell)} (H : m_slices_Clone_Write a1 = some r) : Fn Try.prog k_slices_Clone___impl_Write_impl_Write_ (lent [(.sl 2 (List.map d_TCell a1))]) true [(.sl 2 (List.map d_TCell r))] := by
 refine i_slices_Clone___impl_Write_impl_Write__fn (fle rfl) ?_
 rw [init_mk]
 refine AW.weaken (wk_mk [] (kv 0 (.one (.d (.sl 2 (List.map d_TCell a1)))) rfl rfl SL.nil) BL.nil BK.nil) ?_
 unfold m_slices_Clone_Write at H
 unfold i_slices_Clone___impl_Write_impl_Write_
 refine aV (oMov eC (xQ (AW.seqJ (fun t2 : Unit => (slices_Clone_Write_j2 a1) t2 = some r) (fun t2 => mk [(0, (.one (.d (.sl 2 (List.map d_TCell a1)))))] [] noG) ?_ ?_)))
 ·intro t2 H
  unfold slices_Clone_Write_j2 at H
  refine aV (oBsliceZ (m := 320) rfl nZ (oMov (eR rfl) ?_))
  obtain ⟨h4, H⟩ := oguard H
  refine oAppZ (f := d_TCell) (m := 448) (own := true) (ys := a1) (q := a1.length) rfl rfl (eR rfl) eZ (El.lent fun _ _ => rfl) rfl h4 (by decide) nZ (oMov eZ (xQ (AW.ret ?_)))
  cases H
  exact endsR (RL.cons (RV.tmp eZ) (VO.sl bZ (List.length_map _) (allFlat fun _ => rfl)) RL.nil) (by decide)
 ·refine aV (oMov (eR rfl) ?_)
  rcases oite H with ⟨h5, H⟩ | ⟨h5, H⟩
  ·refine oNilD0 eZ h5 (xQ (AW.condU eZ ?_ ?_))
   ·have H : (some ([] : (List TCell))) = some r := by rw [← H]; simp [List.eq_nil_of_length_eq_zero h5, slices_Clone_Write_j2]
    refine aV (oMov eC (xQ (AW.ret (TQ.qr ?_))))
    cases H
    exact endsR (RL.cons (RV.tmp eZ) VO.zs RL.nil) List.nodup_nil
   ·exact AW.skip (TQ.qn ⟨(), H, (wk_mk [] (kR rfl rfl SL.nil) BL.nil BK.nil)⟩)
  ·exact oNilD eZ h5 (xQ (AW.condF eZ rfl (AW.skip (TQ.qn ⟨(), H, (wk_mk [] (kR rfl rfl SL.nil) BL.nil BK.nil)⟩))))
theorem c_impl_copyShares {a1 : (List TShare)} {r : (List TShare)} (H : m_impl_copyShares a1 = some r) : Fn Try.prog k_impl_copyShares (lent [(.sl 4 (List.map d_TShare a1))]) true [(.sl 4 (List.map d_TShare r))] := by
 refine i_impl_copyShares_fn (fle rfl) ?_
 rw [init_mk]
 refine AW.weaken (t := mk [(0, (.one (.d (.sl 4 (List.map d_TShare a1)))))] [] (lk [])) (wk_mk [] (kv 0 (.one (.d (.sl 4 (List.map d_TShare a1)))) rfl rfl SL.nil) BL.nil BK.nil) ?_
 unfold m_impl_copyShares at H
 unfold i_impl_copyShares
 refine aV (oMov eC (xQ (aV (oBsliceZ (m := 384) rfl nZ (oMov eZ (xQ (AW.seqJ (fun t2 : (List TShare) => impl_copyShares_j2 t2 = some r) (fun t2 => mk [(3, (.one (.sl 320128 0 t2.length)))] [(320128, (.data 4 (List.map d_TShare t2) true none))] (lk [])) ?_ ?_)))))))
 ·intro t2 H
  unfold impl_copyShares_j2 at H
  refine aV (oMov eZ (oMov eZ (xQ (AW.ret ?_))))
  cases H
  exact endsR (RL.cons (RV.tmp eZ) (VO.sln bZ (List.length_map _) rfl) RL.nil) (by decide)
 ·refine aV (oMov (eR rfl) (oLenD eZ (n := a1.length) (List.length_map _) (oMov eC (xQ (AW.block (AW.iter (fun s4 : ((List TShare) × Int) => mk [(3, (.one (.sl 320192 0 s4.1.length))), (7, (.one (.d (.sl 4 (List.map d_TShare a1))))), (8, (oI (a1.length : Int))), (9, (oI s4.2))] [(320192, (.data 4 (List.map d_TShare s4.1) true none))] (lk [])) H ((wk_mkG [] (SL.cons eZ rfl (VWk.one (CWk.len (by first | (simp; done) | (simp; omega) | omega))) (kR rfl rfl (kR rfl rfl (kR rfl rfl SL.nil)))) (BL.keep rfl BL.nil) (BK.cons rfl bZ rfl rfl BK.nil) GK.nil).trans (wk_zs0 320192 4 3 true (eR rfl) nZ)) ?_))))))
  intro kb5 s4 H
  unfold impl_copyShares_b4 at H
  refine aV (oLss (eR rfl) (eR rfl) (xQ (aS ?_)))
  rcases oite H with ⟨h6, H⟩ | ⟨h6, H⟩
  ·refine AW.condT eZ (decide_eq_true h6) (AW.skip (TQ.qn (aS (AW.block (aS (AW.regm (rmOne ?_)))))))
   obtain ⟨v7, h8, H⟩ := obind H
   refine oAtD (eR rfl) (eR rfl) h8 (xNil (rmOne (oLoadBA (es := [(dI v7.Group), (.d (.sl 2 (List.map d_TRange v7.Reads))), (.d (.sl 2 (List.map d_TCell v7.Writes))), (dI v7.Vote)]) eZ rfl (xNil (rmOne (oVar (n := 320) (m := 4) rfl rfl (nS rfl nZ) (xNil (rmOne (oStoreV (es := [(dI v7.Group), (.d (.sl 2 (List.map d_TRange v7.Reads))), (.d (.sl 2 (List.map d_TCell v7.Writes))), (dI v7.Vote)]) eZ (eR rfl) rfl rfl bZ rfl (xNil (rmRest (xQ (AW.regt (oMov (eR rfl) (oFaddrN (m := 0) (eR rfl) rfl (oLoadV (q := 0) (c := (dI v7.Group)) eZ (hB rfl bZ) rfl rfl (oFaddrN (m := 1) (eR rfl) rfl (oLoadV (q := 1) (c := (.d (.sl 2 (List.map d_TRange v7.Reads)))) eZ bZ rfl rfl ?_))))))))))))))))))
   obtain ⟨v9, h10, H⟩ := obind H
   refine oCallN (u := (.one (.sl 1152 0 v9.length))) (bs := [(1152, (.data 2 (List.map d_TRange v9) true none))]) eC Cl.fn (c_slices_Clone_Range h10) (Evs.cons eZ Evs.nil) (VDs.cons VD.plain VDs.nil) (by simp [bindR, bindV, bindVs, bindC, bindCs]) rfl (fC (nS rfl (nS rfl (nS rfl nZ))) rfl (fC (nS rfl (nS rfl (nS rfl nZ))) rfl fN)) (oFaddrN (m := 2) (eR rfl) rfl (oLoadV (q := 2) (c := (.d (.sl 2 (List.map d_TCell v7.Writes)))) eZ (hB rfl (bS rfl bZ)) rfl rfl ?_))
   obtain ⟨v11, h12, H⟩ := obind H
   refine oCallN (u := (.one (.sl 1344 0 v11.length))) (bs := [(1344, (.data 2 (List.map d_TCell v11) true none))]) eC Cl.fn (c_slices_Clone_Write h12) (Evs.cons eZ Evs.nil) (VDs.cons VD.plain VDs.nil) (by simp [bindR, bindV, bindVs, bindC, bindCs]) rfl (fC (nS rfl (nS rfl (nS rfl (nS rfl nZ)))) rfl (fC (nS rfl (nS rfl (nS rfl (nS rfl nZ)))) rfl fN)) (oFaddrN (m := 3) (eR rfl) rfl (oLoadV (q := 3) (c := (dI v7.Vote)) eZ (hB rfl (bS rfl (bS rfl bZ))) rfl rfl (oBuild (cs := [(dI v7.Group), (.sl 1152 0 v9.length), (.sl 1344 0 v11.length), (dI v7.Vote)]) (PsCons (eR rfl) (PsCons (eR rfl) (PsCons (eR rfl) (PsCons eZ PsNil)))) rfl (oBslice (m := 1600) (q := 1) (cs := [(dI v7.Group), (.sl 1152 0 v9.length), (.sl 1344 0 v11.length), (dI v7.Vote)]) rfl (PsCons eZ PsNil) rfl (List.cons_ne_nil _ _) (by simp) (nS rfl (nS rfl (nS rfl (nS rfl (nS rfl nZ))))) (xNil ?_)))))
   obtain ⟨h13, H⟩ := oguard H
   exact rmAppAbs (f := d_TShare) (xs := s4.1) (t := (TShare.mk v7.Group v9 v11 v7.Vote)) (q := (s4.1 ++ [(TShare.mk v7.Group v9 v11 v7.Vote)]).length) (ds := [(.int .i64 v7.Group), (.sl 2 (List.map d_TRange v9)), (.sl 2 (List.map d_TCell v11)), (.int .i64 v7.Vote)]) (ns := [1152, 1344]) (eR rfl) eZ (bS rfl (bS rfl (bS rfl (bS rfl (bS rfl bZ))))) rfl bZ rfl (VOs.cons (VO.flat rfl) (VOs.cons (VO.sl (bS rfl (bS rfl bZ)) (List.length_map _) (allFlat fun _ => rfl)) (VOs.cons (VO.sl (bS rfl bZ) (List.length_map _) (allFlat fun _ => rfl)) (VOs.cons (VO.flat rfl) VOs.nil)))) rfl rfl rfl rfl h13 (by decide) (erL.cons (v' := (.one (.sl 1600 0 1))) rfl (erL.cons (v' := (.agg [(dI v7.Group), .any, .any, (dI v7.Vote)])) rfl (erL.cons (v' := (oI v7.Vote)) rfl (erL.cons (v' := (.one (.ptr (.nm 320 0 3)))) rfl (erL.cons (v' := (.one .any)) rfl (erL.cons (v' := (.one (.d (.sl 2 (List.map d_TCell v7.Writes))))) rfl (erL.cons (v' := (.one (.ptr (.nm 320 0 2)))) rfl (erL.cons (v' := (.one .any)) rfl (erL.cons (v' := (.one (.d (.sl 2 (List.map d_TRange v7.Reads))))) rfl (erL.cons (v' := (.one (.ptr (.nm 320 0 1)))) rfl (erL.cons (v' := (oI v7.Group)) rfl (erL.cons (v' := (.one (.ptr (.nm 320 0 0)))) rfl (erL.cons (v' := (.one (.sl 320192 0 s4.1.length))) rfl (erL.cons (v' := (.one (.ptr (.nm 320 0 0)))) rfl (erL.cons (v' := (.agg [(dI v7.Group), (.d (.sl 2 (List.map d_TRange v7.Reads))), (.d (.sl 2 (List.map d_TCell v7.Writes))), (dI v7.Vote)])) rfl (erL.cons (v' := (.one (.ptr (.bd (d_TShare v7) 0)))) rfl (erL.cons (v' := (oB (decide (s4.2 < (a1.length : Int))))) rfl (erL.cons (v' := (.one (.sl 320192 0 s4.1.length))) rfl (erL.cons (v' := (.one (.d (.sl 4 (List.map d_TShare a1))))) rfl (erL.cons (v' := (oI (a1.length : Int))) rfl (erL.cons (v' := (oI s4.2)) rfl erL.nil))))))))))))))))))))) (erH.cons (v' := (.vars 4 [(dI v7.Group), .any, .any, (dI v7.Vote)])) rfl rfl (erH.drop rfl (erH.drop rfl (erH.cons (v' := (.vars 4 [(dI v7.Group), (.d (.sl 2 (List.map d_TRange v7.Reads))), (.d (.sl 2 (List.map d_TCell v7.Writes))), (dI v7.Vote)])) rfl rfl (erH.cons (v' := (.vars 4 [(dI 0), .zs, .zs, (dI 0)])) rfl rfl (erH.cons (v' := (.data 4 (List.map d_TShare s4.1) true none)) rfl rfl erH.nil)))))) erL.nil (erL.cons (v' := (.one (.sl 1600 0 1))) rfl (erL.cons (v' := (.agg [(dI v7.Group), .any, .any, (dI v7.Vote)])) rfl (erL.cons (v' := (oI v7.Vote)) rfl (erL.cons (v' := (.one (.ptr (.nm 320 0 3)))) rfl (erL.cons (v' := (.one .any)) rfl (erL.cons (v' := (.one (.d (.sl 2 (List.map d_TCell v7.Writes))))) rfl (erL.cons (v' := (.one (.ptr (.nm 320 0 2)))) rfl (erL.cons (v' := (.one .any)) rfl (erL.cons (v' := (.one (.d (.sl 2 (List.map d_TRange v7.Reads))))) rfl (erL.cons (v' := (.one (.ptr (.nm 320 0 1)))) rfl (erL.cons (v' := (oI v7.Group)) rfl (erL.cons (v' := (.one (.ptr (.nm 320 0 0)))) rfl (erL.cons (v' := (.one .any)) rfl (erL.cons (v' := (.one (.ptr (.nm 320 0 0)))) rfl (erL.cons (v' := (.agg [(dI v7.Group), (.d (.sl 2 (List.map d_TRange v7.Reads))), (.d (.sl 2 (List.map d_TCell v7.Writes))), (dI v7.Vote)])) rfl (erL.cons (v' := (.one (.ptr (.bd (d_TShare v7) 0)))) rfl (erL.cons (v' := (oB (decide (s4.2 < (a1.length : Int))))) rfl (erL.cons (v' := (.one .any)) rfl (erL.cons (v' := (.one (.d (.sl 4 (List.map d_TShare a1))))) rfl (erL.cons (v' := (oI (a1.length : Int))) rfl (erL.cons (v' := (oI s4.2)) rfl erL.nil))))))))))))))))))))) (erH.cons (v' := (.vars 4 [(dI v7.Group), .any, .any, (dI v7.Vote)])) rfl rfl (erH.cons (v' := (.vars 4 [(dI v7.Group), (.d (.sl 2 (List.map d_TRange v7.Reads))), (.d (.sl 2 (List.map d_TCell v7.Writes))), (dI v7.Vote)])) rfl rfl (erH.cons (v' := (.vars 4 [(dI 0), .zs, .zs, (dI 0)])) rfl rfl (erH.drop rfl erH.nil)))) erL.nil (rmRest (oMov eZ (xNil (BQ.qn (TQ.qn (AW.weaken (wk_mkG [1600, 320] (kr 3 rfl rfl (kr 7 rfl rfl (kr 8 rfl rfl (kr 9 rfl rfl SL.nil)))) (BL.keep rfl (BL.drop rfl (BL.drop rfl (BL.drop rfl BL.nil)))) (BK.cons (n := 320192) rfl bZ rfl rfl BK.nil) GK.nil) (aR (oAdd (eR rfl) eC (oMov eZ (xNil (TQ.qn ⟨((s4.1 ++ [(TShare.mk v7.Group v9 v11 v7.Vote)]), (IntKind.wrap .i64 (s4.2 + 1))), H, (wk_mkG [] (kR rfl rfl (kR rfl rfl (kR rfl rfl (kR rfl rfl SL.nil)))) (BL.keep rfl BL.nil) (BK.cons rfl bZ rfl rfl BK.nil) GK.nil)⟩)))))))))))
  ·exact AW.condF eZ (decide_eq_false h6) (AW.exit (TQ.qe (TQ.qe (BQ.qe (TQ.qn ⟨s4.1, H, ((wk_mkG [] (kR rfl rfl SL.nil) (BL.keep rfl BL.nil) (BK.cons rfl bZ rfl rfl BK.nil) GK.nil).trans (wk_renG 320192 320128 rfl rfl (nS rfl nZ) GR.nil))⟩)))))
theorem c_impl_copyCoord {a1 : TCoord} {r : TCoord} (H : m_impl_copyCoord a1 = some r) : Fn Try.prog k_impl_copyCoord (lent [(.agg (d_TCoord a1))]) true [(.agg (d_TCoord r))] := by
 refine i_impl_copyCoord_fn (fle rfl) ?_
 rw [init_mk]
 refine AW.weaken (t := mk [(0, (.agg [(.d (.sl 5 (List.map d_TRec a1.Recs))), (.d (.sl 1 (List.map d_i64 a1.Order)))]))] [] (lk [])) (wk_mk [] (kv 0 (.agg [(.d (.sl 5 (List.map d_TRec a1.Recs))), (.d (.sl 1 (List.map d_i64 a1.Order)))]) rfl rfl SL.nil) BL.nil BK.nil) ?_
 unfold m_impl_copyCoord at H
 unfold i_impl_copyCoord
 refine aV (oBox (n := 64) (m := 2) (cs := [(.d (.sl 5 (List.map d_TRec a1.Recs))), (.d (.sl 1 (List.map d_i64 a1.Order)))]) rfl eZ rfl rfl nZ (oVar (n := 128) (m := 2) rfl rfl (nS rfl nZ) (xQ (aS (AW.regm (rmOne (oFaddrN (m := 1) (eR rfl) rfl (xNil (rmOne (oLoadV (q := 1) (c := (.d (.sl 1 (List.map d_i64 a1.Order)))) eZ (bS rfl bZ) rfl rfl (xNil (rmOne ?_))))))))))))
 obtain ⟨v2, h3, H⟩ := obind H
 refine oCallN (u := (.one (.sl 512 0 v2.length))) (bs := [(512, (.data 1 (List.map d_i64 v2) true none))]) eC Cl.fn (c_slices_Clone_int h3) (Evs.cons eZ Evs.nil) (VDs.cons VD.plain VDs.nil) (by simp [bindR, bindV, bindVs, bindC, bindCs]) rfl (fC (nS rfl (nS rfl nZ)) rfl (fC (nS rfl (nS rfl nZ)) rfl fN)) (xNil (rmOne (oBuild (cs := [.zs, (.sl 512 0 v2.length)]) (PsCons eZ PsNil) rfl (xNil (rmOne (oVar (n := 192) (m := 2) rfl rfl (nS rfl (nS rfl (nS rfl nZ))) (xNil (rmOne (oStoreV (es := [.zs, (.sl 512 0 v2.length)]) eZ (eR rfl) rfl rfl bZ rfl (xNil (rmRest (xQ (AW.seqJ (fun t4 : (List TRec) => (impl_copyCoord_j4 v2) t4 = some r) (fun t4 => mk [(2, (.one (.ptr (.nm 128 0 0)))), (3, (.one (.ptr (.nm 192 0 0))))] [(128, (.vars 2 [.zs, .zs])), (320128, (.data 5 (List.map d_TRec t4) true none)), (192, (.vars 2 [(.sl 320128 0 t4.length), (.sl 512 0 v2.length)])), (512, (.data 1 (List.map d_i64 v2) true none))] (lk [])) ?_ ?_)))))))))))))
 ·intro t4 H
  unfold impl_copyCoord_j4 at H
  refine aS (AW.regm (rmOne (oLoadVA (es := [(.sl 320128 0 t4.length), (.sl 512 0 v2.length)]) (eR rfl) (bS rfl (bS rfl bZ)) rfl (xNil (rmOne (oStoreV (es := [(.sl 320128 0 t4.length), (.sl 512 0 v2.length)]) (eR rfl) eZ rfl rfl bZ rfl (xNil (rmRest (xQ (AW.ret ?_))))))))))
  cases H
  exact endsR (RL.cons (RV.cellA (es := [(.sl 320128 0 t4.length), (.sl 512 0 v2.length)]) (eR rfl) bZ rfl) (VO.aggs (VOs.cons (VO.sln (bS rfl (bS rfl bZ)) (List.length_map _) rfl) (VOs.cons (VO.sl (bS rfl (bS rfl (bS rfl (bS rfl bZ)))) (List.length_map _) (allFlat fun _ => rfl)) VOs.nil))) RL.nil) (by decide)
 ·refine aV (oFaddrN (m := 0) (eR rfl) rfl (oLoadV (q := 0) (c := (.d (.sl 5 (List.map d_TRec a1.Recs)))) eZ (bS rfl (bS rfl (bS rfl (bS rfl bZ)))) rfl rfl (oLenD eZ (n := a1.Recs.length) (List.length_map _) (oMov eC (xQ (AW.block (AW.iter (fun s6 : (Int × (List TRec)) => mk [(2, (.one (.ptr (.nm 128 0 0)))), (3, (.one (.ptr (.nm 192 0 0)))), (11, (.one (.d (.sl 5 (List.map d_TRec a1.Recs))))), (12, (oI (a1.Recs.length : Int))), (13, (oI s6.1))] [(128, (.vars 2 [.zs, .zs])), (320192, (.data 5 (List.map d_TRec s6.2) true none)), (192, (.vars 2 [(.sl 320192 0 s6.2.length), (.sl 512 0 v2.length)])), (512, (.data 1 (List.map d_i64 v2) true none))] (lk [])) H ((wk_mkG [64] (kR rfl rfl (kR rfl rfl (kR rfl rfl (kR rfl rfl (kR rfl rfl SL.nil))))) (BL.keep rfl (BL.keep rfl (BL.keep rfl (BL.keep rfl (BL.keep rfl (BL.keep rfl (BL.drop rfl BL.nil))))))) (BK.cons rfl (bS rfl (bS rfl (bS rfl (bS rfl (bS rfl bZ))))) rfl rfl (BK.cons rfl (bS rfl bZ) rfl rfl (BK.cons rfl bZ rfl (by first | rfl | simp) (BK.cons rfl (bS rfl (bS rfl (bS rfl (bS rfl bZ)))) rfl rfl BK.nil)))) GK.nil).trans (wk_zsV 320192 5 192 0 true bZ rfl (nS rfl (nS rfl (nS rfl (nS rfl (nS rfl nZ))))))) ?_)))))))
  intro kb7 s6 H
  unfold impl_copyCoord_b6 at H
  refine aV (oLss (eR rfl) (eR rfl) (xQ (aS ?_)))
  rcases oite H with ⟨h8, H⟩ | ⟨h8, H⟩
  ·refine AW.condT eZ (decide_eq_true h8) (AW.skip (TQ.qn (aS (AW.block (aS (AW.regm (rmOne ?_)))))))
   obtain ⟨v9, h10, H⟩ := obind H
   refine oAtD (eR rfl) (eR rfl) h10 (xNil (rmOne (oLoadBA (es := [(dI v9.Tx), (dI v9.Client), (dI v9.Req), (dI v9.State), (.d (.sl 4 (List.map d_TShare v9.Shares)))]) eZ rfl (xNil (rmOne (oVar (n := 320) (m := 5) rfl rfl (nS rfl (nS rfl (nS rfl (nS rfl nZ)))) (xNil (rmOne (oStoreV (es := [(dI v9.Tx), (dI v9.Client), (dI v9.Req), (dI v9.State), (.d (.sl 4 (List.map d_TShare v9.Shares)))]) eZ (eR rfl) rfl rfl bZ rfl (xNil (rmRest (xQ (aS (AW.regm (rmOne (oFaddrN (m := 4) eZ rfl (xNil (rmOne (oLoadV (q := 4) (c := (.d (.sl 4 (List.map d_TShare v9.Shares)))) eZ bZ rfl rfl (xNil (rmOne ?_)))))))))))))))))))))
   obtain ⟨v11, h12, H⟩ := obind H
   refine oCallN (u := (.one (.sl 1216 0 v11.length))) (bs := [(1216, (.data 4 (List.map d_TShare v11) true none))]) eC Cl.fn (c_impl_copyShares h12) (Evs.cons eZ Evs.nil) (VDs.cons VD.plain VDs.nil) (by simp [bindR, bindV, bindVs, bindC, bindCs]) rfl (fC (nS rfl (nS rfl (nS rfl (nS rfl (nS rfl (nS rfl nZ)))))) rfl (fC (nS rfl (nS rfl (nS rfl (nS rfl (nS rfl (nS rfl nZ)))))) rfl fN)) (xNil (rmOne (oFaddrN (m := 4) (eR rfl) rfl (xNil (rmOne (oStoreV (es := [(dI v9.Tx), (dI v9.Client), (dI v9.Req), (dI v9.State), (.sl 1216 0 v11.length)]) eZ (eR rfl) rfl rfl (bS rfl bZ) rfl (xNil (rmRest (xQ (AW.regm (rmOne (oFaddrN (m := 0) (eR rfl) rfl (xNil (rmOne (oLoadV (q := 0) (c := (.sl 320192 0 s6.2.length)) eZ (bS rfl (bS rfl (bS rfl (bS rfl (bS rfl (bS rfl bZ)))))) rfl rfl (xNil (rmOne (oLoadVA (es := [(dI v9.Tx), (dI v9.Client), (dI v9.Req), (dI v9.State), (.sl 1216 0 v11.length)]) (eR rfl) bZ rfl (xNil (rmOne (oBslice (m := 1536) (q := 1) (cs := [(dI v9.Tx), (dI v9.Client), (dI v9.Req), (dI v9.State), (.sl 1216 0 v11.length)]) rfl (PsCons eZ PsNil) rfl (List.cons_ne_nil _ _) (by simp) (nS rfl (nS rfl (nS rfl (nS rfl (nS rfl (nS rfl (nS rfl (nS rfl nZ)))))))) (xNil ?_))))))))))))))))))))))
   obtain ⟨h13, H⟩ := oguard H
   exact rmAppAbs (f := d_TRec) (xs := s6.2) (t := (TRec.mk v9.Tx v9.Client v9.Req v9.State v11)) (q := (s6.2 ++ [(TRec.mk v9.Tx v9.Client v9.Req v9.State v11)]).length) (ds := [(.int .i64 v9.Tx), (.int .i64 v9.Client), (.int .i64 v9.Req), (.int .i64 v9.State), (.sl 4 (List.map d_TShare v11))]) (ns := [1216]) (eR rfl) eZ (bS rfl (bS rfl (bS rfl (bS rfl (bS rfl (bS rfl bZ)))))) rfl bZ rfl (VOs.cons (VO.flat rfl) (VOs.cons (VO.flat rfl) (VOs.cons (VO.flat rfl) (VOs.cons (VO.flat rfl) (VOs.cons (VO.sln (bS rfl (bS rfl bZ)) (List.length_map _) rfl) VOs.nil))))) rfl rfl rfl rfl h13 (by decide) (erL.cons (v' := (.one (.sl 1536 0 1))) rfl (erL.cons (v' := (.agg [(dI v9.Tx), (dI v9.Client), (dI v9.Req), (dI v9.State), .any])) rfl (erL.cons (v' := (.one (.sl 320192 0 s6.2.length))) rfl (erL.cons (v' := (.one (.ptr (.nm 192 0 0)))) rfl (erL.cons (v' := (.one (.ptr (.nm 320 0 4)))) rfl (erL.cons (v' := (.one .any)) rfl (erL.cons (v' := (.one (.d (.sl 4 (List.map d_TShare v9.Shares))))) rfl (erL.cons (v' := (.one (.ptr (.nm 320 0 4)))) rfl (erL.cons (v' := (.one (.ptr (.nm 320 0 0)))) rfl (erL.cons (v' := (.agg [(dI v9.Tx), (dI v9.Client), (dI v9.Req), (dI v9.State), (.d (.sl 4 (List.map d_TShare v9.Shares)))])) rfl (erL.cons (v' := (.one (.ptr (.bd (d_TRec v9) 0)))) rfl (erL.cons (v' := (oB (decide (s6.1 < (a1.Recs.length : Int))))) rfl (erL.cons (v' := (.one (.ptr (.nm 128 0 0)))) rfl (erL.cons (v' := (.one (.ptr (.nm 192 0 0)))) rfl (erL.cons (v' := (.one (.d (.sl 5 (List.map d_TRec a1.Recs))))) rfl (erL.cons (v' := (oI (a1.Recs.length : Int))) rfl (erL.cons (v' := (oI s6.1)) rfl erL.nil))))))))))))))))) (erH.cons (v' := (.vars 5 [(dI v9.Tx), (dI v9.Client), (dI v9.Req), (dI v9.State), .any])) rfl rfl (erH.cons (v' := (.vars 5 [(dI v9.Tx), (dI v9.Client), (dI v9.Req), (dI v9.State), .any])) rfl rfl (erH.drop rfl (erH.cons (v' := (.vars 5 [(dI v9.Tx), (dI v9.Client), (dI v9.Req), (dI v9.State), (.d (.sl 4 (List.map d_TShare v9.Shares)))])) rfl rfl (erH.cons (v' := (.vars 5 [(dI 0), (dI 0), (dI 0), (dI 0), .zs])) rfl rfl (erH.cons (v' := (.vars 2 [.zs, .zs])) rfl rfl (erH.cons (v' := (.data 5 (List.map d_TRec s6.2) true none)) rfl rfl (erH.cons (v' := (.vars 2 [(.sl 320192 0 s6.2.length), (.sl 512 0 v2.length)])) rfl rfl (erH.cons (v' := (.data 1 (List.map d_i64 v2) true none)) rfl rfl erH.nil))))))))) erL.nil (erL.cons (v' := (.one (.sl 1536 0 1))) rfl (erL.cons (v' := (.agg [(dI v9.Tx), (dI v9.Client), (dI v9.Req), (dI v9.State), .any])) rfl (erL.cons (v' := (.one .any)) rfl (erL.cons (v' := (.one (.ptr (.nm 192 0 0)))) rfl (erL.cons (v' := (.one (.ptr (.nm 320 0 4)))) rfl (erL.cons (v' := (.one .any)) rfl (erL.cons (v' := (.one (.d (.sl 4 (List.map d_TShare v9.Shares))))) rfl (erL.cons (v' := (.one (.ptr (.nm 320 0 4)))) rfl (erL.cons (v' := (.one (.ptr (.nm 320 0 0)))) rfl (erL.cons (v' := (.agg [(dI v9.Tx), (dI v9.Client), (dI v9.Req), (dI v9.State), (.d (.sl 4 (List.map d_TShare v9.Shares)))])) rfl (erL.cons (v' := (.one (.ptr (.bd (d_TRec v9) 0)))) rfl (erL.cons (v' := (oB (decide (s6.1 < (a1.Recs.length : Int))))) rfl (erL.cons (v' := (.one (.ptr (.nm 128 0 0)))) rfl (erL.cons (v' := (.one (.ptr (.nm 192 0 0)))) rfl (erL.cons (v' := (.one (.d (.sl 5 (List.map d_TRec a1.Recs))))) rfl (erL.cons (v' := (oI (a1.Recs.length : Int))) rfl (erL.cons (v' := (oI s6.1)) rfl erL.nil))))))))))))))))) (erH.cons (v' := (.vars 5 [(dI v9.Tx), (dI v9.Client), (dI v9.Req), (dI v9.State), .any])) rfl rfl (erH.cons (v' := (.vars 5 [(dI v9.Tx), (dI v9.Client), (dI v9.Req), (dI v9.State), .any])) rfl rfl (erH.cons (v' := (.vars 5 [(dI v9.Tx), (dI v9.Client), (dI v9.Req), (dI v9.State), (.d (.sl 4 (List.map d_TShare v9.Shares)))])) rfl rfl (erH.cons (v' := (.vars 5 [(dI 0), (dI 0), (dI 0), (dI 0), .zs])) rfl rfl (erH.cons (v' := (.vars 2 [.zs, .zs])) rfl rfl (erH.drop rfl (erH.cons (v' := (.vars 2 [.any, (.sl 512 0 v2.length)])) rfl rfl (erH.cons (v' := (.data 1 (List.map d_i64 v2) true none)) rfl rfl erH.nil)))))))) erL.nil (rmOne (oFaddrN (m := 0) (eR rfl) rfl (xNil (rmOne (oStoreV (es := [(.sl 320192 0 ((s6.2 ++ [(TRec.mk v9.Tx v9.Client v9.Req v9.State v11)]).length)), (.sl 512 0 v2.length)]) eZ (eR rfl) rfl rfl (bS rfl (bS rfl (bS rfl (bS rfl (bS rfl (bS rfl bZ)))))) rfl (xNil (rmRest (xNil (BQ.qn (TQ.qn (AW.weaken (wk_mkG [1536, 320] (kr 2 rfl rfl (kr 3 rfl rfl (kr 11 rfl rfl (kr 12 rfl rfl (kr 13 rfl rfl SL.nil))))) (BL.keep rfl (BL.keep rfl (BL.drop rfl (BL.drop rfl (BL.drop rfl (BL.drop rfl (BL.keep rfl (BL.keep rfl (BL.keep rfl BL.nil))))))))) (BK.cons (n := 192) rfl bZ rfl rfl (BK.cons (n := 320192) rfl (bS rfl bZ) rfl rfl (BK.cons (n := 128) rfl (bS rfl (bS rfl (bS rfl (bS rfl (bS rfl (bS rfl bZ)))))) rfl rfl (BK.cons (n := 512) rfl (bS rfl (bS rfl (bS rfl (bS rfl (bS rfl (bS rfl (bS rfl (bS rfl bZ)))))))) rfl rfl BK.nil)))) GK.nil) (aR (oAdd (eR rfl) eC (oMov eZ (xNil (TQ.qn ⟨((IntKind.wrap .i64 (s6.1 + 1)), (s6.2 ++ [(TRec.mk v9.Tx v9.Client v9.Req v9.State v11)])), H, (wk_mkG [] (kR rfl rfl (kR rfl rfl (kR rfl rfl (kR rfl rfl (kR rfl rfl SL.nil))))) (BL.keep rfl (BL.keep rfl (BL.keep rfl (BL.keep rfl BL.nil)))) (BK.cons rfl (bS rfl (bS rfl bZ)) rfl rfl (BK.cons rfl (bS rfl bZ) rfl rfl (BK.cons rfl bZ rfl (by first | rfl | simp) (BK.cons rfl (bS rfl (bS rfl (bS rfl bZ))) rfl rfl BK.nil)))) GK.nil)⟩))))))))))))))))
  ·exact AW.condF eZ (decide_eq_false h8) (AW.exit (TQ.qe (TQ.qe (BQ.qe (TQ.qn ⟨s6.2, H, ((wk_mkG [] (kR rfl rfl (kR rfl rfl SL.nil)) (BL.keep rfl (BL.keep rfl (BL.keep rfl (BL.keep rfl BL.nil)))) (BK.cons rfl bZ rfl rfl (BK.cons rfl (bS rfl bZ) rfl rfl (BK.cons rfl (bS rfl (bS rfl bZ)) rfl (by first | rfl | simp) (BK.cons rfl (bS rfl (bS rfl (bS rfl bZ))) rfl rfl BK.nil)))) GK.nil).trans (wk_renG 320192 320128 rfl rfl (nS rfl (nS rfl (nS rfl (nS rfl nZ)))) GR.nil))⟩)))))
theorem c_impl_CoordFind_1 {a1 : TRec} {a2 : Int} {a3 : Int} {r : Bool} (H : m_impl_CoordFind_1 a1 a2 a3 = some r) : Fn Try.prog k_impl_CoordFind_1 (lent [(.agg (d_TRec a1)), (.ptr (d_i64 a2)), (.ptr (d_i64 a3))]) true [(.bool r)] := by
 refine i_impl_CoordFind_1_fn (fle rfl) ?_
 rw [init_mk]
 refine AW.weaken (wk_mk [] (kv 0 (.agg [(dI a1.Tx), (dI a1.Client), (dI a1.Req), (dI a1.State), (.d (.sl 4 (List.map d_TShare a1.Shares)))]) rfl rfl (SL.cons (v := (.one (.ptr (.bd (d_i64 a2) 0)))) (eS rfl eZ) rfl (VWk.one CWk.ptr) (SL.cons (v := (.one (.ptr (.bd (d_i64 a3) 0)))) (eS rfl (eS rfl eZ)) rfl (VWk.one CWk.ptr) SL.nil))) BL.nil BK.nil) ?_
 unfold m_impl_CoordFind_1 at H
 unfold i_impl_CoordFind_1
 refine aV (oBox (n := 192) (m := 5) (cs := [(dI a1.Tx), (dI a1.Client), (dI a1.Req), (dI a1.State), (.d (.sl 4 (List.map d_TShare a1.Shares)))]) rfl eZ rfl rfl nZ (oMov eC (xQ (aV (oFaddrN (m := 1) (eR rfl) rfl (oLoadV (q := 1) (c := (dI a1.Client)) eZ bZ rfl rfl (oLoadB (e := (.int .i64 a2)) (eR rfl) rfl (oEql (eR rfl) eZ (oMov eZ ?_)))))))))
 rcases oite H with ⟨h4, H⟩ | ⟨h4, H⟩
 ·refine gDo eZ (decide_eq_true h4) (oFaddrN (m := 2) (eR rfl) rfl (gDo (eR rfl) (decide_eq_true h4) (oLoadV (q := 2) (c := (dI a1.Req)) eZ bZ rfl rfl (gDo (eR rfl) (decide_eq_true h4) (oLoadB (e := (.int .i64 a3)) (eR rfl) rfl (gDo (eR rfl) (decide_eq_true h4) (oEql (eR rfl) eZ (oPickT (eR rfl) (decide_eq_true h4) eZ (oMov eZ (xQ (AW.weaken (wk_mk [192] (kr 4 rfl rfl SL.nil) (BL.drop rfl BL.nil) BK.nil) (AW.ret ?_))))))))))))
  cases H
  exact eE rfl rfl
 ·refine gSkip eZ (decide_eq_false h4) rfl (gSkip (eR rfl) (decide_eq_false h4) rfl (gSkip (eR rfl) (decide_eq_false h4) rfl (gSkip (eR rfl) (decide_eq_false h4) rfl (oPickF (eR rfl) (decide_eq_false h4) eC (oMov eZ (xQ (AW.weaken (wk_mk [192] (kr 4 rfl rfl SL.nil) (BL.drop rfl BL.nil) BK.nil) (AW.ret ?_))))))))
  cases H
  exact eE rfl rfl
theorem c_slices_IndexFunc_Rec__CoordFind_1 {a1 : (List TRec)} {a2 : Int} {a3 : Int} {r : Int} (H : m_slices_IndexFunc_Rec__CoordFind_1 a1 a2 a3 = some r) : Fn Try.prog k_slices_IndexFunc___impl_Rec_impl_Rec_ (lent [(.sl 5 (List.map d_TRec a1)), (.fn k_impl_CoordFind_1 [.ptr (d_i64 a2), .ptr (d_i64 a3)])]) true [(.int .i64 r)] := by
 refine i_slices_IndexFunc___impl_Rec_impl_Rec__fn (fle rfl) ?_
 rw [init_mk]
 refine AW.weaken (wk_mk [] (kv 0 (.one (.d (.sl 5 (List.map d_TRec a1)))) rfl rfl (SL.cons (v := (.one (.fn k_impl_CoordFind_1 [(.bd (d_i64 a2) 0), (.bd (d_i64 a3) 0)]))) (eS rfl eZ) rfl (VWk.one (CWk.fn (css := [d_i64 a2, d_i64 a3]))) SL.nil)) BL.nil BK.nil) ?_
 unfold m_slices_IndexFunc_Rec__CoordFind_1 at H
 unfold i_slices_IndexFunc___impl_Rec_impl_Rec_
 refine aV (oMov eC (xQ (AW.seqJ (fun t4 : Unit => slices_IndexFunc_Rec__CoordFind_1_j4 t4 = some r) (fun t4 => mk [] [] noG) ?_ ?_)))
 ·intro t4 H
  unfold slices_IndexFunc_Rec__CoordFind_1_j4 at H
  refine aV (oMov eC (xQ (AW.ret ?_)))
  cases H
  exact eE rfl rfl
 ·refine aV (oMov (eR rfl) (oLenD eZ (n := a1.length) (List.length_map _) (oMov eC (xQ (AW.block (AW.iter (fun s6 : Int => mk [(0, (.one (.d (.sl 5 (List.map d_TRec a1))))), (1, (.one (.fn k_impl_CoordFind_1 [(.bd (d_i64 a2) 0), (.bd (d_i64 a3) 0)]))), (7, (oI (a1.length : Int))), (8, (oI s6))] [] noG) H (wk_mk [] (kR rfl rfl (kR rfl rfl (kR rfl rfl (kR rfl rfl SL.nil)))) BL.nil BK.nil) ?_))))))
  intro kb7 s6 H
  unfold slices_IndexFunc_Rec__CoordFind_1_b6 at H
  refine aV (oLss (eR rfl) (eR rfl) (xQ (aS ?_)))
  rcases oite H with ⟨h8, H⟩ | ⟨h8, H⟩
  ·refine AW.condT eZ (decide_eq_true h8) (AW.skip (TQ.qn (aS (AW.block (aV (oMov (eR rfl) (oMov eZ (xQ (aV (oMov (eR rfl) (oMov (eR rfl) (oMov (eR rfl) ?_))))))))))))
   obtain ⟨v9, h10, H⟩ := obind H
   refine oAtD (eR rfl) eZ h10 (oLoadBA (es := [(dI v9.Tx), (dI v9.Client), (dI v9.Req), (dI v9.State), (.d (.sl 4 (List.map d_TShare v9.Shares)))]) eZ rfl ?_)
   obtain ⟨v11, h12, H⟩ := obind H
   refine oCall (u := (oB v11)) (eR rfl) Cl.fn (c_impl_CoordFind_1 h12) (Evs.cons eZ Evs.nil) (VDs.cons (VD.agg rfl) (VDs.cons VD.ptrB (VDs.cons VD.ptrB VDs.nil))) rfl (xQ ?_)
   rcases oite H with ⟨h13, H⟩ | ⟨h13, H⟩
   ·refine AW.condT eZ h13 (aV (oMov (eR rfl) (oMov eZ (xQ (AW.ret (BQ.qr (TQ.qr (TQ.qr (BQ.qr (TQ.qr ?_))))))))))
    cases H
    exact eE rfl rfl
   ·exact AW.condF eZ (nt h13) (AW.skip (BQ.qn (TQ.qn (aR (oAdd (eR rfl) eC (oMov eZ (xNil (TQ.qn ⟨(IntKind.wrap .i64 (s6 + 1)), H, (wk_mk [] (kR rfl rfl (kR rfl rfl (kR rfl rfl (kR rfl rfl SL.nil)))) BL.nil BK.nil)⟩))))))))
  ·exact AW.condF eZ (decide_eq_false h8) (AW.exit (TQ.qe (TQ.qe (BQ.qe (TQ.qn ⟨(), H, (wk_mk [] SL.nil BL.nil BK.nil)⟩)))))
theorem c_impl_CoordFind {a1 : TCoord} {a2 : Int} {a3 : Int} {r : Int} (H : m_impl_CoordFind a1 a2 a3 = some r) : Fn Try.prog k_impl_CoordFind (lent [(.agg (d_TCoord a1)), (.int .i64 a2), (.int .i64 a3)]) true [(.int .i64 r)] := by
 refine i_impl_CoordFind_fn (fle rfl) ?_
 rw [init_mk]
 refine AW.weaken (wk_mk [] (kv 0 (.agg [(.d (.sl 5 (List.map d_TRec a1.Recs))), (.d (.sl 1 (List.map d_i64 a1.Order)))]) rfl rfl (kv 1 (oI a2) rfl rfl (kv 2 (oI a3) rfl rfl SL.nil))) BL.nil BK.nil) ?_
 unfold m_impl_CoordFind at H
 unfold i_impl_CoordFind
 refine aV (oBox (n := 192) (m := 2) (cs := [(.d (.sl 5 (List.map d_TRec a1.Recs))), (.d (.sl 1 (List.map d_i64 a1.Order)))]) rfl eZ rfl rfl nZ (oBox (n := 256) (m := 1) (cs := [(dI a2)]) rfl (eR rfl) rfl rfl (nS rfl nZ) (oBox (n := 320) (m := 1) (cs := [(dI a3)]) rfl (eR rfl) rfl rfl (nS rfl (nS rfl nZ)) (oMov eC (xQ (aS (aV (oLoadVA (es := [(.d (.sl 5 (List.map d_TRec a1.Recs))), (.d (.sl 1 (List.map d_i64 a1.Order)))]) (eR rfl) (bS rfl (bS rfl bZ)) rfl ?_))))))))
 obtain ⟨v4, h5, H⟩ := obind H
 refine oCall (u := (oB v4)) eC Cl.fn (c_impl_CoordOk h5) (Evs.cons eZ Evs.nil) (VDs.cons (VD.agg rfl) VDs.nil) rfl (oInv eZ (xQ ?_))
 rcases oite H with ⟨h6, H⟩ | ⟨h6, H⟩
 ·refine AW.condF eZ (congrArg Bool.not h6) (AW.skip (TQ.qn (aV (oFaddrN (m := 0) (eR rfl) rfl (oLoadV (q := 0) (c := (.d (.sl 5 (List.map d_TRec a1.Recs)))) eZ (bS rfl (bS rfl bZ)) rfl rfl (oMkfn (ps := [(.nm 256 0 0), (.nm 320 0 0)]) (Evs.cons (eR rfl) (Evs.cons (eR rfl) Evs.nil)) ?_))))))
  obtain ⟨v7, h8, H⟩ := obind H
  refine oCall (u := (oI v7)) eC Cl.fn (c_slices_IndexFunc_Rec__CoordFind_1 h8) (Evs.cons (eR rfl) (Evs.cons eZ Evs.nil)) (VDs.cons VD.plain (VDs.cons (VD.fn (PDs.cons (VD.ptrN (bS rfl bZ) (CDs.plain CDs.nil)) (PDs.cons (VD.ptrN bZ (CDs.plain CDs.nil)) PDs.nil))) VDs.nil)) rfl (oAdd eC eZ (oMov eZ (xQ (AW.weaken (wk_mk [320, 256, 192] (kr 6 rfl rfl SL.nil) (BL.drop rfl (BL.drop rfl (BL.drop rfl BL.nil))) BK.nil) (AW.ret ?_)))))
  cases H
  exact eE rfl rfl
 ·refine AW.condT eZ (congrArg Bool.not (nt h6)) (aV (oMov eC (xQ (AW.ret (TQ.qr ?_)))))
  cases H
  exact eE rfl rfl
theorem c_impl_CoordBegin {a1 : TCoord} {a2 : Int} {a3 : Int} {r : (TCoord × Int × Int)} (H : m_impl_CoordBegin a1 a2 a3 = some r) : Fn Try.prog k_impl_CoordBegin (lent [(.agg (d_TCoord a1)), (.int .i64 a2), (.int .i64 a3)]) true [(.agg (d_TCoord r.1)), (.int .i64 r.2.1), (.int .i64 r.2.2)] := by
 refine i_impl_CoordBegin_fn (fle rfl) ?_
 rw [init_mk]
 refine AW.weaken (t := mk [(0, (.agg [(.d (.sl 5 (List.map d_TRec a1.Recs))), (.d (.sl 1 (List.map d_i64 a1.Order)))])), (1, (oI a2)), (2, (oI a3))] [] (lk [])) (wk_mk [] (kv 0 (.agg [(.d (.sl 5 (List.map d_TRec a1.Recs))), (.d (.sl 1 (List.map d_i64 a1.Order)))]) rfl rfl (kv 1 (oI a2) rfl rfl (kv 2 (oI a3) rfl rfl SL.nil))) BL.nil BK.nil) ?_
 unfold m_impl_CoordBegin at H
 unfold i_impl_CoordBegin
 refine aV (oBox (n := 192) (m := 2) (cs := [(.d (.sl 5 (List.map d_TRec a1.Recs))), (.d (.sl 1 (List.map d_i64 a1.Order)))]) rfl eZ rfl rfl nZ (oVar (n := 384) (m := 2) rfl rfl (nS rfl nZ) (oMov eC (oMov eC (xQ (aS (AW.seqJ (fun t4 : Bool => (impl_CoordBegin_j4 a1 a2 a3) t4 = some r) (fun t4 => mk [(1, (oI a2)), (2, (oI a3)), (3, (.one (.ptr (.nm 192 0 0)))), (6, (.one (.ptr (.nm 384 0 0)))), (24, (oB t4))] [(192, (.vars 2 [(.d (.sl 5 (List.map d_TRec a1.Recs))), (.d (.sl 1 (List.map d_i64 a1.Order)))])), (384, (.vars 2 [.zs, .zs]))] (lk [])) ?_ ?_)))))))
 ·intro t4 H
  unfold impl_CoordBegin_j4 at H
  rcases oite H with ⟨h6, H⟩ | ⟨h6, H⟩
  ·refine AW.condT (eR rfl) h6 (aS (AW.regm (rmOne (oBuild (cs := [.zs, .zs]) PsNil rfl (xNil (rmOne (oStoreV (es := [.zs, .zs]) (eR rfl) eZ rfl rfl (bS rfl bZ) rfl (xNil (rmRest (oMov eC (oMov eC (xQ (AW.ret (TQ.qr ?_))))))))))))))
   cases H
   exact endsR (RL.cons (RV.cellA (es := [.zs, .zs]) (eR rfl) bZ rfl) (VO.aggs (VOs.cons VO.zs (VOs.cons VO.zs VOs.nil))) (RL.cons (RV.tmp (eR rfl)) (VO.flat rfl) (RL.cons (RV.tmp eZ) (VO.flat rfl) RL.nil))) List.nodup_nil
  ·refine AW.condF (eR rfl) (nt h6) (AW.skip (TQ.qn (aS (AW.regm (rmOne (oLoadVA (es := [(.d (.sl 5 (List.map d_TRec a1.Recs))), (.d (.sl 1 (List.map d_i64 a1.Order)))]) (eR rfl) bZ rfl (xNil (rmOne ?_))))))))
   obtain ⟨v7, h8, H⟩ := obind H
   refine oCallN (u := (.agg [(.sl 1728 0 v7.Recs.length), (.sl 1729 0 v7.Order.length)])) (bs := [(1728, (.data 5 (List.map d_TRec v7.Recs) true none)), (1729, (.data 1 (List.map d_i64 v7.Order) true none))]) eC Cl.fn (c_impl_copyCoord h8) (Evs.cons eZ Evs.nil) (VDs.cons (VD.agg rfl) VDs.nil) (by simp [bindR, bindV, bindVs, bindC, bindCs]) rfl (fC (nS rfl (nS rfl nZ)) rfl (fC (nS rfl (nS rfl nZ)) rfl (fC (nS rfl (nS rfl nZ)) rfl fN))) (xNil (rmOne (oVar (n := 576) (m := 2) rfl rfl (nS rfl (nS rfl (nS rfl (nS rfl nZ)))) (xNil (rmOne (oStoreV (es := [(.sl 1728 0 v7.Recs.length), (.sl 1729 0 v7.Order.length)]) eZ (eR rfl) rfl rfl bZ rfl (xNil (rmRest (xQ (aS (aV (oLoadVA (es := [(.d (.sl 5 (List.map d_TRec a1.Recs))), (.d (.sl 1 (List.map d_i64 a1.Order)))]) (eR rfl) (bS rfl (bS rfl (bS rfl (bS rfl bZ)))) rfl (oMov (eR rfl) (oMov (eR rfl) ?_))))))))))))))
   obtain ⟨v9, h10, H⟩ := obind H
   refine oCall (u := (oI v9)) eC Cl.fn (c_impl_CoordFind h10) (Evs.cons (eR rfl) (Evs.cons (eR rfl) (Evs.cons eZ Evs.nil))) (VDs.cons (VD.agg rfl) (VDs.cons VD.plain (VDs.cons VD.plain VDs.nil))) rfl (oMov eZ (xQ (aV (oMov eZ (oGtr eZ eC (xQ ?_))))))
   rcases oite H with ⟨h11, H⟩ | ⟨h11, H⟩
   ·refine AW.condT eZ (decide_eq_true h11) (aS (AW.regm (rmOne (oLoadVA (es := [(.sl 1728 0 v7.Recs.length), (.sl 1729 0 v7.Order.length)]) (eR rfl) bZ rfl (xNil (rmOne (oMov (eR rfl) (xNil (rmOne (oStoreV (es := [(.sl 1728 0 v7.Recs.length), (.sl 1729 0 v7.Order.length)]) (eR rfl) (eR rfl) rfl rfl (bS rfl (bS rfl (bS rfl (bS rfl (bS rfl bZ))))) rfl (xNil (rmRest (oMov eZ (oMov eC (xQ (AW.weaken (wk_mkG [576, 192] (kr 8 rfl rfl (kr 7 rfl rfl (kr 6 rfl rfl SL.nil))) (BL.keep rfl (BL.drop rfl (BL.drop rfl (BL.keep rfl (BL.keep rfl (BL.drop rfl (BL.keep rfl BL.nil))))))) (BK.cons (n := 384) rfl bZ rfl rfl (BK.cons (n := 1729) rfl (bS rfl (bS rfl (bS rfl bZ))) rfl rfl (BK.cons (n := 1728) rfl (bS rfl (bS rfl (bS rfl (bS rfl bZ)))) rfl rfl BK.nil))) GK.nil) (AW.ret (TQ.qr ?_))))))))))))))))))
    cases H
    exact endsR (RL.cons (RV.cellA (es := [(.sl 1728 0 v7.Recs.length), (.sl 1729 0 v7.Order.length)]) (eR rfl) bZ rfl) (VO.aggs (VOs.cons (VO.sln (bS rfl (bS rfl bZ)) (List.length_map _) rfl) (VOs.cons (VO.sl (bS rfl bZ) (List.length_map _) (allFlat fun _ => rfl)) VOs.nil))) (RL.cons (RV.tmp (eR rfl)) (VO.flat rfl) (RL.cons (RV.tmp eZ) (VO.flat rfl) RL.nil))) (by decide)
   ·refine AW.condF eZ (decide_eq_false h11) (AW.skip (TQ.qn (aS (aV (oFaddrN (m := 0) (eR rfl) rfl (oLoadV (q := 0) (c := (.d (.sl 5 (List.map d_TRec a1.Recs)))) eZ (bS rfl (bS rfl (bS rfl (bS rfl bZ)))) rfl rfl (oLenD eZ (n := a1.Recs.length) (List.length_map _) (oEql eZ eC (xQ (AW.weaken (wk_mkG [] (kr 39 rfl rfl (kr 9 rfl rfl (kr 1 rfl rfl (kr 2 rfl rfl (kr 3 rfl rfl (kr 6 rfl rfl SL.nil)))))) (BL.keep rfl (BL.keep rfl (BL.keep rfl (BL.keep rfl (BL.keep rfl (BL.keep rfl BL.nil)))))) (BK.cons (n := 576) rfl bZ rfl rfl (BK.cons (n := 1729) rfl (bS rfl (bS rfl bZ)) rfl rfl (BK.cons (n := 1728) rfl (bS rfl (bS rfl (bS rfl bZ))) rfl rfl (BK.cons (n := 192) rfl (bS rfl (bS rfl (bS rfl (bS rfl bZ)))) rfl rfl (BK.cons (n := 384) rfl (bS rfl (bS rfl (bS rfl (bS rfl (bS rfl bZ))))) rfl rfl BK.nil))))) GK.nil) ?_))))))))))
    rcases oite H with ⟨h12, H⟩ | ⟨h12, H⟩
    ·refine AW.condT eZ (decide_eq_true h12) (aS (AW.regm (rmOne (oLoadVA (es := [(.sl 1728 0 v7.Recs.length), (.sl 1729 0 v7.Order.length)]) (eR rfl) bZ rfl (xNil (rmOne (oStoreV (es := [(.sl 1728 0 v7.Recs.length), (.sl 1729 0 v7.Order.length)]) (eR rfl) eZ rfl rfl (bS rfl (bS rfl (bS rfl (bS rfl bZ)))) rfl (xNil (rmRest (oMov eC (oMov eC (xQ (AW.ret (TQ.qr ?_))))))))))))))
     cases H
     exact endsR (RL.cons (RV.cellA (es := [(.sl 1728 0 v7.Recs.length), (.sl 1729 0 v7.Order.length)]) (eR rfl) bZ rfl) (VO.aggs (VOs.cons (VO.sln (bS rfl (bS rfl (bS rfl bZ))) (List.length_map _) rfl) (VOs.cons (VO.sl (bS rfl (bS rfl bZ)) (List.length_map _) (allFlat fun _ => rfl)) VOs.nil))) (RL.cons (RV.tmp (eR rfl)) (VO.flat rfl) (RL.cons (RV.tmp eZ) (VO.flat rfl) RL.nil))) (by decide)
    ·refine AW.condF eZ (decide_eq_false h12) (AW.skip (TQ.qn (aV (oFaddrN (m := 0) (eR rfl) rfl (oLoadV (q := 0) (c := (.d (.sl 5 (List.map d_TRec a1.Recs)))) eZ (bS rfl (bS rfl (bS rfl bZ))) rfl rfl (oLenD eZ (n := a1.Recs.length) (List.length_map _) (oAdd eZ eC (oMov eZ (xQ (aS (AW.regm (rmOne (oFaddrN (m := 0) (eR rfl) rfl (xNil (rmOne (oLoadV (q := 0) (c := (.sl 1728 0 v7.Recs.length)) eZ bZ rfl rfl (xNil (rmOne (oMov (eR rfl) (xNil (rmOne (oMov (eR rfl) (xNil (rmOne (oMov (eR rfl) (xNil (rmOne (oBuild (cs := [(dI (IntKind.wrap .i64 ((a1.Recs.length : Int) + 1))), (dI a2), (dI a3), (dI 1), .zs]) (PsCons (eR rfl) (PsCons (eR rfl) (PsCons eZ (PsCons eC PsNil)))) rfl (xNil (rmOne (oBslice (m := 3264) (q := 1) (cs := [(dI (IntKind.wrap .i64 ((a1.Recs.length : Int) + 1))), (dI a2), (dI a3), (dI 1), .zs]) rfl (PsCons eZ PsNil) rfl (List.cons_ne_nil _ _) (by simp) (nS rfl (nS rfl (nS rfl (nS rfl (nS rfl nZ))))) (xNil ?_))))))))))))))))))))))))))))))))
     obtain ⟨h13, H⟩ := oguard H
     refine rmAppAbs (f := d_TRec) (xs := v7.Recs) (t := (TRec.mk (IntKind.wrap .i64 ((a1.Recs.length : Int) + 1)) a2 a3 1 ([] : List TShare))) (q := (v7.Recs ++ [(TRec.mk (IntKind.wrap .i64 ((a1.Recs.length : Int) + 1)) a2 a3 1 ([] : List TShare))]).length) (ds := [(.int .i64 (IntKind.wrap .i64 ((a1.Recs.length : Int) + 1))), (.int .i64 a2), (.int .i64 a3), (.int .i64 1), (.sl 4 (List.map d_TShare ([] : List TShare)))]) (ns := []) (eR rfl) eZ (bS rfl (bS rfl (bS rfl bZ))) rfl bZ rfl (VOs.cons (VO.flat rfl) (VOs.cons (VO.flat rfl) (VOs.cons (VO.flat rfl) (VOs.cons (VO.flat rfl) (VOs.cons VO.zs VOs.nil))))) rfl rfl rfl rfl h13 (by decide) (erL.cons (v' := (.one (.sl 3264 0 1))) rfl (erL.cons (v' := (.agg [(dI (IntKind.wrap .i64 ((a1.Recs.length : Int) + 1))), (dI a2), (dI a3), (dI 1), .zs])) rfl (erL.cons (v' := (oI a3)) rfl (erL.cons (v' := (oI a2)) rfl (erL.cons (v' := (oI (IntKind.wrap .i64 ((a1.Recs.length : Int) + 1)))) rfl (erL.cons (v' := (.one (.sl 1728 0 v7.Recs.length))) rfl (erL.cons (v' := (.one (.ptr (.nm 576 0 0)))) rfl (erL.cons (v' := (oI (IntKind.wrap .i64 ((a1.Recs.length : Int) + 1)))) rfl (erL.cons (v' := (oI (IntKind.wrap .i64 ((a1.Recs.length : Int) + 1)))) rfl (erL.cons (v' := (oI (a1.Recs.length : Int))) rfl (erL.cons (v' := (.one (.d (.sl 5 (List.map d_TRec a1.Recs))))) rfl (erL.cons (v' := (.one (.ptr (.nm 192 0 0)))) rfl (erL.cons (v' := (oB (decide ((a1.Recs.length : Int) = 60)))) rfl (erL.cons (v' := (.one (.ptr (.nm 576 0 0)))) rfl (erL.cons (v' := (oI a2)) rfl (erL.cons (v' := (oI a3)) rfl (erL.cons (v' := (.one (.ptr (.nm 192 0 0)))) rfl (erL.cons (v' := (.one (.ptr (.nm 384 0 0)))) rfl erL.nil)))))))))))))))))) (erH.cons (v' := (.vars 5 [(dI (IntKind.wrap .i64 ((a1.Recs.length : Int) + 1))), (dI a2), (dI a3), (dI 1), .zs])) rfl rfl (erH.cons (v' := (.vars 2 [(.sl 1728 0 v7.Recs.length), (.sl 1729 0 v7.Order.length)])) rfl rfl (erH.cons (v' := (.data 1 (List.map d_i64 v7.Order) true none)) rfl rfl (erH.cons (v' := (.data 5 (List.map d_TRec v7.Recs) true none)) rfl rfl (erH.cons (v' := (.vars 2 [(.d (.sl 5 (List.map d_TRec a1.Recs))), (.d (.sl 1 (List.map d_i64 a1.Order)))])) rfl rfl (erH.cons (v' := (.vars 2 [.zs, .zs])) rfl rfl erH.nil)))))) erL.nil (erL.cons (v' := (.one (.sl 3264 0 1))) rfl (erL.cons (v' := (.agg [(dI (IntKind.wrap .i64 ((a1.Recs.length : Int) + 1))), (dI a2), (dI a3), (dI 1), .zs])) rfl (erL.cons (v' := (oI a3)) rfl (erL.cons (v' := (oI a2)) rfl (erL.cons (v' := (oI (IntKind.wrap .i64 ((a1.Recs.length : Int) + 1)))) rfl (erL.cons (v' := (.one .any)) rfl (erL.cons (v' := (.one (.ptr (.nm 576 0 0)))) rfl (erL.cons (v' := (oI (IntKind.wrap .i64 ((a1.Recs.length : Int) + 1)))) rfl (erL.cons (v' := (oI (IntKind.wrap .i64 ((a1.Recs.length : Int) + 1)))) rfl (erL.cons (v' := (oI (a1.Recs.length : Int))) rfl (erL.cons (v' := (.one (.d (.sl 5 (List.map d_TRec a1.Recs))))) rfl (erL.cons (v' := (.one (.ptr (.nm 192 0 0)))) rfl (erL.cons (v' := (oB (decide ((a1.Recs.length : Int) = 60)))) rfl (erL.cons (v' := (.one (.ptr (.nm 576 0 0)))) rfl (erL.cons (v' := (oI a2)) rfl (erL.cons (v' := (oI a3)) rfl (erL.cons (v' := (.one (.ptr (.nm 192 0 0)))) rfl (erL.cons (v' := (.one (.ptr (.nm 384 0 0)))) rfl erL.nil)))))))))))))))))) (erH.cons (v' := (.vars 5 [(dI (IntKind.wrap .i64 ((a1.Recs.length : Int) + 1))), (dI a2), (dI a3), (dI 1), .zs])) rfl rfl (erH.cons (v' := (.vars 2 [.any, (.sl 1729 0 v7.Order.length)])) rfl rfl (erH.cons (v' := (.data 1 (List.map d_i64 v7.Order) true none)) rfl rfl (erH.drop rfl (erH.cons (v' := (.vars 2 [(.d (.sl 5 (List.map d_TRec a1.Recs))), (.d (.sl 1 (List.map d_i64 a1.Order)))])) rfl rfl (erH.cons (v' := (.vars 2 [.zs, .zs])) rfl rfl erH.nil)))))) erL.nil (rmOne (oFaddrN (m := 0) (eR rfl) rfl (xNil (rmOne (oStoreV (es := [(.sl 1728 0 ((v7.Recs ++ [(TRec.mk (IntKind.wrap .i64 ((a1.Recs.length : Int) + 1)) a2 a3 1 ([] : List TShare))]).length)), (.sl 1729 0 v7.Order.length)]) eZ (eR rfl) rfl rfl (bS rfl (bS rfl bZ)) rfl (xNil (rmRest (xQ (AW.weaken (wk_mkG [3264, 192] (kr 11 rfl rfl (kr 9 rfl rfl (kr 6 rfl rfl SL.nil))) (BL.keep rfl (BL.keep rfl (BL.drop rfl (BL.keep rfl (BL.keep rfl (BL.drop rfl (BL.keep rfl BL.nil))))))) (BK.cons (n := 576) rfl bZ rfl rfl (BK.cons (n := 1728) rfl (bS rfl bZ) rfl rfl (BK.cons (n := 1729) rfl (bS rfl (bS rfl (bS rfl (bS rfl bZ)))) rfl rfl (BK.cons (n := 384) rfl (bS rfl (bS rfl (bS rfl (bS rfl (bS rfl (bS rfl bZ)))))) rfl rfl BK.nil)))) GK.nil) (aS (AW.regm (rmOne (oLoadVA (es := [(.sl 1728 0 ((v7.Recs ++ [(TRec.mk (IntKind.wrap .i64 ((a1.Recs.length : Int) + 1)) a2 a3 1 ([] : List TShare))]).length)), (.sl 1729 0 v7.Order.length)]) (eR rfl) bZ rfl (xNil (rmOne (oMov (eR rfl) (xNil (rmOne (oStoreV (es := [(.sl 1728 0 ((v7.Recs ++ [(TRec.mk (IntKind.wrap .i64 ((a1.Recs.length : Int) + 1)) a2 a3 1 ([] : List TShare))]).length)), (.sl 1729 0 v7.Order.length)]) (eR rfl) (eR rfl) rfl rfl (bS rfl (bS rfl (bS rfl bZ))) rfl (xNil (rmRest (oMov eZ (oMov eC (xQ (AW.ret ?_)))))))))))))))))))))))))
     cases H
     exact endsR (RL.cons (RV.cellA (es := [(.sl 1728 0 ((v7.Recs ++ [(TRec.mk (IntKind.wrap .i64 ((a1.Recs.length : Int) + 1)) a2 a3 1 ([] : List TShare))]).length)), (.sl 1729 0 v7.Order.length)]) (eR rfl) bZ rfl) (VO.aggs (VOs.cons (VO.sln (bS rfl (bS rfl bZ)) (List.length_map _) rfl) (VOs.cons (VO.sl (bS rfl (bS rfl (bS rfl bZ))) (List.length_map _) (allFlat fun _ => rfl)) VOs.nil))) (RL.cons (RV.tmp (eR rfl)) (VO.flat rfl) (RL.cons (RV.tmp eZ) (VO.flat rfl) RL.nil))) (by decide)
 ·refine aR (oLoadVA (es := [(.d (.sl 5 (List.map d_TRec a1.Recs))), (.d (.sl 1 (List.map d_i64 a1.Order)))]) (eR rfl) (bS rfl bZ) rfl ?_)
  obtain ⟨v14, h15, H⟩ := obind H
  refine oCall (u := (oB v14)) eC Cl.fn (c_impl_CoordOk h15) (Evs.cons eZ Evs.nil) (VDs.cons (VD.agg rfl) VDs.nil) rfl (oInv eZ (oMov eZ ?_))
  rcases oite H with ⟨h16, H⟩ | ⟨h16, H⟩
  ·refine gDo eZ (congrArg Bool.not h16) (oMov (eR rfl) (gDo (eR rfl) (congrArg Bool.not h16) ?_))
   obtain ⟨v17, h18, H⟩ := obind H
   refine oCall (u := (oB v17)) eC Cl.fn (c_impl_isWhole h18) (Evs.cons eZ Evs.nil) (VDs.cons VD.plain VDs.nil) rfl (gDo (eR rfl) (congrArg Bool.not h16) (oInv eZ (oPickF (eR rfl) (congrArg Bool.not h16) eZ (oMov eZ ?_))))
   rcases oite H with ⟨h19, H⟩ | ⟨h19, H⟩
   ·refine gDo eZ (congrArg Bool.not h19) (oMov (eR rfl) (gDo (eR rfl) (congrArg Bool.not h19) ?_))
    obtain ⟨v20, h21, H⟩ := obind H
    exact oCall (u := (oB v20)) eC Cl.fn (c_impl_isReq h21) (Evs.cons eZ Evs.nil) (VDs.cons VD.plain VDs.nil) rfl (gDo (eR rfl) (congrArg Bool.not h19) (oInv eZ (oPickF (eR rfl) (congrArg Bool.not h19) eZ (xNil (TQ.qn ⟨(!v20), H, (wk_mkG [] (kR rfl rfl (kR rfl rfl (kR rfl rfl (kR rfl rfl (kR rfl rfl SL.nil))))) (BL.keep rfl (BL.keep rfl BL.nil)) (BK.cons rfl (bS rfl bZ) rfl rfl (BK.cons rfl bZ rfl rfl BK.nil)) GK.nil)⟩)))))
   ·exact gSkip eZ (congrArg Bool.not (nt h19)) rfl (gSkip (eR rfl) (congrArg Bool.not (nt h19)) rfl (gSkip (eR rfl) (congrArg Bool.not (nt h19)) rfl (oPickT (eR rfl) (congrArg Bool.not (nt h19)) eC (xNil (TQ.qn ⟨true, H, (wk_mkG [] (kR rfl rfl (kR rfl rfl (kR rfl rfl (kR rfl rfl (kR rfl rfl SL.nil))))) (BL.keep rfl (BL.keep rfl BL.nil)) (BK.cons rfl (bS rfl bZ) rfl rfl (BK.cons rfl bZ rfl rfl BK.nil)) GK.nil)⟩)))))
  ·exact gSkip eZ (congrArg Bool.not (nt h16)) rfl (gSkip (eR rfl) (congrArg Bool.not (nt h16)) rfl (gSkip (eR rfl) (congrArg Bool.not (nt h16)) rfl (oPickT (eR rfl) (congrArg Bool.not (nt h16)) eC (oMov eZ (gSkip eZ rfl rfl (gSkip (eR rfl) rfl rfl (gSkip (eR rfl) rfl rfl (oPickT (eR rfl) rfl eC (xNil (TQ.qn ⟨true, H, (wk_mkG [] (kR rfl rfl (kR rfl rfl (kR rfl rfl (kR rfl rfl (kR rfl rfl SL.nil))))) (BL.keep rfl (BL.keep rfl BL.nil)) (BK.cons rfl (bS rfl bZ) rfl rfl (BK.cons rfl bZ rfl rfl BK.nil)) GK.nil)⟩))))))))))
theorem c_laws_eqRange {a1 : TRange} {a2 : TRange} {r : Bool} (H : m_laws_eqRange a1 a2 = some r) : Fn Try.prog k_laws_eqRange (lent [(.agg (d_TRange a1)), (.agg (d_TRange a2))]) true [(.bool r)] := by
 refine i_laws_eqRange_fn (fle rfl) ?_
 rw [init_mk]
 refine AW.weaken (wk_mk [] (kv 0 (.agg [(dI a1.Lo), (dI a1.Hi)]) rfl rfl (kv 1 (.agg [(dI a2.Lo), (dI a2.Hi)]) rfl rfl SL.nil)) BL.nil BK.nil) ?_
 unfold m_laws_eqRange at H
 unfold i_laws_eqRange
 refine aV (oBox (n := 128) (m := 2) (cs := [(dI a1.Lo), (dI a1.Hi)]) rfl eZ rfl rfl nZ (oBox (n := 192) (m := 2) (cs := [(dI a2.Lo), (dI a2.Hi)]) rfl (eR rfl) rfl rfl (nS rfl nZ) (oMov eC (xQ (aS (aV (oFaddrN (m := 0) (eR rfl) rfl (oLoadV (q := 0) (c := (dI a1.Lo)) eZ (bS rfl bZ) rfl rfl (oFaddrN (m := 0) (eR rfl) rfl (oLoadV (q := 0) (c := (dI a2.Lo)) eZ bZ rfl rfl (oNeq (eR rfl) eZ (xQ ?_))))))))))))
 rcases oite H with ⟨h3, H⟩ | ⟨h3, H⟩
 ·refine AW.condT eZ (decide_eq_true h3) (aV (oMov eC (xQ (AW.ret (TQ.qr ?_)))))
  cases H
  exact eE rfl rfl
 ·refine AW.condF eZ (decide_eq_false h3) (AW.skip (TQ.qn (aS (aV (oFaddrN (m := 1) (eR rfl) rfl (oLoadV (q := 1) (c := (dI a1.Hi)) eZ (bS rfl bZ) rfl rfl (oFaddrN (m := 1) (eR rfl) rfl (oLoadV (q := 1) (c := (dI a2.Hi)) eZ bZ rfl rfl (oNeq (eR rfl) eZ (xQ ?_))))))))))
  rcases oite H with ⟨h4, H⟩ | ⟨h4, H⟩
  ·refine AW.condT eZ (decide_eq_true h4) (aV (oMov eC (xQ (AW.weaken (wk_mk [192, 128] (kr 4 rfl rfl SL.nil) (BL.drop rfl (BL.drop rfl BL.nil)) BK.nil) (AW.ret (TQ.qr ?_))))))
   cases H
   exact eE rfl rfl
  ·refine AW.condF eZ (decide_eq_false h4) (AW.skip (TQ.qn (aV (oMov eC (xQ (AW.weaken (wk_mk [192, 128] (kr 4 rfl rfl SL.nil) (BL.drop rfl (BL.drop rfl BL.nil)) BK.nil) (AW.ret ?_)))))))
   cases H
   exact eE rfl rfl
theorem c_laws_eqRangeS {a1 : (List TRange)} {a2 : (List TRange)} {r : Bool} (H : m_laws_eqRangeS a1 a2 = some r) : Fn Try.prog k_laws_eqRangeS (lent [(.sl 2 (List.map d_TRange a1)), (.sl 2 (List.map d_TRange a2))]) true [(.bool r)] := by
 refine i_laws_eqRangeS_fn (fle rfl) ?_
 rw [init_mk]
 refine AW.weaken (wk_mk [] (kv 0 (.one (.d (.sl 2 (List.map d_TRange a1)))) rfl rfl (kv 1 (.one (.d (.sl 2 (List.map d_TRange a2)))) rfl rfl SL.nil)) BL.nil BK.nil) ?_
 unfold m_laws_eqRangeS at H
 unfold i_laws_eqRangeS
 refine aV (oMov eC (xQ (aS (aV (oMov (eR rfl) (oLenD eZ (n := a1.length) (List.length_map _) (oMov (eR rfl) (oLenD eZ (n := a2.length) (List.length_map _) (oNeq (eR rfl) eZ (xQ ?_))))))))))
 rcases oite H with ⟨h3, H⟩ | ⟨h3, H⟩
 ·refine AW.condT eZ (decide_eq_true h3) (aV (oMov eC (xQ (AW.ret (TQ.qr ?_)))))
  cases H
  exact eE rfl rfl
 ·refine AW.condF eZ (decide_eq_false h3) (AW.skip (TQ.qn (AW.seqJ (fun t4 : Unit => laws_eqRangeS_j4 t4 = some r) (fun t4 => mk [] [] noG) ?_ ?_)))
  ·intro t4 H
   unfold laws_eqRangeS_j4 at H
   refine aV (oMov eC (xQ (AW.ret ?_)))
   cases H
   exact eE rfl rfl
  ·refine aV (oMov eC (xQ (AW.block (AW.iter (fun s6 : Int => mk [(0, (.one (.d (.sl 2 (List.map d_TRange a1))))), (1, (.one (.d (.sl 2 (List.map d_TRange a2))))), (5, (oI s6))] [] noG) H (wk_mk [] (kR rfl rfl (kR rfl rfl (kR rfl rfl SL.nil))) BL.nil BK.nil) ?_))))
   intro kb7 s6 H
   unfold laws_eqRangeS_b6 at H
   refine aS (aV (oMov (eR rfl) (oMov (eR rfl) (oLenD eZ (n := a1.length) (List.length_map _) (oLss (eR rfl) eZ (xQ ?_))))))
   rcases oite H with ⟨h8, H⟩ | ⟨h8, H⟩
   ·refine AW.condT eZ (decide_eq_true h8) (AW.skip (TQ.qn (aS (AW.block (aS (AW.regd (oMov (eR rfl) (oMov (eR rfl) ?_))))))))
    obtain ⟨v9, h10, H⟩ := obind H
    refine oAtD (eR rfl) eZ h10 (oLoadBA (es := [(dI v9.Lo), (dI v9.Hi)]) eZ rfl (oMov (eR rfl) (oMov (eR rfl) ?_)))
    obtain ⟨v11, h12, H⟩ := obind H
    refine oAtD (eR rfl) eZ h12 (oLoadBA (es := [(dI v11.Lo), (dI v11.Hi)]) eZ rfl ?_)
    obtain ⟨v13, h14, H⟩ := obind H
    refine oCall (u := (oB v13)) eC Cl.fn (c_laws_eqRange h14) (Evs.cons (eR rfl) (Evs.cons eZ Evs.nil)) (VDs.cons (VD.agg rfl) (VDs.cons (VD.agg rfl) VDs.nil)) rfl (oInv eZ (xQ (AW.weaken (wk_mk [] (kr 26 rfl rfl (kr 0 rfl rfl (kr 1 rfl rfl (kr 5 rfl rfl SL.nil)))) BL.nil BK.nil) ?_)))
    rcases oite H with ⟨h15, H⟩ | ⟨h15, H⟩
    ·exact AW.condF eZ (congrArg Bool.not h15) (AW.skip (BQ.qn (TQ.qn (aR (oMov (eR rfl) (oAdd eZ eC (oMov eZ (xNil (TQ.qn ⟨(IntKind.wrap .i64 (s6 + 1)), H, (wk_mk [] (kR rfl rfl (kR rfl rfl (kR rfl rfl SL.nil))) BL.nil BK.nil)⟩)))))))))
    ·refine AW.condT eZ (congrArg Bool.not (nt h15)) (aV (oMov eC (xQ (AW.ret (BQ.qr (TQ.qr (TQ.qr (BQ.qr (TQ.qr ?_)))))))))
     cases H
     exact eE rfl rfl
   ·exact AW.condF eZ (decide_eq_false h8) (AW.exit (TQ.qe (TQ.qe (BQ.qe (TQ.qn ⟨(), H, (wk_mk [] SL.nil BL.nil BK.nil)⟩)))))
theorem c_laws_eqWrite {a1 : TCell} {a2 : TCell} {r : Bool} (H : m_laws_eqWrite a1 a2 = some r) : Fn Try.prog k_laws_eqWrite (lent [(.agg (d_TCell a1)), (.agg (d_TCell a2))]) true [(.bool r)] := by
 refine i_laws_eqWrite_fn (fle rfl) ?_
 rw [init_mk]
 refine AW.weaken (wk_mk [] (kv 0 (.agg [(dI a1.Key), (dI a1.Value)]) rfl rfl (kv 1 (.agg [(dI a2.Key), (dI a2.Value)]) rfl rfl SL.nil)) BL.nil BK.nil) ?_
 unfold m_laws_eqWrite at H
 unfold i_laws_eqWrite
 refine aV (oBox (n := 128) (m := 2) (cs := [(dI a1.Key), (dI a1.Value)]) rfl eZ rfl rfl nZ (oBox (n := 192) (m := 2) (cs := [(dI a2.Key), (dI a2.Value)]) rfl (eR rfl) rfl rfl (nS rfl nZ) (oMov eC (xQ (aS (aV (oFaddrN (m := 0) (eR rfl) rfl (oLoadV (q := 0) (c := (dI a1.Key)) eZ (bS rfl bZ) rfl rfl (oFaddrN (m := 0) (eR rfl) rfl (oLoadV (q := 0) (c := (dI a2.Key)) eZ bZ rfl rfl (oNeq (eR rfl) eZ (xQ ?_))))))))))))
 rcases oite H with ⟨h3, H⟩ | ⟨h3, H⟩
 ·refine AW.condT eZ (decide_eq_true h3) (aV (oMov eC (xQ (AW.ret (TQ.qr ?_)))))
  cases H
  exact eE rfl rfl
 ·refine AW.condF eZ (decide_eq_false h3) (AW.skip (TQ.qn (aS (aV (oFaddrN (m := 1) (eR rfl) rfl (oLoadV (q := 1) (c := (dI a1.Value)) eZ (bS rfl bZ) rfl rfl (oFaddrN (m := 1) (eR rfl) rfl (oLoadV (q := 1) (c := (dI a2.Value)) eZ bZ rfl rfl (oNeq (eR rfl) eZ (xQ ?_))))))))))
  rcases oite H with ⟨h4, H⟩ | ⟨h4, H⟩
  ·refine AW.condT eZ (decide_eq_true h4) (aV (oMov eC (xQ (AW.weaken (wk_mk [192, 128] (kr 4 rfl rfl SL.nil) (BL.drop rfl (BL.drop rfl BL.nil)) BK.nil) (AW.ret (TQ.qr ?_))))))
   cases H
   exact eE rfl rfl
  ·refine AW.condF eZ (decide_eq_false h4) (AW.skip (TQ.qn (aV (oMov eC (xQ (AW.weaken (wk_mk [192, 128] (kr 4 rfl rfl SL.nil) (BL.drop rfl (BL.drop rfl BL.nil)) BK.nil) (AW.ret ?_)))))))
   cases H
   exact eE rfl rfl
theorem c_laws_eqWriteS {a1 : (List TCell)} {a2 : (List TCell)} {r : Bool} (H : m_laws_eqWriteS a1 a2 = some r) : Fn Try.prog k_laws_eqWriteS (lent [(.sl 2 (List.map d_TCell a1)), (.sl 2 (List.map d_TCell a2))]) true [(.bool r)] := by
 refine i_laws_eqWriteS_fn (fle rfl) ?_
 rw [init_mk]
 refine AW.weaken (wk_mk [] (kv 0 (.one (.d (.sl 2 (List.map d_TCell a1)))) rfl rfl (kv 1 (.one (.d (.sl 2 (List.map d_TCell a2)))) rfl rfl SL.nil)) BL.nil BK.nil) ?_
 unfold m_laws_eqWriteS at H
 unfold i_laws_eqWriteS
 refine aV (oMov eC (xQ (aS (aV (oMov (eR rfl) (oLenD eZ (n := a1.length) (List.length_map _) (oMov (eR rfl) (oLenD eZ (n := a2.length) (List.length_map _) (oNeq (eR rfl) eZ (xQ ?_))))))))))
 rcases oite H with ⟨h3, H⟩ | ⟨h3, H⟩
 ·refine AW.condT eZ (decide_eq_true h3) (aV (oMov eC (xQ (AW.ret (TQ.qr ?_)))))
  cases H
  exact eE rfl rfl
 ·refine AW.condF eZ (decide_eq_false h3) (AW.skip (TQ.qn (AW.seqJ (fun t4 : Unit => laws_eqWriteS_j4 t4 = some r) (fun t4 => mk [] [] noG) ?_ ?_)))
  ·intro t4 H
   unfold laws_eqWriteS_j4 at H
   refine aV (oMov eC (xQ (AW.ret ?_)))
   cases H
   exact eE rfl rfl
  ·refine aV (oMov eC (xQ (AW.block (AW.iter (fun s6 : Int => mk [(0, (.one (.d (.sl 2 (List.map d_TCell a1))))), (1, (.one (.d (.sl 2 (List.map d_TCell a2))))), (5, (oI s6))] [] noG) H (wk_mk [] (kR rfl rfl (kR rfl rfl (kR rfl rfl SL.nil))) BL.nil BK.nil) ?_))))
   intro kb7 s6 H
   unfold laws_eqWriteS_b6 at H
   refine aS (aV (oMov (eR rfl) (oMov (eR rfl) (oLenD eZ (n := a1.length) (List.length_map _) (oLss (eR rfl) eZ (xQ ?_))))))
   rcases oite H with ⟨h8, H⟩ | ⟨h8, H⟩
   ·refine AW.condT eZ (decide_eq_true h8) (AW.skip (TQ.qn (aS (AW.block (aS (AW.regd (oMov (eR rfl) (oMov (eR rfl) ?_))))))))
    obtain ⟨v9, h10, H⟩ := obind H
    refine oAtD (eR rfl) eZ h10 (oLoadBA (es := [(dI v9.Key), (dI v9.Value)]) eZ rfl (oMov (eR rfl) (oMov (eR rfl) ?_)))
    obtain ⟨v11, h12, H⟩ := obind H
    refine oAtD (eR rfl) eZ h12 (oLoadBA (es := [(dI v11.Key), (dI v11.Value)]) eZ rfl ?_)
    obtain ⟨v13, h14, H⟩ := obind H
    refine oCall (u := (oB v13)) eC Cl.fn (c_laws_eqWrite h14) (Evs.cons (eR rfl) (Evs.cons eZ Evs.nil)) (VDs.cons (VD.agg rfl) (VDs.cons (VD.agg rfl) VDs.nil)) rfl (oInv eZ (xQ (AW.weaken (wk_mk [] (kr 26 rfl rfl (kr 0 rfl rfl (kr 1 rfl rfl (kr 5 rfl rfl SL.nil)))) BL.nil BK.nil) ?_)))
    rcases oite H with ⟨h15, H⟩ | ⟨h15, H⟩
    ·exact AW.condF eZ (congrArg Bool.not h15) (AW.skip (BQ.qn (TQ.qn (aR (oMov (eR rfl) (oAdd eZ eC (oMov eZ (xNil (TQ.qn ⟨(IntKind.wrap .i64 (s6 + 1)), H, (wk_mk [] (kR rfl rfl (kR rfl rfl (kR rfl rfl SL.nil))) BL.nil BK.nil)⟩)))))))))
    ·refine AW.condT eZ (congrArg Bool.not (nt h15)) (aV (oMov eC (xQ (AW.ret (BQ.qr (TQ.qr (TQ.qr (BQ.qr (TQ.qr ?_)))))))))
     cases H
     exact eE rfl rfl
   ·exact AW.condF eZ (decide_eq_false h8) (AW.exit (TQ.qe (TQ.qe (BQ.qe (TQ.qn ⟨(), H, (wk_mk [] SL.nil BL.nil BK.nil)⟩)))))
theorem c_laws_eqShare {a1 : TShare} {a2 : TShare} {r : Bool} (H : m_laws_eqShare a1 a2 = some r) : Fn Try.prog k_laws_eqShare (lent [(.agg (d_TShare a1)), (.agg (d_TShare a2))]) true [(.bool r)] := by
 refine i_laws_eqShare_fn (fle rfl) ?_
 rw [init_mk]
 refine AW.weaken (wk_mk [] (kv 0 (.agg [(dI a1.Group), (.d (.sl 2 (List.map d_TRange a1.Reads))), (.d (.sl 2 (List.map d_TCell a1.Writes))), (dI a1.Vote)]) rfl rfl (kv 1 (.agg [(dI a2.Group), (.d (.sl 2 (List.map d_TRange a2.Reads))), (.d (.sl 2 (List.map d_TCell a2.Writes))), (dI a2.Vote)]) rfl rfl SL.nil)) BL.nil BK.nil) ?_
 unfold m_laws_eqShare at H
 unfold i_laws_eqShare
 refine aV (oBox (n := 128) (m := 4) (cs := [(dI a1.Group), (.d (.sl 2 (List.map d_TRange a1.Reads))), (.d (.sl 2 (List.map d_TCell a1.Writes))), (dI a1.Vote)]) rfl eZ rfl rfl nZ (oBox (n := 192) (m := 4) (cs := [(dI a2.Group), (.d (.sl 2 (List.map d_TRange a2.Reads))), (.d (.sl 2 (List.map d_TCell a2.Writes))), (dI a2.Vote)]) rfl (eR rfl) rfl rfl (nS rfl nZ) (oMov eC (xQ (aS (aV (oFaddrN (m := 0) (eR rfl) rfl (oLoadV (q := 0) (c := (dI a1.Group)) eZ (bS rfl bZ) rfl rfl (oFaddrN (m := 0) (eR rfl) rfl (oLoadV (q := 0) (c := (dI a2.Group)) eZ bZ rfl rfl (oNeq (eR rfl) eZ (xQ ?_))))))))))))
 rcases oite H with ⟨h3, H⟩ | ⟨h3, H⟩
 ·refine AW.condT eZ (decide_eq_true h3) (aV (oMov eC (xQ (AW.ret (TQ.qr ?_)))))
  cases H
  exact eE rfl rfl
 ·refine AW.condF eZ (decide_eq_false h3) (AW.skip (TQ.qn (aS (aV (oFaddrN (m := 1) (eR rfl) rfl (oLoadV (q := 1) (c := (.d (.sl 2 (List.map d_TRange a1.Reads)))) eZ (bS rfl bZ) rfl rfl (oFaddrN (m := 1) (eR rfl) rfl (oLoadV (q := 1) (c := (.d (.sl 2 (List.map d_TRange a2.Reads)))) eZ bZ rfl rfl ?_))))))))
  obtain ⟨v4, h5, H⟩ := obind H
  refine oCall (u := (oB v4)) eC Cl.fn (c_laws_eqRangeS h5) (Evs.cons (eR rfl) (Evs.cons eZ Evs.nil)) (VDs.cons VD.plain (VDs.cons VD.plain VDs.nil)) rfl (oInv eZ (xQ (AW.weaken (wk_mk [] (kr 15 rfl rfl (kr 3 rfl rfl (kr 2 rfl rfl SL.nil))) (BL.keep rfl (BL.keep rfl BL.nil)) (BK.cons (n := 192) rfl bZ rfl rfl (BK.cons (n := 128) rfl (bS rfl bZ) rfl rfl BK.nil))) ?_)))
  rcases oite H with ⟨h6, H⟩ | ⟨h6, H⟩
  ·refine AW.condF eZ (congrArg Bool.not h6) (AW.skip (TQ.qn (aS (aV (oFaddrN (m := 2) (eR rfl) rfl (oLoadV (q := 2) (c := (.d (.sl 2 (List.map d_TCell a1.Writes)))) eZ (bS rfl bZ) rfl rfl (oFaddrN (m := 2) (eR rfl) rfl (oLoadV (q := 2) (c := (.d (.sl 2 (List.map d_TCell a2.Writes)))) eZ bZ rfl rfl ?_))))))))
   obtain ⟨v7, h8, H⟩ := obind H
   refine oCall (u := (oB v7)) eC Cl.fn (c_laws_eqWriteS h8) (Evs.cons (eR rfl) (Evs.cons eZ Evs.nil)) (VDs.cons VD.plain (VDs.cons VD.plain VDs.nil)) rfl (oInv eZ (xQ ?_))
   rcases oite H with ⟨h9, H⟩ | ⟨h9, H⟩
   ·refine AW.condF eZ (congrArg Bool.not h9) (AW.skip (TQ.qn (aS (aV (oFaddrN (m := 3) (eR rfl) rfl (oLoadV (q := 3) (c := (dI a1.Vote)) eZ (bS rfl bZ) rfl rfl (oFaddrN (m := 3) (eR rfl) rfl (oLoadV (q := 3) (c := (dI a2.Vote)) eZ bZ rfl rfl (oNeq (eR rfl) eZ (xQ ?_))))))))))
    rcases oite H with ⟨h10, H⟩ | ⟨h10, H⟩
    ·refine AW.condT eZ (decide_eq_true h10) (aV (oMov eC (xQ (AW.ret (TQ.qr ?_)))))
     cases H
     exact eE rfl rfl
    ·refine AW.condF eZ (decide_eq_false h10) (AW.skip (TQ.qn (aV (oMov eC (xQ (AW.ret ?_))))))
     cases H
     exact eE rfl rfl
   ·refine AW.condT eZ (congrArg Bool.not (nt h9)) (aV (oMov eC (xQ (AW.ret (TQ.qr ?_)))))
    cases H
    exact eE rfl rfl
  ·refine AW.condT eZ (congrArg Bool.not (nt h6)) (aV (oMov eC (xQ (AW.ret (TQ.qr ?_)))))
   cases H
   exact eE rfl rfl
theorem c_laws_eqShareS {a1 : (List TShare)} {a2 : (List TShare)} {r : Bool} (H : m_laws_eqShareS a1 a2 = some r) : Fn Try.prog k_laws_eqShareS (lent [(.sl 4 (List.map d_TShare a1)), (.sl 4 (List.map d_TShare a2))]) true [(.bool r)] := by
 refine i_laws_eqShareS_fn (fle rfl) ?_
 rw [init_mk]
 refine AW.weaken (wk_mk [] (kv 0 (.one (.d (.sl 4 (List.map d_TShare a1)))) rfl rfl (kv 1 (.one (.d (.sl 4 (List.map d_TShare a2)))) rfl rfl SL.nil)) BL.nil BK.nil) ?_
 unfold m_laws_eqShareS at H
 unfold i_laws_eqShareS
 refine aV (oMov eC (xQ (aS (aV (oMov (eR rfl) (oLenD eZ (n := a1.length) (List.length_map _) (oMov (eR rfl) (oLenD eZ (n := a2.length) (List.length_map _) (oNeq (eR rfl) eZ (xQ ?_))))))))))
 rcases oite H with ⟨h3, H⟩ | ⟨h3, H⟩
 ·refine AW.condT eZ (decide_eq_true h3) (aV (oMov eC (xQ (AW.ret (TQ.qr ?_)))))
  cases H
  exact eE rfl rfl
 ·refine AW.condF eZ (decide_eq_false h3) (AW.skip (TQ.qn (AW.seqJ (fun t4 : Unit => laws_eqShareS_j4 t4 = some r) (fun t4 => mk [] [] noG) ?_ ?_)))
  ·intro t4 H
   unfold laws_eqShareS_j4 at H
   refine aV (oMov eC (xQ (AW.ret ?_)))
   cases H
   exact eE rfl rfl
  ·refine aV (oMov eC (xQ (AW.block (AW.iter (fun s6 : Int => mk [(0, (.one (.d (.sl 4 (List.map d_TShare a1))))), (1, (.one (.d (.sl 4 (List.map d_TShare a2))))), (5, (oI s6))] [] noG) H (wk_mk [] (kR rfl rfl (kR rfl rfl (kR rfl rfl SL.nil))) BL.nil BK.nil) ?_))))
   intro kb7 s6 H
   unfold laws_eqShareS_b6 at H
   refine aS (aV (oMov (eR rfl) (oMov (eR rfl) (oLenD eZ (n := a1.length) (List.length_map _) (oLss (eR rfl) eZ (xQ ?_))))))
   rcases oite H with ⟨h8, H⟩ | ⟨h8, H⟩
   ·refine AW.condT eZ (decide_eq_true h8) (AW.skip (TQ.qn (aS (AW.block (aS (AW.regd (oMov (eR rfl) (oMov (eR rfl) ?_))))))))
    obtain ⟨v9, h10, H⟩ := obind H
    refine oAtD (eR rfl) eZ h10 (oLoadBA (es := [(dI v9.Group), (.d (.sl 2 (List.map d_TRange v9.Reads))), (.d (.sl 2 (List.map d_TCell v9.Writes))), (dI v9.Vote)]) eZ rfl (oMov (eR rfl) (oMov (eR rfl) ?_)))
    obtain ⟨v11, h12, H⟩ := obind H
    refine oAtD (eR rfl) eZ h12 (oLoadBA (es := [(dI v11.Group), (.d (.sl 2 (List.map d_TRange v11.Reads))), (.d (.sl 2 (List.map d_TCell v11.Writes))), (dI v11.Vote)]) eZ rfl ?_)
    obtain ⟨v13, h14, H⟩ := obind H
    refine oCall (u := (oB v13)) eC Cl.fn (c_laws_eqShare h14) (Evs.cons (eR rfl) (Evs.cons eZ Evs.nil)) (VDs.cons (VD.agg rfl) (VDs.cons (VD.agg rfl) VDs.nil)) rfl (oInv eZ (xQ (AW.weaken (wk_mk [] (kr 26 rfl rfl (kr 0 rfl rfl (kr 1 rfl rfl (kr 5 rfl rfl SL.nil)))) BL.nil BK.nil) ?_)))
    rcases oite H with ⟨h15, H⟩ | ⟨h15, H⟩
    ·exact AW.condF eZ (congrArg Bool.not h15) (AW.skip (BQ.qn (TQ.qn (aR (oMov (eR rfl) (oAdd eZ eC (oMov eZ (xNil (TQ.qn ⟨(IntKind.wrap .i64 (s6 + 1)), H, (wk_mk [] (kR rfl rfl (kR rfl rfl (kR rfl rfl SL.nil))) BL.nil BK.nil)⟩)))))))))
    ·refine AW.condT eZ (congrArg Bool.not (nt h15)) (aV (oMov eC (xQ (AW.ret (BQ.qr (TQ.qr (TQ.qr (BQ.qr (TQ.qr ?_)))))))))
     cases H
     exact eE rfl rfl
   ·exact AW.condF eZ (decide_eq_false h8) (AW.exit (TQ.qe (TQ.qe (BQ.qe (TQ.qn ⟨(), H, (wk_mk [] SL.nil BL.nil BK.nil)⟩)))))
theorem c_laws_eqRec {a1 : TRec} {a2 : TRec} {r : Bool} (H : m_laws_eqRec a1 a2 = some r) : Fn Try.prog k_laws_eqRec (lent [(.agg (d_TRec a1)), (.agg (d_TRec a2))]) true [(.bool r)] := by
 refine i_laws_eqRec_fn (fle rfl) ?_
 rw [init_mk]
 refine AW.weaken (wk_mk [] (kv 0 (.agg [(dI a1.Tx), (dI a1.Client), (dI a1.Req), (dI a1.State), (.d (.sl 4 (List.map d_TShare a1.Shares)))]) rfl rfl (kv 1 (.agg [(dI a2.Tx), (dI a2.Client), (dI a2.Req), (dI a2.State), (.d (.sl 4 (List.map d_TShare a2.Shares)))]) rfl rfl SL.nil)) BL.nil BK.nil) ?_
 unfold m_laws_eqRec at H
 unfold i_laws_eqRec
 refine aV (oBox (n := 128) (m := 5) (cs := [(dI a1.Tx), (dI a1.Client), (dI a1.Req), (dI a1.State), (.d (.sl 4 (List.map d_TShare a1.Shares)))]) rfl eZ rfl rfl nZ (oBox (n := 192) (m := 5) (cs := [(dI a2.Tx), (dI a2.Client), (dI a2.Req), (dI a2.State), (.d (.sl 4 (List.map d_TShare a2.Shares)))]) rfl (eR rfl) rfl rfl (nS rfl nZ) (oMov eC (xQ (aS (aV (oFaddrN (m := 0) (eR rfl) rfl (oLoadV (q := 0) (c := (dI a1.Tx)) eZ (bS rfl bZ) rfl rfl (oFaddrN (m := 0) (eR rfl) rfl (oLoadV (q := 0) (c := (dI a2.Tx)) eZ bZ rfl rfl (oNeq (eR rfl) eZ (xQ ?_))))))))))))
 rcases oite H with ⟨h3, H⟩ | ⟨h3, H⟩
 ·refine AW.condT eZ (decide_eq_true h3) (aV (oMov eC (xQ (AW.ret (TQ.qr ?_)))))
  cases H
  exact eE rfl rfl
 ·refine AW.condF eZ (decide_eq_false h3) (AW.skip (TQ.qn (aS (aV (oFaddrN (m := 1) (eR rfl) rfl (oLoadV (q := 1) (c := (dI a1.Client)) eZ (bS rfl bZ) rfl rfl (oFaddrN (m := 1) (eR rfl) rfl (oLoadV (q := 1) (c := (dI a2.Client)) eZ bZ rfl rfl (oNeq (eR rfl) eZ (xQ ?_))))))))))
  rcases oite H with ⟨h4, H⟩ | ⟨h4, H⟩
  ·refine AW.condT eZ (decide_eq_true h4) (aV (oMov eC (xQ (AW.weaken (wk_mk [192, 128] (kr 4 rfl rfl SL.nil) (BL.drop rfl (BL.drop rfl BL.nil)) BK.nil) (AW.ret (TQ.qr ?_))))))
   cases H
   exact eE rfl rfl
  ·refine AW.condF eZ (decide_eq_false h4) (AW.skip (TQ.qn (aS (aV (oFaddrN (m := 2) (eR rfl) rfl (oLoadV (q := 2) (c := (dI a1.Req)) eZ (bS rfl bZ) rfl rfl (oFaddrN (m := 2) (eR rfl) rfl (oLoadV (q := 2) (c := (dI a2.Req)) eZ bZ rfl rfl (oNeq (eR rfl) eZ (xQ (AW.weaken (wk_mk [] (kr 19 rfl rfl (kr 3 rfl rfl (kr 2 rfl rfl SL.nil))) (BL.keep rfl (BL.keep rfl BL.nil)) (BK.cons (n := 192) rfl bZ rfl rfl (BK.cons (n := 128) rfl (bS rfl bZ) rfl rfl BK.nil))) ?_)))))))))))
   rcases oite H with ⟨h5, H⟩ | ⟨h5, H⟩
   ·refine AW.condT eZ (decide_eq_true h5) (aV (oMov eC (xQ (AW.ret (TQ.qr ?_)))))
    cases H
    exact eE rfl rfl
   ·refine AW.condF eZ (decide_eq_false h5) (AW.skip (TQ.qn (aS (aV (oFaddrN (m := 3) (eR rfl) rfl (oLoadV (q := 3) (c := (dI a1.State)) eZ (bS rfl bZ) rfl rfl (oFaddrN (m := 3) (eR rfl) rfl (oLoadV (q := 3) (c := (dI a2.State)) eZ bZ rfl rfl (oNeq (eR rfl) eZ (xQ ?_))))))))))
    rcases oite H with ⟨h6, H⟩ | ⟨h6, H⟩
    ·refine AW.condT eZ (decide_eq_true h6) (aV (oMov eC (xQ (AW.ret (TQ.qr ?_)))))
     cases H
     exact eE rfl rfl
    ·refine AW.condF eZ (decide_eq_false h6) (AW.skip (TQ.qn (aS (aV (oFaddrN (m := 4) (eR rfl) rfl (oLoadV (q := 4) (c := (.d (.sl 4 (List.map d_TShare a1.Shares)))) eZ (bS rfl bZ) rfl rfl (oFaddrN (m := 4) (eR rfl) rfl (oLoadV (q := 4) (c := (.d (.sl 4 (List.map d_TShare a2.Shares)))) eZ bZ rfl rfl ?_))))))))
     obtain ⟨v7, h8, H⟩ := obind H
     refine oCall (u := (oB v7)) eC Cl.fn (c_laws_eqShareS h8) (Evs.cons (eR rfl) (Evs.cons eZ Evs.nil)) (VDs.cons VD.plain (VDs.cons VD.plain VDs.nil)) rfl (oInv eZ (xQ ?_))
     rcases oite H with ⟨h9, H⟩ | ⟨h9, H⟩
     ·refine AW.condF eZ (congrArg Bool.not h9) (AW.skip (TQ.qn (aV (oMov eC (xQ (AW.ret ?_))))))
      cases H
      exact eE rfl rfl
     ·refine AW.condT eZ (congrArg Bool.not (nt h9)) (aV (oMov eC (xQ (AW.ret (TQ.qr ?_)))))
      cases H
      exact eE rfl rfl
theorem c_laws_eqRecS {a1 : (List TRec)} {a2 : (List TRec)} {r : Bool} (H : m_laws_eqRecS a1 a2 = some r) : Fn Try.prog k_laws_eqRecS (lent [(.sl 5 (List.map d_TRec a1)), (.sl 5 (List.map d_TRec a2))]) true [(.bool r)] := by
 refine i_laws_eqRecS_fn (fle rfl) ?_
 rw [init_mk]
 refine AW.weaken (wk_mk [] (kv 0 (.one (.d (.sl 5 (List.map d_TRec a1)))) rfl rfl (kv 1 (.one (.d (.sl 5 (List.map d_TRec a2)))) rfl rfl SL.nil)) BL.nil BK.nil) ?_
 unfold m_laws_eqRecS at H
 unfold i_laws_eqRecS
 refine aV (oMov eC (xQ (aS (aV (oMov (eR rfl) (oLenD eZ (n := a1.length) (List.length_map _) (oMov (eR rfl) (oLenD eZ (n := a2.length) (List.length_map _) (oNeq (eR rfl) eZ (xQ ?_))))))))))
 rcases oite H with ⟨h3, H⟩ | ⟨h3, H⟩
 ·refine AW.condT eZ (decide_eq_true h3) (aV (oMov eC (xQ (AW.ret (TQ.qr ?_)))))
  cases H
  exact eE rfl rfl
 ·refine AW.condF eZ (decide_eq_false h3) (AW.skip (TQ.qn (AW.seqJ (fun t4 : Unit => laws_eqRecS_j4 t4 = some r) (fun t4 => mk [] [] noG) ?_ ?_)))
  ·intro t4 H
   unfold laws_eqRecS_j4 at H
   refine aV (oMov eC (xQ (AW.ret ?_)))
   cases H
   exact eE rfl rfl
  ·refine aV (oMov eC (xQ (AW.block (AW.iter (fun s6 : Int => mk [(0, (.one (.d (.sl 5 (List.map d_TRec a1))))), (1, (.one (.d (.sl 5 (List.map d_TRec a2))))), (5, (oI s6))] [] noG) H (wk_mk [] (kR rfl rfl (kR rfl rfl (kR rfl rfl SL.nil))) BL.nil BK.nil) ?_))))
   intro kb7 s6 H
   unfold laws_eqRecS_b6 at H
   refine aS (aV (oMov (eR rfl) (oMov (eR rfl) (oLenD eZ (n := a1.length) (List.length_map _) (oLss (eR rfl) eZ (xQ ?_))))))
   rcases oite H with ⟨h8, H⟩ | ⟨h8, H⟩
   ·refine AW.condT eZ (decide_eq_true h8) (AW.skip (TQ.qn (aS (AW.block (aS (AW.regd (oMov (eR rfl) (oMov (eR rfl) ?_))))))))
    obtain ⟨v9, h10, H⟩ := obind H
    refine oAtD (eR rfl) eZ h10 (oLoadBA (es := [(dI v9.Tx), (dI v9.Client), (dI v9.Req), (dI v9.State), (.d (.sl 4 (List.map d_TShare v9.Shares)))]) eZ rfl (oMov (eR rfl) (oMov (eR rfl) ?_)))
    obtain ⟨v11, h12, H⟩ := obind H
    refine oAtD (eR rfl) eZ h12 (oLoadBA (es := [(dI v11.Tx), (dI v11.Client), (dI v11.Req), (dI v11.State), (.d (.sl 4 (List.map d_TShare v11.Shares)))]) eZ rfl ?_)
    obtain ⟨v13, h14, H⟩ := obind H
    refine oCall (u := (oB v13)) eC Cl.fn (c_laws_eqRec h14) (Evs.cons (eR rfl) (Evs.cons eZ Evs.nil)) (VDs.cons (VD.agg rfl) (VDs.cons (VD.agg rfl) VDs.nil)) rfl (oInv eZ (xQ (AW.weaken (wk_mk [] (kr 26 rfl rfl (kr 0 rfl rfl (kr 1 rfl rfl (kr 5 rfl rfl SL.nil)))) BL.nil BK.nil) ?_)))
    rcases oite H with ⟨h15, H⟩ | ⟨h15, H⟩
    ·exact AW.condF eZ (congrArg Bool.not h15) (AW.skip (BQ.qn (TQ.qn (aR (oMov (eR rfl) (oAdd eZ eC (oMov eZ (xNil (TQ.qn ⟨(IntKind.wrap .i64 (s6 + 1)), H, (wk_mk [] (kR rfl rfl (kR rfl rfl (kR rfl rfl SL.nil))) BL.nil BK.nil)⟩)))))))))
    ·refine AW.condT eZ (congrArg Bool.not (nt h15)) (aV (oMov eC (xQ (AW.ret (BQ.qr (TQ.qr (TQ.qr (BQ.qr (TQ.qr ?_)))))))))
     cases H
     exact eE rfl rfl
   ·exact AW.condF eZ (decide_eq_false h8) (AW.exit (TQ.qe (TQ.qe (BQ.qe (TQ.qn ⟨(), H, (wk_mk [] SL.nil BL.nil BK.nil)⟩)))))
theorem c_laws_eqIntS {a1 : (List Int)} {a2 : (List Int)} {r : Bool} (H : m_laws_eqIntS a1 a2 = some r) : Fn Try.prog k_laws_eqIntS (lent [(.sl 1 (List.map d_i64 a1)), (.sl 1 (List.map d_i64 a2))]) true [(.bool r)] := by
 refine i_laws_eqIntS_fn (fle rfl) ?_
 rw [init_mk]
 refine AW.weaken (wk_mk [] (kv 0 (.one (.d (.sl 1 (List.map d_i64 a1)))) rfl rfl (kv 1 (.one (.d (.sl 1 (List.map d_i64 a2)))) rfl rfl SL.nil)) BL.nil BK.nil) ?_
 unfold m_laws_eqIntS at H
 unfold i_laws_eqIntS
 refine aV (oMov eC (xQ (aS (aV (oMov (eR rfl) (oLenD eZ (n := a1.length) (List.length_map _) (oMov (eR rfl) (oLenD eZ (n := a2.length) (List.length_map _) (oNeq (eR rfl) eZ (xQ ?_))))))))))
 rcases oite H with ⟨h3, H⟩ | ⟨h3, H⟩
 ·refine AW.condT eZ (decide_eq_true h3) (aV (oMov eC (xQ (AW.ret (TQ.qr ?_)))))
  cases H
  exact eE rfl rfl
 ·refine AW.condF eZ (decide_eq_false h3) (AW.skip (TQ.qn (AW.seqJ (fun t4 : Unit => laws_eqIntS_j4 t4 = some r) (fun t4 => mk [] [] noG) ?_ ?_)))
  ·intro t4 H
   unfold laws_eqIntS_j4 at H
   refine aV (oMov eC (xQ (AW.ret ?_)))
   cases H
   exact eE rfl rfl
  ·refine aV (oMov eC (xQ (AW.block (AW.iter (fun s6 : Int => mk [(0, (.one (.d (.sl 1 (List.map d_i64 a1))))), (1, (.one (.d (.sl 1 (List.map d_i64 a2))))), (5, (oI s6))] [] noG) H (wk_mk [] (kR rfl rfl (kR rfl rfl (kR rfl rfl SL.nil))) BL.nil BK.nil) ?_))))
   intro kb7 s6 H
   unfold laws_eqIntS_b6 at H
   refine aS (aV (oMov (eR rfl) (oMov (eR rfl) (oLenD eZ (n := a1.length) (List.length_map _) (oLss (eR rfl) eZ (xQ ?_))))))
   rcases oite H with ⟨h8, H⟩ | ⟨h8, H⟩
   ·refine AW.condT eZ (decide_eq_true h8) (AW.skip (TQ.qn (aS (AW.block (aS (AW.regd (oMov (eR rfl) (oMov (eR rfl) ?_))))))))
    obtain ⟨v9, h10, H⟩ := obind H
    refine oAtD (eR rfl) eZ h10 (oLoadB (e := (.int .i64 v9)) eZ rfl (oMov (eR rfl) (oMov (eR rfl) ?_)))
    obtain ⟨v11, h12, H⟩ := obind H
    refine oAtD (eR rfl) eZ h12 (oLoadB (e := (.int .i64 v11)) eZ rfl (oNeq (eR rfl) eZ (xQ (AW.weaken (wk_mk [] (kr 25 rfl rfl (kr 0 rfl rfl (kr 1 rfl rfl (kr 5 rfl rfl SL.nil)))) BL.nil BK.nil) ?_))))
    rcases oite H with ⟨h13, H⟩ | ⟨h13, H⟩
    ·refine AW.condT eZ (decide_eq_true h13) (aV (oMov eC (xQ (AW.ret (BQ.qr (TQ.qr (TQ.qr (BQ.qr (TQ.qr ?_)))))))))
     cases H
     exact eE rfl rfl
    ·exact AW.condF eZ (decide_eq_false h13) (AW.skip (BQ.qn (TQ.qn (aR (oMov (eR rfl) (oAdd eZ eC (oMov eZ (xNil (TQ.qn ⟨(IntKind.wrap .i64 (s6 + 1)), H, (wk_mk [] (kR rfl rfl (kR rfl rfl (kR rfl rfl SL.nil))) BL.nil BK.nil)⟩)))))))))
   ·exact AW.condF eZ (decide_eq_false h8) (AW.exit (TQ.qe (TQ.qe (BQ.qe (TQ.qn ⟨(), H, (wk_mk [] SL.nil BL.nil BK.nil)⟩)))))
theorem c_laws_eqCoord {a1 : TCoord} {a2 : TCoord} {r : Bool} (H : m_laws_eqCoord a1 a2 = some r) : Fn Try.prog k_laws_eqCoord (lent [(.agg (d_TCoord a1)), (.agg (d_TCoord a2))]) true [(.bool r)] := by
 refine i_laws_eqCoord_fn (fle rfl) ?_
 rw [init_mk]
 refine AW.weaken (wk_mk [] (kv 0 (.agg [(.d (.sl 5 (List.map d_TRec a1.Recs))), (.d (.sl 1 (List.map d_i64 a1.Order)))]) rfl rfl (kv 1 (.agg [(.d (.sl 5 (List.map d_TRec a2.Recs))), (.d (.sl 1 (List.map d_i64 a2.Order)))]) rfl rfl SL.nil)) BL.nil BK.nil) ?_
 unfold m_laws_eqCoord at H
 unfold i_laws_eqCoord
 refine aV (oBox (n := 128) (m := 2) (cs := [(.d (.sl 5 (List.map d_TRec a1.Recs))), (.d (.sl 1 (List.map d_i64 a1.Order)))]) rfl eZ rfl rfl nZ (oBox (n := 192) (m := 2) (cs := [(.d (.sl 5 (List.map d_TRec a2.Recs))), (.d (.sl 1 (List.map d_i64 a2.Order)))]) rfl (eR rfl) rfl rfl (nS rfl nZ) (oMov eC (xQ (aS (aV (oFaddrN (m := 0) (eR rfl) rfl (oLoadV (q := 0) (c := (.d (.sl 5 (List.map d_TRec a1.Recs)))) eZ (bS rfl bZ) rfl rfl (oFaddrN (m := 0) (eR rfl) rfl (oLoadV (q := 0) (c := (.d (.sl 5 (List.map d_TRec a2.Recs)))) eZ bZ rfl rfl ?_))))))))))
 obtain ⟨v3, h4, H⟩ := obind H
 refine oCall (u := (oB v3)) eC Cl.fn (c_laws_eqRecS h4) (Evs.cons (eR rfl) (Evs.cons eZ Evs.nil)) (VDs.cons VD.plain (VDs.cons VD.plain VDs.nil)) rfl (oInv eZ (xQ ?_))
 rcases oite H with ⟨h5, H⟩ | ⟨h5, H⟩
 ·refine AW.condF eZ (congrArg Bool.not h5) (AW.skip (TQ.qn (aS (aV (oFaddrN (m := 1) (eR rfl) rfl (oLoadV (q := 1) (c := (.d (.sl 1 (List.map d_i64 a1.Order)))) eZ (bS rfl bZ) rfl rfl (oFaddrN (m := 1) (eR rfl) rfl (oLoadV (q := 1) (c := (.d (.sl 1 (List.map d_i64 a2.Order)))) eZ bZ rfl rfl ?_))))))))
  obtain ⟨v6, h7, H⟩ := obind H
  refine oCall (u := (oB v6)) eC Cl.fn (c_laws_eqIntS h7) (Evs.cons (eR rfl) (Evs.cons eZ Evs.nil)) (VDs.cons VD.plain (VDs.cons VD.plain VDs.nil)) rfl (oInv eZ (xQ (AW.weaken (wk_mk [192, 128] (kr 16 rfl rfl SL.nil) (BL.drop rfl (BL.drop rfl BL.nil)) BK.nil) ?_)))
  rcases oite H with ⟨h8, H⟩ | ⟨h8, H⟩
  ·refine AW.condF eZ (congrArg Bool.not h8) (AW.skip (TQ.qn (aV (oMov eC (xQ (AW.ret ?_))))))
   cases H
   exact eE rfl rfl
  ·refine AW.condT eZ (congrArg Bool.not (nt h8)) (aV (oMov eC (xQ (AW.ret (TQ.qr ?_)))))
   cases H
   exact eE rfl rfl
 ·refine AW.condT eZ (congrArg Bool.not (nt h5)) (aV (oMov eC (xQ (AW.ret (TQ.qr ?_)))))
  cases H
  exact eE rfl rfl
theorem c_laws_markRangeS {a1 : (List TRange)} {a2 : Int} {r : (Int × (List TRange))} (H : m_laws_markRangeS a1 a2 = some r) : Fn Try.prog k_laws_markRangeS [⟨(.sl 2 (List.map d_TRange a1)), .m (.sl 2 (List.map d_TRange r.2))⟩, ⟨(.int .i64 a2), .b⟩] true [(.int .i64 r.1)] := by
 refine i_laws_markRangeS_fnM (fle rfl) (fC nZ rfl fN) rfl ?_
 rw [initM_mk]
 refine AW.weaken (t := mk [(0, (.one (.sl 0 0 a1.length))), (1, (oI a2))] [(0, (.data 2 (List.map d_TRange a1) true none))] (lk [(0, (.one (.sl 0 0 ((List.map d_TRange a1).length))))])) (wk_mkG (gl := [(0, (.one (.sl 0 0 ((List.map d_TRange a1).length))))]) [] (SL.cons (v := (.one (.sl 0 0 a1.length))) eZ rfl (VWk.one (CWk.len (List.length_map _))) (kv 1 (oI a2) rfl rfl SL.nil)) (BL.keep rfl BL.nil) (BK.cons (n := 0) rfl bZ rfl rfl BK.nil) (GK.cons rfl GK.nil)) ?_
 unfold m_laws_markRangeS at H
 unfold i_laws_markRangeS
 refine aV (oMov eC (xQ (AW.seqJ (fun t3 : ((List TRange) × Int) => (laws_markRangeS_j3 a1) t3 = some r) (fun t3 => mk [(1, (oI t3.2))] [(0, (.data 2 (List.map d_TRange t3.1) true none))] (lk [(0, (.one (.sl 0 0 ((List.map d_TRange a1).length))))])) ?_ ?_)))
 ·intro t3 H
  unfold laws_markRangeS_j3 at H
  refine aV (oMov eZ (oMov eZ (xQ (AW.ret ?_))))
  obtain ⟨h5, H⟩ := oguard H
  cases H
  exact endsRM (RL.cons (RV.tmp eZ) (VO.flat rfl) RL.nil) (ML.mut eZ (VO.sl bZ (by first | (simp; done) | (simp; omega) | omega) (allFlat fun _ => rfl)) (ML.lent ML.nil)) (by decide)
 ·refine aV (oMov eC (xQ (AW.block (AW.iter (fun s6 : ((List TRange) × Int × Int) => mk [(0, (.one (.sl 0 0 s6.1.length))), (1, (oI s6.2.1)), (5, (oI s6.2.2))] [(0, (.data 2 (List.map d_TRange s6.1) true none))] (lk [(0, (.one (.sl 0 0 ((List.map d_TRange a1).length))))])) H (wk_mkG [] (kR rfl rfl (kR rfl rfl (kR rfl rfl SL.nil))) (BL.keep rfl BL.nil) (BK.cons rfl bZ rfl rfl BK.nil) (GK.cons rfl GK.nil)) ?_))))
  intro kb7 s6 H
  unfold laws_markRangeS_b6 at H
  refine aS (aV (oMov (eR rfl) (oMov (eR rfl) (oLenN eZ (oLss (eR rfl) eZ (xQ ?_))))))
  rcases oite H with ⟨h8, H⟩ | ⟨h8, H⟩
  ·refine AW.condT eZ (decide_eq_true h8) (AW.skip (TQ.qn (aS (AW.block (aV (oMov (eR rfl) (oMov (eR rfl) (oMov (eR rfl) ?_))))))))
   obtain ⟨v9, h10, H⟩ := obind H
   refine oAtN (eR rfl) (eR rfl) bZ rfl h10 (oFaddrN (m := 0) eZ rfl (oStoreD (t := v9) (t' := (TRange.mk s6.2.1 v9.Hi)) (es := [(.int .i64 s6.2.1)]) eZ (eR rfl) rfl rfl bZ (idx_at h10) rfl rfl (xQ (aV (oMov (eR rfl) (oAdd eZ eC (oMov eZ (xQ (aV (oMov (eR rfl) (oMov (eR rfl) (oMov (eR rfl) ?_))))))))))))
   obtain ⟨v11, h12, H⟩ := obind H
   exact oAtN (eR rfl) (eR rfl) bZ (by first | (simp; done) | (simp; omega) | omega) h12 (oFaddrN (m := 1) eZ rfl (oStoreD (t := v11) (t' := (TRange.mk v11.Lo (IntKind.wrap .i64 (s6.2.1 + 1)))) (es := [(.int .i64 (IntKind.wrap .i64 (s6.2.1 + 1)))]) eZ (eR rfl) rfl rfl bZ (idx_at h12) rfl rfl (xQ (AW.weaken (wk_mkG [] (kr 1 rfl rfl (kr 0 rfl rfl (kr 5 rfl rfl SL.nil))) (BL.keep rfl (BL.keep rfl (BL.keep rfl BL.nil))) (BK.cons (n := 0) rfl bZ rfl rfl BK.nil) (GK.cons rfl GK.nil)) (aR (oMov eZ (oAdd eZ eC (oMov eZ (xNil (BQ.qn (TQ.qn (aR (oMov (eR rfl) (oAdd eZ eC (oMov eZ (xNil (TQ.qn ⟨((s6.1.set (Int.toNat s6.2.2) (TRange.mk s6.2.1 v9.Hi)).set (Int.toNat s6.2.2) (TRange.mk v11.Lo (IntKind.wrap .i64 (s6.2.1 + 1))), (IntKind.wrap .i64 ((IntKind.wrap .i64 (s6.2.1 + 1)) + 1)), (IntKind.wrap .i64 (s6.2.2 + 1))), H, (wk_mkG [] (SL.cons (eR rfl) rfl (VWk.one (CWk.len (by first | (simp; done) | (simp; omega) | omega))) (kR rfl rfl (kR rfl rfl SL.nil))) (BL.keep rfl BL.nil) (BK.cons rfl bZ rfl rfl BK.nil) (GK.cons rfl GK.nil))⟩)))))))))))))))))
  ·exact AW.condF eZ (decide_eq_false h8) (AW.exit (TQ.qe (TQ.qe (BQ.qe (TQ.qn ⟨(s6.1, s6.2.1), H, (wk_mkG [] (kR rfl rfl SL.nil) (BL.keep rfl BL.nil) (BK.cons rfl bZ rfl rfl BK.nil) (GK.cons rfl GK.nil))⟩)))))
theorem c_laws_markWriteS {a1 : (List TCell)} {a2 : Int} {r : (Int × (List TCell))} (H : m_laws_markWriteS a1 a2 = some r) : Fn Try.prog k_laws_markWriteS [⟨(.sl 2 (List.map d_TCell a1)), .m (.sl 2 (List.map d_TCell r.2))⟩, ⟨(.int .i64 a2), .b⟩] true [(.int .i64 r.1)] := by
 refine i_laws_markWriteS_fnM (fle rfl) (fC nZ rfl fN) rfl ?_
 rw [initM_mk]
 refine AW.weaken (t := mk [(0, (.one (.sl 0 0 a1.length))), (1, (oI a2))] [(0, (.data 2 (List.map d_TCell a1) true none))] (lk [(0, (.one (.sl 0 0 ((List.map d_TCell a1).length))))])) (wk_mkG (gl := [(0, (.one (.sl 0 0 ((List.map d_TCell a1).length))))]) [] (SL.cons (v := (.one (.sl 0 0 a1.length))) eZ rfl (VWk.one (CWk.len (List.length_map _))) (kv 1 (oI a2) rfl rfl SL.nil)) (BL.keep rfl BL.nil) (BK.cons (n := 0) rfl bZ rfl rfl BK.nil) (GK.cons rfl GK.nil)) ?_
 unfold m_laws_markWriteS at H
 unfold i_laws_markWriteS
 refine aV (oMov eC (xQ (AW.seqJ (fun t3 : ((List TCell) × Int) => (laws_markWriteS_j3 a1) t3 = some r) (fun t3 => mk [(1, (oI t3.2))] [(0, (.data 2 (List.map d_TCell t3.1) true none))] (lk [(0, (.one (.sl 0 0 ((List.map d_TCell a1).length))))])) ?_ ?_)))
 ·intro t3 H
  unfold laws_markWriteS_j3 at H
  refine aV (oMov eZ (oMov eZ (xQ (AW.ret ?_))))
  obtain ⟨h5, H⟩ := oguard H
  cases H
  exact endsRM (RL.cons (RV.tmp eZ) (VO.flat rfl) RL.nil) (ML.mut eZ (VO.sl bZ (by first | (simp; done) | (simp; omega) | omega) (allFlat fun _ => rfl)) (ML.lent ML.nil)) (by decide)
 ·refine aV (oMov eC (xQ (AW.block (AW.iter (fun s6 : ((List TCell) × Int × Int) => mk [(0, (.one (.sl 0 0 s6.1.length))), (1, (oI s6.2.1)), (5, (oI s6.2.2))] [(0, (.data 2 (List.map d_TCell s6.1) true none))] (lk [(0, (.one (.sl 0 0 ((List.map d_TCell a1).length))))])) H (wk_mkG [] (kR rfl rfl (kR rfl rfl (kR rfl rfl SL.nil))) (BL.keep rfl BL.nil) (BK.cons rfl bZ rfl rfl BK.nil) (GK.cons rfl GK.nil)) ?_))))
  intro kb7 s6 H
  unfold laws_markWriteS_b6 at H
  refine aS (aV (oMov (eR rfl) (oMov (eR rfl) (oLenN eZ (oLss (eR rfl) eZ (xQ ?_))))))
  rcases oite H with ⟨h8, H⟩ | ⟨h8, H⟩
  ·refine AW.condT eZ (decide_eq_true h8) (AW.skip (TQ.qn (aS (AW.block (aV (oMov (eR rfl) (oMov (eR rfl) (oMov (eR rfl) ?_))))))))
   obtain ⟨v9, h10, H⟩ := obind H
   refine oAtN (eR rfl) (eR rfl) bZ rfl h10 (oFaddrN (m := 0) eZ rfl (oStoreD (t := v9) (t' := (TCell.mk s6.2.1 v9.Value)) (es := [(.int .i64 s6.2.1)]) eZ (eR rfl) rfl rfl bZ (idx_at h10) rfl rfl (xQ (aV (oMov (eR rfl) (oAdd eZ eC (oMov eZ (xQ (aV (oMov (eR rfl) (oMov (eR rfl) (oMov (eR rfl) ?_))))))))))))
   obtain ⟨v11, h12, H⟩ := obind H
   exact oAtN (eR rfl) (eR rfl) bZ (by first | (simp; done) | (simp; omega) | omega) h12 (oFaddrN (m := 1) eZ rfl (oStoreD (t := v11) (t' := (TCell.mk v11.Key (IntKind.wrap .i64 (s6.2.1 + 1)))) (es := [(.int .i64 (IntKind.wrap .i64 (s6.2.1 + 1)))]) eZ (eR rfl) rfl rfl bZ (idx_at h12) rfl rfl (xQ (AW.weaken (wk_mkG [] (kr 1 rfl rfl (kr 0 rfl rfl (kr 5 rfl rfl SL.nil))) (BL.keep rfl (BL.keep rfl (BL.keep rfl BL.nil))) (BK.cons (n := 0) rfl bZ rfl rfl BK.nil) (GK.cons rfl GK.nil)) (aR (oMov eZ (oAdd eZ eC (oMov eZ (xNil (BQ.qn (TQ.qn (aR (oMov (eR rfl) (oAdd eZ eC (oMov eZ (xNil (TQ.qn ⟨((s6.1.set (Int.toNat s6.2.2) (TCell.mk s6.2.1 v9.Value)).set (Int.toNat s6.2.2) (TCell.mk v11.Key (IntKind.wrap .i64 (s6.2.1 + 1))), (IntKind.wrap .i64 ((IntKind.wrap .i64 (s6.2.1 + 1)) + 1)), (IntKind.wrap .i64 (s6.2.2 + 1))), H, (wk_mkG [] (SL.cons (eR rfl) rfl (VWk.one (CWk.len (by first | (simp; done) | (simp; omega) | omega))) (kR rfl rfl (kR rfl rfl SL.nil))) (BL.keep rfl BL.nil) (BK.cons rfl bZ rfl rfl BK.nil) (GK.cons rfl GK.nil))⟩)))))))))))))))))
  ·exact AW.condF eZ (decide_eq_false h8) (AW.exit (TQ.qe (TQ.qe (BQ.qe (TQ.qn ⟨(s6.1, s6.2.1), H, (wk_mkG [] (kR rfl rfl SL.nil) (BL.keep rfl BL.nil) (BK.cons rfl bZ rfl rfl BK.nil) (GK.cons rfl GK.nil))⟩)))))
theorem c_laws_markShareS {a1 : (List TShare)} {a2 : Int} {r : (Int × (List TShare))} (H : m_laws_markShareS a1 a2 = some r) : Fn Try.prog k_laws_markShareS [⟨(.sl 4 (List.map d_TShare a1)), .m (.sl 4 (List.map d_TShare r.2))⟩, ⟨(.int .i64 a2), .b⟩] true [(.int .i64 r.1)] := by
 refine i_laws_markShareS_fnM (fle rfl) (fC nZ rfl fN) rfl ?_
 rw [initM_mk]
 refine AW.weaken (t := mk [(0, (.one (.sl 0 0 a1.length))), (1, (oI a2))] [(0, (.data 4 (List.map d_TShare a1) true none))] (lk [(0, (.one (.sl 0 0 ((List.map d_TShare a1).length))))])) (wk_mkG (gl := [(0, (.one (.sl 0 0 ((List.map d_TShare a1).length))))]) [] (SL.cons (v := (.one (.sl 0 0 a1.length))) eZ rfl (VWk.one (CWk.len (List.length_map _))) (kv 1 (oI a2) rfl rfl SL.nil)) (BL.keep rfl BL.nil) (BK.cons (n := 0) rfl bZ rfl rfl BK.nil) (GK.cons rfl GK.nil)) ?_
 unfold m_laws_markShareS at H
 unfold i_laws_markShareS
 refine aV (oMov eC (xQ (AW.seqJ (fun t3 : ((List TShare) × Int) => (laws_markShareS_j3 a1) t3 = some r) (fun t3 => mk [(1, (oI t3.2))] [(0, (.data 4 (List.map d_TShare t3.1) true none))] (lk [(0, (.one (.sl 0 0 ((List.map d_TShare a1).length))))])) ?_ ?_)))
 ·intro t3 H
  unfold laws_markShareS_j3 at H
  refine aV (oMov eZ (oMov eZ (xQ (AW.ret ?_))))
  obtain ⟨h5, H⟩ := oguard H
  cases H
  exact endsRM (RL.cons (RV.tmp eZ) (VO.flat rfl) RL.nil) (ML.mut eZ (VO.sln bZ (by first | (simp; done) | (simp; omega) | omega) rfl) (ML.lent ML.nil)) (by decide)
 ·refine aV (oMov eC (xQ (AW.block (AW.iter (fun s6 : ((List TShare) × Int × Int) => mk [(0, (.one (.sl 0 0 s6.1.length))), (1, (oI s6.2.1)), (5, (oI s6.2.2))] [(0, (.data 4 (List.map d_TShare s6.1) true none))] (lk [(0, (.one (.sl 0 0 ((List.map d_TShare a1).length))))])) H (wk_mkG [] (kR rfl rfl (kR rfl rfl (kR rfl rfl SL.nil))) (BL.keep rfl BL.nil) (BK.cons rfl bZ rfl rfl BK.nil) (GK.cons rfl GK.nil)) ?_))))
  intro kb7 s6 H
  unfold laws_markShareS_b6 at H
  refine aS (aV (oMov (eR rfl) (oMov (eR rfl) (oLenN eZ (oLss (eR rfl) eZ (xQ ?_))))))
  rcases oite H with ⟨h8, H⟩ | ⟨h8, H⟩
  ·refine AW.condT eZ (decide_eq_true h8) (AW.skip (TQ.qn (aS (AW.block (aV (oMov (eR rfl) (oMov (eR rfl) (oMov (eR rfl) ?_))))))))
   obtain ⟨v9, h10, H⟩ := obind H
   refine oAtN (eR rfl) (eR rfl) bZ rfl h10 (oFaddrN (m := 0) eZ rfl (oStoreD (t := v9) (t' := (TShare.mk s6.2.1 v9.Reads v9.Writes v9.Vote)) (es := [(.int .i64 s6.2.1)]) eZ (eR rfl) rfl rfl bZ (idx_at h10) rfl rfl (xQ (aV (oMov (eR rfl) (oAdd eZ eC (oMov eZ (xQ (aS (AW.regm (rmOne (oMov (eR rfl) (xNil (rmOne (oMov (eR rfl) (xNil (rmOne ?_)))))))))))))))))
   obtain ⟨v11, h12, H⟩ := obind H
   refine oAtN (eR rfl) eZ bZ (by first | (simp; done) | (simp; omega) | omega) h12 (xNil (rmOne (oFaddrN (m := 1) eZ rfl (xNil ?_))))
   obtain ⟨v13, h14, H⟩ := obind H
   refine rmInner (f := d_TShare) (f' := d_TRange) (t := v11) (t' := (TShare.mk v11.Group v13.2 v11.Writes v11.Vote)) (ys := v11.Reads) (ys' := v13.2) eZ bZ (idx_at h12) rfl rfl rfl (eR rfl) rfl (c_laws_markRangeS h14) rfl rfl (erL.cons (v' := (oI (IntKind.wrap .i64 (s6.2.1 + 1)))) rfl (erL.cons (v' := (.one .any)) rfl (erL.cons (v' := (.one (.ptr (.nm 0 (Int.toNat s6.2.2) 1)))) rfl (erL.cons (v' := (.one (.ptr (.nm 0 (Int.toNat s6.2.2) 0)))) rfl (erL.cons (v' := (oI s6.2.2)) rfl (erL.cons (v' := (.one (.sl 0 0 s6.1.length))) rfl (erL.cons (v' := (oI (IntKind.wrap .i64 (s6.2.1 + 1)))) rfl (erL.cons (v' := (oI (IntKind.wrap .i64 (s6.2.1 + 1)))) rfl (erL.cons (v' := (oI s6.2.1)) rfl (erL.cons (v' := (.one (.ptr (.nm 0 (Int.toNat s6.2.2) 0)))) rfl (erL.cons (v' := (.one (.ptr (.nm 0 (Int.toNat s6.2.2) 0)))) rfl (erL.cons (v' := (oI s6.2.1)) rfl (erL.cons (v' := (oI s6.2.2)) rfl (erL.cons (v' := (.one (.sl 0 0 s6.1.length))) rfl (erL.cons (v' := (oB (decide (s6.2.2 < ((s6.1.length : Nat) : Int))))) rfl (erL.cons (v' := (oI ((s6.1.length : Nat) : Int))) rfl (erL.cons (v' := (.one (.sl 0 0 s6.1.length))) rfl (erL.cons (v' := (oI s6.2.2)) rfl (erL.cons (v' := (.one (.sl 0 0 s6.1.length))) rfl (erL.cons (v' := (oI s6.2.1)) rfl (erL.cons (v' := (oI s6.2.2)) rfl erL.nil))))))))))))))))))))) (erH.cons (v' := (.data 4 (List.map d_TShare (s6.1.set (Int.toNat s6.2.2) (TShare.mk s6.2.1 v9.Reads v9.Writes v9.Vote))) true none)) rfl rfl (erH.cons (v' := (.data 4 (List.map d_TShare s6.1) true none)) rfl rfl erH.nil)) (erL.cons (v' := (.one (.sl 0 0 ((List.map d_TShare a1).length)))) rfl erL.nil) (rmRest (oMov eZ (xQ (AW.weaken (wk_mkG [] (kr 1 rfl rfl (kr 0 rfl rfl (kr 5 rfl rfl SL.nil))) (BL.keep rfl (BL.keep rfl (BL.keep rfl BL.nil))) (BK.cons (n := 0) rfl bZ rfl rfl BK.nil) (GK.cons rfl GK.nil)) (aS (AW.regm (rmOne (oMov (eR rfl) (xNil (rmOne (oMov (eR rfl) (xNil (rmOne ?_)))))))))))))
   obtain ⟨v15, h16, H⟩ := obind H
   refine oAtN (eR rfl) eZ bZ (by first | (simp; done) | (simp; omega) | omega) h16 (xNil (rmOne (oFaddrN (m := 2) eZ rfl (xNil ?_))))
   obtain ⟨v17, h18, H⟩ := obind H
   refine rmInner (f := d_TShare) (f' := d_TCell) (t := v15) (t' := (TShare.mk v15.Group v15.Reads v17.2 v15.Vote)) (ys := v15.Writes) (ys' := v17.2) eZ bZ (idx_at h16) rfl rfl rfl (eR rfl) rfl (c_laws_markWriteS h18) rfl rfl (erL.cons (v' := (oI v13.1)) rfl (erL.cons (v' := (.one .any)) rfl (erL.cons (v' := (.one (.ptr (.nm 0 (Int.toNat s6.2.2) 2)))) rfl (erL.cons (v' := (.one (.ptr (.nm 0 (Int.toNat s6.2.2) 0)))) rfl (erL.cons (v' := (oI s6.2.2)) rfl (erL.cons (v' := (.one (.sl 0 0 s6.1.length))) rfl (erL.cons (v' := (oI v13.1)) rfl (erL.cons (v' := (.one (.sl 0 0 s6.1.length))) rfl (erL.cons (v' := (oI s6.2.2)) rfl erL.nil))))))))) (erH.cons (v' := (.data 4 (List.map d_TShare ((s6.1.set (Int.toNat s6.2.2) (TShare.mk s6.2.1 v9.Reads v9.Writes v9.Vote)).set (Int.toNat s6.2.2) (TShare.mk v11.Group v13.2 v11.Writes v11.Vote))) true none)) rfl rfl erH.nil) (erL.cons (v' := (.one (.sl 0 0 ((List.map d_TShare a1).length)))) rfl erL.nil) (rmRest (oMov eZ (xQ (aV (oMov (eR rfl) (oMov (eR rfl) (oMov (eR rfl) ?_)))))))
   obtain ⟨v19, h20, H⟩ := obind H
   exact oAtN (eR rfl) (eR rfl) bZ (by first | (simp; done) | (simp; omega) | omega) h20 (oFaddrN (m := 3) eZ rfl (oStoreD (t := v19) (t' := (TShare.mk v19.Group v19.Reads v19.Writes v17.1)) (es := [(.int .i64 v17.1)]) eZ (eR rfl) rfl rfl bZ (idx_at h20) rfl rfl (xQ (AW.weaken (wk_mkG [] (kr 1 rfl rfl (kr 0 rfl rfl (kr 5 rfl rfl SL.nil))) (BL.keep rfl (BL.keep rfl (BL.keep rfl BL.nil))) (BK.cons (n := 0) rfl bZ rfl rfl BK.nil) (GK.cons rfl GK.nil)) (aR (oMov eZ (oAdd eZ eC (oMov eZ (xNil (BQ.qn (TQ.qn (aR (oMov (eR rfl) (oAdd eZ eC (oMov eZ (xNil (TQ.qn ⟨((((s6.1.set (Int.toNat s6.2.2) (TShare.mk s6.2.1 v9.Reads v9.Writes v9.Vote)).set (Int.toNat s6.2.2) (TShare.mk v11.Group v13.2 v11.Writes v11.Vote)).set (Int.toNat s6.2.2) (TShare.mk v15.Group v15.Reads v17.2 v15.Vote)).set (Int.toNat s6.2.2) (TShare.mk v19.Group v19.Reads v19.Writes v17.1), (IntKind.wrap .i64 (v17.1 + 1)), (IntKind.wrap .i64 (s6.2.2 + 1))), H, (wk_mkG [] (SL.cons (eR rfl) rfl (VWk.one (CWk.len (by first | (simp; done) | (simp; omega) | omega))) (kR rfl rfl (kR rfl rfl SL.nil))) (BL.keep rfl BL.nil) (BK.cons rfl bZ rfl rfl BK.nil) (GK.cons rfl GK.nil))⟩)))))))))))))))))
  ·exact AW.condF eZ (decide_eq_false h8) (AW.exit (TQ.qe (TQ.qe (BQ.qe (TQ.qn ⟨(s6.1, s6.2.1), H, (wk_mkG [] (kR rfl rfl SL.nil) (BL.keep rfl BL.nil) (BK.cons rfl bZ rfl rfl BK.nil) (GK.cons rfl GK.nil))⟩)))))
theorem c_laws_markRecS {a1 : (List TRec)} {a2 : Int} {r : (Int × (List TRec))} (H : m_laws_markRecS a1 a2 = some r) : Fn Try.prog k_laws_markRecS [⟨(.sl 5 (List.map d_TRec a1)), .m (.sl 5 (List.map d_TRec r.2))⟩, ⟨(.int .i64 a2), .b⟩] true [(.int .i64 r.1)] := by
 refine i_laws_markRecS_fnM (fle rfl) (fC nZ rfl fN) rfl ?_
 rw [initM_mk]
 refine AW.weaken (t := mk [(0, (.one (.sl 0 0 a1.length))), (1, (oI a2))] [(0, (.data 5 (List.map d_TRec a1) true none))] (lk [(0, (.one (.sl 0 0 ((List.map d_TRec a1).length))))])) (wk_mkG (gl := [(0, (.one (.sl 0 0 ((List.map d_TRec a1).length))))]) [] (SL.cons (v := (.one (.sl 0 0 a1.length))) eZ rfl (VWk.one (CWk.len (List.length_map _))) (kv 1 (oI a2) rfl rfl SL.nil)) (BL.keep rfl BL.nil) (BK.cons (n := 0) rfl bZ rfl rfl BK.nil) (GK.cons rfl GK.nil)) ?_
 unfold m_laws_markRecS at H
 unfold i_laws_markRecS
 refine aV (oMov eC (xQ (AW.seqJ (fun t3 : ((List TRec) × Int) => (laws_markRecS_j3 a1) t3 = some r) (fun t3 => mk [(1, (oI t3.2))] [(0, (.data 5 (List.map d_TRec t3.1) true none))] (lk [(0, (.one (.sl 0 0 ((List.map d_TRec a1).length))))])) ?_ ?_)))
 ·intro t3 H
  unfold laws_markRecS_j3 at H
  refine aV (oMov eZ (oMov eZ (xQ (AW.ret ?_))))
  obtain ⟨h5, H⟩ := oguard H
  cases H
  exact endsRM (RL.cons (RV.tmp eZ) (VO.flat rfl) RL.nil) (ML.mut eZ (VO.sln bZ (by first | (simp; done) | (simp; omega) | omega) rfl) (ML.lent ML.nil)) (by decide)
 ·refine aV (oMov eC (xQ (AW.block (AW.iter (fun s6 : ((List TRec) × Int × Int) => mk [(0, (.one (.sl 0 0 s6.1.length))), (1, (oI s6.2.1)), (5, (oI s6.2.2))] [(0, (.data 5 (List.map d_TRec s6.1) true none))] (lk [(0, (.one (.sl 0 0 ((List.map d_TRec a1).length))))])) H (wk_mkG [] (kR rfl rfl (kR rfl rfl (kR rfl rfl SL.nil))) (BL.keep rfl BL.nil) (BK.cons rfl bZ rfl rfl BK.nil) (GK.cons rfl GK.nil)) ?_))))
  intro kb7 s6 H
  unfold laws_markRecS_b6 at H
  refine aS (aV (oMov (eR rfl) (oMov (eR rfl) (oLenN eZ (oLss (eR rfl) eZ (xQ ?_))))))
  rcases oite H with ⟨h8, H⟩ | ⟨h8, H⟩
  ·refine AW.condT eZ (decide_eq_true h8) (AW.skip (TQ.qn (aS (AW.block (aV (oMov (eR rfl) (oMov (eR rfl) (oMov (eR rfl) ?_))))))))
   obtain ⟨v9, h10, H⟩ := obind H
   refine oAtN (eR rfl) (eR rfl) bZ rfl h10 (oFaddrN (m := 0) eZ rfl (oStoreD (t := v9) (t' := (TRec.mk s6.2.1 v9.Client v9.Req v9.State v9.Shares)) (es := [(.int .i64 s6.2.1)]) eZ (eR rfl) rfl rfl bZ (idx_at h10) rfl rfl (xQ (aV (oMov (eR rfl) (oAdd eZ eC (oMov eZ (xQ (aV (oMov (eR rfl) (oMov (eR rfl) (oMov (eR rfl) ?_))))))))))))
   obtain ⟨v11, h12, H⟩ := obind H
   refine oAtN (eR rfl) (eR rfl) bZ (by first | (simp; done) | (simp; omega) | omega) h12 (oFaddrN (m := 1) eZ rfl (oStoreD (t := v11) (t' := (TRec.mk v11.Tx (IntKind.wrap .i64 (s6.2.1 + 1)) v11.Req v11.State v11.Shares)) (es := [(.int .i64 (IntKind.wrap .i64 (s6.2.1 + 1)))]) eZ (eR rfl) rfl rfl bZ (idx_at h12) rfl rfl (xQ (AW.weaken (wk_mkG [] (kr 1 rfl rfl (kr 0 rfl rfl (kr 5 rfl rfl SL.nil))) (BL.keep rfl (BL.keep rfl (BL.keep rfl BL.nil))) (BK.cons (n := 0) rfl bZ rfl rfl BK.nil) (GK.cons rfl GK.nil)) (aV (oMov eZ (oAdd eZ eC (oMov eZ (xQ (aV (oMov (eR rfl) (oMov (eR rfl) (oMov (eR rfl) ?_)))))))))))))
   obtain ⟨v13, h14, H⟩ := obind H
   refine oAtN (eR rfl) (eR rfl) bZ (by first | (simp; done) | (simp; omega) | omega) h14 (oFaddrN (m := 2) eZ rfl (oStoreD (t := v13) (t' := (TRec.mk v13.Tx v13.Client (IntKind.wrap .i64 ((IntKind.wrap .i64 (s6.2.1 + 1)) + 1)) v13.State v13.Shares)) (es := [(.int .i64 (IntKind.wrap .i64 ((IntKind.wrap .i64 (s6.2.1 + 1)) + 1)))]) eZ (eR rfl) rfl rfl bZ (idx_at h14) rfl rfl (xQ (aV (oMov (eR rfl) (oAdd eZ eC (oMov eZ (xQ (aV (oMov (eR rfl) (oMov (eR rfl) (oMov (eR rfl) ?_))))))))))))
   obtain ⟨v15, h16, H⟩ := obind H
   refine oAtN (eR rfl) (eR rfl) bZ (by first | (simp; done) | (simp; omega) | omega) h16 (oFaddrN (m := 3) eZ rfl (oStoreD (t := v15) (t' := (TRec.mk v15.Tx v15.Client v15.Req (IntKind.wrap .i64 ((IntKind.wrap .i64 ((IntKind.wrap .i64 (s6.2.1 + 1)) + 1)) + 1)) v15.Shares)) (es := [(.int .i64 (IntKind.wrap .i64 ((IntKind.wrap .i64 ((IntKind.wrap .i64 (s6.2.1 + 1)) + 1)) + 1)))]) eZ (eR rfl) rfl rfl bZ (idx_at h16) rfl rfl (xQ (AW.weaken (wk_mkG [] (kr 1 rfl rfl (kr 0 rfl rfl (kr 5 rfl rfl SL.nil))) (BL.keep rfl (BL.keep rfl (BL.keep rfl BL.nil))) (BK.cons (n := 0) rfl bZ rfl rfl BK.nil) (GK.cons rfl GK.nil)) (aV (oMov eZ (oAdd eZ eC (oMov eZ (xQ (AW.regm (rmOne (oMov (eR rfl) (xNil (rmOne (oMov (eR rfl) (xNil (rmOne ?_)))))))))))))))))
   obtain ⟨v17, h18, H⟩ := obind H
   refine oAtN (eR rfl) eZ bZ (by first | (simp; done) | (simp; omega) | omega) h18 (xNil (rmOne (oFaddrN (m := 4) eZ rfl (xNil ?_))))
   obtain ⟨v19, h20, H⟩ := obind H
   exact rmInner (f := d_TRec) (f' := d_TShare) (t := v17) (t' := (TRec.mk v17.Tx v17.Client v17.Req v17.State v19.2)) (ys := v17.Shares) (ys' := v19.2) eZ bZ (idx_at h18) rfl rfl rfl (eR rfl) rfl (c_laws_markShareS h20) rfl rfl (erL.cons (v' := (.one (.d (.int .i64 (IntKind.wrap .i64 ((IntKind.wrap .i64 ((IntKind.wrap .i64 ((IntKind.wrap .i64 (s6.2.1 + 1)) + 1)) + 1)) + 1)))))) rfl (erL.cons (v' := (.one .any)) rfl (erL.cons (v' := (.one (.ptr (.nm 0 (Int.toNat s6.2.2) 4)))) rfl (erL.cons (v' := (.one (.ptr (.nm 0 (Int.toNat s6.2.2) 0)))) rfl (erL.cons (v' := (oI s6.2.2)) rfl (erL.cons (v' := (.one (.sl 0 0 s6.1.length))) rfl (erL.cons (v' := (.one (.d (.int .i64 (IntKind.wrap .i64 ((IntKind.wrap .i64 ((IntKind.wrap .i64 ((IntKind.wrap .i64 (s6.2.1 + 1)) + 1)) + 1)) + 1)))))) rfl (erL.cons (v' := (.one (.d (.int .i64 (IntKind.wrap .i64 ((IntKind.wrap .i64 ((IntKind.wrap .i64 ((IntKind.wrap .i64 (s6.2.1 + 1)) + 1)) + 1)) + 1)))))) rfl (erL.cons (v' := (.one (.d (.int .i64 (IntKind.wrap .i64 ((IntKind.wrap .i64 ((IntKind.wrap .i64 (s6.2.1 + 1)) + 1)) + 1)))))) rfl (erL.cons (v' := (.one (.d (.int .i64 (IntKind.wrap .i64 ((IntKind.wrap .i64 ((IntKind.wrap .i64 (s6.2.1 + 1)) + 1)) + 1)))))) rfl (erL.cons (v' := (.one (.sl 0 0 s6.1.length))) rfl (erL.cons (v' := (oI s6.2.2)) rfl erL.nil)))))))))))) (erH.cons (v' := (.data 5 (List.map d_TRec ((((s6.1.set (Int.toNat s6.2.2) (TRec.mk s6.2.1 v9.Client v9.Req v9.State v9.Shares)).set (Int.toNat s6.2.2) (TRec.mk v11.Tx (IntKind.wrap .i64 (s6.2.1 + 1)) v11.Req v11.State v11.Shares)).set (Int.toNat s6.2.2) (TRec.mk v13.Tx v13.Client (IntKind.wrap .i64 ((IntKind.wrap .i64 (s6.2.1 + 1)) + 1)) v13.State v13.Shares)).set (Int.toNat s6.2.2) (TRec.mk v15.Tx v15.Client v15.Req (IntKind.wrap .i64 ((IntKind.wrap .i64 ((IntKind.wrap .i64 (s6.2.1 + 1)) + 1)) + 1)) v15.Shares))) true none)) rfl rfl erH.nil) (erL.cons (v' := (.one (.sl 0 0 ((List.map d_TRec a1).length)))) rfl erL.nil) (rmRest (oMov eZ (xNil (BQ.qn (TQ.qn (aR (oMov (eR rfl) (oAdd eZ eC (oMov eZ (xNil (TQ.qn ⟨(((((s6.1.set (Int.toNat s6.2.2) (TRec.mk s6.2.1 v9.Client v9.Req v9.State v9.Shares)).set (Int.toNat s6.2.2) (TRec.mk v11.Tx (IntKind.wrap .i64 (s6.2.1 + 1)) v11.Req v11.State v11.Shares)).set (Int.toNat s6.2.2) (TRec.mk v13.Tx v13.Client (IntKind.wrap .i64 ((IntKind.wrap .i64 (s6.2.1 + 1)) + 1)) v13.State v13.Shares)).set (Int.toNat s6.2.2) (TRec.mk v15.Tx v15.Client v15.Req (IntKind.wrap .i64 ((IntKind.wrap .i64 ((IntKind.wrap .i64 (s6.2.1 + 1)) + 1)) + 1)) v15.Shares)).set (Int.toNat s6.2.2) (TRec.mk v17.Tx v17.Client v17.Req v17.State v19.2), v19.1, (IntKind.wrap .i64 (s6.2.2 + 1))), H, (wk_mkG [] (SL.cons (eR rfl) rfl (VWk.one (CWk.len (by first | (simp; done) | (simp; omega) | omega))) (kR rfl rfl (kR rfl rfl SL.nil))) (BL.keep rfl (BL.keep rfl BL.nil)) (BK.cons rfl bZ rfl rfl BK.nil) (GK.cons rfl GK.nil))⟩)))))))))))
  ·exact AW.condF eZ (decide_eq_false h8) (AW.exit (TQ.qe (TQ.qe (BQ.qe (TQ.qn ⟨(s6.1, s6.2.1), H, (wk_mkG [] (kR rfl rfl SL.nil) (BL.keep rfl BL.nil) (BK.cons rfl bZ rfl rfl BK.nil) (GK.cons rfl GK.nil))⟩)))))
theorem c_laws_markIntS {a1 : (List Int)} {a2 : Int} {r : (Int × (List Int))} (H : m_laws_markIntS a1 a2 = some r) : Fn Try.prog k_laws_markIntS [⟨(.sl 1 (List.map d_i64 a1)), .m (.sl 1 (List.map d_i64 r.2))⟩, ⟨(.int .i64 a2), .b⟩] true [(.int .i64 r.1)] := by
 refine i_laws_markIntS_fnM (fle rfl) (fC nZ rfl fN) rfl ?_
 rw [initM_mk]
 refine AW.weaken (t := mk [(0, (.one (.sl 0 0 a1.length))), (1, (oI a2))] [(0, (.data 1 (List.map d_i64 a1) true none))] (lk [(0, (.one (.sl 0 0 ((List.map d_i64 a1).length))))])) (wk_mkG (gl := [(0, (.one (.sl 0 0 ((List.map d_i64 a1).length))))]) [] (SL.cons (v := (.one (.sl 0 0 a1.length))) eZ rfl (VWk.one (CWk.len (List.length_map _))) (kv 1 (oI a2) rfl rfl SL.nil)) (BL.keep rfl BL.nil) (BK.cons (n := 0) rfl bZ rfl rfl BK.nil) (GK.cons rfl GK.nil)) ?_
 unfold m_laws_markIntS at H
 unfold i_laws_markIntS
 refine aV (oMov eC (xQ (AW.seqJ (fun t3 : ((List Int) × Int) => (laws_markIntS_j3 a1) t3 = some r) (fun t3 => mk [(1, (oI t3.2))] [(0, (.data 1 (List.map d_i64 t3.1) true none))] (lk [(0, (.one (.sl 0 0 ((List.map d_i64 a1).length))))])) ?_ ?_)))
 ·intro t3 H
  unfold laws_markIntS_j3 at H
  refine aV (oMov eZ (oMov eZ (xQ (AW.ret ?_))))
  obtain ⟨h5, H⟩ := oguard H
  cases H
  exact endsRM (RL.cons (RV.tmp eZ) (VO.flat rfl) RL.nil) (ML.mut eZ (VO.sl bZ (by first | (simp; done) | (simp; omega) | omega) (allFlat fun _ => rfl)) (ML.lent ML.nil)) (by decide)
 ·refine aV (oMov eC (xQ (AW.block (AW.iter (fun s6 : ((List Int) × Int × Int) => mk [(0, (.one (.sl 0 0 s6.1.length))), (1, (oI s6.2.1)), (5, (oI s6.2.2))] [(0, (.data 1 (List.map d_i64 s6.1) true none))] (lk [(0, (.one (.sl 0 0 ((List.map d_i64 a1).length))))])) H (wk_mkG [] (kR rfl rfl (kR rfl rfl (kR rfl rfl SL.nil))) (BL.keep rfl BL.nil) (BK.cons rfl bZ rfl rfl BK.nil) (GK.cons rfl GK.nil)) ?_))))
  intro kb7 s6 H
  unfold laws_markIntS_b6 at H
  refine aS (aV (oMov (eR rfl) (oMov (eR rfl) (oLenN eZ (oLss (eR rfl) eZ (xQ ?_))))))
  rcases oite H with ⟨h8, H⟩ | ⟨h8, H⟩
  ·refine AW.condT eZ (decide_eq_true h8) (AW.skip (TQ.qn (aS (AW.block (aV (oMov (eR rfl) (oMov (eR rfl) (oMov (eR rfl) ?_))))))))
   obtain ⟨v9, h10, H⟩ := obind H
   exact oAtN (eR rfl) (eR rfl) bZ rfl h10 (oStoreD (t := v9) (t' := s6.2.1) (es := [(.int .i64 s6.2.1)]) eZ (eR rfl) rfl rfl bZ (idx_at h10) rfl rfl (xQ (aR (oMov (eR rfl) (oAdd eZ eC (oMov eZ (xNil (BQ.qn (TQ.qn (aR (oMov (eR rfl) (oAdd eZ eC (oMov eZ (xNil (TQ.qn ⟨(s6.1.set (Int.toNat s6.2.2) s6.2.1, (IntKind.wrap .i64 (s6.2.1 + 1)), (IntKind.wrap .i64 (s6.2.2 + 1))), H, (wk_mkG [] (SL.cons (eR rfl) rfl (VWk.one (CWk.len (by first | (simp; done) | (simp; omega) | omega))) (kR rfl rfl (kR rfl rfl SL.nil))) (BL.keep rfl (BL.keep rfl BL.nil)) (BK.cons rfl bZ rfl rfl BK.nil) (GK.cons rfl GK.nil))⟩)))))))))))))))
  ·exact AW.condF eZ (decide_eq_false h8) (AW.exit (TQ.qe (TQ.qe (BQ.qe (TQ.qn ⟨(s6.1, s6.2.1), H, (wk_mkG [] (kR rfl rfl SL.nil) (BL.keep rfl BL.nil) (BK.cons rfl bZ rfl rfl BK.nil) (GK.cons rfl GK.nil))⟩)))))
theorem c_laws_markCoord {a1 : TCoord} {a2 : Int} {r : (Int × TCoord)} (H : m_laws_markCoord a1 a2 = some r) : Fn Try.prog k_laws_markCoord [⟨(.agg (d_TCoord a1)), .m (.agg (d_TCoord r.2))⟩, ⟨(.int .i64 a2), .b⟩] true [(.int .i64 r.1)] := by
 refine i_laws_markCoord_fnM (fle rfl) (fC nZ rfl (fC nZ rfl fN)) rfl ?_
 rw [initM_mk]
 refine AW.weaken (t := mk [(0, (.agg [(.sl 0 0 a1.Recs.length), (.sl 1 0 a1.Order.length)])), (1, (oI a2))] [(1, (.data 1 (List.map d_i64 a1.Order) true none)), (0, (.data 5 (List.map d_TRec a1.Recs) true none))] (lk [(0, (.agg [(.sl 0 0 ((List.map d_TRec a1.Recs).length)), (.sl 1 0 ((List.map d_i64 a1.Order).length))]))])) (wk_mkG (gl := [(0, (.agg [(.sl 0 0 ((List.map d_TRec a1.Recs).length)), (.sl 1 0 ((List.map d_i64 a1.Order).length))]))]) [] (SL.cons (v := (.agg [(.sl 0 0 a1.Recs.length), (.sl 1 0 a1.Order.length)])) eZ rfl (VWk.agg (CsWk.cons (CWk.len (List.length_map _)) (CsWk.cons (CWk.len (List.length_map _)) CsWk.nil))) (kv 1 (oI a2) rfl rfl SL.nil)) (BL.keep rfl (BL.keep rfl BL.nil)) (BK.cons (n := 1) rfl bZ rfl rfl (BK.cons (n := 0) rfl (bS rfl bZ) rfl rfl BK.nil)) (GK.cons rfl GK.nil)) ?_
 unfold m_laws_markCoord at H
 unfold i_laws_markCoord
 refine aV (oBox (n := 128) (m := 2) (cs := [(.sl 0 0 a1.Recs.length), (.sl 1 0 a1.Order.length)]) rfl eZ rfl rfl (nS rfl (nS rfl nZ)) (oMov eC (xQ (aS (AW.regm (rmOne (oFaddrN (m := 0) (eR rfl) rfl (xNil (rmOne (oLoadV (q := 0) (c := (.sl 0 0 a1.Recs.length)) eZ bZ rfl rfl (xNil (rmOne (oMov (eR rfl) (xNil ?_))))))))))))))
 obtain ⟨v3, h4, H⟩ := obind H
 obtain ⟨h5, H⟩ := oguard H
 refine rmCallI (ON := [0]) (ls := []) (G := []) (E := [subKey 0]) (MB := [(0, (.data 5 (List.map d_TRec v3.2) true none))]) (u := (oI v3.1)) eC Cl.fn (c_laws_markRecS h4) (Evs.cons (eR rfl) (Evs.cons eZ Evs.nil)) (AO.mut (VO.sln (bS rfl (bS rfl bZ)) (List.length_map _) rfl) (AO.lent VD.plain rfl AO.nil)) rfl rfl rfl (SZ.cons (bS rfl (bS rfl bZ)) SZ.nil) (erL.cons (v' := (oI a2)) rfl (erL.cons (v' := (.one (.sl 0 0 a1.Recs.length))) rfl (erL.cons (v' := (.one (.ptr (.nm 128 0 0)))) rfl (erL.cons (v' := (oI 0)) rfl (erL.cons (v' := (.one (.ptr (.nm 128 0 0)))) rfl (erL.cons (v' := (.agg [(.sl 0 0 a1.Recs.length), (.sl 1 0 a1.Order.length)])) rfl (erL.cons (v' := (oI a2)) rfl erL.nil))))))) (erH.cons (v' := (.vars 2 [(.sl 0 0 a1.Recs.length), (.sl 1 0 a1.Order.length)])) rfl rfl (erH.cons (v' := (.data 1 (List.map d_i64 a1.Order) true none)) rfl rfl (erH.cons (v' := (.data 5 (List.map d_TRec a1.Recs) true none)) rfl rfl erH.nil))) (erL.cons (v' := (.agg [(.sl 0 0 ((List.map d_TRec a1.Recs).length)), (.sl 1 0 ((List.map d_i64 a1.Order).length))])) rfl erL.nil) rfl rfl (rmRest (oMov eZ (xQ (aS (AW.regm (rmOne (oFaddrN (m := 1) (eR rfl) rfl (xNil (rmOne (oLoadV (q := 1) (c := (.sl 1 0 a1.Order.length)) eZ (bS rfl bZ) rfl rfl (xNil (rmOne (oMov (eR rfl) (xNil ?_))))))))))))))
 obtain ⟨v6, h7, H⟩ := obind H
 obtain ⟨h8, H⟩ := oguard H
 refine rmCallI (ON := [1]) (ls := []) (G := []) (E := [subKey 1]) (MB := [(1, (.data 1 (List.map d_i64 v6.2) true none))]) (u := (oI v6.1)) eC Cl.fn (c_laws_markIntS h7) (Evs.cons (eR rfl) (Evs.cons eZ Evs.nil)) (AO.mut (VO.sl (bS rfl (bS rfl bZ)) (List.length_map _) (allFlat fun _ => rfl)) (AO.lent VD.plain rfl AO.nil)) rfl rfl rfl (SZ.cons (bS rfl (bS rfl bZ)) SZ.nil) (erL.cons (v' := (oI v3.1)) rfl (erL.cons (v' := (.one (.sl 1 0 a1.Order.length))) rfl (erL.cons (v' := (.one (.ptr (.nm 128 0 1)))) rfl (erL.cons (v' := (oI v3.1)) rfl (erL.cons (v' := (oI v3.1)) rfl (erL.cons (v' := (oI a2)) rfl (erL.cons (v' := (.one (.sl 0 0 a1.Recs.length))) rfl (erL.cons (v' := (.one (.ptr (.nm 128 0 0)))) rfl (erL.cons (v' := (oI 0)) rfl (erL.cons (v' := (.one (.ptr (.nm 128 0 0)))) rfl (erL.cons (v' := (.agg [(.sl 0 0 a1.Recs.length), (.sl 1 0 a1.Order.length)])) rfl (erL.cons (v' := (oI a2)) rfl erL.nil)))))))))))) (erH.cons (v' := (.data 5 (List.map d_TRec v3.2) true none)) rfl rfl (erH.cons (v' := (.vars 2 [(.sl 0 0 a1.Recs.length), (.sl 1 0 a1.Order.length)])) rfl rfl (erH.cons (v' := (.data 1 (List.map d_i64 a1.Order) true none)) rfl rfl (erH.cons (v' := (.data 5 (List.map d_TRec a1.Recs) true none)) rfl rfl erH.nil)))) (erL.cons (v' := (.agg [(.sl 0 0 ((List.map d_TRec a1.Recs).length)), (.sl 1 0 ((List.map d_i64 a1.Order).length))])) rfl erL.nil) rfl rfl (rmRest (oMov eZ (xQ (aV (oMov eZ (oMov eZ (xQ (AW.weaken (wk_mkG [128] (kr 4 rfl rfl SL.nil) (BL.keep rfl (BL.keep rfl (BL.drop rfl (BL.keep rfl (BL.keep rfl BL.nil))))) (BK.cons (n := 1) rfl bZ rfl rfl (BK.cons (n := 0) rfl (bS rfl bZ) rfl rfl BK.nil)) (GK.cons rfl GK.nil)) (AW.ret ?_)))))))))
 obtain ⟨h9, H⟩ := oguard H
 obtain ⟨h10, H⟩ := oguard H
 cases H
 exact endsRM (RL.cons (RV.tmp eZ) (VO.flat rfl) RL.nil) (ML.mut eZ (VO.aggs (VOs.cons (VO.sln (bS rfl bZ) (by first | (simp; done) | (simp; omega) | omega) rfl) (VOs.cons (VO.sl bZ (by first | (simp; done) | (simp; omega) | omega) (allFlat fun _ => rfl)) VOs.nil))) (ML.lent ML.nil)) (by decide)
theorem c_laws_heldRangeS {a1 : (List TRange)} {a2 : Int} {r : Int} (H : m_laws_heldRangeS a1 a2 = some r) : Fn Try.prog k_laws_heldRangeS (lent [(.sl 2 (List.map d_TRange a1)), (.int .i64 a2)]) true [(.int .i64 r)] := by
 refine i_laws_heldRangeS_fn (fle rfl) ?_
 rw [init_mk]
 refine AW.weaken (wk_mk [] (kv 0 (.one (.d (.sl 2 (List.map d_TRange a1)))) rfl rfl (kv 1 (oI a2) rfl rfl SL.nil)) BL.nil BK.nil) ?_
 unfold m_laws_heldRangeS at H
 unfold i_laws_heldRangeS
 refine aV (oMov eC (xQ (AW.seqJ (fun t3 : Int => laws_heldRangeS_j3 t3 = some r) (fun t3 => mk [(1, (oI t3))] [] noG) ?_ ?_)))
 ·intro t3 H
  unfold laws_heldRangeS_j3 at H
  refine aV (oMov eZ (oMov eZ (xQ (AW.ret ?_))))
  cases H
  exact eE rfl rfl
 ·refine aV (oMov eC (xQ (AW.block (AW.iter (fun s5 : (Int × Int) => mk [(0, (.one (.d (.sl 2 (List.map d_TRange a1))))), (1, (oI s5.1)), (5, (oI s5.2))] [] noG) H (wk_mk [] (kR rfl rfl (kR rfl rfl (kR rfl rfl SL.nil))) BL.nil BK.nil) ?_))))
  intro kb6 s5 H
  unfold laws_heldRangeS_b5 at H
  refine aS (aV (oMov (eR rfl) (oMov (eR rfl) (oLenD eZ (n := a1.length) (List.length_map _) (oLss (eR rfl) eZ (xQ ?_))))))
  rcases oite H with ⟨h7, H⟩ | ⟨h7, H⟩
  ·refine AW.condT eZ (decide_eq_true h7) (AW.skip (TQ.qn (aS (AW.block (aS (aV (oMov (eR rfl) (oMov (eR rfl) ?_))))))))
   obtain ⟨v8, h9, H⟩ := obind H
   refine oAtD (eR rfl) eZ h9 (oFaddrB (m := 0) eZ rfl (oLoadB (e := (.int .i64 v8.Lo)) eZ rfl (oMov (eR rfl) (oNeq (eR rfl) eZ (xQ ?_)))))
   rcases oite H with ⟨h10, H⟩ | ⟨h10, H⟩
   ·refine AW.condT eZ (decide_eq_true h10) (aV (oMov eC (xQ (AW.ret (TQ.qr (BQ.qr (TQ.qr (TQ.qr (BQ.qr (TQ.qr ?_))))))))))
    cases H
    exact eE rfl rfl
   ·refine AW.condF eZ (decide_eq_false h10) (AW.skip (TQ.qn (aV (oMov (eR rfl) (oAdd eZ eC (oMov eZ (xQ (AW.weaken (wk_mk [] (kr 1 rfl rfl (kr 0 rfl rfl (kr 5 rfl rfl SL.nil))) BL.nil BK.nil) (aS (aV (oMov (eR rfl) (oMov (eR rfl) ?_))))))))))))
    obtain ⟨v11, h12, H⟩ := obind H
    refine oAtD (eR rfl) eZ h12 (oFaddrB (m := 1) eZ rfl (oLoadB (e := (.int .i64 v11.Hi)) eZ rfl (oMov (eR rfl) (oNeq (eR rfl) eZ (xQ ?_)))))
    rcases oite H with ⟨h13, H⟩ | ⟨h13, H⟩
    ·refine AW.condT eZ (decide_eq_true h13) (aV (oMov eC (xQ (AW.ret (TQ.qr (BQ.qr (TQ.qr (TQ.qr (BQ.qr (TQ.qr ?_))))))))))
     cases H
     exact eE rfl rfl
    ·exact AW.condF eZ (decide_eq_false h13) (AW.skip (TQ.qn (aR (oMov (eR rfl) (oAdd eZ eC (oMov eZ (xNil (BQ.qn (TQ.qn (aR (oMov (eR rfl) (oAdd eZ eC (oMov eZ (xNil (TQ.qn ⟨((IntKind.wrap .i64 ((IntKind.wrap .i64 (s5.1 + 1)) + 1)), (IntKind.wrap .i64 (s5.2 + 1))), H, (wk_mk [] (kR rfl rfl (kR rfl rfl (kR rfl rfl SL.nil))) BL.nil BK.nil)⟩)))))))))))))))
  ·exact AW.condF eZ (decide_eq_false h7) (AW.exit (TQ.qe (TQ.qe (BQ.qe (TQ.qn ⟨s5.1, H, (wk_mk [] (kR rfl rfl SL.nil) BL.nil BK.nil)⟩)))))
theorem c_laws_heldWriteS {a1 : (List TCell)} {a2 : Int} {r : Int} (H : m_laws_heldWriteS a1 a2 = some r) : Fn Try.prog k_laws_heldWriteS (lent [(.sl 2 (List.map d_TCell a1)), (.int .i64 a2)]) true [(.int .i64 r)] := by
 refine i_laws_heldWriteS_fn (fle rfl) ?_
 rw [init_mk]
 refine AW.weaken (wk_mk [] (kv 0 (.one (.d (.sl 2 (List.map d_TCell a1)))) rfl rfl (kv 1 (oI a2) rfl rfl SL.nil)) BL.nil BK.nil) ?_
 unfold m_laws_heldWriteS at H
 unfold i_laws_heldWriteS
 refine aV (oMov eC (xQ (AW.seqJ (fun t3 : Int => laws_heldWriteS_j3 t3 = some r) (fun t3 => mk [(1, (oI t3))] [] noG) ?_ ?_)))
 ·intro t3 H
  unfold laws_heldWriteS_j3 at H
  refine aV (oMov eZ (oMov eZ (xQ (AW.ret ?_))))
  cases H
  exact eE rfl rfl
 ·refine aV (oMov eC (xQ (AW.block (AW.iter (fun s5 : (Int × Int) => mk [(0, (.one (.d (.sl 2 (List.map d_TCell a1))))), (1, (oI s5.1)), (5, (oI s5.2))] [] noG) H (wk_mk [] (kR rfl rfl (kR rfl rfl (kR rfl rfl SL.nil))) BL.nil BK.nil) ?_))))
  intro kb6 s5 H
  unfold laws_heldWriteS_b5 at H
  refine aS (aV (oMov (eR rfl) (oMov (eR rfl) (oLenD eZ (n := a1.length) (List.length_map _) (oLss (eR rfl) eZ (xQ ?_))))))
  rcases oite H with ⟨h7, H⟩ | ⟨h7, H⟩
  ·refine AW.condT eZ (decide_eq_true h7) (AW.skip (TQ.qn (aS (AW.block (aS (aV (oMov (eR rfl) (oMov (eR rfl) ?_))))))))
   obtain ⟨v8, h9, H⟩ := obind H
   refine oAtD (eR rfl) eZ h9 (oFaddrB (m := 0) eZ rfl (oLoadB (e := (.int .i64 v8.Key)) eZ rfl (oMov (eR rfl) (oNeq (eR rfl) eZ (xQ ?_)))))
   rcases oite H with ⟨h10, H⟩ | ⟨h10, H⟩
   ·refine AW.condT eZ (decide_eq_true h10) (aV (oMov eC (xQ (AW.ret (TQ.qr (BQ.qr (TQ.qr (TQ.qr (BQ.qr (TQ.qr ?_))))))))))
    cases H
    exact eE rfl rfl
   ·refine AW.condF eZ (decide_eq_false h10) (AW.skip (TQ.qn (aV (oMov (eR rfl) (oAdd eZ eC (oMov eZ (xQ (AW.weaken (wk_mk [] (kr 1 rfl rfl (kr 0 rfl rfl (kr 5 rfl rfl SL.nil))) BL.nil BK.nil) (aS (aV (oMov (eR rfl) (oMov (eR rfl) ?_))))))))))))
    obtain ⟨v11, h12, H⟩ := obind H
    refine oAtD (eR rfl) eZ h12 (oFaddrB (m := 1) eZ rfl (oLoadB (e := (.int .i64 v11.Value)) eZ rfl (oMov (eR rfl) (oNeq (eR rfl) eZ (xQ ?_)))))
    rcases oite H with ⟨h13, H⟩ | ⟨h13, H⟩
    ·refine AW.condT eZ (decide_eq_true h13) (aV (oMov eC (xQ (AW.ret (TQ.qr (BQ.qr (TQ.qr (TQ.qr (BQ.qr (TQ.qr ?_))))))))))
     cases H
     exact eE rfl rfl
    ·exact AW.condF eZ (decide_eq_false h13) (AW.skip (TQ.qn (aR (oMov (eR rfl) (oAdd eZ eC (oMov eZ (xNil (BQ.qn (TQ.qn (aR (oMov (eR rfl) (oAdd eZ eC (oMov eZ (xNil (TQ.qn ⟨((IntKind.wrap .i64 ((IntKind.wrap .i64 (s5.1 + 1)) + 1)), (IntKind.wrap .i64 (s5.2 + 1))), H, (wk_mk [] (kR rfl rfl (kR rfl rfl (kR rfl rfl SL.nil))) BL.nil BK.nil)⟩)))))))))))))))
  ·exact AW.condF eZ (decide_eq_false h7) (AW.exit (TQ.qe (TQ.qe (BQ.qe (TQ.qn ⟨s5.1, H, (wk_mk [] (kR rfl rfl SL.nil) BL.nil BK.nil)⟩)))))
theorem c_laws_heldShareS {a1 : (List TShare)} {a2 : Int} {r : Int} (H : m_laws_heldShareS a1 a2 = some r) : Fn Try.prog k_laws_heldShareS (lent [(.sl 4 (List.map d_TShare a1)), (.int .i64 a2)]) true [(.int .i64 r)] := by
 refine i_laws_heldShareS_fn (fle rfl) ?_
 rw [init_mk]
 refine AW.weaken (wk_mk [] (kv 0 (.one (.d (.sl 4 (List.map d_TShare a1)))) rfl rfl (kv 1 (oI a2) rfl rfl SL.nil)) BL.nil BK.nil) ?_
 unfold m_laws_heldShareS at H
 unfold i_laws_heldShareS
 refine aV (oMov eC (xQ (AW.seqJ (fun t3 : Int => laws_heldShareS_j3 t3 = some r) (fun t3 => mk [(1, (oI t3))] [] noG) ?_ ?_)))
 ·intro t3 H
  unfold laws_heldShareS_j3 at H
  refine aV (oMov eZ (oMov eZ (xQ (AW.ret ?_))))
  cases H
  exact eE rfl rfl
 ·refine aV (oMov eC (xQ (AW.block (AW.iter (fun s5 : (Int × Int) => mk [(0, (.one (.d (.sl 4 (List.map d_TShare a1))))), (1, (oI s5.1)), (5, (oI s5.2))] [] noG) H (wk_mk [] (kR rfl rfl (kR rfl rfl (kR rfl rfl SL.nil))) BL.nil BK.nil) ?_))))
  intro kb6 s5 H
  unfold laws_heldShareS_b5 at H
  refine aS (aV (oMov (eR rfl) (oMov (eR rfl) (oLenD eZ (n := a1.length) (List.length_map _) (oLss (eR rfl) eZ (xQ ?_))))))
  rcases oite H with ⟨h7, H⟩ | ⟨h7, H⟩
  ·refine AW.condT eZ (decide_eq_true h7) (AW.skip (TQ.qn (aS (AW.block (aS (aV (oMov (eR rfl) (oMov (eR rfl) ?_))))))))
   obtain ⟨v8, h9, H⟩ := obind H
   refine oAtD (eR rfl) eZ h9 (oFaddrB (m := 0) eZ rfl (oLoadB (e := (.int .i64 v8.Group)) eZ rfl (oMov (eR rfl) (oNeq (eR rfl) eZ (xQ ?_)))))
   rcases oite H with ⟨h10, H⟩ | ⟨h10, H⟩
   ·refine AW.condT eZ (decide_eq_true h10) (aV (oMov eC (xQ (AW.ret (TQ.qr (BQ.qr (TQ.qr (TQ.qr (BQ.qr (TQ.qr ?_))))))))))
    cases H
    exact eE rfl rfl
   ·refine AW.condF eZ (decide_eq_false h10) (AW.skip (TQ.qn (aV (oMov (eR rfl) (oAdd eZ eC (oMov eZ (xQ (AW.weaken (wk_mk [] (kr 1 rfl rfl (kr 0 rfl rfl (kr 5 rfl rfl SL.nil))) BL.nil BK.nil) (aV (oMov (eR rfl) (oMov (eR rfl) ?_)))))))))))
    obtain ⟨v11, h12, H⟩ := obind H
    refine oAtD (eR rfl) eZ h12 (oFaddrB (m := 1) eZ rfl (oLoadB (e := (.sl 2 (List.map d_TRange v11.Reads))) eZ rfl (oMov (eR rfl) ?_)))
    obtain ⟨v13, h14, H⟩ := obind H
    refine oCall (u := (oI v13)) eC Cl.fn (c_laws_heldRangeS h14) (Evs.cons (eR rfl) (Evs.cons eZ Evs.nil)) (VDs.cons VD.plain (VDs.cons VD.plain VDs.nil)) rfl (oMov eZ (xQ (aS (aV (oMov eZ (oLss eZ eC (xQ ?_)))))))
    rcases oite H with ⟨h15, H⟩ | ⟨h15, H⟩
    ·refine AW.condT eZ (decide_eq_true h15) (aV (oMov eC (xQ (AW.ret (TQ.qr (BQ.qr (TQ.qr (TQ.qr (BQ.qr (TQ.qr ?_))))))))))
     cases H
     exact eE rfl rfl
    ·refine AW.condF eZ (decide_eq_false h15) (AW.skip (TQ.qn (aV (oMov (eR rfl) (oMov (eR rfl) ?_)))))
     obtain ⟨v16, h17, H⟩ := obind H
     refine oAtD (eR rfl) eZ h17 (oFaddrB (m := 2) eZ rfl (oLoadB (e := (.sl 2 (List.map d_TCell v16.Writes))) eZ rfl (oMov (eR rfl) ?_)))
     obtain ⟨v18, h19, H⟩ := obind H
     refine oCall (u := (oI v18)) eC Cl.fn (c_laws_heldWriteS h19) (Evs.cons (eR rfl) (Evs.cons eZ Evs.nil)) (VDs.cons VD.plain (VDs.cons VD.plain VDs.nil)) rfl (oMov eZ (xQ (AW.weaken (wk_mk [] (kr 1 rfl rfl (kr 0 rfl rfl (kr 5 rfl rfl SL.nil))) BL.nil BK.nil) (aS (aV (oMov eZ (oLss eZ eC (xQ ?_))))))))
     rcases oite H with ⟨h20, H⟩ | ⟨h20, H⟩
     ·refine AW.condT eZ (decide_eq_true h20) (aV (oMov eC (xQ (AW.ret (TQ.qr (BQ.qr (TQ.qr (TQ.qr (BQ.qr (TQ.qr ?_))))))))))
      cases H
      exact eE rfl rfl
     ·refine AW.condF eZ (decide_eq_false h20) (AW.skip (TQ.qn (aS (aV (oMov (eR rfl) (oMov (eR rfl) ?_))))))
      obtain ⟨v21, h22, H⟩ := obind H
      refine oAtD (eR rfl) eZ h22 (oFaddrB (m := 3) eZ rfl (oLoadB (e := (.int .i64 v21.Vote)) eZ rfl (oMov (eR rfl) (oNeq (eR rfl) eZ (xQ ?_)))))
      rcases oite H with ⟨h23, H⟩ | ⟨h23, H⟩
      ·refine AW.condT eZ (decide_eq_true h23) (aV (oMov eC (xQ (AW.ret (TQ.qr (BQ.qr (TQ.qr (TQ.qr (BQ.qr (TQ.qr ?_))))))))))
       cases H
       exact eE rfl rfl
      ·exact AW.condF eZ (decide_eq_false h23) (AW.skip (TQ.qn (aR (oMov (eR rfl) (oAdd eZ eC (oMov eZ (xNil (BQ.qn (TQ.qn (aR (oMov (eR rfl) (oAdd eZ eC (oMov eZ (xNil (TQ.qn ⟨((IntKind.wrap .i64 (v18 + 1)), (IntKind.wrap .i64 (s5.2 + 1))), H, (wk_mk [] (kR rfl rfl (kR rfl rfl (kR rfl rfl SL.nil))) BL.nil BK.nil)⟩)))))))))))))))
  ·exact AW.condF eZ (decide_eq_false h7) (AW.exit (TQ.qe (TQ.qe (BQ.qe (TQ.qn ⟨s5.1, H, (wk_mk [] (kR rfl rfl SL.nil) BL.nil BK.nil)⟩)))))
end Go.AW
