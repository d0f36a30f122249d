/- That functions of the program compute what the plain functions say: printed by a program of the prover's own (tool/dec.py). Conditions: each theorem's own. -/
import Derived.Test.YtfmjgpdjjkjcaaaMCoordBegin
import Derived.Test.YtfmjgpdjjkjcaaaGCoordBegin
import Derived.Test.YtfmjgpdjjkjcaaaDCoordBegina
import Derived.Test.YtfmjgpdjjkjcaaaDCoordBeginb
set_option linter.unusedVariables false
set_option linter.unusedSimpArgs false
set_option maxRecDepth 100000
namespace Go.AW
open Go.Proofs
theorem c_laws_heldRecS {a1 : (List TRec)} {a2 : Int} {r : Int} (H : m_laws_heldRecS a1 a2 = some r) : Fn Try.prog k_laws_heldRecS (lent [(.sl 5 (List.map d_TRec a1)), (.int .i64 a2)]) true [(.int .i64 r)] := by
 refine i_laws_heldRecS_fn (fle rfl) ?_
 rw [init_mk]
 refine AW.weaken (wk_mk [] (kv 0 (.one (.d (.sl 5 (List.map d_TRec a1)))) rfl rfl (kv 1 (oI a2) rfl rfl SL.nil)) BL.nil BK.nil) ?_
 unfold m_laws_heldRecS at H
 unfold i_laws_heldRecS
 refine aV (oMov eC (xQ (AW.seqJ (fun t3 : Int => laws_heldRecS_j3 t3 = some r) (fun t3 => mk [(1, (oI t3))] [] noG) ?_ ?_)))
 ·intro t3 H
  unfold laws_heldRecS_j3 at H
  refine aV (oMov eZ (oMov eZ (xQ (AW.ret ?_))))
  cases H
  exact eE rfl rfl
 ·refine aV (oMov eC (xQ (AW.block (AW.iter (fun s5 : (Int × Int) => mk [(0, (.one (.d (.sl 5 (List.map d_TRec a1))))), (1, (oI s5.1)), (5, (oI s5.2))] [] noG) H (wk_mk [] (kR rfl rfl (kR rfl rfl (kR rfl rfl SL.nil))) BL.nil BK.nil) ?_))))
  intro kb6 s5 H
  unfold laws_heldRecS_b5 at H
  refine aS (aV (oMov (eR rfl) (oMov (eR rfl) (oLenD eZ (n := a1.length) (List.length_map _) (oLss (eR rfl) eZ (xQ ?_))))))
  rcases oite H with ⟨h7, H⟩ | ⟨h7, H⟩
  ·refine AW.condT eZ (decide_eq_true h7) (AW.skip (TQ.qn (aS (AW.block (aS (aV (oMov (eR rfl) (oMov (eR rfl) ?_))))))))
   obtain ⟨v8, h9, H⟩ := obind H
   refine oAtD (eR rfl) eZ h9 (oFaddrB (m := 0) eZ rfl (oLoadB (e := (.int .i64 v8.Tx)) eZ rfl (oMov (eR rfl) (oNeq (eR rfl) eZ (xQ ?_)))))
   rcases oite H with ⟨h10, H⟩ | ⟨h10, H⟩
   ·refine AW.condT eZ (decide_eq_true h10) (aV (oMov eC (xQ (AW.ret (TQ.qr (BQ.qr (TQ.qr (TQ.qr (BQ.qr (TQ.qr ?_))))))))))
    cases H
    exact eE rfl rfl
   ·refine AW.condF eZ (decide_eq_false h10) (AW.skip (TQ.qn (aV (oMov (eR rfl) (oAdd eZ eC (oMov eZ (xQ (AW.weaken (wk_mk [] (kr 1 rfl rfl (kr 0 rfl rfl (kr 5 rfl rfl SL.nil))) BL.nil BK.nil) (aS (aV (oMov (eR rfl) (oMov (eR rfl) ?_))))))))))))
    obtain ⟨v11, h12, H⟩ := obind H
    refine oAtD (eR rfl) eZ h12 (oFaddrB (m := 1) eZ rfl (oLoadB (e := (.int .i64 v11.Client)) eZ rfl (oMov (eR rfl) (oNeq (eR rfl) eZ (xQ ?_)))))
    rcases oite H with ⟨h13, H⟩ | ⟨h13, H⟩
    ·refine AW.condT eZ (decide_eq_true h13) (aV (oMov eC (xQ (AW.ret (TQ.qr (BQ.qr (TQ.qr (TQ.qr (BQ.qr (TQ.qr ?_))))))))))
     cases H
     exact eE rfl rfl
    ·refine AW.condF eZ (decide_eq_false h13) (AW.skip (TQ.qn (aV (oMov (eR rfl) (oAdd eZ eC (oMov eZ (xQ (aS (aV (oMov (eR rfl) (oMov (eR rfl) ?_)))))))))))
     obtain ⟨v14, h15, H⟩ := obind H
     refine oAtD (eR rfl) eZ h15 (oFaddrB (m := 2) eZ rfl (oLoadB (e := (.int .i64 v14.Req)) eZ rfl (oMov (eR rfl) (oNeq (eR rfl) eZ (xQ (AW.weaken (wk_mk [] (kr 36 rfl rfl (kr 1 rfl rfl (kr 0 rfl rfl (kr 5 rfl rfl SL.nil)))) BL.nil BK.nil) ?_))))))
     rcases oite H with ⟨h16, H⟩ | ⟨h16, H⟩
     ·refine AW.condT eZ (decide_eq_true h16) (aV (oMov eC (xQ (AW.ret (TQ.qr (BQ.qr (TQ.qr (TQ.qr (BQ.qr (TQ.qr ?_))))))))))
      cases H
      exact eE rfl rfl
     ·refine AW.condF eZ (decide_eq_false h16) (AW.skip (TQ.qn (aV (oMov (eR rfl) (oAdd eZ eC (oMov eZ (xQ (aS (aV (oMov (eR rfl) (oMov (eR rfl) ?_)))))))))))
      obtain ⟨v17, h18, H⟩ := obind H
      refine oAtD (eR rfl) eZ h18 (oFaddrB (m := 3) eZ rfl (oLoadB (e := (.int .i64 v17.State)) eZ rfl (oMov (eR rfl) (oNeq (eR rfl) eZ (xQ ?_)))))
      rcases oite H with ⟨h19, H⟩ | ⟨h19, H⟩
      ·refine AW.condT eZ (decide_eq_true h19) (aV (oMov eC (xQ (AW.ret (TQ.qr (BQ.qr (TQ.qr (TQ.qr (BQ.qr (TQ.qr ?_))))))))))
       cases H
       exact eE rfl rfl
      ·refine AW.condF eZ (decide_eq_false h19) (AW.skip (TQ.qn (aV (oMov (eR rfl) (oAdd eZ eC (oMov eZ (xQ (AW.weaken (wk_mk [] (kr 1 rfl rfl (kr 0 rfl rfl (kr 5 rfl rfl SL.nil))) BL.nil BK.nil) (aV (oMov (eR rfl) (oMov (eR rfl) ?_)))))))))))
       obtain ⟨v20, h21, H⟩ := obind H
       refine oAtD (eR rfl) eZ h21 (oFaddrB (m := 4) eZ rfl (oLoadB (e := (.sl 4 (List.map d_TShare v20.Shares))) eZ rfl (oMov (eR rfl) ?_)))
       obtain ⟨v22, h23, H⟩ := obind H
       refine oCall (u := (oI v22)) eC Cl.fn (c_laws_heldShareS h23) (Evs.cons (eR rfl) (Evs.cons eZ Evs.nil)) (VDs.cons VD.plain (VDs.cons VD.plain VDs.nil)) rfl (oMov eZ (xQ (aV (oMov eZ (oLss eZ eC (xQ ?_))))))
       rcases oite H with ⟨h24, H⟩ | ⟨h24, H⟩
       ·refine AW.condT eZ (decide_eq_true h24) (aV (oMov eC (xQ (AW.ret (BQ.qr (TQ.qr (TQ.qr (BQ.qr (TQ.qr ?_)))))))))
        cases H
        exact eE rfl rfl
       ·exact AW.condF eZ (decide_eq_false h24) (AW.skip (BQ.qn (TQ.qn (aR (oMov (eR rfl) (oAdd eZ eC (oMov eZ (xNil (TQ.qn ⟨(v22, (IntKind.wrap .i64 (s5.2 + 1))), H, (wk_mk [] (kR rfl rfl (kR rfl rfl (kR rfl rfl SL.nil))) BL.nil BK.nil)⟩)))))))))
  ·exact AW.condF eZ (decide_eq_false h7) (AW.exit (TQ.qe (TQ.qe (BQ.qe (TQ.qn ⟨s5.1, H, (wk_mk [] (kR rfl rfl SL.nil) BL.nil BK.nil)⟩)))))
theorem c_laws_heldIntS {a1 : (List Int)} {a2 : Int} {r : Int} (H : m_laws_heldIntS a1 a2 = some r) : Fn Try.prog k_laws_heldIntS (lent [(.sl 1 (List.map d_i64 a1)), (.int .i64 a2)]) true [(.int .i64 r)] := by
 refine i_laws_heldIntS_fn (fle rfl) ?_
 rw [init_mk]
 refine AW.weaken (wk_mk [] (kv 0 (.one (.d (.sl 1 (List.map d_i64 a1)))) rfl rfl (kv 1 (oI a2) rfl rfl SL.nil)) BL.nil BK.nil) ?_
 unfold m_laws_heldIntS at H
 unfold i_laws_heldIntS
 refine aV (oMov eC (xQ (AW.seqJ (fun t3 : Int => laws_heldIntS_j3 t3 = some r) (fun t3 => mk [(1, (oI t3))] [] noG) ?_ ?_)))
 ·intro t3 H
  unfold laws_heldIntS_j3 at H
  refine aV (oMov eZ (oMov eZ (xQ (AW.ret ?_))))
  cases H
  exact eE rfl rfl
 ·refine aV (oMov eC (xQ (AW.block (AW.iter (fun s5 : (Int × Int) => mk [(0, (.one (.d (.sl 1 (List.map d_i64 a1))))), (1, (oI s5.1)), (5, (oI s5.2))] [] noG) H (wk_mk [] (kR rfl rfl (kR rfl rfl (kR rfl rfl SL.nil))) BL.nil BK.nil) ?_))))
  intro kb6 s5 H
  unfold laws_heldIntS_b5 at H
  refine aS (aV (oMov (eR rfl) (oMov (eR rfl) (oLenD eZ (n := a1.length) (List.length_map _) (oLss (eR rfl) eZ (xQ ?_))))))
  rcases oite H with ⟨h7, H⟩ | ⟨h7, H⟩
  ·refine AW.condT eZ (decide_eq_true h7) (AW.skip (TQ.qn (aS (AW.block (aS (aV (oMov (eR rfl) (oMov (eR rfl) ?_))))))))
   obtain ⟨v8, h9, H⟩ := obind H
   refine oAtD (eR rfl) eZ h9 (oLoadB (e := (.int .i64 v8)) eZ rfl (oMov (eR rfl) (oNeq (eR rfl) eZ (xQ ?_))))
   rcases oite H with ⟨h10, H⟩ | ⟨h10, H⟩
   ·refine AW.condT eZ (decide_eq_true h10) (aV (oMov eC (xQ (AW.ret (TQ.qr (BQ.qr (TQ.qr (TQ.qr (BQ.qr (TQ.qr ?_))))))))))
    cases H
    exact eE rfl rfl
   ·exact AW.condF eZ (decide_eq_false h10) (AW.skip (TQ.qn (aR (oMov (eR rfl) (oAdd eZ eC (oMov eZ (xNil (BQ.qn (TQ.qn (AW.weaken (wk_mk [] (kr 1 rfl rfl (kr 0 rfl rfl (kr 5 rfl rfl SL.nil))) BL.nil BK.nil) (aR (oMov (eR rfl) (oAdd eZ eC (oMov eZ (xNil (TQ.qn ⟨((IntKind.wrap .i64 (s5.1 + 1)), (IntKind.wrap .i64 (s5.2 + 1))), H, (wk_mk [] (kR rfl rfl (kR rfl rfl (kR rfl rfl SL.nil))) BL.nil BK.nil)⟩))))))))))))))))
  ·exact AW.condF eZ (decide_eq_false h7) (AW.exit (TQ.qe (TQ.qe (BQ.qe (TQ.qn ⟨s5.1, H, (wk_mk [] (kR rfl rfl SL.nil) BL.nil BK.nil)⟩)))))
theorem c_laws_heldCoord {a1 : TCoord} {a2 : Int} {r : Int} (H : m_laws_heldCoord a1 a2 = some r) : Fn Try.prog k_laws_heldCoord (lent [(.agg (d_TCoord a1)), (.int .i64 a2)]) true [(.int .i64 r)] := by
 refine i_laws_heldCoord_fn (fle rfl) ?_
 rw [init_mk]
 refine AW.weaken (wk_mk [] (kv 0 (.agg [(.d (.sl 5 (List.map d_TRec a1.Recs))), (.d (.sl 1 (List.map d_i64 a1.Order)))]) rfl rfl (kv 1 (oI a2) rfl rfl SL.nil)) BL.nil BK.nil) ?_
 unfold m_laws_heldCoord at H
 unfold i_laws_heldCoord
 refine aV (oBox (n := 128) (m := 2) (cs := [(.d (.sl 5 (List.map d_TRec a1.Recs))), (.d (.sl 1 (List.map d_i64 a1.Order)))]) rfl eZ rfl rfl nZ (oMov eC (xQ (aV (oFaddrN (m := 0) (eR rfl) rfl (oLoadV (q := 0) (c := (.d (.sl 5 (List.map d_TRec a1.Recs)))) eZ bZ rfl rfl (oMov (eR rfl) ?_)))))))
 obtain ⟨v3, h4, H⟩ := obind H
 refine oCall (u := (oI v3)) eC Cl.fn (c_laws_heldRecS h4) (Evs.cons (eR rfl) (Evs.cons eZ Evs.nil)) (VDs.cons VD.plain (VDs.cons VD.plain VDs.nil)) rfl (oMov eZ (xQ (aS (aV (oMov eZ (oLss eZ eC (xQ ?_)))))))
 rcases oite H with ⟨h5, H⟩ | ⟨h5, H⟩
 ·refine AW.condT eZ (decide_eq_true h5) (aV (oMov eC (xQ (AW.ret (TQ.qr ?_)))))
  cases H
  exact eE rfl rfl
 ·refine AW.condF eZ (decide_eq_false h5) (AW.skip (TQ.qn (aV (oFaddrN (m := 1) (eR rfl) rfl (oLoadV (q := 1) (c := (.d (.sl 1 (List.map d_i64 a1.Order)))) eZ bZ rfl rfl (oMov (eR rfl) ?_))))))
  obtain ⟨v6, h7, H⟩ := obind H
  refine oCall (u := (oI v6)) eC Cl.fn (c_laws_heldIntS h7) (Evs.cons (eR rfl) (Evs.cons eZ Evs.nil)) (VDs.cons VD.plain (VDs.cons VD.plain VDs.nil)) rfl (oMov eZ (xQ (AW.weaken (wk_mk [128] (kr 1 rfl rfl SL.nil) (BL.drop rfl BL.nil) BK.nil) (aS (aV (oMov eZ (oLss eZ eC (xQ ?_))))))))
  rcases oite H with ⟨h8, H⟩ | ⟨h8, H⟩
  ·refine AW.condT eZ (decide_eq_true h8) (aV (oMov eC (xQ (AW.ret (TQ.qr ?_)))))
   cases H
   exact eE rfl rfl
  ·refine AW.condF eZ (decide_eq_false h8) (AW.skip (TQ.qn (aV (oMov (eR rfl) (oMov eZ (xQ (AW.ret ?_)))))))
   cases H
   exact eE rfl rfl
theorem c_laws_FnExactCoordBegin {a1 : TCoord} {a2 : Int} {a3 : Int} {r : Bool} (H : m_laws_FnExactCoordBegin a1 a2 a3 = some r) : Fn Try.prog k_laws_FnExactCoordBegin (lent [(.agg (d_TCoord a1)), (.int .i64 a2), (.int .i64 a3)]) true [(.bool r)] := by
 refine i_laws_FnExactCoordBegin_fn (fle rfl) ?_
 rw [init_mk]
 refine AW.weaken (t := mk [(0, (.agg [(.d (.sl 5 (List.map d_TRec a1.Recs))), (.d (.sl 1 (List.map d_i64 a1.Order)))])), (1, (oI a2)), (2, (oI a3))] [] (lk [])) (wk_mk [] (kv 0 (.agg [(.d (.sl 5 (List.map d_TRec a1.Recs))), (.d (.sl 1 (List.map d_i64 a1.Order)))]) rfl rfl (kv 1 (oI a2) rfl rfl (kv 2 (oI a3) rfl rfl SL.nil))) BL.nil BK.nil) ?_
 unfold m_laws_FnExactCoordBegin at H
 unfold i_laws_FnExactCoordBegin
 refine aV (oBox (n := 192) (m := 2) (cs := [(.d (.sl 5 (List.map d_TRec a1.Recs))), (.d (.sl 1 (List.map d_i64 a1.Order)))]) rfl eZ rfl rfl nZ (oMov eC (xQ (aV (oMov eC (xQ (aV (oLoadVA (es := [(.d (.sl 5 (List.map d_TRec a1.Recs))), (.d (.sl 1 (List.map d_i64 a1.Order)))]) (eR rfl) bZ rfl (oMov (eR rfl) ?_)))))))))
 obtain ⟨v4, h5, H⟩ := obind H
 refine oCall (u := (oI v4)) eC Cl.fn (c_laws_szCoord h5) (Evs.cons (eR rfl) (Evs.cons eZ Evs.nil)) (VDs.cons (VD.agg rfl) (VDs.cons VD.plain VDs.nil)) rfl (oMov eZ (xQ (aS (aV (oMov eZ (oLss eZ eC (xQ ?_)))))))
 rcases oite H with ⟨h6, H⟩ | ⟨h6, H⟩
 ·refine AW.condT eZ (decide_eq_true h6) (aV (oMov eC (xQ (AW.ret (TQ.qr ?_)))))
  cases H
  exact eE rfl rfl
 ·refine AW.condF eZ (decide_eq_false h6) (AW.skip (TQ.qn (aS (AW.regm (rmOne (oLoadVA (es := [(.d (.sl 5 (List.map d_TRec a1.Recs))), (.d (.sl 1 (List.map d_i64 a1.Order)))]) (eR rfl) bZ rfl (xNil (rmOne ?_))))))))
  obtain ⟨v7, h8, H⟩ := obind H
  refine oCall (u := (.agg [(.d (.sl 5 (List.map d_TRec v7.Recs))), (.d (.sl 1 (List.map d_i64 v7.Order)))])) eC Cl.fn (c_laws_toCoord h8) (Evs.cons eZ Evs.nil) (VDs.cons (VD.agg rfl) VDs.nil) rfl (xNil (rmOne (oMov (eR rfl) (xNil (rmOne (oMov (eR rfl) (xNil (rmOne ?_))))))))
  obtain ⟨v9, h10, H⟩ := obind H
  refine oCall (u := (.tup [(.agg [(.d (.sl 5 (List.map d_TRec v9.1.Recs))), (.d (.sl 1 (List.map d_i64 v9.1.Order)))]), (oI v9.2.1), (oI v9.2.2)])) eC Cl.fn (c_spec_CoordBegin h10) (Evs.cons (eR rfl) (Evs.cons (eR rfl) (Evs.cons eZ Evs.nil))) (VDs.cons (VD.agg rfl) (VDs.cons VD.plain (VDs.cons VD.plain VDs.nil))) rfl (xNil (rmOne (oMov eZ (xNil (rmOne (oExt (v := (.agg [(.d (.sl 5 (List.map d_TRec v9.1.Recs))), (.d (.sl 1 (List.map d_i64 v9.1.Order)))])) eZ rfl (xNil (rmOne (oExt (v := (oI v9.2.1)) (eR rfl) rfl (xNil (rmOne (oExt (v := (oI v9.2.2)) (eR rfl) rfl (xNil (rmOne (oVar (n := 512) (m := 2) rfl rfl (nS rfl nZ) (xNil (rmOne (oStoreV (es := [(.d (.sl 5 (List.map d_TRec v9.1.Recs))), (.d (.sl 1 (List.map d_i64 v9.1.Order)))]) eZ (eR rfl) rfl rfl bZ rfl (xNil (rmRest (oMov (eR rfl) (oMov (eR rfl) (xQ (AW.weaken (wk_mkG [] (kr 10 rfl rfl (kr 9 rfl rfl (kr 8 rfl rfl (kr 3 rfl rfl (kr 1 rfl rfl (kr 2 rfl rfl SL.nil)))))) (BL.keep rfl (BL.keep rfl (BL.keep rfl BL.nil))) (BK.cons (n := 512) rfl bZ rfl rfl (BK.cons (n := 192) rfl (bS rfl (bS rfl bZ)) rfl rfl BK.nil)) GK.nil) (aS (AW.regm (rmOne (oLoadVA (es := [(.d (.sl 5 (List.map d_TRec a1.Recs))), (.d (.sl 1 (List.map d_i64 a1.Order)))]) (eR rfl) (bS rfl bZ) rfl (xNil (rmOne ?_))))))))))))))))))))))))))))))
  obtain ⟨v11, h12, H⟩ := obind H
  refine oCallN (u := (.agg [(.sl 2304 0 v11.Recs.length), (.sl 2305 0 v11.Order.length)])) (bs := [(2304, (.data 5 (List.map d_TRec v11.Recs) true none)), (2305, (.data 1 (List.map d_i64 v11.Order) true none))]) eC Cl.fn (c_laws_toCoord h12) (Evs.cons eZ Evs.nil) (VDs.cons (VD.agg rfl) VDs.nil) (by simp [bindR, bindV, bindVs, bindC, bindCs]) rfl (fC (nS rfl (nS rfl nZ)) rfl (fC (nS rfl (nS rfl nZ)) rfl (fC (nS rfl (nS rfl nZ)) rfl fN))) (xNil (rmOne (oVar (n := 704) (m := 2) rfl rfl (nS rfl (nS rfl (nS rfl (nS rfl nZ)))) (xNil (rmOne (oStoreV (es := [(.sl 2304 0 v11.Recs.length), (.sl 2305 0 v11.Order.length)]) eZ (eR rfl) rfl rfl bZ rfl (xNil (rmRest (xQ (aS (AW.regm (rmOne (oLoadVA (es := [(.sl 2304 0 v11.Recs.length), (.sl 2305 0 v11.Order.length)]) eZ bZ rfl (xNil (rmOne (oMov (eR rfl) (xNil (rmOne (oMov (eR rfl) (xNil (rmOne ?_)))))))))))))))))))))
  obtain ⟨v13, h14, H⟩ := obind H
  refine oCallN (u := (.tup [(.agg [(.sl 2624 0 v13.1.Recs.length), (.sl 2625 0 v13.1.Order.length)]), (oI v13.2.1), (oI v13.2.2)])) (bs := [(2624, (.data 5 (List.map d_TRec v13.1.Recs) true none)), (2625, (.data 1 (List.map d_i64 v13.1.Order) true none))]) eC Cl.fn (c_impl_CoordBegin h14) (Evs.cons (eR rfl) (Evs.cons (eR rfl) (Evs.cons eZ Evs.nil))) (VDs.cons (VD.aggs (CDs.sl (bS rfl (bS rfl (bS rfl bZ))) (List.length_map _) (CDs.sl (bS rfl (bS rfl bZ)) (List.length_map _) CDs.nil))) (VDs.cons VD.plain (VDs.cons VD.plain VDs.nil))) (by simp [bindR, bindV, bindVs, bindC, bindCs]) rfl (fC (nS rfl (nS rfl (nS rfl (nS rfl (nS rfl (nS rfl nZ)))))) rfl (fC (nS rfl (nS rfl (nS rfl (nS rfl (nS rfl (nS rfl nZ)))))) rfl (fC (nS rfl (nS rfl (nS rfl (nS rfl (nS rfl (nS rfl nZ)))))) rfl fN))) (xNil (rmOne (oMov eZ (xNil (rmOne (oExt (v := (.agg [(.sl 2624 0 v13.1.Recs.length), (.sl 2625 0 v13.1.Order.length)])) eZ rfl (xNil (rmOne (oExt (v := (oI v13.2.1)) (eR rfl) rfl (xNil (rmOne (oExt (v := (oI v13.2.2)) (eR rfl) rfl (xNil (rmOne (oVar (n := 768) (m := 2) rfl rfl (nS rfl (nS rfl (nS rfl (nS rfl (nS rfl (nS rfl (nS rfl (nS rfl nZ)))))))) (xNil (rmOne (oStoreV (es := [(.sl 2624 0 v13.1.Recs.length), (.sl 2625 0 v13.1.Order.length)]) eZ (eR rfl) rfl rfl bZ rfl (xNil (rmRest (oMov (eR rfl) (oMov (eR rfl) (xQ (AW.weaken (wk_mkG [] (kr 14 rfl rfl (kr 13 rfl rfl (kr 12 rfl rfl (kr 11 rfl rfl (kr 10 rfl rfl (kr 9 rfl rfl (kr 8 rfl rfl (kr 3 rfl rfl (kr 1 rfl rfl (kr 2 rfl rfl SL.nil)))))))))) (BL.keep rfl (BL.keep rfl (BL.keep rfl (BL.keep rfl (BL.keep rfl (BL.keep rfl (BL.keep rfl (BL.keep rfl (BL.keep rfl (BL.keep rfl BL.nil)))))))))) (BK.cons (n := 768) rfl bZ rfl rfl (BK.cons (n := 2625) rfl (bS rfl (bS rfl bZ)) rfl rfl (BK.cons (n := 2624) rfl (bS rfl (bS rfl (bS rfl bZ))) rfl rfl (BK.cons (n := 704) rfl (bS rfl (bS rfl (bS rfl (bS rfl bZ)))) rfl rfl (BK.cons (n := 2305) rfl (bS rfl (bS rfl (bS rfl (bS rfl (bS rfl (bS rfl bZ)))))) rfl rfl (BK.cons (n := 2304) rfl (bS rfl (bS rfl (bS rfl (bS rfl (bS rfl (bS rfl (bS rfl bZ))))))) rfl rfl (BK.cons (n := 512) rfl (bS rfl (bS rfl (bS rfl (bS rfl (bS rfl (bS rfl (bS rfl (bS rfl bZ)))))))) rfl rfl (BK.cons (n := 192) rfl (bS rfl (bS rfl (bS rfl (bS rfl (bS rfl (bS rfl (bS rfl (bS rfl (bS rfl bZ))))))))) rfl rfl BK.nil)))))))) GK.nil) (aS (AW.seqJ (fun t15 : Bool => (laws_FnExactCoordBegin_j15 a1 v11 v13 a2 a3 v9) t15 = some r) (fun t15 => mk [(1, (oI a2)), (2, (oI a3)), (3, (.one (.ptr (.nm 192 0 0)))), (8, (.one (.ptr (.nm 512 0 0)))), (9, (oI v9.2.1)), (10, (oI v9.2.2)), (11, (.one (.ptr (.nm 704 0 0)))), (12, (.one (.ptr (.nm 768 0 0)))), (13, (oI v13.2.1)), (14, (oI v13.2.2)), (58, (oB t15))] [(192, (.vars 2 [(.d (.sl 5 (List.map d_TRec a1.Recs))), (.d (.sl 1 (List.map d_i64 a1.Order)))])), (512, (.vars 2 [(.d (.sl 5 (List.map d_TRec v9.1.Recs))), (.d (.sl 1 (List.map d_i64 v9.1.Order)))])), (704, (.vars 2 [(.sl 2304 0 v11.Recs.length), (.sl 2305 0 v11.Order.length)])), (768, (.vars 2 [(.sl 2624 0 v13.1.Recs.length), (.sl 2625 0 v13.1.Order.length)])), (2304, (.data 5 (List.map d_TRec v11.Recs) true none)), (2305, (.data 1 (List.map d_i64 v11.Order) true none)), (2624, (.data 5 (List.map d_TRec v13.1.Recs) true none)), (2625, (.data 1 (List.map d_i64 v13.1.Order) true none))] (lk [])) ?_ ?_))))))))))))))))))))))))))
  ·intro t15 H
   unfold laws_FnExactCoordBegin_j15 at H
   rcases oite H with ⟨h17, H⟩ | ⟨h17, H⟩
   ·refine AW.condT (eR rfl) h17 (aV (oMov eC (xQ (AW.ret (TQ.qr ?_)))))
    cases H
    exact eE rfl rfl
   ·refine AW.condF (eR rfl) (nt h17) (AW.skip (TQ.qn (aS (aS (AW.regd (oLoadVA (es := [(.sl 2304 0 v11.Recs.length), (.sl 2305 0 v11.Order.length)]) (eR rfl) (hB rfl (bS rfl (bS rfl bZ))) rfl (oLoadVA (es := [(.d (.sl 5 (List.map d_TRec a1.Recs))), (.d (.sl 1 (List.map d_i64 a1.Order)))]) (eR rfl) bZ rfl ?_)))))))
    obtain ⟨v18, h19, H⟩ := obind H
    refine oCall (u := (.agg [(.d (.sl 5 (List.map d_TRec v18.Recs))), (.d (.sl 1 (List.map d_i64 v18.Order)))])) eC Cl.fn (c_laws_toCoord h19) (Evs.cons eZ Evs.nil) (VDs.cons (VD.agg rfl) VDs.nil) rfl ?_
    obtain ⟨v20, h21, H⟩ := obind H
    refine oCall (u := (oB v20)) eC Cl.fn (c_laws_eqCoord h21) (Evs.cons (eR rfl) (Evs.cons eZ Evs.nil)) (VDs.cons (VD.aggs (CDs.sl (bS rfl (bS rfl (bS rfl (bS rfl bZ)))) (List.length_map _) (CDs.sl (bS rfl (bS rfl (bS rfl (bS rfl (bS rfl bZ))))) (List.length_map _) CDs.nil))) (VDs.cons (VD.agg rfl) VDs.nil)) rfl (oInv eZ (xQ (AW.weaken (wk_mkG [] (kr 63 rfl rfl (kr 1 rfl rfl (kr 2 rfl rfl (kr 3 rfl rfl (kr 8 rfl rfl (kr 9 rfl rfl (kr 10 rfl rfl (kr 11 rfl rfl (kr 12 rfl rfl (kr 13 rfl rfl (kr 14 rfl rfl SL.nil))))))))))) (BL.keep rfl (BL.keep rfl (BL.keep rfl (BL.keep rfl (BL.keep rfl (BL.keep rfl (BL.keep rfl (BL.keep rfl BL.nil)))))))) (BK.cons (n := 192) rfl bZ rfl rfl (BK.cons (n := 512) rfl (bS rfl bZ) rfl rfl (BK.cons (n := 704) rfl (bS rfl (bS rfl bZ)) rfl rfl (BK.cons (n := 768) rfl (bS rfl (bS rfl (bS rfl bZ))) rfl rfl (BK.cons (n := 2304) rfl (bS rfl (bS rfl (bS rfl (bS rfl bZ)))) rfl rfl (BK.cons (n := 2305) rfl (bS rfl (bS rfl (bS rfl (bS rfl (bS rfl bZ))))) rfl rfl (BK.cons (n := 2624) rfl (bS rfl (bS rfl (bS rfl (bS rfl (bS rfl (bS rfl bZ)))))) rfl rfl (BK.cons (n := 2625) rfl (bS rfl (bS rfl (bS rfl (bS rfl (bS rfl (bS rfl (bS rfl bZ))))))) rfl rfl BK.nil)))))))) GK.nil) ?_)))
    rcases oite H with ⟨h22, H⟩ | ⟨h22, H⟩
    ·refine AW.condF eZ (congrArg Bool.not h22) (AW.skip (TQ.qn (aV (oMov eC (xQ (aS (AW.regm (rmOne (oLoadVA (es := [(.sl 2304 0 v11.Recs.length), (.sl 2305 0 v11.Order.length)]) (eR rfl) (bS rfl (bS rfl bZ)) rfl (xNil (rmOne (oMov (eR rfl) (xNil ?_)))))))))))))
     obtain ⟨v23, h24, H⟩ := obind H
     obtain ⟨h25, H⟩ := oguard H
     obtain ⟨h26, H⟩ := oguard H
     refine rmCallI (ON := [2304, 2305]) (ls := []) (G := []) (E := [subKey 2304, subKey 2305]) (MB := [(2304, (.data 5 (List.map d_TRec v23.2.Recs) true none)), (2305, (.data 1 (List.map d_i64 v23.2.Order) true none))]) (u := (oI v23.1)) eC Cl.fn (c_laws_markCoord h24) (Evs.cons (eR rfl) (Evs.cons eZ Evs.nil)) (AO.mut (VO.aggs (VOs.cons (VO.sln (bS rfl (bS rfl (bS rfl (bS rfl bZ)))) (List.length_map _) rfl) (VOs.cons (VO.sl (bS rfl (bS rfl (bS rfl (bS rfl (bS rfl bZ))))) (List.length_map _) (allFlat fun _ => rfl)) VOs.nil))) (AO.lent VD.plain rfl AO.nil)) rfl rfl rfl (SZ.cons (bS rfl (bS rfl (bS rfl (bS rfl bZ)))) (SZ.cons (bS rfl (bS rfl (bS rfl (bS rfl (bS rfl bZ))))) SZ.nil)) (erL.cons (v' := (oI 1)) rfl (erL.cons (v' := (.agg [(.sl 2304 0 v11.Recs.length), (.sl 2305 0 v11.Order.length)])) rfl (erL.cons (v' := (oI 1)) rfl (erL.cons (v' := (oB (!v20))) rfl (erL.cons (v' := (oI a2)) rfl (erL.cons (v' := (oI a3)) rfl (erL.cons (v' := (.one (.ptr (.nm 192 0 0)))) rfl (erL.cons (v' := (.one (.ptr (.nm 512 0 0)))) rfl (erL.cons (v' := (oI v9.2.1)) rfl (erL.cons (v' := (oI v9.2.2)) rfl (erL.cons (v' := (.one (.ptr (.nm 704 0 0)))) rfl (erL.cons (v' := (.one (.ptr (.nm 768 0 0)))) rfl (erL.cons (v' := (oI v13.2.1)) rfl (erL.cons (v' := (oI v13.2.2)) rfl erL.nil)))))))))))))) (erH.cons (v' := (.vars 2 [(.d (.sl 5 (List.map d_TRec a1.Recs))), (.d (.sl 1 (List.map d_i64 a1.Order)))])) rfl rfl (erH.cons (v' := (.vars 2 [(.d (.sl 5 (List.map d_TRec v9.1.Recs))), (.d (.sl 1 (List.map d_i64 v9.1.Order)))])) rfl rfl (erH.cons (v' := (.vars 2 [(.sl 2304 0 v11.Recs.length), (.sl 2305 0 v11.Order.length)])) rfl rfl (erH.cons (v' := (.vars 2 [(.sl 2624 0 v13.1.Recs.length), (.sl 2625 0 v13.1.Order.length)])) rfl rfl (erH.cons (v' := (.data 5 (List.map d_TRec v11.Recs) true none)) rfl rfl (erH.cons (v' := (.data 1 (List.map d_i64 v11.Order) true none)) rfl rfl (erH.cons (v' := (.data 5 (List.map d_TRec v13.1.Recs) true none)) rfl rfl (erH.cons (v' := (.data 1 (List.map d_i64 v13.1.Order) true none)) rfl rfl erH.nil)))))))) erL.nil rfl rfl (rmRest (oMov eZ (xQ (AW.weaken (wk_mkG [2305, 2304, 704] (kr 15 rfl rfl (kr 1 rfl rfl (kr 2 rfl rfl (kr 3 rfl rfl (kr 8 rfl rfl (kr 9 rfl rfl (kr 10 rfl rfl (kr 12 rfl rfl (kr 13 rfl rfl (kr 14 rfl rfl SL.nil)))))))))) (BL.drop rfl (BL.drop rfl (BL.keep rfl (BL.keep rfl (BL.drop rfl (BL.keep rfl (BL.drop rfl (BL.drop rfl (BL.keep rfl (BL.keep rfl BL.nil)))))))))) (BK.cons (n := 192) rfl (bS rfl (bS rfl bZ)) rfl rfl (BK.cons (n := 512) rfl (bS rfl (bS rfl (bS rfl bZ))) rfl rfl (BK.cons (n := 768) rfl (bS rfl (bS rfl (bS rfl (bS rfl (bS rfl bZ))))) rfl rfl (BK.cons (n := 2624) rfl (bS rfl (bS rfl (bS rfl (bS rfl (bS rfl (bS rfl (bS rfl (bS rfl bZ)))))))) rfl rfl (BK.cons (n := 2625) rfl (bS rfl (bS rfl (bS rfl (bS rfl (bS rfl (bS rfl (bS rfl (bS rfl (bS rfl bZ))))))))) rfl rfl BK.nil))))) GK.nil) (aS (AW.seqJ (fun t27 : Bool => (laws_FnExactCoordBegin_j27 v13 a1 a2 a3 v9) t27 = some r) (fun t27 => mk [(1, (oI a2)), (2, (oI a3)), (3, (.one (.ptr (.nm 192 0 0)))), (8, (.one (.ptr (.nm 512 0 0)))), (9, (oI v9.2.1)), (10, (oI v9.2.2)), (12, (.one (.ptr (.nm 768 0 0)))), (84, (oB t27))] [(192, (.vars 2 [(.d (.sl 5 (List.map d_TRec a1.Recs))), (.d (.sl 1 (List.map d_i64 a1.Order)))])), (512, (.vars 2 [(.d (.sl 5 (List.map d_TRec v9.1.Recs))), (.d (.sl 1 (List.map d_i64 v9.1.Order)))])), (768, (.vars 2 [(.sl 2624 0 v13.1.Recs.length), (.sl 2625 0 v13.1.Order.length)])), (2624, (.data 5 (List.map d_TRec v13.1.Recs) true none)), (2625, (.data 1 (List.map d_i64 v13.1.Order) true none))] (lk [])) ?_ ?_))))))
     ·intro t27 H
      unfold laws_FnExactCoordBegin_j27 at H
      rcases oite H with ⟨h29, H⟩ | ⟨h29, H⟩
      ·refine AW.condT (eR rfl) h29 (aV (oMov eC (xQ (AW.ret (TQ.qr ?_)))))
       cases H
       exact eE rfl rfl
      ·refine AW.condF (eR rfl) (nt h29) (AW.skip (TQ.qn (aV (oMov eC (xQ (aS (AW.regm (rmOne (oLoadVA (es := [(.sl 2624 0 v13.1.Recs.length), (.sl 2625 0 v13.1.Order.length)]) (eR rfl) (bS rfl (bS rfl bZ)) rfl (xNil (rmOne (oMov (eR rfl) (xNil ?_)))))))))))))
       obtain ⟨v30, h31, H⟩ := obind H
       obtain ⟨h32, H⟩ := oguard H
       obtain ⟨h33, H⟩ := oguard H
       refine rmCallI (ON := [2624, 2625]) (ls := []) (G := []) (E := [subKey 2624, subKey 2625]) (MB := [(2624, (.data 5 (List.map d_TRec v30.2.Recs) true none)), (2625, (.data 1 (List.map d_i64 v30.2.Order) true none))]) (u := (oI v30.1)) eC Cl.fn (c_laws_markCoord h31) (Evs.cons (eR rfl) (Evs.cons eZ Evs.nil)) (AO.mut (VO.aggs (VOs.cons (VO.sln (bS rfl (bS rfl (bS rfl bZ))) (List.length_map _) rfl) (VOs.cons (VO.sl (bS rfl (bS rfl (bS rfl (bS rfl bZ)))) (List.length_map _) (allFlat fun _ => rfl)) VOs.nil))) (AO.lent VD.plain rfl AO.nil)) rfl rfl rfl (SZ.cons (bS rfl (bS rfl (bS rfl bZ))) (SZ.cons (bS rfl (bS rfl (bS rfl (bS rfl bZ)))) SZ.nil)) (erL.cons (v' := (oI 1)) rfl (erL.cons (v' := (.agg [(.sl 2624 0 v13.1.Recs.length), (.sl 2625 0 v13.1.Order.length)])) rfl (erL.cons (v' := (oI 1)) rfl (erL.cons (v' := (oI a2)) rfl (erL.cons (v' := (oI a3)) rfl (erL.cons (v' := (.one (.ptr (.nm 192 0 0)))) rfl (erL.cons (v' := (.one (.ptr (.nm 512 0 0)))) rfl (erL.cons (v' := (oI v9.2.1)) rfl (erL.cons (v' := (oI v9.2.2)) rfl (erL.cons (v' := (.one (.ptr (.nm 768 0 0)))) rfl (erL.cons (v' := (oB t27)) rfl erL.nil))))))))))) (erH.cons (v' := (.vars 2 [(.d (.sl 5 (List.map d_TRec a1.Recs))), (.d (.sl 1 (List.map d_i64 a1.Order)))])) rfl rfl (erH.cons (v' := (.vars 2 [(.d (.sl 5 (List.map d_TRec v9.1.Recs))), (.d (.sl 1 (List.map d_i64 v9.1.Order)))])) rfl rfl (erH.cons (v' := (.vars 2 [(.sl 2624 0 v13.1.Recs.length), (.sl 2625 0 v13.1.Order.length)])) rfl rfl (erH.cons (v' := (.data 5 (List.map d_TRec v13.1.Recs) true none)) rfl rfl (erH.cons (v' := (.data 1 (List.map d_i64 v13.1.Order) true none)) rfl rfl erH.nil))))) erL.nil rfl rfl (rmRest (oMov eZ (xQ (aV (oMov eC (xQ (aV (oLoadVA (es := [(.sl 2624 0 v13.1.Recs.length), (.sl 2625 0 v13.1.Order.length)]) (eR rfl) (bS rfl (bS rfl (bS rfl (bS rfl bZ)))) rfl (oMov (eR rfl) ?_)))))))))
       obtain ⟨v34, h35, H⟩ := obind H
       refine oCall (u := (oI v34)) eC Cl.fn (c_laws_heldCoord h35) (Evs.cons (eR rfl) (Evs.cons eZ Evs.nil)) (VDs.cons (VD.aggs (CDs.sl (bS rfl bZ) (by first | (simp; done) | (simp; omega) | omega) (CDs.sl bZ (by first | (simp; done) | (simp; omega) | omega) CDs.nil))) (VDs.cons VD.plain VDs.nil)) rfl (oMov eZ (xQ (AW.weaken (wk_mkG [] (kr 17 rfl rfl (kr 16 rfl rfl (kr 1 rfl rfl (kr 2 rfl rfl (kr 3 rfl rfl (kr 8 rfl rfl (kr 9 rfl rfl (kr 10 rfl rfl (kr 12 rfl rfl SL.nil))))))))) (BL.keep rfl (BL.keep rfl (BL.keep rfl (BL.keep rfl (BL.keep rfl (BL.keep rfl (BL.keep rfl BL.nil))))))) (BK.cons (n := 2625) rfl bZ rfl rfl (BK.cons (n := 2624) rfl (bS rfl bZ) rfl rfl (BK.cons (n := 192) rfl (bS rfl (bS rfl bZ)) rfl rfl (BK.cons (n := 512) rfl (bS rfl (bS rfl (bS rfl bZ))) rfl rfl (BK.cons (n := 768) rfl (bS rfl (bS rfl (bS rfl (bS rfl bZ)))) rfl rfl BK.nil))))) GK.nil) (aS (aV (oMov eZ (oLss eZ eC (xQ ?_))))))))
       rcases oite H with ⟨h36, H⟩ | ⟨h36, H⟩
       ·refine AW.condT eZ (decide_eq_true h36) (aV (oMov eC (xQ (AW.ret (TQ.qr ?_)))))
        cases H
        exact eE rfl rfl
       ·refine AW.condF eZ (decide_eq_false h36) (AW.skip (TQ.qn (aS (aV (oMov (eR rfl) (oMov (eR rfl) (oNeq (eR rfl) eZ (xQ ?_))))))))
        rcases oite H with ⟨h37, H⟩ | ⟨h37, H⟩
        ·refine AW.condT eZ (decide_eq_true h37) (aV (oMov eC (xQ (AW.ret (TQ.qr ?_)))))
         cases H
         exact eE rfl rfl
        ·refine AW.condF eZ (decide_eq_false h37) (AW.skip (TQ.qn (aS (AW.regm (rmOne (oLoadVA (es := [(.d (.sl 5 (List.map d_TRec a1.Recs))), (.d (.sl 1 (List.map d_i64 a1.Order)))]) (eR rfl) (bS rfl (bS rfl bZ)) rfl (xNil (rmOne ?_))))))))
         obtain ⟨v38, h39, H⟩ := obind H
         refine oCall (u := (.agg [(.d (.sl 5 (List.map d_TRec v38.Recs))), (.d (.sl 1 (List.map d_i64 v38.Order)))])) eC Cl.fn (c_laws_toCoord h39) (Evs.cons eZ Evs.nil) (VDs.cons (VD.agg rfl) VDs.nil) rfl (xNil (rmOne (oMov (eR rfl) (xNil (rmOne (oMov (eR rfl) (xNil (rmOne ?_))))))))
         obtain ⟨v40, h41, H⟩ := obind H
         refine oCall (u := (.tup [(.agg [(.d (.sl 5 (List.map d_TRec v40.1.Recs))), (.d (.sl 1 (List.map d_i64 v40.1.Order)))]), (oI v40.2.1), (oI v40.2.2)])) eC Cl.fn (c_impl_CoordBegin h41) (Evs.cons (eR rfl) (Evs.cons (eR rfl) (Evs.cons eZ Evs.nil))) (VDs.cons (VD.agg rfl) (VDs.cons VD.plain (VDs.cons VD.plain VDs.nil))) rfl (xNil (rmOne (oMov eZ (xNil (rmOne (oExt (v := (.agg [(.d (.sl 5 (List.map d_TRec v40.1.Recs))), (.d (.sl 1 (List.map d_i64 v40.1.Order)))])) eZ rfl (xNil (rmOne (oExt (v := (oI v40.2.1)) (eR rfl) rfl (xNil (rmOne (oExt (v := (oI v40.2.2)) (eR rfl) rfl (xNil (rmOne (oVar (n := 1152) (m := 2) rfl rfl (nS rfl (nS rfl (nS rfl (nS rfl (nS rfl nZ))))) (xNil (rmOne (oStoreV (es := [(.d (.sl 5 (List.map d_TRec v40.1.Recs))), (.d (.sl 1 (List.map d_i64 v40.1.Order)))]) eZ (eR rfl) rfl rfl bZ rfl (xNil (rmRest (oMov (eR rfl) (oMov (eR rfl) (xQ (AW.weaken (wk_mkG [192] (kr 20 rfl rfl (kr 19 rfl rfl (kr 18 rfl rfl (kr 16 rfl rfl (kr 8 rfl rfl (kr 9 rfl rfl (kr 10 rfl rfl (kr 12 rfl rfl SL.nil)))))))) (BL.keep rfl (BL.keep rfl (BL.keep rfl (BL.keep rfl (BL.drop rfl (BL.keep rfl (BL.keep rfl BL.nil))))))) (BK.cons (n := 1152) rfl bZ rfl rfl (BK.cons (n := 2625) rfl (bS rfl (bS rfl bZ)) rfl rfl (BK.cons (n := 2624) rfl (bS rfl (bS rfl (bS rfl bZ))) rfl rfl (BK.cons (n := 512) rfl (bS rfl (bS rfl (bS rfl (bS rfl (bS rfl bZ))))) rfl rfl (BK.cons (n := 768) rfl (bS rfl (bS rfl (bS rfl (bS rfl (bS rfl (bS rfl bZ)))))) rfl rfl BK.nil))))) GK.nil) (aS (AW.seqJ (fun t42 : Bool => (laws_FnExactCoordBegin_j42 v30) t42 = some r) (fun t42 => mk [(12, (.one (.ptr (.nm 768 0 0)))), (16, (oI v30.1)), (118, (oB t42))] [(768, (.vars 2 [(.sl 2624 0 v13.1.Recs.length), (.sl 2625 0 v13.1.Order.length)])), (2624, (.data 5 (List.map d_TRec v30.2.Recs) true none)), (2625, (.data 1 (List.map d_i64 v30.2.Order) true none))] (lk [])) ?_ ?_))))))))))))))))))))))))))
         ·intro t42 H
          unfold laws_FnExactCoordBegin_j42 at H
          rcases oite H with ⟨h44, H⟩ | ⟨h44, H⟩
          ·refine AW.condT (eR rfl) h44 (aV (oMov eC (xQ (AW.ret (TQ.qr ?_)))))
           cases H
           exact eE rfl rfl
          ·refine AW.condF (eR rfl) (nt h44) (AW.skip (TQ.qn (aV (oMov eC (xQ (aV (oLoadVA (es := [(.sl 2624 0 v13.1.Recs.length), (.sl 2625 0 v13.1.Order.length)]) (eR rfl) bZ rfl (oMov (eR rfl) ?_))))))))
           obtain ⟨v45, h46, H⟩ := obind H
           refine oCall (u := (oI v45)) eC Cl.fn (c_laws_heldCoord h46) (Evs.cons (eR rfl) (Evs.cons eZ Evs.nil)) (VDs.cons (VD.aggs (CDs.sl (bS rfl bZ) (by first | (simp; done) | (simp; omega) | omega) (CDs.sl (bS rfl (bS rfl bZ)) (by first | (simp; done) | (simp; omega) | omega) CDs.nil))) (VDs.cons VD.plain VDs.nil)) rfl (oMov eZ (xQ (aS (aV (oMov eZ (oLss eZ eC (xQ ?_)))))))
           rcases oite H with ⟨h47, H⟩ | ⟨h47, H⟩
           ·refine AW.condT eZ (decide_eq_true h47) (aV (oMov eC (xQ (AW.ret (TQ.qr ?_)))))
            cases H
            exact eE rfl rfl
           ·refine AW.condF eZ (decide_eq_false h47) (AW.skip (TQ.qn (aS (aV (oMov (eR rfl) (oMov (eR rfl) (oNeq (eR rfl) eZ (xQ ?_))))))))
            rcases oite H with ⟨h48, H⟩ | ⟨h48, H⟩
            ·refine AW.condT eZ (decide_eq_true h48) (aV (oMov eC (xQ (AW.ret (TQ.qr ?_)))))
             cases H
             exact eE rfl rfl
            ·refine AW.condF eZ (decide_eq_false h48) (AW.skip (TQ.qn (aV (oMov eC (xQ (AW.ret ?_))))))
             cases H
             exact eE rfl rfl
         ·refine aR (oLoadVA (es := [(.d (.sl 5 (List.map d_TRec v40.1.Recs))), (.d (.sl 1 (List.map d_i64 v40.1.Order)))]) (eR rfl) bZ rfl (oLoadVA (es := [(.d (.sl 5 (List.map d_TRec v9.1.Recs))), (.d (.sl 1 (List.map d_i64 v9.1.Order)))]) (eR rfl) (bS rfl (bS rfl (bS rfl bZ))) rfl ?_))
          obtain ⟨v49, h50, H⟩ := obind H
          refine oCall (u := (oB v49)) eC Cl.fn (c_laws_eqCoord h50) (Evs.cons (eR rfl) (Evs.cons eZ Evs.nil)) (VDs.cons (VD.agg rfl) (VDs.cons (VD.agg rfl) VDs.nil)) rfl (oInv eZ (oMov eZ ?_))
          rcases oite H with ⟨h51, H⟩ | ⟨h51, H⟩
          ·refine gDo eZ (congrArg Bool.not h51) (oMov (eR rfl) (gDo (eR rfl) (congrArg Bool.not h51) (oMov (eR rfl) (gDo (eR rfl) (congrArg Bool.not h51) (oNeq (eR rfl) eZ (oPickF (eR rfl) (congrArg Bool.not h51) eZ (oMov eZ ?_)))))))
           rcases oite H with ⟨h52, H⟩ | ⟨h52, H⟩
           ·exact gSkip eZ (decide_eq_true h52) rfl (gSkip (eR rfl) (decide_eq_true h52) rfl (gSkip (eR rfl) (decide_eq_true h52) rfl (oPickT (eR rfl) (decide_eq_true h52) eC (xNil (TQ.qn ⟨true, H, (wk_mkG [1152, 512] (kR rfl rfl (kR rfl rfl (kR rfl rfl SL.nil))) (BL.drop rfl (BL.keep rfl (BL.keep rfl (BL.drop rfl (BL.keep rfl BL.nil))))) (BK.cons rfl (bS rfl (bS rfl (bS rfl (bS rfl bZ)))) rfl (by first | rfl | simp) (BK.cons rfl (bS rfl (bS rfl bZ)) rfl rfl (BK.cons rfl (bS rfl bZ) rfl rfl BK.nil))) GK.nil)⟩)))))
           ·exact gDo eZ (decide_eq_false h52) (oMov (eR rfl) (gDo (eR rfl) (decide_eq_false h52) (oMov (eR rfl) (gDo (eR rfl) (decide_eq_false h52) (oNeq (eR rfl) eZ (oPickF (eR rfl) (decide_eq_false h52) eZ (xNil (TQ.qn ⟨(decide (¬ v40.2.2 = v9.2.2)), H, (wk_mkG [1152, 512] (kR rfl rfl (kR rfl rfl (kR rfl rfl SL.nil))) (BL.drop rfl (BL.keep rfl (BL.keep rfl (BL.drop rfl (BL.keep rfl BL.nil))))) (BK.cons rfl (bS rfl (bS rfl (bS rfl (bS rfl bZ)))) rfl (by first | rfl | simp) (BK.cons rfl (bS rfl (bS rfl bZ)) rfl rfl (BK.cons rfl (bS rfl bZ) rfl rfl BK.nil))) GK.nil)⟩))))))))
          ·exact gSkip eZ (congrArg Bool.not (nt h51)) rfl (gSkip (eR rfl) (congrArg Bool.not (nt h51)) rfl (gSkip (eR rfl) (congrArg Bool.not (nt h51)) rfl (oPickT (eR rfl) (congrArg Bool.not (nt h51)) eC (oMov eZ (gSkip eZ rfl rfl (gSkip (eR rfl) rfl rfl (gSkip (eR rfl) rfl rfl (oPickT (eR rfl) rfl eC (xNil (TQ.qn ⟨true, H, (wk_mkG [1152, 512] (kR rfl rfl (kR rfl rfl (kR rfl rfl SL.nil))) (BL.drop rfl (BL.keep rfl (BL.keep rfl (BL.drop rfl (BL.keep rfl BL.nil))))) (BK.cons rfl (bS rfl (bS rfl (bS rfl (bS rfl bZ)))) rfl (by first | rfl | simp) (BK.cons rfl (bS rfl (bS rfl bZ)) rfl rfl (BK.cons rfl (bS rfl bZ) rfl rfl BK.nil))) GK.nil)⟩))))))))))
     ·refine aR (oMov eZ (oLss eZ eC (oMov eZ ?_)))
      rcases oite H with ⟨h53, H⟩ | ⟨h53, H⟩
      ·exact gSkip eZ (decide_eq_true h53) rfl (gSkip (eR rfl) (decide_eq_true h53) rfl (gSkip (eR rfl) (decide_eq_true h53) rfl (gSkip (eR rfl) (decide_eq_true h53) rfl (oPickT (eR rfl) (decide_eq_true h53) eC (oMov eZ (gSkip eZ rfl rfl (gSkip (eR rfl) rfl rfl (gSkip (eR rfl) rfl rfl (oPickT (eR rfl) rfl eC (oMov eZ (gSkip eZ rfl rfl (gSkip (eR rfl) rfl rfl (gSkip (eR rfl) rfl rfl (oPickT (eR rfl) rfl eC (xNil (TQ.qn ⟨true, H, (wk_mkG [] (kR rfl rfl (kR rfl rfl (kR rfl rfl (kR rfl rfl (kR rfl rfl (kR rfl rfl (kR rfl rfl (kR rfl rfl SL.nil)))))))) (BL.keep rfl (BL.keep rfl (BL.keep rfl (BL.keep rfl (BL.keep rfl BL.nil))))) (BK.cons rfl bZ rfl rfl (BK.cons rfl (bS rfl bZ) rfl rfl (BK.cons rfl (bS rfl (bS rfl bZ)) rfl (by first | rfl | simp) (BK.cons rfl (bS rfl (bS rfl (bS rfl bZ))) rfl rfl (BK.cons rfl (bS rfl (bS rfl (bS rfl (bS rfl bZ)))) rfl rfl BK.nil))))) GK.nil)⟩))))))))))))))))
      ·refine gDo eZ (decide_eq_false h53) (oLoadVA (es := [(.sl 2624 0 v13.1.Recs.length), (.sl 2625 0 v13.1.Order.length)]) (eR rfl) (bS rfl (bS rfl bZ)) rfl (gDo (eR rfl) (decide_eq_false h53) (oLoadVA (es := [(.d (.sl 5 (List.map d_TRec v9.1.Recs))), (.d (.sl 1 (List.map d_i64 v9.1.Order)))]) (eR rfl) (bS rfl bZ) rfl (gDo (eR rfl) (decide_eq_false h53) ?_))))
       obtain ⟨v54, h55, H⟩ := obind H
       refine oCall (u := (oB v54)) eC Cl.fn (c_laws_eqCoord h55) (Evs.cons (eR rfl) (Evs.cons eZ Evs.nil)) (VDs.cons (VD.aggs (CDs.sl (bS rfl (bS rfl (bS rfl bZ))) (List.length_map _) (CDs.sl (bS rfl (bS rfl (bS rfl (bS rfl bZ)))) (List.length_map _) CDs.nil))) (VDs.cons (VD.agg rfl) VDs.nil)) rfl (gDo (eR rfl) (decide_eq_false h53) (oInv eZ (oPickF (eR rfl) (decide_eq_false h53) eZ (oMov eZ ?_))))
       rcases oite H with ⟨h56, H⟩ | ⟨h56, H⟩
       ·refine gDo eZ (congrArg Bool.not h56) (oMov (eR rfl) (gDo (eR rfl) (congrArg Bool.not h56) (oMov (eR rfl) (gDo (eR rfl) (congrArg Bool.not h56) (oNeq (eR rfl) eZ (oPickF (eR rfl) (congrArg Bool.not h56) eZ (oMov eZ ?_)))))))
        rcases oite H with ⟨h57, H⟩ | ⟨h57, H⟩
        ·exact gSkip eZ (decide_eq_true h57) rfl (gSkip (eR rfl) (decide_eq_true h57) rfl (gSkip (eR rfl) (decide_eq_true h57) rfl (oPickT (eR rfl) (decide_eq_true h57) eC (xNil (TQ.qn ⟨true, H, (wk_mkG [] (kR rfl rfl (kR rfl rfl (kR rfl rfl (kR rfl rfl (kR rfl rfl (kR rfl rfl (kR rfl rfl (kR rfl rfl SL.nil)))))))) (BL.keep rfl (BL.keep rfl (BL.keep rfl (BL.keep rfl (BL.keep rfl BL.nil))))) (BK.cons rfl bZ rfl rfl (BK.cons rfl (bS rfl bZ) rfl rfl (BK.cons rfl (bS rfl (bS rfl bZ)) rfl (by first | rfl | simp) (BK.cons rfl (bS rfl (bS rfl (bS rfl bZ))) rfl rfl (BK.cons rfl (bS rfl (bS rfl (bS rfl (bS rfl bZ)))) rfl rfl BK.nil))))) GK.nil)⟩)))))
        ·exact gDo eZ (decide_eq_false h57) (oMov (eR rfl) (gDo (eR rfl) (decide_eq_false h57) (oMov (eR rfl) (gDo (eR rfl) (decide_eq_false h57) (oNeq (eR rfl) eZ (oPickF (eR rfl) (decide_eq_false h57) eZ (xNil (TQ.qn ⟨(decide (¬ v13.2.2 = v9.2.2)), H, (wk_mkG [] (kR rfl rfl (kR rfl rfl (kR rfl rfl (kR rfl rfl (kR rfl rfl (kR rfl rfl (kR rfl rfl (kR rfl rfl SL.nil)))))))) (BL.keep rfl (BL.keep rfl (BL.keep rfl (BL.keep rfl (BL.keep rfl BL.nil))))) (BK.cons rfl bZ rfl rfl (BK.cons rfl (bS rfl bZ) rfl rfl (BK.cons rfl (bS rfl (bS rfl bZ)) rfl (by first | rfl | simp) (BK.cons rfl (bS rfl (bS rfl (bS rfl bZ))) rfl rfl (BK.cons rfl (bS rfl (bS rfl (bS rfl (bS rfl bZ)))) rfl rfl BK.nil))))) GK.nil)⟩))))))))
       ·exact gSkip eZ (congrArg Bool.not (nt h56)) rfl (gSkip (eR rfl) (congrArg Bool.not (nt h56)) rfl (gSkip (eR rfl) (congrArg Bool.not (nt h56)) rfl (oPickT (eR rfl) (congrArg Bool.not (nt h56)) eC (oMov eZ (gSkip eZ rfl rfl (gSkip (eR rfl) rfl rfl (gSkip (eR rfl) rfl rfl (oPickT (eR rfl) rfl eC (xNil (TQ.qn ⟨true, H, (wk_mkG [] (kR rfl rfl (kR rfl rfl (kR rfl rfl (kR rfl rfl (kR rfl rfl (kR rfl rfl (kR rfl rfl (kR rfl rfl SL.nil)))))))) (BL.keep rfl (BL.keep rfl (BL.keep rfl (BL.keep rfl (BL.keep rfl BL.nil))))) (BK.cons rfl bZ rfl rfl (BK.cons rfl (bS rfl bZ) rfl rfl (BK.cons rfl (bS rfl (bS rfl bZ)) rfl (by first | rfl | simp) (BK.cons rfl (bS rfl (bS rfl (bS rfl bZ))) rfl rfl (BK.cons rfl (bS rfl (bS rfl (bS rfl (bS rfl bZ)))) rfl rfl BK.nil))))) GK.nil)⟩))))))))))
    ·refine AW.condT eZ (congrArg Bool.not (nt h22)) (aV (oMov eC (xQ (AW.ret (TQ.qr ?_)))))
     cases H
     exact eE rfl rfl
  ·refine aR (oLoadVA (es := [(.sl 2624 0 v13.1.Recs.length), (.sl 2625 0 v13.1.Order.length)]) (eR rfl) bZ rfl (oLoadVA (es := [(.d (.sl 5 (List.map d_TRec v9.1.Recs))), (.d (.sl 1 (List.map d_i64 v9.1.Order)))]) (eR rfl) (bS rfl (bS rfl (bS rfl (bS rfl (bS rfl (bS rfl bZ)))))) rfl ?_))
   obtain ⟨v58, h59, H⟩ := obind H
   refine oCall (u := (oB v58)) eC Cl.fn (c_laws_eqCoord h59) (Evs.cons (eR rfl) (Evs.cons eZ Evs.nil)) (VDs.cons (VD.aggs (CDs.sl (bS rfl (bS rfl bZ)) (List.length_map _) (CDs.sl (bS rfl bZ) (List.length_map _) CDs.nil))) (VDs.cons (VD.agg rfl) VDs.nil)) rfl (oInv eZ (oMov eZ ?_))
   rcases oite H with ⟨h60, H⟩ | ⟨h60, H⟩
   ·refine gDo eZ (congrArg Bool.not h60) (oMov (eR rfl) (gDo (eR rfl) (congrArg Bool.not h60) (oMov (eR rfl) (gDo (eR rfl) (congrArg Bool.not h60) (oNeq (eR rfl) eZ (oPickF (eR rfl) (congrArg Bool.not h60) eZ (oMov eZ ?_)))))))
    rcases oite H with ⟨h61, H⟩ | ⟨h61, H⟩
    ·exact gSkip eZ (decide_eq_true h61) rfl (gSkip (eR rfl) (decide_eq_true h61) rfl (gSkip (eR rfl) (decide_eq_true h61) rfl (oPickT (eR rfl) (decide_eq_true h61) eC (xNil (TQ.qn ⟨true, H, (wk_mkG [] (kR rfl rfl (kR rfl rfl (kR rfl rfl (kR rfl rfl (kR rfl rfl (kR rfl rfl (kR rfl rfl (kR rfl rfl (kR rfl rfl (kR rfl rfl (kR rfl rfl SL.nil))))))))))) (BL.keep rfl (BL.keep rfl (BL.keep rfl (BL.keep rfl (BL.keep rfl (BL.keep rfl (BL.keep rfl (BL.keep rfl BL.nil)))))))) (BK.cons rfl (bS rfl (bS rfl (bS rfl (bS rfl (bS rfl (bS rfl (bS rfl bZ))))))) rfl rfl (BK.cons rfl (bS rfl (bS rfl (bS rfl (bS rfl (bS rfl (bS rfl bZ)))))) rfl rfl (BK.cons rfl (bS rfl (bS rfl (bS rfl bZ))) rfl (by first | rfl | simp) (BK.cons rfl bZ rfl (by first | rfl | simp) (BK.cons rfl (bS rfl (bS rfl (bS rfl (bS rfl (bS rfl bZ))))) rfl rfl (BK.cons rfl (bS rfl (bS rfl (bS rfl (bS rfl bZ)))) rfl rfl (BK.cons rfl (bS rfl (bS rfl bZ)) rfl rfl (BK.cons rfl (bS rfl bZ) rfl rfl BK.nil)))))))) GK.nil)⟩)))))
    ·exact gDo eZ (decide_eq_false h61) (oMov (eR rfl) (gDo (eR rfl) (decide_eq_false h61) (oMov (eR rfl) (gDo (eR rfl) (decide_eq_false h61) (oNeq (eR rfl) eZ (oPickF (eR rfl) (decide_eq_false h61) eZ (xNil (TQ.qn ⟨(decide (¬ v13.2.2 = v9.2.2)), H, (wk_mkG [] (kR rfl rfl (kR rfl rfl (kR rfl rfl (kR rfl rfl (kR rfl rfl (kR rfl rfl (kR rfl rfl (kR rfl rfl (kR rfl rfl (kR rfl rfl (kR rfl rfl SL.nil))))))))))) (BL.keep rfl (BL.keep rfl (BL.keep rfl (BL.keep rfl (BL.keep rfl (BL.keep rfl (BL.keep rfl (BL.keep rfl BL.nil)))))))) (BK.cons rfl (bS rfl (bS rfl (bS rfl (bS rfl (bS rfl (bS rfl (bS rfl bZ))))))) rfl rfl (BK.cons rfl (bS rfl (bS rfl (bS rfl (bS rfl (bS rfl (bS rfl bZ)))))) rfl rfl (BK.cons rfl (bS rfl (bS rfl (bS rfl bZ))) rfl (by first | rfl | simp) (BK.cons rfl bZ rfl (by first | rfl | simp) (BK.cons rfl (bS rfl (bS rfl (bS rfl (bS rfl (bS rfl bZ))))) rfl rfl (BK.cons rfl (bS rfl (bS rfl (bS rfl (bS rfl bZ)))) rfl rfl (BK.cons rfl (bS rfl (bS rfl bZ)) rfl rfl (BK.cons rfl (bS rfl bZ) rfl rfl BK.nil)))))))) GK.nil)⟩))))))))
   ·exact gSkip eZ (congrArg Bool.not (nt h60)) rfl (gSkip (eR rfl) (congrArg Bool.not (nt h60)) rfl (gSkip (eR rfl) (congrArg Bool.not (nt h60)) rfl (oPickT (eR rfl) (congrArg Bool.not (nt h60)) eC (oMov eZ (gSkip eZ rfl rfl (gSkip (eR rfl) rfl rfl (gSkip (eR rfl) rfl rfl (oPickT (eR rfl) rfl eC (xNil (TQ.qn ⟨true, H, (wk_mkG [] (kR rfl rfl (kR rfl rfl (kR rfl rfl (kR rfl rfl (kR rfl rfl (kR rfl rfl (kR rfl rfl (kR rfl rfl (kR rfl rfl (kR rfl rfl (kR rfl rfl SL.nil))))))))))) (BL.keep rfl (BL.keep rfl (BL.keep rfl (BL.keep rfl (BL.keep rfl (BL.keep rfl (BL.keep rfl (BL.keep rfl BL.nil)))))))) (BK.cons rfl (bS rfl (bS rfl (bS rfl (bS rfl (bS rfl (bS rfl (bS rfl bZ))))))) rfl rfl (BK.cons rfl (bS rfl (bS rfl (bS rfl (bS rfl (bS rfl (bS rfl bZ)))))) rfl rfl (BK.cons rfl (bS rfl (bS rfl (bS rfl bZ))) rfl (by first | rfl | simp) (BK.cons rfl bZ rfl (by first | rfl | simp) (BK.cons rfl (bS rfl (bS rfl (bS rfl (bS rfl (bS rfl bZ))))) rfl rfl (BK.cons rfl (bS rfl (bS rfl (bS rfl (bS rfl bZ)))) rfl rfl (BK.cons rfl (bS rfl (bS rfl bZ)) rfl rfl (BK.cons rfl (bS rfl bZ) rfl rfl BK.nil)))))))) GK.nil)⟩))))))))))
end Go.AW
