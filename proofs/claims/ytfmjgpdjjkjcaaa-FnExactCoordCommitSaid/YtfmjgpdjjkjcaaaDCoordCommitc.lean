/- That functions of the program compute what the plain functions say: printed by a program of the prover's own (tool/dec.py). Conditions: each theorem's own. -/
import Derived.Test.YtfmjgpdjjkjcaaaMCoordCommit
import Derived.Test.YtfmjgpdjjkjcaaaGCoordCommit
import Derived.Test.YtfmjgpdjjkjcaaaDCoordCommita
import Derived.Test.YtfmjgpdjjkjcaaaDCoordCommitb
set_option linter.unusedVariables false
set_option linter.unusedSimpArgs false
set_option maxRecDepth 100000
namespace Go.AW
open Go.Proofs
theorem c_laws_heldShareS {a1 : (List TShare)} {a2 : Int} {r : Int} (H : m_laws_heldShareS a1 a2 = some r) : Fn Try.prog k_laws_heldShareS (lent [(.sl 4 (List.map d_TShare a1)), (.int .i64 a2)]) true [(.int .i64 r)] := by
 refine i_laws_heldShareS_fn (fle rfl) ?_
 rw [init_mk]
 refine AW.weaken (wk_mk [] (kv 0 (.one (.d (.sl 4 (List.map d_TShare a1)))) rfl rfl (kv 1 (oI a2) rfl rfl SL.nil)) BL.nil BK.nil) ?_
 unfold m_laws_heldShareS at H
 unfold i_laws_heldShareS
 refine aV (oMov eC (xQ (AW.seqJ (fun t3 : Int => laws_heldShareS_j3 t3 = some r) (fun t3 => mk [(1, (oI t3))] [] noG) ?_ ?_)))
 ·intro t3 H
  unfold laws_heldShareS_j3 at H
  refine aV (oMov eZ (oMov eZ (xQ (AW.ret ?_))))
  cases H
  exact eE rfl rfl
 ·refine aV (oMov eC (xQ (AW.block (AW.iter (fun s5 : (Int × Int) => mk [(0, (.one (.d (.sl 4 (List.map d_TShare a1))))), (1, (oI s5.1)), (5, (oI s5.2))] [] noG) H (wk_mk [] (kR rfl rfl (kR rfl rfl (kR rfl rfl SL.nil))) BL.nil BK.nil) ?_))))
  intro kb6 s5 H
  unfold laws_heldShareS_b5 at H
  refine aS (aV (oMov (eR rfl) (oMov (eR rfl) (oLenD eZ (n := a1.length) (List.length_map _) (oLss (eR rfl) eZ (xQ ?_))))))
  rcases oite H with ⟨h7, H⟩ | ⟨h7, H⟩
  ·refine AW.condT eZ (decide_eq_true h7) (AW.skip (TQ.qn (aS (AW.block (aS (aV (oMov (eR rfl) (oMov (eR rfl) ?_))))))))
   obtain ⟨v8, h9, H⟩ := obind H
   refine oAtD (eR rfl) eZ h9 (oFaddrB (m := 0) eZ rfl (oLoadB (e := (.int .i64 v8.Group)) eZ rfl (oMov (eR rfl) (oNeq (eR rfl) eZ (xQ ?_)))))
   rcases oite H with ⟨h10, H⟩ | ⟨h10, H⟩
   ·refine AW.condT eZ (decide_eq_true h10) (aV (oMov eC (xQ (AW.ret (TQ.qr (BQ.qr (TQ.qr (TQ.qr (BQ.qr (TQ.qr ?_))))))))))
    cases H
    exact eE rfl rfl
   ·refine AW.condF eZ (decide_eq_false h10) (AW.skip (TQ.qn (aV (oMov (eR rfl) (oAdd eZ eC (oMov eZ (xQ (AW.weaken (wk_mk [] (kr 1 rfl rfl (kr 0 rfl rfl (kr 5 rfl rfl SL.nil))) BL.nil BK.nil) (aV (oMov (eR rfl) (oMov (eR rfl) ?_)))))))))))
    obtain ⟨v11, h12, H⟩ := obind H
    refine oAtD (eR rfl) eZ h12 (oFaddrB (m := 1) eZ rfl (oLoadB (e := (.sl 2 (List.map d_TRange v11.Reads))) eZ rfl (oMov (eR rfl) ?_)))
    obtain ⟨v13, h14, H⟩ := obind H
    refine oCall (u := (oI v13)) eC Cl.fn (c_laws_heldRangeS h14) (Evs.cons (eR rfl) (Evs.cons eZ Evs.nil)) (VDs.cons VD.plain (VDs.cons VD.plain VDs.nil)) rfl (oMov eZ (xQ (aS (aV (oMov eZ (oLss eZ eC (xQ ?_)))))))
    rcases oite H with ⟨h15, H⟩ | ⟨h15, H⟩
    ·refine AW.condT eZ (decide_eq_true h15) (aV (oMov eC (xQ (AW.ret (TQ.qr (BQ.qr (TQ.qr (TQ.qr (BQ.qr (TQ.qr ?_))))))))))
     cases H
     exact eE rfl rfl
    ·refine AW.condF eZ (decide_eq_false h15) (AW.skip (TQ.qn (aV (oMov (eR rfl) (oMov (eR rfl) ?_)))))
     obtain ⟨v16, h17, H⟩ := obind H
     refine oAtD (eR rfl) eZ h17 (oFaddrB (m := 2) eZ rfl (oLoadB (e := (.sl 2 (List.map d_TCell v16.Writes))) eZ rfl (oMov (eR rfl) ?_)))
     obtain ⟨v18, h19, H⟩ := obind H
     refine oCall (u := (oI v18)) eC Cl.fn (c_laws_heldWriteS h19) (Evs.cons (eR rfl) (Evs.cons eZ Evs.nil)) (VDs.cons VD.plain (VDs.cons VD.plain VDs.nil)) rfl (oMov eZ (xQ (AW.weaken (wk_mk [] (kr 1 rfl rfl (kr 0 rfl rfl (kr 5 rfl rfl SL.nil))) BL.nil BK.nil) (aS (aV (oMov eZ (oLss eZ eC (xQ ?_))))))))
     rcases oite H with ⟨h20, H⟩ | ⟨h20, H⟩
     ·refine AW.condT eZ (decide_eq_true h20) (aV (oMov eC (xQ (AW.ret (TQ.qr (BQ.qr (TQ.qr (TQ.qr (BQ.qr (TQ.qr ?_))))))))))
      cases H
      exact eE rfl rfl
     ·refine AW.condF eZ (decide_eq_false h20) (AW.skip (TQ.qn (aS (aV (oMov (eR rfl) (oMov (eR rfl) ?_))))))
      obtain ⟨v21, h22, H⟩ := obind H
      refine oAtD (eR rfl) eZ h22 (oFaddrB (m := 3) eZ rfl (oLoadB (e := (.int .i64 v21.Vote)) eZ rfl (oMov (eR rfl) (oNeq (eR rfl) eZ (xQ ?_)))))
      rcases oite H with ⟨h23, H⟩ | ⟨h23, H⟩
      ·refine AW.condT eZ (decide_eq_true h23) (aV (oMov eC (xQ (AW.ret (TQ.qr (BQ.qr (TQ.qr (TQ.qr (BQ.qr (TQ.qr ?_))))))))))
       cases H
       exact eE rfl rfl
      ·exact AW.condF eZ (decide_eq_false h23) (AW.skip (TQ.qn (aR (oMov (eR rfl) (oAdd eZ eC (oMov eZ (xNil (BQ.qn (TQ.qn (aR (oMov (eR rfl) (oAdd eZ eC (oMov eZ (xNil (TQ.qn ⟨((IntKind.wrap .i64 (v18 + 1)), (IntKind.wrap .i64 (s5.2 + 1))), H, (wk_mk [] (kR rfl rfl (kR rfl rfl (kR rfl rfl SL.nil))) BL.nil BK.nil)⟩)))))))))))))))
  ·exact AW.condF eZ (decide_eq_false h7) (AW.exit (TQ.qe (TQ.qe (BQ.qe (TQ.qn ⟨s5.1, H, (wk_mk [] (kR rfl rfl SL.nil) BL.nil BK.nil)⟩)))))
theorem c_laws_heldRecS {a1 : (List TRec)} {a2 : Int} {r : Int} (H : m_laws_heldRecS a1 a2 = some r) : Fn Try.prog k_laws_heldRecS (lent [(.sl 5 (List.map d_TRec a1)), (.int .i64 a2)]) true [(.int .i64 r)] := by
 refine i_laws_heldRecS_fn (fle rfl) ?_
 rw [init_mk]
 refine AW.weaken (wk_mk [] (kv 0 (.one (.d (.sl 5 (List.map d_TRec a1)))) rfl rfl (kv 1 (oI a2) rfl rfl SL.nil)) BL.nil BK.nil) ?_
 unfold m_laws_heldRecS at H
 unfold i_laws_heldRecS
 refine aV (oMov eC (xQ (AW.seqJ (fun t3 : Int => laws_heldRecS_j3 t3 = some r) (fun t3 => mk [(1, (oI t3))] [] noG) ?_ ?_)))
 ·intro t3 H
  unfold laws_heldRecS_j3 at H
  refine aV (oMov eZ (oMov eZ (xQ (AW.ret ?_))))
  cases H
  exact eE rfl rfl
 ·refine aV (oMov eC (xQ (AW.block (AW.iter (fun s5 : (Int × Int) => mk [(0, (.one (.d (.sl 5 (List.map d_TRec a1))))), (1, (oI s5.1)), (5, (oI s5.2))] [] noG) H (wk_mk [] (kR rfl rfl (kR rfl rfl (kR rfl rfl SL.nil))) BL.nil BK.nil) ?_))))
  intro kb6 s5 H
  unfold laws_heldRecS_b5 at H
  refine aS (aV (oMov (eR rfl) (oMov (eR rfl) (oLenD eZ (n := a1.length) (List.length_map _) (oLss (eR rfl) eZ (xQ ?_))))))
  rcases oite H with ⟨h7, H⟩ | ⟨h7, H⟩
  ·refine AW.condT eZ (decide_eq_true h7) (AW.skip (TQ.qn (aS (AW.block (aS (aV (oMov (eR rfl) (oMov (eR rfl) ?_))))))))
   obtain ⟨v8, h9, H⟩ := obind H
   refine oAtD (eR rfl) eZ h9 (oFaddrB (m := 0) eZ rfl (oLoadB (e := (.int .i64 v8.Tx)) eZ rfl (oMov (eR rfl) (oNeq (eR rfl) eZ (xQ ?_)))))
   rcases oite H with ⟨h10, H⟩ | ⟨h10, H⟩
   ·refine AW.condT eZ (decide_eq_true h10) (aV (oMov eC (xQ (AW.ret (TQ.qr (BQ.qr (TQ.qr (TQ.qr (BQ.qr (TQ.qr ?_))))))))))
    cases H
    exact eE rfl rfl
   ·refine AW.condF eZ (decide_eq_false h10) (AW.skip (TQ.qn (aV (oMov (eR rfl) (oAdd eZ eC (oMov eZ (xQ (AW.weaken (wk_mk [] (kr 1 rfl rfl (kr 0 rfl rfl (kr 5 rfl rfl SL.nil))) BL.nil BK.nil) (aS (aV (oMov (eR rfl) (oMov (eR rfl) ?_))))))))))))
    obtain ⟨v11, h12, H⟩ := obind H
    refine oAtD (eR rfl) eZ h12 (oFaddrB (m := 1) eZ rfl (oLoadB (e := (.int .i64 v11.Client)) eZ rfl (oMov (eR rfl) (oNeq (eR rfl) eZ (xQ ?_)))))
    rcases oite H with ⟨h13, H⟩ | ⟨h13, H⟩
    ·refine AW.condT eZ (decide_eq_true h13) (aV (oMov eC (xQ (AW.ret (TQ.qr (BQ.qr (TQ.qr (TQ.qr (BQ.qr (TQ.qr ?_))))))))))
     cases H
     exact eE rfl rfl
    ·refine AW.condF eZ (decide_eq_false h13) (AW.skip (TQ.qn (aV (oMov (eR rfl) (oAdd eZ eC (oMov eZ (xQ (aS (aV (oMov (eR rfl) (oMov (eR rfl) ?_)))))))))))
     obtain ⟨v14, h15, H⟩ := obind H
     refine oAtD (eR rfl) eZ h15 (oFaddrB (m := 2) eZ rfl (oLoadB (e := (.int .i64 v14.Req)) eZ rfl (oMov (eR rfl) (oNeq (eR rfl) eZ (xQ (AW.weaken (wk_mk [] (kr 36 rfl rfl (kr 1 rfl rfl (kr 0 rfl rfl (kr 5 rfl rfl SL.nil)))) BL.nil BK.nil) ?_))))))
     rcases oite H with ⟨h16, H⟩ | ⟨h16, H⟩
     ·refine AW.condT eZ (decide_eq_true h16) (aV (oMov eC (xQ (AW.ret (TQ.qr (BQ.qr (TQ.qr (TQ.qr (BQ.qr (TQ.qr ?_))))))))))
      cases H
      exact eE rfl rfl
     ·refine AW.condF eZ (decide_eq_false h16) (AW.skip (TQ.qn (aV (oMov (eR rfl) (oAdd eZ eC (oMov eZ (xQ (aS (aV (oMov (eR rfl) (oMov (eR rfl) ?_)))))))))))
      obtain ⟨v17, h18, H⟩ := obind H
      refine oAtD (eR rfl) eZ h18 (oFaddrB (m := 3) eZ rfl (oLoadB (e := (.int .i64 v17.State)) eZ rfl (oMov (eR rfl) (oNeq (eR rfl) eZ (xQ ?_)))))
      rcases oite H with ⟨h19, H⟩ | ⟨h19, H⟩
      ·refine AW.condT eZ (decide_eq_true h19) (aV (oMov eC (xQ (AW.ret (TQ.qr (BQ.qr (TQ.qr (TQ.qr (BQ.qr (TQ.qr ?_))))))))))
       cases H
       exact eE rfl rfl
      ·refine AW.condF eZ (decide_eq_false h19) (AW.skip (TQ.qn (aV (oMov (eR rfl) (oAdd eZ eC (oMov eZ (xQ (AW.weaken (wk_mk [] (kr 1 rfl rfl (kr 0 rfl rfl (kr 5 rfl rfl SL.nil))) BL.nil BK.nil) (aV (oMov (eR rfl) (oMov (eR rfl) ?_)))))))))))
       obtain ⟨v20, h21, H⟩ := obind H
       refine oAtD (eR rfl) eZ h21 (oFaddrB (m := 4) eZ rfl (oLoadB (e := (.sl 4 (List.map d_TShare v20.Shares))) eZ rfl (oMov (eR rfl) ?_)))
       obtain ⟨v22, h23, H⟩ := obind H
       refine oCall (u := (oI v22)) eC Cl.fn (c_laws_heldShareS h23) (Evs.cons (eR rfl) (Evs.cons eZ Evs.nil)) (VDs.cons VD.plain (VDs.cons VD.plain VDs.nil)) rfl (oMov eZ (xQ (aV (oMov eZ (oLss eZ eC (xQ ?_))))))
       rcases oite H with ⟨h24, H⟩ | ⟨h24, H⟩
       ·refine AW.condT eZ (decide_eq_true h24) (aV (oMov eC (xQ (AW.ret (BQ.qr (TQ.qr (TQ.qr (BQ.qr (TQ.qr ?_)))))))))
        cases H
        exact eE rfl rfl
       ·exact AW.condF eZ (decide_eq_false h24) (AW.skip (BQ.qn (TQ.qn (aR (oMov (eR rfl) (oAdd eZ eC (oMov eZ (xNil (TQ.qn ⟨(v22, (IntKind.wrap .i64 (s5.2 + 1))), H, (wk_mk [] (kR rfl rfl (kR rfl rfl (kR rfl rfl SL.nil))) BL.nil BK.nil)⟩)))))))))
  ·exact AW.condF eZ (decide_eq_false h7) (AW.exit (TQ.qe (TQ.qe (BQ.qe (TQ.qn ⟨s5.1, H, (wk_mk [] (kR rfl rfl SL.nil) BL.nil BK.nil)⟩)))))
theorem c_laws_heldIntS {a1 : (List Int)} {a2 : Int} {r : Int} (H : m_laws_heldIntS a1 a2 = some r) : Fn Try.prog k_laws_heldIntS (lent [(.sl 1 (List.map d_i64 a1)), (.int .i64 a2)]) true [(.int .i64 r)] := by
 refine i_laws_heldIntS_fn (fle rfl) ?_
 rw [init_mk]
 refine AW.weaken (wk_mk [] (kv 0 (.one (.d (.sl 1 (List.map d_i64 a1)))) rfl rfl (kv 1 (oI a2) rfl rfl SL.nil)) BL.nil BK.nil) ?_
 unfold m_laws_heldIntS at H
 unfold i_laws_heldIntS
 refine aV (oMov eC (xQ (AW.seqJ (fun t3 : Int => laws_heldIntS_j3 t3 = some r) (fun t3 => mk [(1, (oI t3))] [] noG) ?_ ?_)))
 ·intro t3 H
  unfold laws_heldIntS_j3 at H
  refine aV (oMov eZ (oMov eZ (xQ (AW.ret ?_))))
  cases H
  exact eE rfl rfl
 ·refine aV (oMov eC (xQ (AW.block (AW.iter (fun s5 : (Int × Int) => mk [(0, (.one (.d (.sl 1 (List.map d_i64 a1))))), (1, (oI s5.1)), (5, (oI s5.2))] [] noG) H (wk_mk [] (kR rfl rfl (kR rfl rfl (kR rfl rfl SL.nil))) BL.nil BK.nil) ?_))))
  intro kb6 s5 H
  unfold laws_heldIntS_b5 at H
  refine aS (aV (oMov (eR rfl) (oMov (eR rfl) (oLenD eZ (n := a1.length) (List.length_map _) (oLss (eR rfl) eZ (xQ ?_))))))
  rcases oite H with ⟨h7, H⟩ | ⟨h7, H⟩
  ·refine AW.condT eZ (decide_eq_true h7) (AW.skip (TQ.qn (aS (AW.block (aS (aV (oMov (eR rfl) (oMov (eR rfl) ?_))))))))
   obtain ⟨v8, h9, H⟩ := obind H
   refine oAtD (eR rfl) eZ h9 (oLoadB (e := (.int .i64 v8)) eZ rfl (oMov (eR rfl) (oNeq (eR rfl) eZ (xQ ?_))))
   rcases oite H with ⟨h10, H⟩ | ⟨h10, H⟩
   ·refine AW.condT eZ (decide_eq_true h10) (aV (oMov eC (xQ (AW.ret (TQ.qr (BQ.qr (TQ.qr (TQ.qr (BQ.qr (TQ.qr ?_))))))))))
    cases H
    exact eE rfl rfl
   ·exact AW.condF eZ (decide_eq_false h10) (AW.skip (TQ.qn (aR (oMov (eR rfl) (oAdd eZ eC (oMov eZ (xNil (BQ.qn (TQ.qn (AW.weaken (wk_mk [] (kr 1 rfl rfl (kr 0 rfl rfl (kr 5 rfl rfl SL.nil))) BL.nil BK.nil) (aR (oMov (eR rfl) (oAdd eZ eC (oMov eZ (xNil (TQ.qn ⟨((IntKind.wrap .i64 (s5.1 + 1)), (IntKind.wrap .i64 (s5.2 + 1))), H, (wk_mk [] (kR rfl rfl (kR rfl rfl (kR rfl rfl SL.nil))) BL.nil BK.nil)⟩))))))))))))))))
  ·exact AW.condF eZ (decide_eq_false h7) (AW.exit (TQ.qe (TQ.qe (BQ.qe (TQ.qn ⟨s5.1, H, (wk_mk [] (kR rfl rfl SL.nil) BL.nil BK.nil)⟩)))))
theorem c_laws_heldCoord {a1 : TCoord} {a2 : Int} {r : Int} (H : m_laws_heldCoord a1 a2 = some r) : Fn Try.prog k_laws_heldCoord (lent [(.agg (d_TCoord a1)), (.int .i64 a2)]) true [(.int .i64 r)] := by
 refine i_laws_heldCoord_fn (fle rfl) ?_
 rw [init_mk]
 refine AW.weaken (wk_mk [] (kv 0 (.agg [(.d (.sl 5 (List.map d_TRec a1.Recs))), (.d (.sl 1 (List.map d_i64 a1.Order)))]) rfl rfl (kv 1 (oI a2) rfl rfl SL.nil)) BL.nil BK.nil) ?_
 unfold m_laws_heldCoord at H
 unfold i_laws_heldCoord
 refine aV (oBox (n := 128) (m := 2) (cs := [(.d (.sl 5 (List.map d_TRec a1.Recs))), (.d (.sl 1 (List.map d_i64 a1.Order)))]) rfl eZ rfl rfl nZ (oMov eC (xQ (aV (oFaddrN (m := 0) (eR rfl) rfl (oLoadV (q := 0) (c := (.d (.sl 5 (List.map d_TRec a1.Recs)))) eZ bZ rfl rfl (oMov (eR rfl) ?_)))))))
 obtain ⟨v3, h4, H⟩ := obind H
 refine oCall (u := (oI v3)) eC Cl.fn (c_laws_heldRecS h4) (Evs.cons (eR rfl) (Evs.cons eZ Evs.nil)) (VDs.cons VD.plain (VDs.cons VD.plain VDs.nil)) rfl (oMov eZ (xQ (aS (aV (oMov eZ (oLss eZ eC (xQ ?_)))))))
 rcases oite H with ⟨h5, H⟩ | ⟨h5, H⟩
 ·refine AW.condT eZ (decide_eq_true h5) (aV (oMov eC (xQ (AW.ret (TQ.qr ?_)))))
  cases H
  exact eE rfl rfl
 ·refine AW.condF eZ (decide_eq_false h5) (AW.skip (TQ.qn (aV (oFaddrN (m := 1) (eR rfl) rfl (oLoadV (q := 1) (c := (.d (.sl 1 (List.map d_i64 a1.Order)))) eZ bZ rfl rfl (oMov (eR rfl) ?_))))))
  obtain ⟨v6, h7, H⟩ := obind H
  refine oCall (u := (oI v6)) eC Cl.fn (c_laws_heldIntS h7) (Evs.cons (eR rfl) (Evs.cons eZ Evs.nil)) (VDs.cons VD.plain (VDs.cons VD.plain VDs.nil)) rfl (oMov eZ (xQ (AW.weaken (wk_mk [128] (kr 1 rfl rfl SL.nil) (BL.drop rfl BL.nil) BK.nil) (aS (aV (oMov eZ (oLss eZ eC (xQ ?_))))))))
  rcases oite H with ⟨h8, H⟩ | ⟨h8, H⟩
  ·refine AW.condT eZ (decide_eq_true h8) (aV (oMov eC (xQ (AW.ret (TQ.qr ?_)))))
   cases H
   exact eE rfl rfl
  ·refine AW.condF eZ (decide_eq_false h8) (AW.skip (TQ.qn (aV (oMov (eR rfl) (oMov eZ (xQ (AW.ret ?_)))))))
   cases H
   exact eE rfl rfl
theorem c_laws_FnExactCoordCommit {a1 : TCoord} {a2 : Int} {a3 : (List TShare)} {r : Bool} (H : m_laws_FnExactCoordCommit a1 a2 a3 = some r) : Fn Try.prog k_laws_FnExactCoordCommit (lent [(.agg (d_TCoord a1)), (.int .i64 a2), (.sl 4 (List.map d_TShare a3))]) true [(.bool r)] := by
 refine i_laws_FnExactCoordCommit_fn (fle rfl) ?_
 rw [init_mk]
 refine AW.weaken (t := mk [(0, (.agg [(.d (.sl 5 (List.map d_TRec a1.Recs))), (.d (.sl 1 (List.map d_i64 a1.Order)))])), (1, (oI a2)), (2, (.one (.d (.sl 4 (List.map d_TShare a3)))))] [] (lk [])) (wk_mk [] (kv 0 (.agg [(.d (.sl 5 (List.map d_TRec a1.Recs))), (.d (.sl 1 (List.map d_i64 a1.Order)))]) rfl rfl (kv 1 (oI a2) rfl rfl (kv 2 (.one (.d (.sl 4 (List.map d_TShare a3)))) rfl rfl SL.nil))) BL.nil BK.nil) ?_
 unfold m_laws_FnExactCoordCommit at H
 unfold i_laws_FnExactCoordCommit
 refine aV (oBox (n := 192) (m := 2) (cs := [(.d (.sl 5 (List.map d_TRec a1.Recs))), (.d (.sl 1 (List.map d_i64 a1.Order)))]) rfl eZ rfl rfl nZ (oMov eC (xQ (aV (oMov eC (xQ (aV (oLoadVA (es := [(.d (.sl 5 (List.map d_TRec a1.Recs))), (.d (.sl 1 (List.map d_i64 a1.Order)))]) (eR rfl) bZ rfl (oMov (eR rfl) ?_)))))))))
 obtain ⟨v4, h5, H⟩ := obind H
 refine oCall (u := (oI v4)) eC Cl.fn (c_laws_szCoord h5) (Evs.cons (eR rfl) (Evs.cons eZ Evs.nil)) (VDs.cons (VD.agg rfl) (VDs.cons VD.plain VDs.nil)) rfl (oMov eZ (xQ (aS (aV (oMov eZ (oLss eZ eC (xQ ?_)))))))
 rcases oite H with ⟨h6, H⟩ | ⟨h6, H⟩
 ·refine AW.condT eZ (decide_eq_true h6) (aV (oMov eC (xQ (AW.ret (TQ.qr ?_)))))
  cases H
  exact eE rfl rfl
 ·refine AW.condF eZ (decide_eq_false h6) (AW.skip (TQ.qn (aV (oMov (eR rfl) (oMov (eR rfl) ?_)))))
  obtain ⟨v7, h8, H⟩ := obind H
  refine oCall (u := (oI v7)) eC Cl.fn (c_laws_szShareS h8) (Evs.cons (eR rfl) (Evs.cons eZ Evs.nil)) (VDs.cons VD.plain (VDs.cons VD.plain VDs.nil)) rfl (oMov eZ (xQ (AW.weaken (wk_mkG [] (kr 7 rfl rfl (kr 3 rfl rfl (kr 1 rfl rfl (kr 2 rfl rfl SL.nil)))) (BL.keep rfl BL.nil) (BK.cons (n := 192) rfl bZ rfl rfl BK.nil) GK.nil) (aS (aV (oMov eZ (oLss eZ eC (xQ ?_))))))))
  rcases oite H with ⟨h9, H⟩ | ⟨h9, H⟩
  ·refine AW.condT eZ (decide_eq_true h9) (aV (oMov eC (xQ (AW.ret (TQ.qr ?_)))))
   cases H
   exact eE rfl rfl
  ·refine AW.condF eZ (decide_eq_false h9) (AW.skip (TQ.qn (aS (AW.regm (rmOne (oLoadVA (es := [(.d (.sl 5 (List.map d_TRec a1.Recs))), (.d (.sl 1 (List.map d_i64 a1.Order)))]) (eR rfl) bZ rfl (xNil (rmOne ?_))))))))
   obtain ⟨v10, h11, H⟩ := obind H
   refine oCall (u := (.agg [(.d (.sl 5 (List.map d_TRec v10.Recs))), (.d (.sl 1 (List.map d_i64 v10.Order)))])) eC Cl.fn (c_laws_toCoord h11) (Evs.cons eZ Evs.nil) (VDs.cons (VD.agg rfl) VDs.nil) rfl (xNil (rmOne (oMov (eR rfl) (xNil (rmOne (oMov (eR rfl) (xNil (rmOne ?_))))))))
   obtain ⟨v12, h13, H⟩ := obind H
   refine oCall (u := (.one (.d (.sl 4 (List.map d_TShare v12))))) eC Cl.fn (c_laws_toShareS h13) (Evs.cons eZ Evs.nil) (VDs.cons VD.plain VDs.nil) rfl (xNil (rmOne ?_))
   obtain ⟨v14, h15, H⟩ := obind H
   refine oCall (u := (.tup [(.agg [(.d (.sl 5 (List.map d_TRec v14.1.Recs))), (.d (.sl 1 (List.map d_i64 v14.1.Order)))]), (oI v14.2)])) eC Cl.fn (c_spec_CoordCommit h15) (Evs.cons (eR rfl) (Evs.cons (eR rfl) (Evs.cons eZ Evs.nil))) (VDs.cons (VD.agg rfl) (VDs.cons VD.plain (VDs.cons VD.plain VDs.nil))) rfl (xNil (rmOne (oMov eZ (xNil (rmOne (oExt (v := (.agg [(.d (.sl 5 (List.map d_TRec v14.1.Recs))), (.d (.sl 1 (List.map d_i64 v14.1.Order)))])) eZ rfl (xNil (rmOne (oExt (v := (oI v14.2)) (eR rfl) rfl (xNil (rmOne (oVar (n := 512) (m := 2) rfl rfl (nS rfl nZ) (xNil (rmOne (oStoreV (es := [(.d (.sl 5 (List.map d_TRec v14.1.Recs))), (.d (.sl 1 (List.map d_i64 v14.1.Order)))]) eZ (eR rfl) rfl rfl bZ rfl (xNil (rmRest (oMov (eR rfl) (xQ (AW.weaken (wk_mkG [] (kr 9 rfl rfl (kr 8 rfl rfl (kr 3 rfl rfl (kr 1 rfl rfl (kr 2 rfl rfl SL.nil))))) (BL.keep rfl (BL.keep rfl (BL.keep rfl BL.nil))) (BK.cons (n := 512) rfl bZ rfl rfl (BK.cons (n := 192) rfl (bS rfl (bS rfl bZ)) rfl rfl BK.nil)) GK.nil) (aS (AW.regm (rmOne (oLoadVA (es := [(.d (.sl 5 (List.map d_TRec a1.Recs))), (.d (.sl 1 (List.map d_i64 a1.Order)))]) (eR rfl) (bS rfl bZ) rfl (xNil (rmOne ?_))))))))))))))))))))))))))
   obtain ⟨v16, h17, H⟩ := obind H
   refine oCallN (u := (.agg [(.sl 2496 0 v16.Recs.length), (.sl 2497 0 v16.Order.length)])) (bs := [(2496, (.data 5 (List.map d_TRec v16.Recs) true none)), (2497, (.data 1 (List.map d_i64 v16.Order) true none))]) eC Cl.fn (c_laws_toCoord h17) (Evs.cons eZ Evs.nil) (VDs.cons (VD.agg rfl) VDs.nil) (by simp [bindR, bindV, bindVs, bindC, bindCs]) rfl (fC (nS rfl (nS rfl nZ)) rfl (fC (nS rfl (nS rfl nZ)) rfl (fC (nS rfl (nS rfl nZ)) rfl fN))) (xNil (rmOne (oVar (n := 640) (m := 2) rfl rfl (nS rfl (nS rfl (nS rfl (nS rfl nZ)))) (xNil (rmOne (oStoreV (es := [(.sl 2496 0 v16.Recs.length), (.sl 2497 0 v16.Order.length)]) eZ (eR rfl) rfl rfl bZ rfl (xNil (rmRest (xQ (aV (oMov (eR rfl) ?_)))))))))))
   obtain ⟨v18, h19, H⟩ := obind H
   refine oCallN (u := (.one (.sl 2624 0 v18.length))) (bs := [(2624, (.data 4 (List.map d_TShare v18) true none))]) eC Cl.fn (c_laws_toShareS h19) (Evs.cons eZ Evs.nil) (VDs.cons VD.plain VDs.nil) (by simp [bindR, bindV, bindVs, bindC, bindCs]) rfl (fC (nS rfl (nS rfl (nS rfl (nS rfl (nS rfl (nS rfl nZ)))))) rfl (fC (nS rfl (nS rfl (nS rfl (nS rfl (nS rfl (nS rfl nZ)))))) rfl fN)) (oMov eZ (xQ (aS (AW.regm (rmOne (oLoadVA (es := [(.sl 2496 0 v16.Recs.length), (.sl 2497 0 v16.Order.length)]) (eR rfl) (bS rfl bZ) rfl (xNil (rmOne (oMov (eR rfl) (xNil (rmOne (oMov (eR rfl) (xNil (rmOne ?_))))))))))))))
   obtain ⟨v20, h21, H⟩ := obind H
   refine oCallN (u := (.tup [(.agg [(.sl 2944 0 v20.1.Recs.length), (.sl 2945 0 v20.1.Order.length)]), (oI v20.2)])) (bs := [(2944, (.data 5 (List.map d_TRec v20.1.Recs) true none)), (2945, (.data 1 (List.map d_i64 v20.1.Order) true none))]) eC Cl.fn (c_impl_CoordCommit h21) (Evs.cons (eR rfl) (Evs.cons (eR rfl) (Evs.cons eZ Evs.nil))) (VDs.cons (VD.aggs (CDs.sl (bS rfl (bS rfl (bS rfl (bS rfl bZ)))) (List.length_map _) (CDs.sl (bS rfl (bS rfl (bS rfl bZ))) (List.length_map _) CDs.nil))) (VDs.cons VD.plain (VDs.cons (VD.sl bZ (List.length_map _)) VDs.nil))) (by simp [bindR, bindV, bindVs, bindC, bindCs]) rfl (fC (nS rfl (nS rfl (nS rfl (nS rfl (nS rfl (nS rfl (nS rfl nZ))))))) rfl (fC (nS rfl (nS rfl (nS rfl (nS rfl (nS rfl (nS rfl (nS rfl nZ))))))) rfl (fC (nS rfl (nS rfl (nS rfl (nS rfl (nS rfl (nS rfl (nS rfl nZ))))))) rfl fN))) (xNil (rmOne (oMov eZ (xNil (rmOne (oExt (v := (.agg [(.sl 2944 0 v20.1.Recs.length), (.sl 2945 0 v20.1.Order.length)])) eZ rfl (xNil (rmOne (oExt (v := (oI v20.2)) (eR rfl) rfl (xNil (rmOne (oVar (n := 768) (m := 2) rfl rfl (nS rfl (nS rfl (nS rfl (nS rfl (nS rfl (nS rfl (nS rfl (nS rfl (nS rfl nZ))))))))) (xNil (rmOne (oStoreV (es := [(.sl 2944 0 v20.1.Recs.length), (.sl 2945 0 v20.1.Order.length)]) eZ (eR rfl) rfl rfl bZ rfl (xNil (rmRest (oMov (eR rfl) (xQ (AW.weaken (wk_mkG [] (kr 13 rfl rfl (kr 12 rfl rfl (kr 11 rfl rfl (kr 10 rfl rfl (kr 9 rfl rfl (kr 8 rfl rfl (kr 3 rfl rfl (kr 1 rfl rfl (kr 2 rfl rfl SL.nil))))))))) (BL.keep rfl (BL.keep rfl (BL.keep rfl (BL.keep rfl (BL.keep rfl (BL.keep rfl (BL.keep rfl (BL.keep rfl (BL.keep rfl (BL.keep rfl (BL.keep rfl BL.nil))))))))))) (BK.cons (n := 768) rfl bZ rfl rfl (BK.cons (n := 2945) rfl (bS rfl (bS rfl bZ)) rfl rfl (BK.cons (n := 2944) rfl (bS rfl (bS rfl (bS rfl bZ))) rfl rfl (BK.cons (n := 2624) rfl (bS rfl (bS rfl (bS rfl (bS rfl bZ)))) rfl rfl (BK.cons (n := 640) rfl (bS rfl (bS rfl (bS rfl (bS rfl (bS rfl bZ))))) rfl rfl (BK.cons (n := 2497) rfl (bS rfl (bS rfl (bS rfl (bS rfl (bS rfl (bS rfl (bS rfl bZ))))))) rfl rfl (BK.cons (n := 2496) rfl (bS rfl (bS rfl (bS rfl (bS rfl (bS rfl (bS rfl (bS rfl (bS rfl bZ)))))))) rfl rfl (BK.cons (n := 512) rfl (bS rfl (bS rfl (bS rfl (bS rfl (bS rfl (bS rfl (bS rfl (bS rfl (bS rfl bZ))))))))) rfl rfl (BK.cons (n := 192) rfl (bS rfl (bS rfl (bS rfl (bS rfl (bS rfl (bS rfl (bS rfl (bS rfl (bS rfl (bS rfl bZ)))))))))) rfl rfl BK.nil))))))))) GK.nil) (aS (AW.seqJ (fun t22 : Bool => (laws_FnExactCoordCommit_j22 a1 v16 a3 v18 v20 a2 v14) t22 = some r) (fun t22 => mk [(1, (oI a2)), (2, (.one (.d (.sl 4 (List.map d_TShare a3))))), (3, (.one (.ptr (.nm 192 0 0)))), (8, (.one (.ptr (.nm 512 0 0)))), (9, (oI v14.2)), (10, (.one (.ptr (.nm 640 0 0)))), (11, (.one (.sl 2624 0 v18.length))), (12, (.one (.ptr (.nm 768 0 0)))), (13, (oI v20.2)), (57, (oB t22))] [(192, (.vars 2 [(.d (.sl 5 (List.map d_TRec a1.Recs))), (.d (.sl 1 (List.map d_i64 a1.Order)))])), (512, (.vars 2 [(.d (.sl 5 (List.map d_TRec v14.1.Recs))), (.d (.sl 1 (List.map d_i64 v14.1.Order)))])), (640, (.vars 2 [(.sl 2496 0 v16.Recs.length), (.sl 2497 0 v16.Order.length)])), (768, (.vars 2 [(.sl 2944 0 v20.1.Recs.length), (.sl 2945 0 v20.1.Order.length)])), (2496, (.data 5 (List.map d_TRec v16.Recs) true none)), (2497, (.data 1 (List.map d_i64 v16.Order) true none)), (2624, (.data 4 (List.map d_TShare v18) true none)), (2944, (.data 5 (List.map d_TRec v20.1.Recs) true none)), (2945, (.data 1 (List.map d_i64 v20.1.Order) true none))] (lk [])) ?_ ?_))))))))))))))))))))))
   ·intro t22 H
    unfold laws_FnExactCoordCommit_j22 at H
    rcases oite H with ⟨h24, H⟩ | ⟨h24, H⟩
    ·refine AW.condT (eR rfl) h24 (aV (oMov eC (xQ (AW.ret (TQ.qr ?_)))))
     cases H
     exact eE rfl rfl
    ·refine AW.condF (eR rfl) (nt h24) (AW.skip (TQ.qn (aS (aS (AW.regd (oLoadVA (es := [(.sl 2496 0 v16.Recs.length), (.sl 2497 0 v16.Order.length)]) (eR rfl) (hB rfl (bS rfl (bS rfl bZ))) rfl (oLoadVA (es := [(.d (.sl 5 (List.map d_TRec a1.Recs))), (.d (.sl 1 (List.map d_i64 a1.Order)))]) (eR rfl) bZ rfl ?_)))))))
     obtain ⟨v25, h26, H⟩ := obind H
     refine oCall (u := (.agg [(.d (.sl 5 (List.map d_TRec v25.Recs))), (.d (.sl 1 (List.map d_i64 v25.Order)))])) eC Cl.fn (c_laws_toCoord h26) (Evs.cons eZ Evs.nil) (VDs.cons (VD.agg rfl) VDs.nil) rfl ?_
     obtain ⟨v27, h28, H⟩ := obind H
     refine oCall (u := (oB v27)) eC Cl.fn (c_laws_eqCoord h28) (Evs.cons (eR rfl) (Evs.cons eZ Evs.nil)) (VDs.cons (VD.aggs (CDs.sl (bS rfl (bS rfl (bS rfl (bS rfl bZ)))) (List.length_map _) (CDs.sl (bS rfl (bS rfl (bS rfl (bS rfl (bS rfl bZ))))) (List.length_map _) CDs.nil))) (VDs.cons (VD.agg rfl) VDs.nil)) rfl (oInv eZ (xQ ?_))
     rcases oite H with ⟨h29, H⟩ | ⟨h29, H⟩
     ·refine AW.condF eZ (congrArg Bool.not h29) (AW.skip (TQ.qn (aS (aV (oMov (eR rfl) (oMov (eR rfl) ?_))))))
      obtain ⟨v30, h31, H⟩ := obind H
      refine oCall (u := (.one (.d (.sl 4 (List.map d_TShare v30))))) eC Cl.fn (c_laws_toShareS h31) (Evs.cons eZ Evs.nil) (VDs.cons VD.plain VDs.nil) rfl ?_
      obtain ⟨v32, h33, H⟩ := obind H
      refine oCall (u := (oB v32)) eC Cl.fn (c_laws_eqShareS h33) (Evs.cons (eR rfl) (Evs.cons eZ Evs.nil)) (VDs.cons (VD.sl (bS rfl (bS rfl (bS rfl (bS rfl (bS rfl (bS rfl bZ)))))) (List.length_map _)) (VDs.cons VD.plain VDs.nil)) rfl (oInv eZ (xQ (AW.weaken (wk_mkG [] (kr 67 rfl rfl (kr 1 rfl rfl (kr 2 rfl rfl (kr 3 rfl rfl (kr 8 rfl rfl (kr 9 rfl rfl (kr 10 rfl rfl (kr 11 rfl rfl (kr 12 rfl rfl (kr 13 rfl rfl SL.nil)))))))))) (BL.keep rfl (BL.keep rfl (BL.keep rfl (BL.keep rfl (BL.keep rfl (BL.keep rfl (BL.keep rfl (BL.keep rfl (BL.keep rfl BL.nil))))))))) (BK.cons (n := 192) rfl bZ rfl rfl (BK.cons (n := 512) rfl (bS rfl bZ) rfl rfl (BK.cons (n := 640) rfl (bS rfl (bS rfl bZ)) rfl rfl (BK.cons (n := 768) rfl (bS rfl (bS rfl (bS rfl bZ))) rfl rfl (BK.cons (n := 2496) rfl (bS rfl (bS rfl (bS rfl (bS rfl bZ)))) rfl rfl (BK.cons (n := 2497) rfl (bS rfl (bS rfl (bS rfl (bS rfl (bS rfl bZ))))) rfl rfl (BK.cons (n := 2624) rfl (bS rfl (bS rfl (bS rfl (bS rfl (bS rfl (bS rfl bZ)))))) rfl rfl (BK.cons (n := 2944) rfl (bS rfl (bS rfl (bS rfl (bS rfl (bS rfl (bS rfl (bS rfl bZ))))))) rfl rfl (BK.cons (n := 2945) rfl (bS rfl (bS rfl (bS rfl (bS rfl (bS rfl (bS rfl (bS rfl (bS rfl bZ)))))))) rfl rfl BK.nil))))))))) GK.nil) ?_)))
      rcases oite H with ⟨h34, H⟩ | ⟨h34, H⟩
      ·refine AW.condF eZ (congrArg Bool.not h34) (AW.skip (TQ.qn (aV (oMov eC (xQ (aS (AW.regm (rmOne (oLoadVA (es := [(.sl 2496 0 v16.Recs.length), (.sl 2497 0 v16.Order.length)]) (eR rfl) (bS rfl (bS rfl bZ)) rfl (xNil (rmOne (oMov (eR rfl) (xNil ?_)))))))))))))
       obtain ⟨v35, h36, H⟩ := obind H
       obtain ⟨h37, H⟩ := oguard H
       obtain ⟨h38, H⟩ := oguard H
       refine rmCallI (ON := [2496, 2497]) (ls := []) (G := []) (E := [subKey 2496, subKey 2497]) (MB := [(2496, (.data 5 (List.map d_TRec v35.2.Recs) true none)), (2497, (.data 1 (List.map d_i64 v35.2.Order) true none))]) (u := (oI v35.1)) eC Cl.fn (c_laws_markCoord h36) (Evs.cons (eR rfl) (Evs.cons eZ Evs.nil)) (AO.mut (VO.aggs (VOs.cons (VO.sln (bS rfl (bS rfl (bS rfl (bS rfl bZ)))) (List.length_map _) rfl) (VOs.cons (VO.sl (bS rfl (bS rfl (bS rfl (bS rfl (bS rfl bZ))))) (List.length_map _) (allFlat fun _ => rfl)) VOs.nil))) (AO.lent VD.plain rfl AO.nil)) rfl rfl rfl (SZ.cons (bS rfl (bS rfl (bS rfl (bS rfl bZ)))) (SZ.cons (bS rfl (bS rfl (bS rfl (bS rfl (bS rfl bZ))))) SZ.nil)) (erL.cons (v' := (oI 1)) rfl (erL.cons (v' := (.agg [(.sl 2496 0 v16.Recs.length), (.sl 2497 0 v16.Order.length)])) rfl (erL.cons (v' := (oI 1)) rfl (erL.cons (v' := (oB (!v32))) rfl (erL.cons (v' := (oI a2)) rfl (erL.cons (v' := (.one (.d (.sl 4 (List.map d_TShare a3))))) rfl (erL.cons (v' := (.one (.ptr (.nm 192 0 0)))) rfl (erL.cons (v' := (.one (.ptr (.nm 512 0 0)))) rfl (erL.cons (v' := (oI v14.2)) rfl (erL.cons (v' := (.one (.ptr (.nm 640 0 0)))) rfl (erL.cons (v' := (.one (.sl 2624 0 v18.length))) rfl (erL.cons (v' := (.one (.ptr (.nm 768 0 0)))) rfl (erL.cons (v' := (oI v20.2)) rfl erL.nil))))))))))))) (erH.cons (v' := (.vars 2 [(.d (.sl 5 (List.map d_TRec a1.Recs))), (.d (.sl 1 (List.map d_i64 a1.Order)))])) rfl rfl (erH.cons (v' := (.vars 2 [(.d (.sl 5 (List.map d_TRec v14.1.Recs))), (.d (.sl 1 (List.map d_i64 v14.1.Order)))])) rfl rfl (erH.cons (v' := (.vars 2 [(.sl 2496 0 v16.Recs.length), (.sl 2497 0 v16.Order.length)])) rfl rfl (erH.cons (v' := (.vars 2 [(.sl 2944 0 v20.1.Recs.length), (.sl 2945 0 v20.1.Order.length)])) rfl rfl (erH.cons (v' := (.data 5 (List.map d_TRec v16.Recs) true none)) rfl rfl (erH.cons (v' := (.data 1 (List.map d_i64 v16.Order) true none)) rfl rfl (erH.cons (v' := (.data 4 (List.map d_TShare v18) true none)) rfl rfl (erH.cons (v' := (.data 5 (List.map d_TRec v20.1.Recs) true none)) rfl rfl (erH.cons (v' := (.data 1 (List.map d_i64 v20.1.Order) true none)) rfl rfl erH.nil))))))))) erL.nil rfl rfl (rmRest (oMov eZ (xQ (aS (AW.regm (rmOne (oMov (eR rfl) (xNil (rmOne (oMov (eR rfl) (xNil ?_)))))))))))
       obtain ⟨v39, h40, H⟩ := obind H
       obtain ⟨h41, H⟩ := oguard H
       refine rmCallI (ON := [2624]) (ls := []) (G := []) (E := [subKey 2624]) (MB := [(2624, (.data 4 (List.map d_TShare v39.2) true none))]) (u := (oI v39.1)) eC Cl.fn (c_laws_markShareS h40) (Evs.cons (eR rfl) (Evs.cons eZ Evs.nil)) (AO.mut (VO.sln (bS rfl (bS rfl (bS rfl (bS rfl (bS rfl (bS rfl (bS rfl (bS rfl bZ)))))))) (List.length_map _) rfl) (AO.lent VD.plain rfl AO.nil)) rfl rfl rfl (SZ.cons (bS rfl (bS rfl (bS rfl (bS rfl (bS rfl (bS rfl (bS rfl (bS rfl bZ)))))))) SZ.nil) (erL.cons (v' := (oI v35.1)) rfl (erL.cons (v' := (.one (.sl 2624 0 v18.length))) rfl (erL.cons (v' := (oI v35.1)) rfl (erL.cons (v' := (oI v35.1)) rfl (erL.cons (v' := (oI 1)) rfl (erL.cons (v' := (.agg [(.sl 2496 0 v16.Recs.length), (.sl 2497 0 v16.Order.length)])) rfl (erL.cons (v' := (oI 1)) rfl (erL.cons (v' := (oB (!v32))) rfl (erL.cons (v' := (oI a2)) rfl (erL.cons (v' := (.one (.d (.sl 4 (List.map d_TShare a3))))) rfl (erL.cons (v' := (.one (.ptr (.nm 192 0 0)))) rfl (erL.cons (v' := (.one (.ptr (.nm 512 0 0)))) rfl (erL.cons (v' := (oI v14.2)) rfl (erL.cons (v' := (.one (.ptr (.nm 640 0 0)))) rfl (erL.cons (v' := (.one (.sl 2624 0 v18.length))) rfl (erL.cons (v' := (.one (.ptr (.nm 768 0 0)))) rfl (erL.cons (v' := (oI v20.2)) rfl erL.nil))))))))))))))))) (erH.cons (v' := (.data 1 (List.map d_i64 v35.2.Order) true none)) rfl rfl (erH.cons (v' := (.data 5 (List.map d_TRec v35.2.Recs) true none)) rfl rfl (erH.cons (v' := (.vars 2 [(.d (.sl 5 (List.map d_TRec a1.Recs))), (.d (.sl 1 (List.map d_i64 a1.Order)))])) rfl rfl (erH.cons (v' := (.vars 2 [(.d (.sl 5 (List.map d_TRec v14.1.Recs))), (.d (.sl 1 (List.map d_i64 v14.1.Order)))])) rfl rfl (erH.cons (v' := (.vars 2 [(.sl 2496 0 v16.Recs.length), (.sl 2497 0 v16.Order.length)])) rfl rfl (erH.cons (v' := (.vars 2 [(.sl 2944 0 v20.1.Recs.length), (.sl 2945 0 v20.1.Order.length)])) rfl rfl (erH.cons (v' := (.data 5 (List.map d_TRec v16.Recs) true none)) rfl rfl (erH.cons (v' := (.data 1 (List.map d_i64 v16.Order) true none)) rfl rfl (erH.cons (v' := (.data 4 (List.map d_TShare v18) true none)) rfl rfl (erH.cons (v' := (.data 5 (List.map d_TRec v20.1.Recs) true none)) rfl rfl (erH.cons (v' := (.data 1 (List.map d_i64 v20.1.Order) true none)) rfl rfl erH.nil))))))))))) erL.nil rfl rfl (rmRest (oMov eZ (xQ (AW.weaken (wk_mkG [2624, 2497, 2496, 640] (kr 14 rfl rfl (kr 1 rfl rfl (kr 2 rfl rfl (kr 3 rfl rfl (kr 8 rfl rfl (kr 9 rfl rfl (kr 12 rfl rfl (kr 13 rfl rfl SL.nil)))))))) (BL.drop rfl (BL.drop rfl (BL.drop rfl (BL.keep rfl (BL.keep rfl (BL.drop rfl (BL.keep rfl (BL.drop rfl (BL.drop rfl (BL.drop rfl (BL.keep rfl (BL.keep rfl BL.nil)))))))))))) (BK.cons (n := 192) rfl (bS rfl (bS rfl (bS rfl bZ))) rfl rfl (BK.cons (n := 512) rfl (bS rfl (bS rfl (bS rfl (bS rfl bZ)))) rfl rfl (BK.cons (n := 768) rfl (bS rfl (bS rfl (bS rfl (bS rfl (bS rfl (bS rfl bZ)))))) rfl rfl (BK.cons (n := 2944) rfl (bS rfl (bS rfl (bS rfl (bS rfl (bS rfl (bS rfl (bS rfl (bS rfl (bS rfl (bS rfl bZ)))))))))) rfl rfl (BK.cons (n := 2945) rfl (bS rfl (bS rfl (bS rfl (bS rfl (bS rfl (bS rfl (bS rfl (bS rfl (bS rfl (bS rfl (bS rfl bZ))))))))))) rfl rfl BK.nil))))) GK.nil) (aS (AW.seqJ (fun t42 : Bool => (laws_FnExactCoordCommit_j42 v20 a1 a3 a2 v14) t42 = some r) (fun t42 => mk [(1, (oI a2)), (2, (.one (.d (.sl 4 (List.map d_TShare a3))))), (3, (.one (.ptr (.nm 192 0 0)))), (8, (.one (.ptr (.nm 512 0 0)))), (9, (oI v14.2)), (12, (.one (.ptr (.nm 768 0 0)))), (86, (oB t42))] [(192, (.vars 2 [(.d (.sl 5 (List.map d_TRec a1.Recs))), (.d (.sl 1 (List.map d_i64 a1.Order)))])), (512, (.vars 2 [(.d (.sl 5 (List.map d_TRec v14.1.Recs))), (.d (.sl 1 (List.map d_i64 v14.1.Order)))])), (768, (.vars 2 [(.sl 2944 0 v20.1.Recs.length), (.sl 2945 0 v20.1.Order.length)])), (2944, (.data 5 (List.map d_TRec v20.1.Recs) true none)), (2945, (.data 1 (List.map d_i64 v20.1.Order) true none))] (lk [])) ?_ ?_))))))
       ·intro t42 H
        unfold laws_FnExactCoordCommit_j42 at H
        rcases oite H with ⟨h44, H⟩ | ⟨h44, H⟩
        ·refine AW.condT (eR rfl) h44 (aV (oMov eC (xQ (AW.ret (TQ.qr ?_)))))
         cases H
         exact eE rfl rfl
        ·refine AW.condF (eR rfl) (nt h44) (AW.skip (TQ.qn (aV (oMov eC (xQ (aS (AW.regm (rmOne (oLoadVA (es := [(.sl 2944 0 v20.1.Recs.length), (.sl 2945 0 v20.1.Order.length)]) (eR rfl) (bS rfl (bS rfl bZ)) rfl (xNil (rmOne (oMov (eR rfl) (xNil ?_)))))))))))))
         obtain ⟨v45, h46, H⟩ := obind H
         obtain ⟨h47, H⟩ := oguard H
         obtain ⟨h48, H⟩ := oguard H
         refine rmCallI (ON := [2944, 2945]) (ls := []) (G := []) (E := [subKey 2944, subKey 2945]) (MB := [(2944, (.data 5 (List.map d_TRec v45.2.Recs) true none)), (2945, (.data 1 (List.map d_i64 v45.2.Order) true none))]) (u := (oI v45.1)) eC Cl.fn (c_laws_markCoord h46) (Evs.cons (eR rfl) (Evs.cons eZ Evs.nil)) (AO.mut (VO.aggs (VOs.cons (VO.sln (bS rfl (bS rfl (bS rfl bZ))) (List.length_map _) rfl) (VOs.cons (VO.sl (bS rfl (bS rfl (bS rfl (bS rfl bZ)))) (List.length_map _) (allFlat fun _ => rfl)) VOs.nil))) (AO.lent VD.plain rfl AO.nil)) rfl rfl rfl (SZ.cons (bS rfl (bS rfl (bS rfl bZ))) (SZ.cons (bS rfl (bS rfl (bS rfl (bS rfl bZ)))) SZ.nil)) (erL.cons (v' := (oI 1)) rfl (erL.cons (v' := (.agg [(.sl 2944 0 v20.1.Recs.length), (.sl 2945 0 v20.1.Order.length)])) rfl (erL.cons (v' := (oI 1)) rfl (erL.cons (v' := (oI a2)) rfl (erL.cons (v' := (.one (.d (.sl 4 (List.map d_TShare a3))))) rfl (erL.cons (v' := (.one (.ptr (.nm 192 0 0)))) rfl (erL.cons (v' := (.one (.ptr (.nm 512 0 0)))) rfl (erL.cons (v' := (oI v14.2)) rfl (erL.cons (v' := (.one (.ptr (.nm 768 0 0)))) rfl (erL.cons (v' := (oB t42)) rfl erL.nil)))))))))) (erH.cons (v' := (.vars 2 [(.d (.sl 5 (List.map d_TRec a1.Recs))), (.d (.sl 1 (List.map d_i64 a1.Order)))])) rfl rfl (erH.cons (v' := (.vars 2 [(.d (.sl 5 (List.map d_TRec v14.1.Recs))), (.d (.sl 1 (List.map d_i64 v14.1.Order)))])) rfl rfl (erH.cons (v' := (.vars 2 [(.sl 2944 0 v20.1.Recs.length), (.sl 2945 0 v20.1.Order.length)])) rfl rfl (erH.cons (v' := (.data 5 (List.map d_TRec v20.1.Recs) true none)) rfl rfl (erH.cons (v' := (.data 1 (List.map d_i64 v20.1.Order) true none)) rfl rfl erH.nil))))) erL.nil rfl rfl (rmRest (oMov eZ (xQ (aV (oMov eC (xQ (aV (oLoadVA (es := [(.sl 2944 0 v20.1.Recs.length), (.sl 2945 0 v20.1.Order.length)]) (eR rfl) (bS rfl (bS rfl (bS rfl (bS rfl bZ)))) rfl (oMov (eR rfl) ?_)))))))))
         obtain ⟨v49, h50, H⟩ := obind H
         refine oCall (u := (oI v49)) eC Cl.fn (c_laws_heldCoord h50) (Evs.cons (eR rfl) (Evs.cons eZ Evs.nil)) (VDs.cons (VD.aggs (CDs.sl (bS rfl bZ) (by first | (simp; done) | (simp; omega) | omega) (CDs.sl bZ (by first | (simp; done) | (simp; omega) | omega) CDs.nil))) (VDs.cons VD.plain VDs.nil)) rfl (oMov eZ (xQ (AW.weaken (wk_mkG [] (kr 16 rfl rfl (kr 15 rfl rfl (kr 1 rfl rfl (kr 2 rfl rfl (kr 3 rfl rfl (kr 8 rfl rfl (kr 9 rfl rfl (kr 12 rfl rfl SL.nil)))))))) (BL.keep rfl (BL.keep rfl (BL.keep rfl (BL.keep rfl (BL.keep rfl (BL.keep rfl (BL.keep rfl BL.nil))))))) (BK.cons (n := 2945) rfl bZ rfl rfl (BK.cons (n := 2944) rfl (bS rfl bZ) rfl rfl (BK.cons (n := 192) rfl (bS rfl (bS rfl bZ)) rfl rfl (BK.cons (n := 512) rfl (bS rfl (bS rfl (bS rfl bZ))) rfl rfl (BK.cons (n := 768) rfl (bS rfl (bS rfl (bS rfl (bS rfl bZ)))) rfl rfl BK.nil))))) GK.nil) (aS (aV (oMov eZ (oLss eZ eC (xQ ?_))))))))
         rcases oite H with ⟨h51, H⟩ | ⟨h51, H⟩
         ·refine AW.condT eZ (decide_eq_true h51) (aV (oMov eC (xQ (AW.ret (TQ.qr ?_)))))
          cases H
          exact eE rfl rfl
         ·refine AW.condF eZ (decide_eq_false h51) (AW.skip (TQ.qn (aS (aV (oMov (eR rfl) (oMov (eR rfl) (oNeq (eR rfl) eZ (xQ ?_))))))))
          rcases oite H with ⟨h52, H⟩ | ⟨h52, H⟩
          ·refine AW.condT eZ (decide_eq_true h52) (aV (oMov eC (xQ (AW.ret (TQ.qr ?_)))))
           cases H
           exact eE rfl rfl
          ·refine AW.condF eZ (decide_eq_false h52) (AW.skip (TQ.qn (aS (AW.regm (rmOne (oLoadVA (es := [(.d (.sl 5 (List.map d_TRec a1.Recs))), (.d (.sl 1 (List.map d_i64 a1.Order)))]) (eR rfl) (bS rfl (bS rfl bZ)) rfl (xNil (rmOne ?_))))))))
           obtain ⟨v53, h54, H⟩ := obind H
           refine oCall (u := (.agg [(.d (.sl 5 (List.map d_TRec v53.Recs))), (.d (.sl 1 (List.map d_i64 v53.Order)))])) eC Cl.fn (c_laws_toCoord h54) (Evs.cons eZ Evs.nil) (VDs.cons (VD.agg rfl) VDs.nil) rfl (xNil (rmOne (oMov (eR rfl) (xNil (rmOne (oMov (eR rfl) (xNil (rmOne ?_))))))))
           obtain ⟨v55, h56, H⟩ := obind H
           refine oCall (u := (.one (.d (.sl 4 (List.map d_TShare v55))))) eC Cl.fn (c_laws_toShareS h56) (Evs.cons eZ Evs.nil) (VDs.cons VD.plain VDs.nil) rfl (xNil (rmOne ?_))
           obtain ⟨v57, h58, H⟩ := obind H
           refine oCall (u := (.tup [(.agg [(.d (.sl 5 (List.map d_TRec v57.1.Recs))), (.d (.sl 1 (List.map d_i64 v57.1.Order)))]), (oI v57.2)])) eC Cl.fn (c_impl_CoordCommit h58) (Evs.cons (eR rfl) (Evs.cons (eR rfl) (Evs.cons eZ Evs.nil))) (VDs.cons (VD.agg rfl) (VDs.cons VD.plain (VDs.cons VD.plain VDs.nil))) rfl (xNil (rmOne (oMov eZ (xNil (rmOne (oExt (v := (.agg [(.d (.sl 5 (List.map d_TRec v57.1.Recs))), (.d (.sl 1 (List.map d_i64 v57.1.Order)))])) eZ rfl (xNil (rmOne (oExt (v := (oI v57.2)) (eR rfl) rfl (xNil (rmOne (oVar (n := 1088) (m := 2) rfl rfl (nS rfl (nS rfl (nS rfl (nS rfl (nS rfl nZ))))) (xNil (rmOne (oStoreV (es := [(.d (.sl 5 (List.map d_TRec v57.1.Recs))), (.d (.sl 1 (List.map d_i64 v57.1.Order)))]) eZ (eR rfl) rfl rfl bZ rfl (xNil (rmRest (oMov (eR rfl) (xQ (AW.weaken (wk_mkG [192] (kr 18 rfl rfl (kr 17 rfl rfl (kr 15 rfl rfl (kr 8 rfl rfl (kr 9 rfl rfl (kr 12 rfl rfl SL.nil)))))) (BL.keep rfl (BL.keep rfl (BL.keep rfl (BL.keep rfl (BL.drop rfl (BL.keep rfl (BL.keep rfl BL.nil))))))) (BK.cons (n := 1088) rfl bZ rfl rfl (BK.cons (n := 2945) rfl (bS rfl (bS rfl bZ)) rfl rfl (BK.cons (n := 2944) rfl (bS rfl (bS rfl (bS rfl bZ))) rfl rfl (BK.cons (n := 512) rfl (bS rfl (bS rfl (bS rfl (bS rfl (bS rfl bZ))))) rfl rfl (BK.cons (n := 768) rfl (bS rfl (bS rfl (bS rfl (bS rfl (bS rfl (bS rfl bZ)))))) rfl rfl BK.nil))))) GK.nil) (aS (AW.seqJ (fun t59 : Bool => (laws_FnExactCoordCommit_j59 v45) t59 = some r) (fun t59 => mk [(12, (.one (.ptr (.nm 768 0 0)))), (15, (oI v45.1)), (115, (oB t59))] [(768, (.vars 2 [(.sl 2944 0 v20.1.Recs.length), (.sl 2945 0 v20.1.Order.length)])), (2944, (.data 5 (List.map d_TRec v45.2.Recs) true none)), (2945, (.data 1 (List.map d_i64 v45.2.Order) true none))] (lk [])) ?_ ?_))))))))))))))))))))))
           ·intro t59 H
            unfold laws_FnExactCoordCommit_j59 at H
            rcases oite H with ⟨h61, H⟩ | ⟨h61, H⟩
            ·refine AW.condT (eR rfl) h61 (aV (oMov eC (xQ (AW.ret (TQ.qr ?_)))))
             cases H
             exact eE rfl rfl
            ·refine AW.condF (eR rfl) (nt h61) (AW.skip (TQ.qn (aV (oMov eC (xQ (aV (oLoadVA (es := [(.sl 2944 0 v20.1.Recs.length), (.sl 2945 0 v20.1.Order.length)]) (eR rfl) bZ rfl (oMov (eR rfl) ?_))))))))
             obtain ⟨v62, h63, H⟩ := obind H
             refine oCall (u := (oI v62)) eC Cl.fn (c_laws_heldCoord h63) (Evs.cons (eR rfl) (Evs.cons eZ Evs.nil)) (VDs.cons (VD.aggs (CDs.sl (bS rfl bZ) (by first | (simp; done) | (simp; omega) | omega) (CDs.sl (bS rfl (bS rfl bZ)) (by first | (simp; done) | (simp; omega) | omega) CDs.nil))) (VDs.cons VD.plain VDs.nil)) rfl (oMov eZ (xQ (aS (aV (oMov eZ (oLss eZ eC (xQ ?_)))))))
             rcases oite H with ⟨h64, H⟩ | ⟨h64, H⟩
             ·refine AW.condT eZ (decide_eq_true h64) (aV (oMov eC (xQ (AW.ret (TQ.qr ?_)))))
              cases H
              exact eE rfl rfl
             ·refine AW.condF eZ (decide_eq_false h64) (AW.skip (TQ.qn (aS (aV (oMov (eR rfl) (oMov (eR rfl) (oNeq (eR rfl) eZ (xQ ?_))))))))
              rcases oite H with ⟨h65, H⟩ | ⟨h65, H⟩
              ·refine AW.condT eZ (decide_eq_true h65) (aV (oMov eC (xQ (AW.ret (TQ.qr ?_)))))
               cases H
               exact eE rfl rfl
              ·refine AW.condF eZ (decide_eq_false h65) (AW.skip (TQ.qn (aV (oMov eC (xQ (AW.ret ?_))))))
               cases H
               exact eE rfl rfl
           ·refine aR (oLoadVA (es := [(.d (.sl 5 (List.map d_TRec v57.1.Recs))), (.d (.sl 1 (List.map d_i64 v57.1.Order)))]) (eR rfl) bZ rfl (oLoadVA (es := [(.d (.sl 5 (List.map d_TRec v14.1.Recs))), (.d (.sl 1 (List.map d_i64 v14.1.Order)))]) (eR rfl) (bS rfl (bS rfl (bS rfl bZ))) rfl ?_))
            obtain ⟨v66, h67, H⟩ := obind H
            refine oCall (u := (oB v66)) eC Cl.fn (c_laws_eqCoord h67) (Evs.cons (eR rfl) (Evs.cons eZ Evs.nil)) (VDs.cons (VD.agg rfl) (VDs.cons (VD.agg rfl) VDs.nil)) rfl (oInv eZ (oMov eZ ?_))
            rcases oite H with ⟨h68, H⟩ | ⟨h68, H⟩
            ·exact gDo eZ (congrArg Bool.not h68) (oMov (eR rfl) (gDo (eR rfl) (congrArg Bool.not h68) (oMov (eR rfl) (gDo (eR rfl) (congrArg Bool.not h68) (oNeq (eR rfl) eZ (oPickF (eR rfl) (congrArg Bool.not h68) eZ (xNil (TQ.qn ⟨(decide (¬ v57.2 = v14.2)), H, (wk_mkG [1088, 512] (kR rfl rfl (kR rfl rfl (kR rfl rfl SL.nil))) (BL.drop rfl (BL.keep rfl (BL.keep rfl (BL.drop rfl (BL.keep rfl BL.nil))))) (BK.cons rfl (bS rfl (bS rfl (bS rfl (bS rfl bZ)))) rfl (by first | rfl | simp) (BK.cons rfl (bS rfl (bS rfl bZ)) rfl rfl (BK.cons rfl (bS rfl bZ) rfl rfl BK.nil))) GK.nil)⟩))))))))
            ·exact gSkip eZ (congrArg Bool.not (nt h68)) rfl (gSkip (eR rfl) (congrArg Bool.not (nt h68)) rfl (gSkip (eR rfl) (congrArg Bool.not (nt h68)) rfl (oPickT (eR rfl) (congrArg Bool.not (nt h68)) eC (xNil (TQ.qn ⟨true, H, (wk_mkG [1088, 512] (kR rfl rfl (kR rfl rfl (kR rfl rfl SL.nil))) (BL.drop rfl (BL.keep rfl (BL.keep rfl (BL.drop rfl (BL.keep rfl BL.nil))))) (BK.cons rfl (bS rfl (bS rfl (bS rfl (bS rfl bZ)))) rfl (by first | rfl | simp) (BK.cons rfl (bS rfl (bS rfl bZ)) rfl rfl (BK.cons rfl (bS rfl bZ) rfl rfl BK.nil))) GK.nil)⟩)))))
       ·refine aR (oMov eZ (oLss eZ eC (oMov eZ ?_)))
        rcases oite H with ⟨h69, H⟩ | ⟨h69, H⟩
        ·exact gSkip eZ (decide_eq_true h69) rfl (gSkip (eR rfl) (decide_eq_true h69) rfl (gSkip (eR rfl) (decide_eq_true h69) rfl (gSkip (eR rfl) (decide_eq_true h69) rfl (oPickT (eR rfl) (decide_eq_true h69) eC (oMov eZ (gSkip eZ rfl rfl (gSkip (eR rfl) rfl rfl (gSkip (eR rfl) rfl rfl (oPickT (eR rfl) rfl eC (xNil (TQ.qn ⟨true, H, (wk_mkG [] (kR rfl rfl (kR rfl rfl (kR rfl rfl (kR rfl rfl (kR rfl rfl (kR rfl rfl (kR rfl rfl SL.nil))))))) (BL.keep rfl (BL.keep rfl (BL.keep rfl (BL.keep rfl (BL.keep rfl BL.nil))))) (BK.cons rfl bZ rfl rfl (BK.cons rfl (bS rfl bZ) rfl rfl (BK.cons rfl (bS rfl (bS rfl bZ)) rfl (by first | rfl | simp) (BK.cons rfl (bS rfl (bS rfl (bS rfl bZ))) rfl rfl (BK.cons rfl (bS rfl (bS rfl (bS rfl (bS rfl bZ)))) rfl rfl BK.nil))))) GK.nil)⟩)))))))))))
        ·refine gDo eZ (decide_eq_false h69) (oLoadVA (es := [(.sl 2944 0 v20.1.Recs.length), (.sl 2945 0 v20.1.Order.length)]) (eR rfl) (bS rfl (bS rfl bZ)) rfl (gDo (eR rfl) (decide_eq_false h69) (oLoadVA (es := [(.d (.sl 5 (List.map d_TRec v14.1.Recs))), (.d (.sl 1 (List.map d_i64 v14.1.Order)))]) (eR rfl) (bS rfl bZ) rfl (gDo (eR rfl) (decide_eq_false h69) ?_))))
         obtain ⟨v70, h71, H⟩ := obind H
         refine oCall (u := (oB v70)) eC Cl.fn (c_laws_eqCoord h71) (Evs.cons (eR rfl) (Evs.cons eZ Evs.nil)) (VDs.cons (VD.aggs (CDs.sl (bS rfl (bS rfl (bS rfl bZ))) (List.length_map _) (CDs.sl (bS rfl (bS rfl (bS rfl (bS rfl bZ)))) (List.length_map _) CDs.nil))) (VDs.cons (VD.agg rfl) VDs.nil)) rfl (gDo (eR rfl) (decide_eq_false h69) (oInv eZ (oPickF (eR rfl) (decide_eq_false h69) eZ (oMov eZ ?_))))
         rcases oite H with ⟨h72, H⟩ | ⟨h72, H⟩
         ·exact gDo eZ (congrArg Bool.not h72) (oMov (eR rfl) (gDo (eR rfl) (congrArg Bool.not h72) (oMov (eR rfl) (gDo (eR rfl) (congrArg Bool.not h72) (oNeq (eR rfl) eZ (oPickF (eR rfl) (congrArg Bool.not h72) eZ (xNil (TQ.qn ⟨(decide (¬ v20.2 = v14.2)), H, (wk_mkG [] (kR rfl rfl (kR rfl rfl (kR rfl rfl (kR rfl rfl (kR rfl rfl (kR rfl rfl (kR rfl rfl SL.nil))))))) (BL.keep rfl (BL.keep rfl (BL.keep rfl (BL.keep rfl (BL.keep rfl BL.nil))))) (BK.cons rfl bZ rfl rfl (BK.cons rfl (bS rfl bZ) rfl rfl (BK.cons rfl (bS rfl (bS rfl bZ)) rfl (by first | rfl | simp) (BK.cons rfl (bS rfl (bS rfl (bS rfl bZ))) rfl rfl (BK.cons rfl (bS rfl (bS rfl (bS rfl (bS rfl bZ)))) rfl rfl BK.nil))))) GK.nil)⟩))))))))
         ·exact gSkip eZ (congrArg Bool.not (nt h72)) rfl (gSkip (eR rfl) (congrArg Bool.not (nt h72)) rfl (gSkip (eR rfl) (congrArg Bool.not (nt h72)) rfl (oPickT (eR rfl) (congrArg Bool.not (nt h72)) eC (xNil (TQ.qn ⟨true, H, (wk_mkG [] (kR rfl rfl (kR rfl rfl (kR rfl rfl (kR rfl rfl (kR rfl rfl (kR rfl rfl (kR rfl rfl SL.nil))))))) (BL.keep rfl (BL.keep rfl (BL.keep rfl (BL.keep rfl (BL.keep rfl BL.nil))))) (BK.cons rfl bZ rfl rfl (BK.cons rfl (bS rfl bZ) rfl rfl (BK.cons rfl (bS rfl (bS rfl bZ)) rfl (by first | rfl | simp) (BK.cons rfl (bS rfl (bS rfl (bS rfl bZ))) rfl rfl (BK.cons rfl (bS rfl (bS rfl (bS rfl (bS rfl bZ)))) rfl rfl BK.nil))))) GK.nil)⟩)))))
      ·refine AW.condT eZ (congrArg Bool.not (nt h34)) (aV (oMov eC (xQ (AW.ret (TQ.qr ?_)))))
       cases H
       exact eE rfl rfl
     ·refine AW.condT eZ (congrArg Bool.not (nt h29)) (aV (oMov eC (xQ (AW.weaken (wk_mkG [192, 512, 640, 768, 2496, 2497, 2624, 2944, 2945] (kr 6 rfl rfl SL.nil) (BL.drop rfl (BL.drop rfl (BL.drop rfl (BL.drop rfl (BL.drop rfl (BL.drop rfl (BL.drop rfl (BL.drop rfl (BL.drop rfl BL.nil))))))))) BK.nil GK.nil) (AW.ret (TQ.qr ?_))))))
      cases H
      exact eE rfl rfl
   ·refine aR (oLoadVA (es := [(.sl 2944 0 v20.1.Recs.length), (.sl 2945 0 v20.1.Order.length)]) (eR rfl) bZ rfl (oLoadVA (es := [(.d (.sl 5 (List.map d_TRec v14.1.Recs))), (.d (.sl 1 (List.map d_i64 v14.1.Order)))]) (eR rfl) (bS rfl (bS rfl (bS rfl (bS rfl (bS rfl (bS rfl (bS rfl bZ))))))) rfl ?_))
    obtain ⟨v73, h74, H⟩ := obind H
    refine oCall (u := (oB v73)) eC Cl.fn (c_laws_eqCoord h74) (Evs.cons (eR rfl) (Evs.cons eZ Evs.nil)) (VDs.cons (VD.aggs (CDs.sl (bS rfl (bS rfl bZ)) (List.length_map _) (CDs.sl (bS rfl bZ) (List.length_map _) CDs.nil))) (VDs.cons (VD.agg rfl) VDs.nil)) rfl (oInv eZ (oMov eZ ?_))
    rcases oite H with ⟨h75, H⟩ | ⟨h75, H⟩
    ·exact gDo eZ (congrArg Bool.not h75) (oMov (eR rfl) (gDo (eR rfl) (congrArg Bool.not h75) (oMov (eR rfl) (gDo (eR rfl) (congrArg Bool.not h75) (oNeq (eR rfl) eZ (oPickF (eR rfl) (congrArg Bool.not h75) eZ (xNil (TQ.qn ⟨(decide (¬ v20.2 = v14.2)), H, (wk_mkG [] (kR rfl rfl (kR rfl rfl (kR rfl rfl (kR rfl rfl (kR rfl rfl (kR rfl rfl (kR rfl rfl (kR rfl rfl (kR rfl rfl (kR rfl rfl SL.nil)))))))))) (BL.keep rfl (BL.keep rfl (BL.keep rfl (BL.keep rfl (BL.keep rfl (BL.keep rfl (BL.keep rfl (BL.keep rfl (BL.keep rfl BL.nil))))))))) (BK.cons rfl (bS rfl (bS rfl (bS rfl (bS rfl (bS rfl (bS rfl (bS rfl (bS rfl bZ)))))))) rfl rfl (BK.cons rfl (bS rfl (bS rfl (bS rfl (bS rfl (bS rfl (bS rfl (bS rfl bZ))))))) rfl rfl (BK.cons rfl (bS rfl (bS rfl (bS rfl (bS rfl bZ)))) rfl (by first | rfl | simp) (BK.cons rfl bZ rfl (by first | rfl | simp) (BK.cons rfl (bS rfl (bS rfl (bS rfl (bS rfl (bS rfl (bS rfl bZ)))))) rfl rfl (BK.cons rfl (bS rfl (bS rfl (bS rfl (bS rfl (bS rfl bZ))))) rfl rfl (BK.cons rfl (bS rfl (bS rfl (bS rfl bZ))) rfl rfl (BK.cons rfl (bS rfl (bS rfl bZ)) rfl rfl (BK.cons rfl (bS rfl bZ) rfl rfl BK.nil))))))))) GK.nil)⟩))))))))
    ·exact gSkip eZ (congrArg Bool.not (nt h75)) rfl (gSkip (eR rfl) (congrArg Bool.not (nt h75)) rfl (gSkip (eR rfl) (congrArg Bool.not (nt h75)) rfl (oPickT (eR rfl) (congrArg Bool.not (nt h75)) eC (xNil (TQ.qn ⟨true, H, (wk_mkG [] (kR rfl rfl (kR rfl rfl (kR rfl rfl (kR rfl rfl (kR rfl rfl (kR rfl rfl (kR rfl rfl (kR rfl rfl (kR rfl rfl (kR rfl rfl SL.nil)))))))))) (BL.keep rfl (BL.keep rfl (BL.keep rfl (BL.keep rfl (BL.keep rfl (BL.keep rfl (BL.keep rfl (BL.keep rfl (BL.keep rfl BL.nil))))))))) (BK.cons rfl (bS rfl (bS rfl (bS rfl (bS rfl (bS rfl (bS rfl (bS rfl (bS rfl bZ)))))))) rfl rfl (BK.cons rfl (bS rfl (bS rfl (bS rfl (bS rfl (bS rfl (bS rfl (bS rfl bZ))))))) rfl rfl (BK.cons rfl (bS rfl (bS rfl (bS rfl (bS rfl bZ)))) rfl (by first | rfl | simp) (BK.cons rfl bZ rfl (by first | rfl | simp) (BK.cons rfl (bS rfl (bS rfl (bS rfl (bS rfl (bS rfl (bS rfl bZ)))))) rfl rfl (BK.cons rfl (bS rfl (bS rfl (bS rfl (bS rfl (bS rfl bZ))))) rfl rfl (BK.cons rfl (bS rfl (bS rfl (bS rfl bZ))) rfl rfl (BK.cons rfl (bS rfl (bS rfl bZ)) rfl rfl (BK.cons rfl (bS rfl bZ) rfl rfl BK.nil))))))))) GK.nil)⟩)))))
end Go.AW
