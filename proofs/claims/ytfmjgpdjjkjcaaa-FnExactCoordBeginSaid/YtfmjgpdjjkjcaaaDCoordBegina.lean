/- That functions of the program compute what the plain functions say: printed by a program of the prover's own (tool/dec.py). Conditions: each theorem's own. -/
import Derived.Test.YtfmjgpdjjkjcaaaMCoordBegin
import Derived.Test.YtfmjgpdjjkjcaaaGCoordBegin
set_option linter.unusedVariables false
set_option linter.unusedSimpArgs false
set_option maxRecDepth 100000
namespace Go.AW
open Go.Proofs
theorem c_laws_szRangeS {a1 : (List TRange)} {a2 : Int} {r : Int} (H : m_laws_szRangeS a1 a2 = some r) : Fn Try.prog k_laws_szRangeS (lent [(.sl 2 (List.map d_TRange a1)), (.int .i64 a2)]) true [(.int .i64 r)] := by
 refine i_laws_szRangeS_fn (fle rfl) ?_
 rw [init_mk]
 refine AW.weaken (wk_mk [] (kv 0 (.one (.d (.sl 2 (List.map d_TRange a1)))) rfl rfl (kv 1 (oI a2) rfl rfl SL.nil)) BL.nil BK.nil) ?_
 unfold m_laws_szRangeS at H
 unfold i_laws_szRangeS
 refine aV (oMov eC (xQ (aV (oMov (eR rfl) (oMov (eR rfl) (oLenD eZ (n := a1.length) (List.length_map _) (oSub (eR rfl) eZ (oMov eZ (xQ (aS (aV (oMov eZ (oLss eZ eC (xQ ?_))))))))))))))
 rcases oite H with ⟨h3, H⟩ | ⟨h3, H⟩
 ·refine AW.condT eZ (decide_eq_true h3) (aV (oMov eC (xQ (AW.ret (TQ.qr ?_)))))
  cases H
  exact eE rfl rfl
 ·refine AW.condF eZ (decide_eq_false h3) (AW.skip (TQ.qn (aV (oMov (eR rfl) (oMov eZ (xQ (AW.ret ?_)))))))
  cases H
  exact eE rfl rfl
theorem c_laws_szWriteS {a1 : (List TCell)} {a2 : Int} {r : Int} (H : m_laws_szWriteS a1 a2 = some r) : Fn Try.prog k_laws_szWriteS (lent [(.sl 2 (List.map d_TCell a1)), (.int .i64 a2)]) true [(.int .i64 r)] := by
 refine i_laws_szWriteS_fn (fle rfl) ?_
 rw [init_mk]
 refine AW.weaken (wk_mk [] (kv 0 (.one (.d (.sl 2 (List.map d_TCell a1)))) rfl rfl (kv 1 (oI a2) rfl rfl SL.nil)) BL.nil BK.nil) ?_
 unfold m_laws_szWriteS at H
 unfold i_laws_szWriteS
 refine aV (oMov eC (xQ (aV (oMov (eR rfl) (oMov (eR rfl) (oLenD eZ (n := a1.length) (List.length_map _) (oSub (eR rfl) eZ (oMov eZ (xQ (aS (aV (oMov eZ (oLss eZ eC (xQ ?_))))))))))))))
 rcases oite H with ⟨h3, H⟩ | ⟨h3, H⟩
 ·refine AW.condT eZ (decide_eq_true h3) (aV (oMov eC (xQ (AW.ret (TQ.qr ?_)))))
  cases H
  exact eE rfl rfl
 ·refine AW.condF eZ (decide_eq_false h3) (AW.skip (TQ.qn (aV (oMov (eR rfl) (oMov eZ (xQ (AW.ret ?_)))))))
  cases H
  exact eE rfl rfl
theorem c_laws_szShare {a1 : TShare} {a2 : Int} {r : Int} (H : m_laws_szShare a1 a2 = some r) : Fn Try.prog k_laws_szShare (lent [(.agg (d_TShare a1)), (.int .i64 a2)]) true [(.int .i64 r)] := by
 refine i_laws_szShare_fn (fle rfl) ?_
 rw [init_mk]
 refine AW.weaken (wk_mk [] (kv 0 (.agg [(dI a1.Group), (.d (.sl 2 (List.map d_TRange a1.Reads))), (.d (.sl 2 (List.map d_TCell a1.Writes))), (dI a1.Vote)]) rfl rfl (kv 1 (oI a2) rfl rfl SL.nil)) BL.nil BK.nil) ?_
 unfold m_laws_szShare at H
 unfold i_laws_szShare
 refine aV (oBox (n := 128) (m := 4) (cs := [(dI a1.Group), (.d (.sl 2 (List.map d_TRange a1.Reads))), (.d (.sl 2 (List.map d_TCell a1.Writes))), (dI a1.Vote)]) rfl eZ rfl rfl nZ (oMov eC (xQ (aV (oFaddrN (m := 1) (eR rfl) rfl (oLoadV (q := 1) (c := (.d (.sl 2 (List.map d_TRange a1.Reads)))) eZ bZ rfl rfl (oMov (eR rfl) ?_)))))))
 obtain ⟨v3, h4, H⟩ := obind H
 refine oCall (u := (oI v3)) eC Cl.fn (c_laws_szRangeS h4) (Evs.cons (eR rfl) (Evs.cons eZ Evs.nil)) (VDs.cons VD.plain (VDs.cons VD.plain VDs.nil)) rfl (oMov eZ (xQ (aS (aV (oMov eZ (oLss eZ eC (xQ ?_)))))))
 rcases oite H with ⟨h5, H⟩ | ⟨h5, H⟩
 ·refine AW.condT eZ (decide_eq_true h5) (aV (oMov eC (xQ (AW.ret (TQ.qr ?_)))))
  cases H
  exact eE rfl rfl
 ·refine AW.condF eZ (decide_eq_false h5) (AW.skip (TQ.qn (aV (oFaddrN (m := 2) (eR rfl) rfl (oLoadV (q := 2) (c := (.d (.sl 2 (List.map d_TCell a1.Writes)))) eZ bZ rfl rfl (oMov (eR rfl) ?_))))))
  obtain ⟨v6, h7, H⟩ := obind H
  refine oCall (u := (oI v6)) eC Cl.fn (c_laws_szWriteS h7) (Evs.cons (eR rfl) (Evs.cons eZ Evs.nil)) (VDs.cons VD.plain (VDs.cons VD.plain VDs.nil)) rfl (oMov eZ (xQ (AW.weaken (wk_mk [128] (kr 1 rfl rfl SL.nil) (BL.drop rfl BL.nil) BK.nil) (aS (aV (oMov eZ (oLss eZ eC (xQ ?_))))))))
  rcases oite H with ⟨h8, H⟩ | ⟨h8, H⟩
  ·refine AW.condT eZ (decide_eq_true h8) (aV (oMov eC (xQ (AW.ret (TQ.qr ?_)))))
   cases H
   exact eE rfl rfl
  ·refine AW.condF eZ (decide_eq_false h8) (AW.skip (TQ.qn (aV (oMov (eR rfl) (oMov eZ (xQ (AW.ret ?_)))))))
   cases H
   exact eE rfl rfl
theorem c_laws_szShareS {a1 : (List TShare)} {a2 : Int} {r : Int} (H : m_laws_szShareS a1 a2 = some r) : Fn Try.prog k_laws_szShareS (lent [(.sl 4 (List.map d_TShare a1)), (.int .i64 a2)]) true [(.int .i64 r)] := by
 refine i_laws_szShareS_fn (fle rfl) ?_
 rw [init_mk]
 refine AW.weaken (wk_mk [] (kv 0 (.one (.d (.sl 4 (List.map d_TShare a1)))) rfl rfl (kv 1 (oI a2) rfl rfl SL.nil)) BL.nil BK.nil) ?_
 unfold m_laws_szShareS at H
 unfold i_laws_szShareS
 refine aV (oMov eC (xQ (aV (oMov (eR rfl) (oMov (eR rfl) (oLenD eZ (n := a1.length) (List.length_map _) (oSub (eR rfl) eZ (oMov eZ (xQ (aS (aV (oMov eZ (oLss eZ eC (xQ ?_))))))))))))))
 rcases oite H with ⟨h3, H⟩ | ⟨h3, H⟩
 ·refine AW.condT eZ (decide_eq_true h3) (aV (oMov eC (xQ (AW.ret (TQ.qr ?_)))))
  cases H
  exact eE rfl rfl
 ·refine AW.condF eZ (decide_eq_false h3) (AW.skip (TQ.qn (AW.seqJ (fun t4 : Int => laws_szShareS_j4 t4 = some r) (fun t4 => mk [(1, (oI t4))] [] noG) ?_ ?_)))
  ·intro t4 H
   unfold laws_szShareS_j4 at H
   refine aV (oMov eZ (oMov eZ (xQ (AW.ret ?_))))
   cases H
   exact eE rfl rfl
  ·refine aV (oMov eC (xQ (AW.block (AW.iter (fun s6 : (Int × Int) => mk [(0, (.one (.d (.sl 4 (List.map d_TShare a1))))), (1, (oI s6.1)), (5, (oI s6.2))] [] noG) H (wk_mk [] (kR rfl rfl (kR rfl rfl (kR rfl rfl SL.nil))) BL.nil BK.nil) ?_))))
   intro kb7 s6 H
   unfold laws_szShareS_b6 at H
   refine aS (aV (oMov (eR rfl) (oMov (eR rfl) (oLenD eZ (n := a1.length) (List.length_map _) (oLss (eR rfl) eZ (xQ ?_))))))
   rcases oite H with ⟨h8, H⟩ | ⟨h8, H⟩
   ·refine AW.condT eZ (decide_eq_true h8) (AW.skip (TQ.qn (aS (AW.block (aV (oMov (eR rfl) (oMov (eR rfl) ?_)))))))
    obtain ⟨v9, h10, H⟩ := obind H
    refine oAtD (eR rfl) eZ h10 (oLoadBA (es := [(dI v9.Group), (.d (.sl 2 (List.map d_TRange v9.Reads))), (.d (.sl 2 (List.map d_TCell v9.Writes))), (dI v9.Vote)]) eZ rfl (oMov (eR rfl) ?_))
    obtain ⟨v11, h12, H⟩ := obind H
    refine oCall (u := (oI v11)) eC Cl.fn (c_laws_szShare h12) (Evs.cons (eR rfl) (Evs.cons eZ Evs.nil)) (VDs.cons (VD.agg rfl) (VDs.cons VD.plain VDs.nil)) rfl (oMov eZ (xQ (aV (oMov eZ (oLss eZ eC (xQ (AW.weaken (wk_mk [] (kr 25 rfl rfl (kr 1 rfl rfl (kr 0 rfl rfl (kr 5 rfl rfl SL.nil)))) BL.nil BK.nil) ?_)))))))
    rcases oite H with ⟨h13, H⟩ | ⟨h13, H⟩
    ·refine AW.condT eZ (decide_eq_true h13) (aV (oMov eC (xQ (AW.ret (BQ.qr (TQ.qr (TQ.qr (BQ.qr (TQ.qr ?_)))))))))
     cases H
     exact eE rfl rfl
    ·exact AW.condF eZ (decide_eq_false h13) (AW.skip (BQ.qn (TQ.qn (aR (oMov (eR rfl) (oAdd eZ eC (oMov eZ (xNil (TQ.qn ⟨(v11, (IntKind.wrap .i64 (s6.2 + 1))), H, (wk_mk [] (kR rfl rfl (kR rfl rfl (kR rfl rfl SL.nil))) BL.nil BK.nil)⟩)))))))))
   ·exact AW.condF eZ (decide_eq_false h8) (AW.exit (TQ.qe (TQ.qe (BQ.qe (TQ.qn ⟨s6.1, H, (wk_mk [] (kR rfl rfl SL.nil) BL.nil BK.nil)⟩)))))
theorem c_laws_szRec {a1 : TRec} {a2 : Int} {r : Int} (H : m_laws_szRec a1 a2 = some r) : Fn Try.prog k_laws_szRec (lent [(.agg (d_TRec a1)), (.int .i64 a2)]) true [(.int .i64 r)] := by
 refine i_laws_szRec_fn (fle rfl) ?_
 rw [init_mk]
 refine AW.weaken (wk_mk [] (kv 0 (.agg [(dI a1.Tx), (dI a1.Client), (dI a1.Req), (dI a1.State), (.d (.sl 4 (List.map d_TShare a1.Shares)))]) rfl rfl (kv 1 (oI a2) rfl rfl SL.nil)) BL.nil BK.nil) ?_
 unfold m_laws_szRec at H
 unfold i_laws_szRec
 refine aV (oBox (n := 128) (m := 5) (cs := [(dI a1.Tx), (dI a1.Client), (dI a1.Req), (dI a1.State), (.d (.sl 4 (List.map d_TShare a1.Shares)))]) rfl eZ rfl rfl nZ (oMov eC (xQ (aV (oFaddrN (m := 4) (eR rfl) rfl (oLoadV (q := 4) (c := (.d (.sl 4 (List.map d_TShare a1.Shares)))) eZ bZ rfl rfl (oMov (eR rfl) ?_)))))))
 obtain ⟨v3, h4, H⟩ := obind H
 refine oCall (u := (oI v3)) eC Cl.fn (c_laws_szShareS h4) (Evs.cons (eR rfl) (Evs.cons eZ Evs.nil)) (VDs.cons VD.plain (VDs.cons VD.plain VDs.nil)) rfl (oMov eZ (xQ (aS (aV (oMov eZ (oLss eZ eC (xQ ?_)))))))
 rcases oite H with ⟨h5, H⟩ | ⟨h5, H⟩
 ·refine AW.condT eZ (decide_eq_true h5) (aV (oMov eC (xQ (AW.ret (TQ.qr ?_)))))
  cases H
  exact eE rfl rfl
 ·refine AW.condF eZ (decide_eq_false h5) (AW.skip (TQ.qn (aV (oMov (eR rfl) (oMov eZ (xQ (AW.ret ?_)))))))
  cases H
  exact eE rfl rfl
theorem c_laws_szRecS {a1 : (List TRec)} {a2 : Int} {r : Int} (H : m_laws_szRecS a1 a2 = some r) : Fn Try.prog k_laws_szRecS (lent [(.sl 5 (List.map d_TRec a1)), (.int .i64 a2)]) true [(.int .i64 r)] := by
 refine i_laws_szRecS_fn (fle rfl) ?_
 rw [init_mk]
 refine AW.weaken (wk_mk [] (kv 0 (.one (.d (.sl 5 (List.map d_TRec a1)))) rfl rfl (kv 1 (oI a2) rfl rfl SL.nil)) BL.nil BK.nil) ?_
 unfold m_laws_szRecS at H
 unfold i_laws_szRecS
 refine aV (oMov eC (xQ (aV (oMov (eR rfl) (oMov (eR rfl) (oLenD eZ (n := a1.length) (List.length_map _) (oSub (eR rfl) eZ (oMov eZ (xQ (aS (aV (oMov eZ (oLss eZ eC (xQ ?_))))))))))))))
 rcases oite H with ⟨h3, H⟩ | ⟨h3, H⟩
 ·refine AW.condT eZ (decide_eq_true h3) (aV (oMov eC (xQ (AW.ret (TQ.qr ?_)))))
  cases H
  exact eE rfl rfl
 ·refine AW.condF eZ (decide_eq_false h3) (AW.skip (TQ.qn (AW.seqJ (fun t4 : Int => laws_szRecS_j4 t4 = some r) (fun t4 => mk [(1, (oI t4))] [] noG) ?_ ?_)))
  ·intro t4 H
   unfold laws_szRecS_j4 at H
   refine aV (oMov eZ (oMov eZ (xQ (AW.ret ?_))))
   cases H
   exact eE rfl rfl
  ·refine aV (oMov eC (xQ (AW.block (AW.iter (fun s6 : (Int × Int) => mk [(0, (.one (.d (.sl 5 (List.map d_TRec a1))))), (1, (oI s6.1)), (5, (oI s6.2))] [] noG) H (wk_mk [] (kR rfl rfl (kR rfl rfl (kR rfl rfl SL.nil))) BL.nil BK.nil) ?_))))
   intro kb7 s6 H
   unfold laws_szRecS_b6 at H
   refine aS (aV (oMov (eR rfl) (oMov (eR rfl) (oLenD eZ (n := a1.length) (List.length_map _) (oLss (eR rfl) eZ (xQ ?_))))))
   rcases oite H with ⟨h8, H⟩ | ⟨h8, H⟩
   ·refine AW.condT eZ (decide_eq_true h8) (AW.skip (TQ.qn (aS (AW.block (aV (oMov (eR rfl) (oMov (eR rfl) ?_)))))))
    obtain ⟨v9, h10, H⟩ := obind H
    refine oAtD (eR rfl) eZ h10 (oLoadBA (es := [(dI v9.Tx), (dI v9.Client), (dI v9.Req), (dI v9.State), (.d (.sl 4 (List.map d_TShare v9.Shares)))]) eZ rfl (oMov (eR rfl) ?_))
    obtain ⟨v11, h12, H⟩ := obind H
    refine oCall (u := (oI v11)) eC Cl.fn (c_laws_szRec h12) (Evs.cons (eR rfl) (Evs.cons eZ Evs.nil)) (VDs.cons (VD.agg rfl) (VDs.cons VD.plain VDs.nil)) rfl (oMov eZ (xQ (aV (oMov eZ (oLss eZ eC (xQ (AW.weaken (wk_mk [] (kr 25 rfl rfl (kr 1 rfl rfl (kr 0 rfl rfl (kr 5 rfl rfl SL.nil)))) BL.nil BK.nil) ?_)))))))
    rcases oite H with ⟨h13, H⟩ | ⟨h13, H⟩
    ·refine AW.condT eZ (decide_eq_true h13) (aV (oMov eC (xQ (AW.ret (BQ.qr (TQ.qr (TQ.qr (BQ.qr (TQ.qr ?_)))))))))
     cases H
     exact eE rfl rfl
    ·exact AW.condF eZ (decide_eq_false h13) (AW.skip (BQ.qn (TQ.qn (aR (oMov (eR rfl) (oAdd eZ eC (oMov eZ (xNil (TQ.qn ⟨(v11, (IntKind.wrap .i64 (s6.2 + 1))), H, (wk_mk [] (kR rfl rfl (kR rfl rfl (kR rfl rfl SL.nil))) BL.nil BK.nil)⟩)))))))))
   ·exact AW.condF eZ (decide_eq_false h8) (AW.exit (TQ.qe (TQ.qe (BQ.qe (TQ.qn ⟨s6.1, H, (wk_mk [] (kR rfl rfl SL.nil) BL.nil BK.nil)⟩)))))
theorem c_laws_szIntS {a1 : (List Int)} {a2 : Int} {r : Int} (H : m_laws_szIntS a1 a2 = some r) : Fn Try.prog k_laws_szIntS (lent [(.sl 1 (List.map d_i64 a1)), (.int .i64 a2)]) true [(.int .i64 r)] := by
 refine i_laws_szIntS_fn (fle rfl) ?_
 rw [init_mk]
 refine AW.weaken (wk_mk [] (kv 0 (.one (.d (.sl 1 (List.map d_i64 a1)))) rfl rfl (kv 1 (oI a2) rfl rfl SL.nil)) BL.nil BK.nil) ?_
 unfold m_laws_szIntS at H
 unfold i_laws_szIntS
 refine aV (oMov eC (xQ (aV (oMov (eR rfl) (oMov (eR rfl) (oLenD eZ (n := a1.length) (List.length_map _) (oSub (eR rfl) eZ (oMov eZ (xQ (aS (aV (oMov eZ (oLss eZ eC (xQ ?_))))))))))))))
 rcases oite H with ⟨h3, H⟩ | ⟨h3, H⟩
 ·refine AW.condT eZ (decide_eq_true h3) (aV (oMov eC (xQ (AW.ret (TQ.qr ?_)))))
  cases H
  exact eE rfl rfl
 ·refine AW.condF eZ (decide_eq_false h3) (AW.skip (TQ.qn (aV (oMov (eR rfl) (oMov eZ (xQ (AW.ret ?_)))))))
  cases H
  exact eE rfl rfl
theorem c_laws_szCoord {a1 : TCoord} {a2 : Int} {r : Int} (H : m_laws_szCoord a1 a2 = some r) : Fn Try.prog k_laws_szCoord (lent [(.agg (d_TCoord a1)), (.int .i64 a2)]) true [(.int .i64 r)] := by
 refine i_laws_szCoord_fn (fle rfl) ?_
 rw [init_mk]
 refine AW.weaken (wk_mk [] (kv 0 (.agg [(.d (.sl 5 (List.map d_TRec a1.Recs))), (.d (.sl 1 (List.map d_i64 a1.Order)))]) rfl rfl (kv 1 (oI a2) rfl rfl SL.nil)) BL.nil BK.nil) ?_
 unfold m_laws_szCoord at H
 unfold i_laws_szCoord
 refine aV (oBox (n := 128) (m := 2) (cs := [(.d (.sl 5 (List.map d_TRec a1.Recs))), (.d (.sl 1 (List.map d_i64 a1.Order)))]) rfl eZ rfl rfl nZ (oMov eC (xQ (aV (oFaddrN (m := 0) (eR rfl) rfl (oLoadV (q := 0) (c := (.d (.sl 5 (List.map d_TRec a1.Recs)))) eZ bZ rfl rfl (oMov (eR rfl) ?_)))))))
 obtain ⟨v3, h4, H⟩ := obind H
 refine oCall (u := (oI v3)) eC Cl.fn (c_laws_szRecS h4) (Evs.cons (eR rfl) (Evs.cons eZ Evs.nil)) (VDs.cons VD.plain (VDs.cons VD.plain VDs.nil)) rfl (oMov eZ (xQ (aS (aV (oMov eZ (oLss eZ eC (xQ ?_)))))))
 rcases oite H with ⟨h5, H⟩ | ⟨h5, H⟩
 ·refine AW.condT eZ (decide_eq_true h5) (aV (oMov eC (xQ (AW.ret (TQ.qr ?_)))))
  cases H
  exact eE rfl rfl
 ·refine AW.condF eZ (decide_eq_false h5) (AW.skip (TQ.qn (aV (oFaddrN (m := 1) (eR rfl) rfl (oLoadV (q := 1) (c := (.d (.sl 1 (List.map d_i64 a1.Order)))) eZ bZ rfl rfl (oMov (eR rfl) ?_))))))
  obtain ⟨v6, h7, H⟩ := obind H
  refine oCall (u := (oI v6)) eC Cl.fn (c_laws_szIntS h7) (Evs.cons (eR rfl) (Evs.cons eZ Evs.nil)) (VDs.cons VD.plain (VDs.cons VD.plain VDs.nil)) rfl (oMov eZ (xQ (AW.weaken (wk_mk [128] (kr 1 rfl rfl SL.nil) (BL.drop rfl BL.nil) BK.nil) (aS (aV (oMov eZ (oLss eZ eC (xQ ?_))))))))
  rcases oite H with ⟨h8, H⟩ | ⟨h8, H⟩
  ·refine AW.condT eZ (decide_eq_true h8) (aV (oMov eC (xQ (AW.ret (TQ.qr ?_)))))
   cases H
   exact eE rfl rfl
  ·refine AW.condF eZ (decide_eq_false h8) (AW.skip (TQ.qn (aV (oMov (eR rfl) (oMov eZ (xQ (AW.ret ?_)))))))
   cases H
   exact eE rfl rfl
theorem c_laws_toRange {a1 : TRange} {r : TRange} (H : m_laws_toRange a1 = some r) : Fn Try.prog k_laws_toRange (lent [(.agg (d_TRange a1))]) true [(.agg (d_TRange r))] := by
 refine i_laws_toRange_fn (fle rfl) ?_
 rw [init_mk]
 refine AW.weaken (wk_mk [] (kv 0 (.agg [(dI a1.Lo), (dI a1.Hi)]) rfl rfl SL.nil) BL.nil BK.nil) ?_
 unfold m_laws_toRange at H
 unfold i_laws_toRange
 refine aV (oBox (n := 64) (m := 2) (cs := [(dI a1.Lo), (dI a1.Hi)]) rfl eZ rfl rfl nZ (oVar (n := 128) (m := 2) rfl rfl (nS rfl nZ) (xQ (aV (oVar (n := 192) (m := 2) rfl rfl (nS rfl (nS rfl nZ)) (xQ (aV (oFaddrN (m := 0) (eR rfl) rfl (oLoadV (q := 0) (c := (dI a1.Lo)) eZ (bS rfl (bS rfl bZ)) rfl rfl (oFaddrN (m := 0) (eR rfl) rfl (oStoreV (es := [(dI a1.Lo), (dI 0)]) eZ (eR rfl) rfl rfl bZ rfl (xQ (aV (oFaddrN (m := 1) (eR rfl) rfl (oLoadV (q := 1) (c := (dI a1.Hi)) eZ (bS rfl (bS rfl (bS rfl bZ))) rfl rfl (oFaddrN (m := 1) (eR rfl) rfl (oStoreV (es := [(dI a1.Lo), (dI a1.Hi)]) eZ (eR rfl) rfl rfl bZ rfl (xQ (aV (oLoadVA (es := [(dI a1.Lo), (dI a1.Hi)]) (eR rfl) bZ rfl (oStoreV (es := [(dI a1.Lo), (dI a1.Hi)]) (eR rfl) eZ rfl rfl (bS rfl (bS rfl (bS rfl bZ))) rfl (xQ (AW.ret ?_)))))))))))))))))))))))
 cases H
 exact endsR (RL.cons (RV.cellA (es := [(dI a1.Lo), (dI a1.Hi)]) (eR rfl) bZ rfl) (VO.agg (ds := [(.int .i64 a1.Lo), (.int .i64 a1.Hi)]) rfl rfl) RL.nil) List.nodup_nil
theorem c_laws_toRangeS {a1 : (List TRange)} {r : (List TRange)} (H : m_laws_toRangeS a1 = some r) : Fn Try.prog k_laws_toRangeS (lent [(.sl 2 (List.map d_TRange a1))]) true [(.sl 2 (List.map d_TRange r))] := by
 refine i_laws_toRangeS_fn (fle rfl) ?_
 rw [init_mk]
 refine AW.weaken (wk_mk [] (kv 0 (.one (.d (.sl 2 (List.map d_TRange a1)))) rfl rfl SL.nil) BL.nil BK.nil) ?_
 unfold m_laws_toRangeS at H
 unfold i_laws_toRangeS
 refine aV (oMov eC (xQ (aV (oMov (eR rfl) (oLenD eZ (n := a1.length) (List.length_map _) ?_)))))
 obtain ⟨h2, H⟩ := oguard H
 refine oMksl (f := d_TRange) (zv := (TRange.mk 0 0)) (own := true) (m := 448) (q := (Int.toNat (a1.length : Int))) rfl rfl eZ eZ h2.1 h2.2 rfl (by decide) rfl nZ (oMov eZ (xQ (AW.seqJ (fun t3 : (List TRange) => laws_toRangeS_j3 t3 = some r) (fun t3 => mk [(3, (.one (.sl 320128 0 t3.length)))] [(320128, (.data 2 (List.map d_TRange t3) true none))] noG) ?_ ?_)))
 ·intro t3 H
  unfold laws_toRangeS_j3 at H
  refine aV (oMov eZ (oMov eZ (xQ (AW.ret ?_))))
  cases H
  exact endsR (RL.cons (RV.tmp eZ) (VO.sl bZ (List.length_map _) (allFlat fun _ => rfl)) RL.nil) (by decide)
 ·refine aV (oMov eC (xQ (AW.block (AW.iter (fun s5 : ((List TRange) × Int) => mk [(0, (.one (.d (.sl 2 (List.map d_TRange a1))))), (3, (.one (.sl 320192 0 s5.1.length))), (4, (oI s5.2))] [(320192, (.data 2 (List.map d_TRange s5.1) true none))] noG) H ((wk_mk [] (kR rfl rfl (SL.cons (eR rfl) rfl (VWk.one (CWk.len (by first | (simp; done) | (simp; omega) | omega))) (kR rfl rfl SL.nil))) (BL.keep rfl BL.nil) (BK.cons rfl bZ rfl rfl BK.nil)).trans (wk_ren 448 320192 rfl rfl (nS rfl nZ))) ?_))))
  intro kb6 s5 H
  unfold laws_toRangeS_b5 at H
  refine aS (aV (oMov (eR rfl) (oMov (eR rfl) (oLenD eZ (n := a1.length) (List.length_map _) (oLss (eR rfl) eZ (xQ ?_))))))
  rcases oite H with ⟨h7, H⟩ | ⟨h7, H⟩
  ·refine AW.condT eZ (decide_eq_true h7) (AW.skip (TQ.qn (aS (AW.block (aR (oMov (eR rfl) (oMov (eR rfl) (oMov (eR rfl) (oMov (eR rfl) ?_)))))))))
   obtain ⟨v8, h9, H⟩ := obind H
   refine oAtD (eR rfl) eZ h9 (oLoadBA (es := [(dI v8.Lo), (dI v8.Hi)]) eZ rfl ?_)
   obtain ⟨v10, h11, H⟩ := obind H
   refine oCall (u := (.agg [(dI v10.Lo), (dI v10.Hi)])) eC Cl.fn (c_laws_toRange h11) (Evs.cons eZ Evs.nil) (VDs.cons (VD.agg rfl) VDs.nil) rfl ?_
   obtain ⟨v12, h13, H⟩ := obind H
   exact oAtN (eR rfl) (eR rfl) bZ rfl h13 (oStoreD (t := v12) (t' := v10) (es := [(.int .i64 v10.Lo), (.int .i64 v10.Hi)]) eZ (eR rfl) rfl rfl bZ (idx_at h13) rfl rfl (xNil (BQ.qn (TQ.qn (aR (oMov (eR rfl) (oAdd eZ eC (oMov eZ (xNil (TQ.qn ⟨(s5.1.set (Int.toNat s5.2) v10, (IntKind.wrap .i64 (s5.2 + 1))), H, (wk_mk [] (kR rfl rfl (SL.cons (eR rfl) rfl (VWk.one (CWk.len (by first | (simp; done) | (simp; omega) | omega))) (kR rfl rfl SL.nil))) (BL.keep rfl (BL.keep rfl BL.nil)) (BK.cons rfl bZ rfl rfl BK.nil))⟩))))))))))
  ·exact AW.condF eZ (decide_eq_false h7) (AW.exit (TQ.qe (TQ.qe (BQ.qe (TQ.qn ⟨s5.1, H, ((wk_mk [] (kR rfl rfl SL.nil) (BL.keep rfl BL.nil) (BK.cons rfl bZ rfl rfl BK.nil)).trans (wk_ren 320192 320128 rfl rfl (nS rfl nZ)))⟩)))))
theorem c_laws_toWrite {a1 : TCell} {r : TCell} (H : m_laws_toWrite a1 = some r) : Fn Try.prog k_laws_toWrite (lent [(.agg (d_TCell a1))]) true [(.agg (d_TCell r))] := by
 refine i_laws_toWrite_fn (fle rfl) ?_
 rw [init_mk]
 refine AW.weaken (wk_mk [] (kv 0 (.agg [(dI a1.Key), (dI a1.Value)]) rfl rfl SL.nil) BL.nil BK.nil) ?_
 unfold m_laws_toWrite at H
 unfold i_laws_toWrite
 refine aV (oBox (n := 64) (m := 2) (cs := [(dI a1.Key), (dI a1.Value)]) rfl eZ rfl rfl nZ (oVar (n := 128) (m := 2) rfl rfl (nS rfl nZ) (xQ (aV (oVar (n := 192) (m := 2) rfl rfl (nS rfl (nS rfl nZ)) (xQ (aV (oFaddrN (m := 0) (eR rfl) rfl (oLoadV (q := 0) (c := (dI a1.Key)) eZ (bS rfl (bS rfl bZ)) rfl rfl (oFaddrN (m := 0) (eR rfl) rfl (oStoreV (es := [(dI a1.Key), (dI 0)]) eZ (eR rfl) rfl rfl bZ rfl (xQ (aV (oFaddrN (m := 1) (eR rfl) rfl (oLoadV (q := 1) (c := (dI a1.Value)) eZ (bS rfl (bS rfl (bS rfl bZ))) rfl rfl (oFaddrN (m := 1) (eR rfl) rfl (oStoreV (es := [(dI a1.Key), (dI a1.Value)]) eZ (eR rfl) rfl rfl bZ rfl (xQ (aV (oLoadVA (es := [(dI a1.Key), (dI a1.Value)]) (eR rfl) bZ rfl (oStoreV (es := [(dI a1.Key), (dI a1.Value)]) (eR rfl) eZ rfl rfl (bS rfl (bS rfl (bS rfl bZ))) rfl (xQ (AW.ret ?_)))))))))))))))))))))))
 cases H
 exact endsR (RL.cons (RV.cellA (es := [(dI a1.Key), (dI a1.Value)]) (eR rfl) bZ rfl) (VO.agg (ds := [(.int .i64 a1.Key), (.int .i64 a1.Value)]) rfl rfl) RL.nil) List.nodup_nil
theorem c_laws_toWriteS {a1 : (List TCell)} {r : (List TCell)} (H : m_laws_toWriteS a1 = some r) : Fn Try.prog k_laws_toWriteS (lent [(.sl 2 (List.map d_TCell a1))]) true [(.sl 2 (List.map d_TCell r))] := by
 refine i_laws_toWriteS_fn (fle rfl) ?_
 rw [init_mk]
 refine AW.weaken (wk_mk [] (kv 0 (.one (.d (.sl 2 (List.map d_TCell a1)))) rfl rfl SL.nil) BL.nil BK.nil) ?_
 unfold m_laws_toWriteS at H
 unfold i_laws_toWriteS
 refine aV (oMov eC (xQ (aV (oMov (eR rfl) (oLenD eZ (n := a1.length) (List.length_map _) ?_)))))
 obtain ⟨h2, H⟩ := oguard H
 refine oMksl (f := d_TCell) (zv := (TCell.mk 0 0)) (own := true) (m := 448) (q := (Int.toNat (a1.length : Int))) rfl rfl eZ eZ h2.1 h2.2 rfl (by decide) rfl nZ (oMov eZ (xQ (AW.seqJ (fun t3 : (List TCell) => laws_toWriteS_j3 t3 = some r) (fun t3 => mk [(3, (.one (.sl 320128 0 t3.length)))] [(320128, (.data 2 (List.map d_TCell t3) true none))] noG) ?_ ?_)))
 ·intro t3 H
  unfold laws_toWriteS_j3 at H
  refine aV (oMov eZ (oMov eZ (xQ (AW.ret ?_))))
  cases H
  exact endsR (RL.cons (RV.tmp eZ) (VO.sl bZ (List.length_map _) (allFlat fun _ => rfl)) RL.nil) (by decide)
 ·refine aV (oMov eC (xQ (AW.block (AW.iter (fun s5 : ((List TCell) × Int) => mk [(0, (.one (.d (.sl 2 (List.map d_TCell a1))))), (3, (.one (.sl 320192 0 s5.1.length))), (4, (oI s5.2))] [(320192, (.data 2 (List.map d_TCell s5.1) true none))] noG) H ((wk_mk [] (kR rfl rfl (SL.cons (eR rfl) rfl (VWk.one (CWk.len (by first | (simp; done) | (simp; omega) | omega))) (kR rfl rfl SL.nil))) (BL.keep rfl BL.nil) (BK.cons rfl bZ rfl rfl BK.nil)).trans (wk_ren 448 320192 rfl rfl (nS rfl nZ))) ?_))))
  intro kb6 s5 H
  unfold laws_toWriteS_b5 at H
  refine aS (aV (oMov (eR rfl) (oMov (eR rfl) (oLenD eZ (n := a1.length) (List.length_map _) (oLss (eR rfl) eZ (xQ ?_))))))
  rcases oite H with ⟨h7, H⟩ | ⟨h7, H⟩
  ·refine AW.condT eZ (decide_eq_true h7) (AW.skip (TQ.qn (aS (AW.block (aR (oMov (eR rfl) (oMov (eR rfl) (oMov (eR rfl) (oMov (eR rfl) ?_)))))))))
   obtain ⟨v8, h9, H⟩ := obind H
   refine oAtD (eR rfl) eZ h9 (oLoadBA (es := [(dI v8.Key), (dI v8.Value)]) eZ rfl ?_)
   obtain ⟨v10, h11, H⟩ := obind H
   refine oCall (u := (.agg [(dI v10.Key), (dI v10.Value)])) eC Cl.fn (c_laws_toWrite h11) (Evs.cons eZ Evs.nil) (VDs.cons (VD.agg rfl) VDs.nil) rfl ?_
   obtain ⟨v12, h13, H⟩ := obind H
   exact oAtN (eR rfl) (eR rfl) bZ rfl h13 (oStoreD (t := v12) (t' := v10) (es := [(.int .i64 v10.Key), (.int .i64 v10.Value)]) eZ (eR rfl) rfl rfl bZ (idx_at h13) rfl rfl (xNil (BQ.qn (TQ.qn (aR (oMov (eR rfl) (oAdd eZ eC (oMov eZ (xNil (TQ.qn ⟨(s5.1.set (Int.toNat s5.2) v10, (IntKind.wrap .i64 (s5.2 + 1))), H, (wk_mk [] (kR rfl rfl (SL.cons (eR rfl) rfl (VWk.one (CWk.len (by first | (simp; done) | (simp; omega) | omega))) (kR rfl rfl SL.nil))) (BL.keep rfl (BL.keep rfl BL.nil)) (BK.cons rfl bZ rfl rfl BK.nil))⟩))))))))))
  ·exact AW.condF eZ (decide_eq_false h7) (AW.exit (TQ.qe (TQ.qe (BQ.qe (TQ.qn ⟨s5.1, H, ((wk_mk [] (kR rfl rfl SL.nil) (BL.keep rfl BL.nil) (BK.cons rfl bZ rfl rfl BK.nil)).trans (wk_ren 320192 320128 rfl rfl (nS rfl nZ)))⟩)))))
theorem c_laws_toShare {a1 : TShare} {r : TShare} (H : m_laws_toShare a1 = some r) : Fn Try.prog k_laws_toShare (lent [(.agg (d_TShare a1))]) true [(.agg (d_TShare r))] := by
 refine i_laws_toShare_fn (fle rfl) ?_
 rw [init_mk]
 refine AW.weaken (t := mk [(0, (.agg [(dI a1.Group), (.d (.sl 2 (List.map d_TRange a1.Reads))), (.d (.sl 2 (List.map d_TCell a1.Writes))), (dI a1.Vote)]))] [] (lk [])) (wk_mk [] (kv 0 (.agg [(dI a1.Group), (.d (.sl 2 (List.map d_TRange a1.Reads))), (.d (.sl 2 (List.map d_TCell a1.Writes))), (dI a1.Vote)]) rfl rfl SL.nil) BL.nil BK.nil) ?_
 unfold m_laws_toShare at H
 unfold i_laws_toShare
 refine aV (oBox (n := 64) (m := 4) (cs := [(dI a1.Group), (.d (.sl 2 (List.map d_TRange a1.Reads))), (.d (.sl 2 (List.map d_TCell a1.Writes))), (dI a1.Vote)]) rfl eZ rfl rfl nZ (oVar (n := 128) (m := 4) rfl rfl (nS rfl nZ) (xQ (aV (oVar (n := 192) (m := 4) rfl rfl (nS rfl (nS rfl nZ)) (xQ (aV (oFaddrN (m := 0) (eR rfl) rfl (oLoadV (q := 0) (c := (dI a1.Group)) eZ (bS rfl (bS rfl bZ)) rfl rfl (oFaddrN (m := 0) (eR rfl) rfl (oStoreV (es := [(dI a1.Group), .zs, .zs, (dI 0)]) eZ (eR rfl) rfl rfl bZ rfl (xQ (aS (AW.regm (rmOne (oFaddrN (m := 1) (eR rfl) rfl (xNil (rmOne (oLoadV (q := 1) (c := (.d (.sl 2 (List.map d_TRange a1.Reads)))) eZ (bS rfl (bS rfl (bS rfl bZ))) rfl rfl (xNil (rmOne ?_)))))))))))))))))))))
 obtain ⟨v2, h3, H⟩ := obind H
 refine oCallN (u := (.one (.sl 576 0 v2.length))) (bs := [(576, (.data 2 (List.map d_TRange v2) true none))]) eC Cl.fn (c_laws_toRangeS h3) (Evs.cons eZ Evs.nil) (VDs.cons VD.plain VDs.nil) (by simp [bindR, bindV, bindVs, bindC, bindCs]) rfl (fC (nS rfl (nS rfl (nS rfl (nS rfl nZ)))) rfl (fC (nS rfl (nS rfl (nS rfl (nS rfl nZ)))) rfl fN)) (xNil (rmOne (oFaddrN (m := 1) (eR rfl) rfl (xNil (rmOne (oStoreV (es := [(dI a1.Group), (.sl 576 0 v2.length), .zs, (dI 0)]) eZ (eR rfl) rfl rfl (bS rfl bZ) rfl (xNil (rmRest (xQ (aS (AW.regm (rmOne (oFaddrN (m := 2) (eR rfl) rfl (xNil (rmOne (oLoadV (q := 2) (c := (.d (.sl 2 (List.map d_TCell a1.Writes)))) eZ (bS rfl (bS rfl (bS rfl (bS rfl (bS rfl bZ))))) rfl rfl (xNil (rmOne ?_))))))))))))))))))
 obtain ⟨v4, h5, H⟩ := obind H
 refine oCallN (u := (.one (.sl 832 0 v4.length))) (bs := [(832, (.data 2 (List.map d_TCell v4) true none))]) eC Cl.fn (c_laws_toWriteS h5) (Evs.cons eZ Evs.nil) (VDs.cons VD.plain VDs.nil) (by simp [bindR, bindV, bindVs, bindC, bindCs]) rfl (fC (nS rfl (nS rfl (nS rfl (nS rfl (nS rfl (nS rfl nZ)))))) rfl (fC (nS rfl (nS rfl (nS rfl (nS rfl (nS rfl (nS rfl nZ)))))) rfl fN)) (xNil (rmOne (oFaddrN (m := 2) (eR rfl) rfl (xNil (rmOne (oStoreV (es := [(dI a1.Group), (.sl 576 0 v2.length), (.sl 832 0 v4.length), (dI 0)]) eZ (eR rfl) rfl rfl (bS rfl bZ) rfl (xNil (rmRest (xQ (aV (oFaddrN (m := 3) (eR rfl) rfl (oLoadV (q := 3) (c := (dI a1.Vote)) eZ (bS rfl (bS rfl (bS rfl (bS rfl (bS rfl (bS rfl (bS rfl bZ))))))) rfl rfl (oFaddrN (m := 3) (eR rfl) rfl (oStoreV (es := [(dI a1.Group), (.sl 576 0 v2.length), (.sl 832 0 v4.length), (dI a1.Vote)]) eZ (eR rfl) rfl rfl bZ rfl (xQ (AW.weaken (wk_mkG [64] (kr 3 rfl rfl (kr 2 rfl rfl SL.nil)) (BL.keep rfl (BL.keep rfl (BL.keep rfl (BL.keep rfl (BL.keep rfl (BL.keep rfl (BL.keep rfl (BL.keep rfl (BL.drop rfl BL.nil))))))))) (BK.cons (n := 192) rfl bZ rfl rfl (BK.cons (n := 832) rfl (bS rfl (bS rfl bZ)) rfl rfl (BK.cons (n := 576) rfl (bS rfl (bS rfl (bS rfl (bS rfl bZ)))) rfl rfl (BK.cons (n := 128) rfl (bS rfl (bS rfl (bS rfl (bS rfl (bS rfl (bS rfl (bS rfl bZ))))))) rfl rfl BK.nil)))) GK.nil) (aS (AW.regm (rmOne (oLoadVA (es := [(dI a1.Group), (.sl 576 0 v2.length), (.sl 832 0 v4.length), (dI a1.Vote)]) eZ bZ rfl (xNil (rmOne (oStoreV (es := [(dI a1.Group), (.sl 576 0 v2.length), (.sl 832 0 v4.length), (dI a1.Vote)]) (eR rfl) eZ rfl rfl (bS rfl (bS rfl (bS rfl bZ))) rfl (xNil (rmRest (xQ (AW.ret ?_)))))))))))))))))))))))))))
 cases H
 exact endsR (RL.cons (RV.cellA (es := [(dI a1.Group), (.sl 576 0 v2.length), (.sl 832 0 v4.length), (dI a1.Vote)]) (eR rfl) bZ rfl) (VO.aggs (VOs.cons (VO.flat rfl) (VOs.cons (VO.sl (bS rfl (bS rfl (bS rfl bZ))) (List.length_map _) (allFlat fun _ => rfl)) (VOs.cons (VO.sl (bS rfl (bS rfl bZ)) (List.length_map _) (allFlat fun _ => rfl)) (VOs.cons (VO.flat rfl) VOs.nil))))) RL.nil) (by decide)
theorem c_laws_toShareS {a1 : (List TShare)} {r : (List TShare)} (H : m_laws_toShareS a1 = some r) : Fn Try.prog k_laws_toShareS (lent [(.sl 4 (List.map d_TShare a1))]) true [(.sl 4 (List.map d_TShare r))] := by
 refine i_laws_toShareS_fn (fle rfl) ?_
 rw [init_mk]
 refine AW.weaken (t := mk [(0, (.one (.d (.sl 4 (List.map d_TShare a1)))))] [] (lk [])) (wk_mk [] (kv 0 (.one (.d (.sl 4 (List.map d_TShare a1)))) rfl rfl SL.nil) BL.nil BK.nil) ?_
 unfold m_laws_toShareS at H
 unfold i_laws_toShareS
 refine aV (oMov eC (xQ (aS (AW.regm (rmOne (oMov (eR rfl) (xNil (rmOne (oLenD eZ (n := a1.length) (List.length_map _) (xNil ?_))))))))))
 obtain ⟨h2, H⟩ := oguard H
 refine rmMksl (f := d_TShare) (zv := (TShare.mk 0 ([] : (List TRange)) ([] : (List TCell)) 0)) (m := 448) (q := (Int.toNat (a1.length : Int))) rfl eZ eZ h2.1 h2.2 rfl (by decide) rfl nZ (rmRest (oMov eZ (xQ (AW.seqJ (fun t3 : (List TShare) => laws_toShareS_j3 t3 = some r) (fun t3 => mk [(3, (.one (.sl 320128 0 t3.length)))] [(320128, (.data 4 (List.map d_TShare t3) true none))] (lk [])) ?_ ?_))))
 ·intro t3 H
  unfold laws_toShareS_j3 at H
  refine aV (oMov eZ (oMov eZ (xQ (AW.ret ?_))))
  cases H
  exact endsR (RL.cons (RV.tmp eZ) (VO.sln bZ (List.length_map _) rfl) RL.nil) (by decide)
 ·refine aV (oMov eC (xQ (AW.block (AW.iter (fun s5 : ((List TShare) × Int) => mk [(0, (.one (.d (.sl 4 (List.map d_TShare a1))))), (3, (.one (.sl 320192 0 s5.1.length))), (4, (oI s5.2))] [(320192, (.data 4 (List.map d_TShare s5.1) true none))] (lk [])) H ((wk_mkG [] (kR rfl rfl (SL.cons (eR rfl) rfl (VWk.one (CWk.len (by first | (simp; done) | (simp; omega) | omega))) (kR rfl rfl SL.nil))) (BL.keep rfl BL.nil) (BK.cons rfl bZ rfl rfl BK.nil) GK.nil).trans (wk_renG 448 320192 rfl rfl (nS rfl nZ) GR.nil)) ?_))))
  intro kb6 s5 H
  unfold laws_toShareS_b5 at H
  refine aS (aV (oMov (eR rfl) (oMov (eR rfl) (oLenD eZ (n := a1.length) (List.length_map _) (oLss (eR rfl) eZ (xQ ?_))))))
  rcases oite H with ⟨h7, H⟩ | ⟨h7, H⟩
  ·refine AW.condT eZ (decide_eq_true h7) (AW.skip (TQ.qn (aS (AW.block (AW.regm (rmOne (oMov (eR rfl) (xNil (rmOne (oMov (eR rfl) (xNil (rmOne (oMov (eR rfl) (xNil (rmOne (oMov (eR rfl) (xNil (rmOne ?_))))))))))))))))))
   obtain ⟨v8, h9, H⟩ := obind H
   refine oAtD (eR rfl) eZ h9 (xNil (rmOne (oLoadBA (es := [(dI v8.Group), (.d (.sl 2 (List.map d_TRange v8.Reads))), (.d (.sl 2 (List.map d_TCell v8.Writes))), (dI v8.Vote)]) eZ rfl (xNil (rmOne ?_)))))
   obtain ⟨v10, h11, H⟩ := obind H
   refine oCallN (u := (.agg [(dI v10.Group), (.sl 1281 0 v10.Reads.length), (.sl 1282 0 v10.Writes.length), (dI v10.Vote)])) (bs := [(1281, (.data 2 (List.map d_TRange v10.Reads) true none)), (1282, (.data 2 (List.map d_TCell v10.Writes) true none))]) eC Cl.fn (c_laws_toShare h11) (Evs.cons eZ Evs.nil) (VDs.cons (VD.agg rfl) VDs.nil) (by simp [bindR, bindV, bindVs, bindC, bindCs]) rfl (fC (nS rfl nZ) rfl (fC (nS rfl nZ) rfl (fC (nS rfl nZ) rfl fN))) (xNil (rmOne ?_))
   obtain ⟨v12, h13, H⟩ := obind H
   exact oAtN (eR rfl) (eR rfl) (bS rfl (bS rfl bZ)) rfl h13 (xNil (rmStoreAbs (f := d_TShare) (t := v12) (t' := v10) (ds := [(.int .i64 v10.Group), (.sl 2 (List.map d_TRange v10.Reads)), (.sl 2 (List.map d_TCell v10.Writes)), (.int .i64 v10.Vote)]) (ns := [1281, 1282]) eZ (eR rfl) rfl rfl (bS rfl (bS rfl bZ)) (idx_at h13) (VOs.cons (VO.flat rfl) (VOs.cons (VO.sl (bS rfl bZ) (List.length_map _) (allFlat fun _ => rfl)) (VOs.cons (VO.sl bZ (List.length_map _) (allFlat fun _ => rfl)) (VOs.cons (VO.flat rfl) VOs.nil)))) rfl rfl (erL.cons (v' := (.one (.ptr (.nm 320192 (Int.toNat s5.2) 0)))) rfl (erL.cons (v' := (.agg [(dI v10.Group), .any, .any, (dI v10.Vote)])) rfl (erL.cons (v' := (.agg [(dI v8.Group), (.d (.sl 2 (List.map d_TRange v8.Reads))), (.d (.sl 2 (List.map d_TCell v8.Writes))), (dI v8.Vote)])) rfl (erL.cons (v' := (.one (.ptr (.bd (d_TShare v8) 0)))) rfl (erL.cons (v' := (oI s5.2)) rfl (erL.cons (v' := (.one (.d (.sl 4 (List.map d_TShare a1))))) rfl (erL.cons (v' := (oI s5.2)) rfl (erL.cons (v' := (.one (.sl 320192 0 s5.1.length))) rfl (erL.cons (v' := (oB (decide (s5.2 < (a1.length : Int))))) rfl (erL.cons (v' := (oI (a1.length : Int))) rfl (erL.cons (v' := (.one (.d (.sl 4 (List.map d_TShare a1))))) rfl (erL.cons (v' := (oI s5.2)) rfl (erL.cons (v' := (.one (.d (.sl 4 (List.map d_TShare a1))))) rfl (erL.cons (v' := (.one (.sl 320192 0 s5.1.length))) rfl (erL.cons (v' := (oI s5.2)) rfl erL.nil))))))))))))))) (erH.drop rfl (erH.drop rfl (erH.cons (v' := (.data 4 (List.map d_TShare s5.1) true none)) rfl rfl erH.nil))) erL.nil (rmRest (xNil (BQ.qn (TQ.qn (aR (oMov (eR rfl) (oAdd eZ eC (oMov eZ (xNil (TQ.qn ⟨(s5.1.set (Int.toNat s5.2) v10, (IntKind.wrap .i64 (s5.2 + 1))), H, (wk_mkG [] (kR rfl rfl (SL.cons (eR rfl) rfl (VWk.one (CWk.len (by first | (simp; done) | (simp; omega) | omega))) (kR rfl rfl SL.nil))) (BL.keep rfl (BL.keep rfl BL.nil)) (BK.cons rfl bZ rfl rfl BK.nil) GK.nil)⟩))))))))))))
  ·exact AW.condF eZ (decide_eq_false h7) (AW.exit (TQ.qe (TQ.qe (BQ.qe (TQ.qn ⟨s5.1, H, ((wk_mkG [] (kR rfl rfl SL.nil) (BL.keep rfl BL.nil) (BK.cons rfl bZ rfl rfl BK.nil) GK.nil).trans (wk_renG 320192 320128 rfl rfl (nS rfl nZ) GR.nil))⟩)))))
theorem c_laws_toRec {a1 : TRec} {r : TRec} (H : m_laws_toRec a1 = some r) : Fn Try.prog k_laws_toRec (lent [(.agg (d_TRec a1))]) true [(.agg (d_TRec r))] := by
 refine i_laws_toRec_fn (fle rfl) ?_
 rw [init_mk]
 refine AW.weaken (t := mk [(0, (.agg [(dI a1.Tx), (dI a1.Client), (dI a1.Req), (dI a1.State), (.d (.sl 4 (List.map d_TShare a1.Shares)))]))] [] (lk [])) (wk_mk [] (kv 0 (.agg [(dI a1.Tx), (dI a1.Client), (dI a1.Req), (dI a1.State), (.d (.sl 4 (List.map d_TShare a1.Shares)))]) rfl rfl SL.nil) BL.nil BK.nil) ?_
 unfold m_laws_toRec at H
 unfold i_laws_toRec
 refine aV (oBox (n := 64) (m := 5) (cs := [(dI a1.Tx), (dI a1.Client), (dI a1.Req), (dI a1.State), (.d (.sl 4 (List.map d_TShare a1.Shares)))]) rfl eZ rfl rfl nZ (oVar (n := 128) (m := 5) rfl rfl (nS rfl nZ) (xQ (aV (oVar (n := 192) (m := 5) rfl rfl (nS rfl (nS rfl nZ)) (xQ (aV (oFaddrN (m := 0) (eR rfl) rfl (oLoadV (q := 0) (c := (dI a1.Tx)) eZ (bS rfl (bS rfl bZ)) rfl rfl (oFaddrN (m := 0) (eR rfl) rfl (oStoreV (es := [(dI a1.Tx), (dI 0), (dI 0), (dI 0), .zs]) eZ (eR rfl) rfl rfl bZ rfl (xQ (aV (oFaddrN (m := 1) (eR rfl) rfl (oLoadV (q := 1) (c := (dI a1.Client)) eZ (bS rfl (bS rfl (bS rfl bZ))) rfl rfl (oFaddrN (m := 1) (eR rfl) rfl (oStoreV (es := [(dI a1.Tx), (dI a1.Client), (dI 0), (dI 0), .zs]) eZ (eR rfl) rfl rfl bZ rfl (xQ (aV (oFaddrN (m := 2) (eR rfl) rfl (oLoadV (q := 2) (c := (dI a1.Req)) eZ (bS rfl (bS rfl (bS rfl (bS rfl bZ)))) rfl rfl (oFaddrN (m := 2) (eR rfl) rfl (oStoreV (es := [(dI a1.Tx), (dI a1.Client), (dI a1.Req), (dI 0), .zs]) eZ (eR rfl) rfl rfl bZ rfl (xQ (aV (oFaddrN (m := 3) (eR rfl) rfl (oLoadV (q := 3) (c := (dI a1.State)) eZ (bS rfl (bS rfl (bS rfl (bS rfl (bS rfl bZ))))) rfl rfl (oFaddrN (m := 3) (eR rfl) rfl ?_))))))))))))))))))))))))))))
 refine oStoreV (es := [(dI a1.Tx), (dI a1.Client), (dI a1.Req), (dI a1.State), .zs]) eZ (eR rfl) rfl rfl bZ rfl (xQ (AW.weaken (wk_mkG [] (kr 3 rfl rfl (kr 2 rfl rfl (kr 1 rfl rfl SL.nil))) (BL.keep rfl (BL.keep rfl (BL.keep rfl (BL.keep rfl (BL.keep rfl (BL.keep rfl (BL.keep rfl BL.nil))))))) (BK.cons (n := 192) rfl bZ rfl rfl (BK.cons (n := 128) rfl (bS rfl (bS rfl (bS rfl (bS rfl (bS rfl bZ))))) rfl rfl (BK.cons (n := 64) rfl (bS rfl (bS rfl (bS rfl (bS rfl (bS rfl (bS rfl bZ)))))) rfl rfl BK.nil))) GK.nil) (aS (AW.regm (rmOne (oFaddrN (m := 4) (eR rfl) rfl (xNil (rmOne (oLoadV (q := 4) (c := (.d (.sl 4 (List.map d_TShare a1.Shares)))) eZ (bS rfl (bS rfl bZ)) rfl rfl (xNil (rmOne ?_)))))))))))
 obtain ⟨v2, h3, H⟩ := obind H
 refine oCallN (u := (.one (.sl 1152 0 v2.length))) (bs := [(1152, (.data 4 (List.map d_TShare v2) true none))]) eC Cl.fn (c_laws_toShareS h3) (Evs.cons eZ Evs.nil) (VDs.cons VD.plain VDs.nil) (by simp [bindR, bindV, bindVs, bindC, bindCs]) rfl (fC (nS rfl (nS rfl (nS rfl nZ))) rfl (fC (nS rfl (nS rfl (nS rfl nZ))) rfl fN)) (xNil (rmOne (oFaddrN (m := 4) (eR rfl) rfl (xNil (rmOne (oStoreV (es := [(dI a1.Tx), (dI a1.Client), (dI a1.Req), (dI a1.State), (.sl 1152 0 v2.length)]) eZ (eR rfl) rfl rfl (bS rfl bZ) rfl (xNil (rmRest (xQ (aS (AW.regm (rmOne (oLoadVA (es := [(dI a1.Tx), (dI a1.Client), (dI a1.Req), (dI a1.State), (.sl 1152 0 v2.length)]) (eR rfl) bZ rfl (xNil (rmOne (oStoreV (es := [(dI a1.Tx), (dI a1.Client), (dI a1.Req), (dI a1.State), (.sl 1152 0 v2.length)]) (eR rfl) eZ rfl rfl (bS rfl (bS rfl (bS rfl bZ))) rfl (xNil (rmRest (xQ (AW.ret ?_))))))))))))))))))))
 cases H
 exact endsR (RL.cons (RV.cellA (es := [(dI a1.Tx), (dI a1.Client), (dI a1.Req), (dI a1.State), (.sl 1152 0 v2.length)]) (eR rfl) bZ rfl) (VO.aggs (VOs.cons (VO.flat rfl) (VOs.cons (VO.flat rfl) (VOs.cons (VO.flat rfl) (VOs.cons (VO.flat rfl) (VOs.cons (VO.sln (bS rfl (bS rfl bZ)) (List.length_map _) rfl) VOs.nil)))))) RL.nil) (by decide)
theorem c_laws_toRecS {a1 : (List TRec)} {r : (List TRec)} (H : m_laws_toRecS a1 = some r) : Fn Try.prog k_laws_toRecS (lent [(.sl 5 (List.map d_TRec a1))]) true [(.sl 5 (List.map d_TRec r))] := by
 refine i_laws_toRecS_fn (fle rfl) ?_
 rw [init_mk]
 refine AW.weaken (t := mk [(0, (.one (.d (.sl 5 (List.map d_TRec a1)))))] [] (lk [])) (wk_mk [] (kv 0 (.one (.d (.sl 5 (List.map d_TRec a1)))) rfl rfl SL.nil) BL.nil BK.nil) ?_
 unfold m_laws_toRecS at H
 unfold i_laws_toRecS
 refine aV (oMov eC (xQ (aS (AW.regm (rmOne (oMov (eR rfl) (xNil (rmOne (oLenD eZ (n := a1.length) (List.length_map _) (xNil ?_))))))))))
 obtain ⟨h2, H⟩ := oguard H
 refine rmMksl (f := d_TRec) (zv := (TRec.mk 0 0 0 0 ([] : (List TShare)))) (m := 448) (q := (Int.toNat (a1.length : Int))) rfl eZ eZ h2.1 h2.2 rfl (by decide) rfl nZ (rmRest (oMov eZ (xQ (AW.seqJ (fun t3 : (List TRec) => laws_toRecS_j3 t3 = some r) (fun t3 => mk [(3, (.one (.sl 320128 0 t3.length)))] [(320128, (.data 5 (List.map d_TRec t3) true none))] (lk [])) ?_ ?_))))
 ·intro t3 H
  unfold laws_toRecS_j3 at H
  refine aV (oMov eZ (oMov eZ (xQ (AW.ret ?_))))
  cases H
  exact endsR (RL.cons (RV.tmp eZ) (VO.sln bZ (List.length_map _) rfl) RL.nil) (by decide)
 ·refine aV (oMov eC (xQ (AW.block (AW.iter (fun s5 : ((List TRec) × Int) => mk [(0, (.one (.d (.sl 5 (List.map d_TRec a1))))), (3, (.one (.sl 320192 0 s5.1.length))), (4, (oI s5.2))] [(320192, (.data 5 (List.map d_TRec s5.1) true none))] (lk [])) H ((wk_mkG [] (kR rfl rfl (SL.cons (eR rfl) rfl (VWk.one (CWk.len (by first | (simp; done) | (simp; omega) | omega))) (kR rfl rfl SL.nil))) (BL.keep rfl BL.nil) (BK.cons rfl bZ rfl rfl BK.nil) GK.nil).trans (wk_renG 448 320192 rfl rfl (nS rfl nZ) GR.nil)) ?_))))
  intro kb6 s5 H
  unfold laws_toRecS_b5 at H
  refine aS (aV (oMov (eR rfl) (oMov (eR rfl) (oLenD eZ (n := a1.length) (List.length_map _) (oLss (eR rfl) eZ (xQ ?_))))))
  rcases oite H with ⟨h7, H⟩ | ⟨h7, H⟩
  ·refine AW.condT eZ (decide_eq_true h7) (AW.skip (TQ.qn (aS (AW.block (AW.regm (rmOne (oMov (eR rfl) (xNil (rmOne (oMov (eR rfl) (xNil (rmOne (oMov (eR rfl) (xNil (rmOne (oMov (eR rfl) (xNil (rmOne ?_))))))))))))))))))
   obtain ⟨v8, h9, H⟩ := obind H
   refine oAtD (eR rfl) eZ h9 (xNil (rmOne (oLoadBA (es := [(dI v8.Tx), (dI v8.Client), (dI v8.Req), (dI v8.State), (.d (.sl 4 (List.map d_TShare v8.Shares)))]) eZ rfl (xNil (rmOne ?_)))))
   obtain ⟨v10, h11, H⟩ := obind H
   refine oCallN (u := (.agg [(dI v10.Tx), (dI v10.Client), (dI v10.Req), (dI v10.State), (.sl 1284 0 v10.Shares.length)])) (bs := [(1284, (.data 4 (List.map d_TShare v10.Shares) true none))]) eC Cl.fn (c_laws_toRec h11) (Evs.cons eZ Evs.nil) (VDs.cons (VD.agg rfl) VDs.nil) (by simp [bindR, bindV, bindVs, bindC, bindCs]) rfl (fC (nS rfl nZ) rfl (fC (nS rfl nZ) rfl fN)) (xNil (rmOne ?_))
   obtain ⟨v12, h13, H⟩ := obind H
   exact oAtN (eR rfl) (eR rfl) (bS rfl bZ) rfl h13 (xNil (rmStoreAbs (f := d_TRec) (t := v12) (t' := v10) (ds := [(.int .i64 v10.Tx), (.int .i64 v10.Client), (.int .i64 v10.Req), (.int .i64 v10.State), (.sl 4 (List.map d_TShare v10.Shares))]) (ns := [1284]) eZ (eR rfl) rfl rfl (bS rfl bZ) (idx_at h13) (VOs.cons (VO.flat rfl) (VOs.cons (VO.flat rfl) (VOs.cons (VO.flat rfl) (VOs.cons (VO.flat rfl) (VOs.cons (VO.sln bZ (List.length_map _) rfl) VOs.nil))))) rfl rfl (erL.cons (v' := (.one (.ptr (.nm 320192 (Int.toNat s5.2) 0)))) rfl (erL.cons (v' := (.agg [(dI v10.Tx), (dI v10.Client), (dI v10.Req), (dI v10.State), .any])) rfl (erL.cons (v' := (.agg [(dI v8.Tx), (dI v8.Client), (dI v8.Req), (dI v8.State), (.d (.sl 4 (List.map d_TShare v8.Shares)))])) rfl (erL.cons (v' := (.one (.ptr (.bd (d_TRec v8) 0)))) rfl (erL.cons (v' := (oI s5.2)) rfl (erL.cons (v' := (.one (.d (.sl 5 (List.map d_TRec a1))))) rfl (erL.cons (v' := (oI s5.2)) rfl (erL.cons (v' := (.one (.sl 320192 0 s5.1.length))) rfl (erL.cons (v' := (oB (decide (s5.2 < (a1.length : Int))))) rfl (erL.cons (v' := (oI (a1.length : Int))) rfl (erL.cons (v' := (.one (.d (.sl 5 (List.map d_TRec a1))))) rfl (erL.cons (v' := (oI s5.2)) rfl (erL.cons (v' := (.one (.d (.sl 5 (List.map d_TRec a1))))) rfl (erL.cons (v' := (.one (.sl 320192 0 s5.1.length))) rfl (erL.cons (v' := (oI s5.2)) rfl erL.nil))))))))))))))) (erH.drop rfl (erH.cons (v' := (.data 5 (List.map d_TRec s5.1) true none)) rfl rfl erH.nil)) erL.nil (rmRest (xNil (BQ.qn (TQ.qn (aR (oMov (eR rfl) (oAdd eZ eC (oMov eZ (xNil (TQ.qn ⟨(s5.1.set (Int.toNat s5.2) v10, (IntKind.wrap .i64 (s5.2 + 1))), H, (wk_mkG [] (kR rfl rfl (SL.cons (eR rfl) rfl (VWk.one (CWk.len (by first | (simp; done) | (simp; omega) | omega))) (kR rfl rfl SL.nil))) (BL.keep rfl (BL.keep rfl BL.nil)) (BK.cons rfl bZ rfl rfl BK.nil) GK.nil)⟩))))))))))))
  ·exact AW.condF eZ (decide_eq_false h7) (AW.exit (TQ.qe (TQ.qe (BQ.qe (TQ.qn ⟨s5.1, H, ((wk_mkG [] (kR rfl rfl SL.nil) (BL.keep rfl BL.nil) (BK.cons rfl bZ rfl rfl BK.nil) GK.nil).trans (wk_renG 320192 320128 rfl rfl (nS rfl nZ) GR.nil))⟩)))))
theorem c_laws_toIntS {a1 : (List Int)} {r : (List Int)} (H : m_laws_toIntS a1 = some r) : Fn Try.prog k_laws_toIntS (lent [(.sl 1 (List.map d_i64 a1))]) true [(.sl 1 (List.map d_i64 r))] := by
 refine i_laws_toIntS_fn (fle rfl) ?_
 rw [init_mk]
 refine AW.weaken (wk_mk [] (kv 0 (.one (.d (.sl 1 (List.map d_i64 a1)))) rfl rfl SL.nil) BL.nil BK.nil) ?_
 unfold m_laws_toIntS at H
 unfold i_laws_toIntS
 refine aV (oMov eC (xQ (aV (oMov (eR rfl) (oLenD eZ (n := a1.length) (List.length_map _) ?_)))))
 obtain ⟨h2, H⟩ := oguard H
 refine oMksl (f := d_i64) (zv := 0) (own := true) (m := 448) (q := (Int.toNat (a1.length : Int))) rfl rfl eZ eZ h2.1 h2.2 rfl (by decide) rfl nZ (oMov eZ (xQ (AW.seqJ (fun t3 : (List Int) => laws_toIntS_j3 t3 = some r) (fun t3 => mk [(3, (.one (.sl 320128 0 t3.length)))] [(320128, (.data 1 (List.map d_i64 t3) true none))] noG) ?_ ?_)))
 ·intro t3 H
  unfold laws_toIntS_j3 at H
  refine aV (oMov eZ (oMov eZ (xQ (AW.ret ?_))))
  cases H
  exact endsR (RL.cons (RV.tmp eZ) (VO.sl bZ (List.length_map _) (allFlat fun _ => rfl)) RL.nil) (by decide)
 ·refine aV (oMov eC (xQ (AW.block (AW.iter (fun s5 : ((List Int) × Int) => mk [(0, (.one (.d (.sl 1 (List.map d_i64 a1))))), (3, (.one (.sl 320192 0 s5.1.length))), (4, (oI s5.2))] [(320192, (.data 1 (List.map d_i64 s5.1) true none))] noG) H ((wk_mk [] (kR rfl rfl (SL.cons (eR rfl) rfl (VWk.one (CWk.len (by first | (simp; done) | (simp; omega) | omega))) (kR rfl rfl SL.nil))) (BL.keep rfl BL.nil) (BK.cons rfl bZ rfl rfl BK.nil)).trans (wk_ren 448 320192 rfl rfl (nS rfl nZ))) ?_))))
  intro kb6 s5 H
  unfold laws_toIntS_b5 at H
  refine aS (aV (oMov (eR rfl) (oMov (eR rfl) (oLenD eZ (n := a1.length) (List.length_map _) (oLss (eR rfl) eZ (xQ ?_))))))
  rcases oite H with ⟨h7, H⟩ | ⟨h7, H⟩
  ·refine AW.condT eZ (decide_eq_true h7) (AW.skip (TQ.qn (aS (AW.block (aR (oMov (eR rfl) (oMov (eR rfl) (oMov (eR rfl) (oMov (eR rfl) ?_)))))))))
   obtain ⟨v8, h9, H⟩ := obind H
   refine oAtD (eR rfl) eZ h9 (oLoadB (e := (.int .i64 v8)) eZ rfl ?_)
   obtain ⟨v10, h11, H⟩ := obind H
   exact oAtN (eR rfl) (eR rfl) bZ rfl h11 (oStoreD (t := v10) (t' := v8) (es := [(.int .i64 v8)]) eZ (eR rfl) rfl rfl bZ (idx_at h11) rfl rfl (xNil (BQ.qn (TQ.qn (aR (oMov (eR rfl) (oAdd eZ eC (oMov eZ (xNil (TQ.qn ⟨(s5.1.set (Int.toNat s5.2) v8, (IntKind.wrap .i64 (s5.2 + 1))), H, (wk_mk [] (kR rfl rfl (SL.cons (eR rfl) rfl (VWk.one (CWk.len (by first | (simp; done) | (simp; omega) | omega))) (kR rfl rfl SL.nil))) (BL.keep rfl (BL.keep rfl BL.nil)) (BK.cons rfl bZ rfl rfl BK.nil))⟩))))))))))
  ·exact AW.condF eZ (decide_eq_false h7) (AW.exit (TQ.qe (TQ.qe (BQ.qe (TQ.qn ⟨s5.1, H, ((wk_mk [] (kR rfl rfl SL.nil) (BL.keep rfl BL.nil) (BK.cons rfl bZ rfl rfl BK.nil)).trans (wk_ren 320192 320128 rfl rfl (nS rfl nZ)))⟩)))))
theorem c_laws_toCoord {a1 : TCoord} {r : TCoord} (H : m_laws_toCoord a1 = some r) : Fn Try.prog k_laws_toCoord (lent [(.agg (d_TCoord a1))]) true [(.agg (d_TCoord r))] := by
 refine i_laws_toCoord_fn (fle rfl) ?_
 rw [init_mk]
 refine AW.weaken (t := mk [(0, (.agg [(.d (.sl 5 (List.map d_TRec a1.Recs))), (.d (.sl 1 (List.map d_i64 a1.Order)))]))] [] (lk [])) (wk_mk [] (kv 0 (.agg [(.d (.sl 5 (List.map d_TRec a1.Recs))), (.d (.sl 1 (List.map d_i64 a1.Order)))]) rfl rfl SL.nil) BL.nil BK.nil) ?_
 unfold m_laws_toCoord at H
 unfold i_laws_toCoord
 refine aV (oBox (n := 64) (m := 2) (cs := [(.d (.sl 5 (List.map d_TRec a1.Recs))), (.d (.sl 1 (List.map d_i64 a1.Order)))]) rfl eZ rfl rfl nZ (oVar (n := 128) (m := 2) rfl rfl (nS rfl nZ) (xQ (aV (oVar (n := 192) (m := 2) rfl rfl (nS rfl (nS rfl nZ)) (xQ (aS (AW.regm (rmOne (oFaddrN (m := 0) (eR rfl) rfl (xNil (rmOne (oLoadV (q := 0) (c := (.d (.sl 5 (List.map d_TRec a1.Recs)))) eZ (bS rfl (bS rfl bZ)) rfl rfl (xNil (rmOne ?_)))))))))))))))
 obtain ⟨v2, h3, H⟩ := obind H
 refine oCallN (u := (.one (.sl 384 0 v2.length))) (bs := [(384, (.data 5 (List.map d_TRec v2) true none))]) eC Cl.fn (c_laws_toRecS h3) (Evs.cons eZ Evs.nil) (VDs.cons VD.plain VDs.nil) (by simp [bindR, bindV, bindVs, bindC, bindCs]) rfl (fC (nS rfl (nS rfl (nS rfl nZ))) rfl (fC (nS rfl (nS rfl (nS rfl nZ))) rfl fN)) (xNil (rmOne (oFaddrN (m := 0) (eR rfl) rfl (xNil (rmOne (oStoreV (es := [(.sl 384 0 v2.length), .zs]) eZ (eR rfl) rfl rfl (bS rfl bZ) rfl (xNil (rmRest (xQ (aS (AW.regm (rmOne (oFaddrN (m := 1) (eR rfl) rfl (xNil (rmOne (oLoadV (q := 1) (c := (.d (.sl 1 (List.map d_i64 a1.Order)))) eZ (bS rfl (bS rfl (bS rfl (bS rfl bZ)))) rfl rfl (xNil (rmOne ?_))))))))))))))))))
 obtain ⟨v4, h5, H⟩ := obind H
 refine oCallN (u := (.one (.sl 640 0 v4.length))) (bs := [(640, (.data 1 (List.map d_i64 v4) true none))]) eC Cl.fn (c_laws_toIntS h5) (Evs.cons eZ Evs.nil) (VDs.cons VD.plain VDs.nil) (by simp [bindR, bindV, bindVs, bindC, bindCs]) rfl (fC (nS rfl (nS rfl (nS rfl (nS rfl (nS rfl nZ))))) rfl (fC (nS rfl (nS rfl (nS rfl (nS rfl (nS rfl nZ))))) rfl fN)) (xNil (rmOne (oFaddrN (m := 1) (eR rfl) rfl (xNil (rmOne (oStoreV (es := [(.sl 384 0 v2.length), (.sl 640 0 v4.length)]) eZ (eR rfl) rfl rfl (bS rfl bZ) rfl (xNil (rmRest (xQ (aS (AW.regm (rmOne (oLoadVA (es := [(.sl 384 0 v2.length), (.sl 640 0 v4.length)]) (eR rfl) bZ rfl (xNil (rmOne (oStoreV (es := [(.sl 384 0 v2.length), (.sl 640 0 v4.length)]) (eR rfl) eZ rfl rfl (bS rfl (bS rfl (bS rfl (bS rfl (bS rfl bZ))))) rfl (xNil (rmRest (xQ (AW.ret ?_))))))))))))))))))))
 cases H
 exact endsR (RL.cons (RV.cellA (es := [(.sl 384 0 v2.length), (.sl 640 0 v4.length)]) (eR rfl) bZ rfl) (VO.aggs (VOs.cons (VO.sln (bS rfl (bS rfl (bS rfl (bS rfl bZ)))) (List.length_map _) rfl) (VOs.cons (VO.sl (bS rfl (bS rfl bZ)) (List.length_map _) (allFlat fun _ => rfl)) VOs.nil))) RL.nil) (by decide)
theorem c_spec_l1In {a1 : Int} {a2 : Int} {a3 : Int} {r : Bool} (H : m_spec_l1In a1 a2 a3 = some r) : Fn Try.prog k_spec_l1In (lent [(.int .i64 a1), (.int .i64 a2), (.int .i64 a3)]) true [(.bool r)] := by
 refine i_spec_l1In_fn (fle rfl) ?_
 rw [init_mk]
 refine AW.weaken (wk_mk [] (kv 0 (oI a1) rfl rfl (kv 1 (oI a2) rfl rfl (kv 2 (oI a3) rfl rfl SL.nil))) BL.nil BK.nil) ?_
 unfold m_spec_l1In at H
 unfold i_spec_l1In
 refine aV (oMov eC (xQ (aV (oMov (eR rfl) (oMov (eR rfl) (oGeq (eR rfl) eZ (oMov eZ ?_)))))))
 rcases oite H with ⟨h4, H⟩ | ⟨h4, H⟩
 ·refine gDo eZ (decide_eq_true h4) (oMov (eR rfl) (gDo (eR rfl) (decide_eq_true h4) (oMov (eR rfl) (gDo (eR rfl) (decide_eq_true h4) (oLeq (eR rfl) eZ (oPickT (eR rfl) (decide_eq_true h4) eZ (oMov eZ (xQ (AW.ret ?_)))))))))
  cases H
  exact eE rfl rfl
 ·refine gSkip eZ (decide_eq_false h4) rfl (gSkip (eR rfl) (decide_eq_false h4) rfl (gSkip (eR rfl) (decide_eq_false h4) rfl (oPickF (eR rfl) (decide_eq_false h4) eC (oMov eZ (xQ (AW.ret ?_))))))
  cases H
  exact eE rfl rfl
theorem c_spec_l1Whole {a1 : Int} {r : Bool} (H : m_spec_l1Whole a1 = some r) : Fn Try.prog k_spec_l1Whole (lent [(.int .i64 a1)]) true [(.bool r)] := by
 refine i_spec_l1Whole_fn (fle rfl) ?_
 rw [init_mk]
 refine AW.weaken (wk_mk [] (kv 0 (oI a1) rfl rfl SL.nil) BL.nil BK.nil) ?_
 unfold m_spec_l1Whole at H
 unfold i_spec_l1Whole
 refine aV (oMov eC (xQ (aV (oMov (eR rfl) ?_))))
 obtain ⟨v2, h3, H⟩ := obind H
 refine oCall (u := (oB v2)) eC Cl.fn (c_spec_l1In h3) (Evs.cons eZ (Evs.cons eC (Evs.cons eC Evs.nil))) (VDs.cons VD.plain (VDs.cons VD.plain (VDs.cons VD.plain VDs.nil))) rfl (oMov eZ (xQ (AW.ret ?_)))
 cases H
 exact eE rfl rfl
theorem c_spec_l10Key {a1 : Int} {r : Bool} (H : m_spec_l10Key a1 = some r) : Fn Try.prog k_spec_l10Key (lent [(.int .i64 a1)]) true [(.bool r)] := by
 refine i_spec_l10Key_fn (fle rfl) ?_
 rw [init_mk]
 refine AW.weaken (wk_mk [] (kv 0 (oI a1) rfl rfl SL.nil) BL.nil BK.nil) ?_
 unfold m_spec_l10Key at H
 unfold i_spec_l10Key
 refine aV (oMov eC (xQ (aV (oMov (eR rfl) ?_))))
 obtain ⟨v2, h3, H⟩ := obind H
 refine oCall (u := (oB v2)) eC Cl.fn (c_spec_l1In h3) (Evs.cons eZ (Evs.cons eC (Evs.cons eC Evs.nil))) (VDs.cons VD.plain (VDs.cons VD.plain (VDs.cons VD.plain VDs.nil))) rfl (oMov eZ (xQ (AW.ret ?_)))
 cases H
 exact eE rfl rfl
theorem c_spec_WritesOk {a1 : (List TCell)} {r : Bool} (H : m_spec_WritesOk a1 = some r) : Fn Try.prog k_spec_WritesOk (lent [(.sl 2 (List.map d_TCell a1))]) true [(.bool r)] := by
 refine i_spec_WritesOk_fn (fle rfl) ?_
 rw [init_mk]
 refine AW.weaken (wk_mk [] (kv 0 (.one (.d (.sl 2 (List.map d_TCell a1)))) rfl rfl SL.nil) BL.nil BK.nil) ?_
 unfold m_spec_WritesOk at H
 unfold i_spec_WritesOk
 refine aV (oMov eC (xQ (aS (aV (oMov (eR rfl) (oLenD eZ (n := a1.length) (List.length_map _) (oGtr eZ eC (xQ ?_))))))))
 rcases oite H with ⟨h2, H⟩ | ⟨h2, H⟩
 ·refine AW.condT eZ (decide_eq_true h2) (aV (oMov eC (xQ (AW.ret (TQ.qr ?_)))))
  cases H
  exact eE rfl rfl
 ·refine AW.condF eZ (decide_eq_false h2) (AW.skip (TQ.qn (AW.seqJ (fun t3 : Unit => spec_WritesOk_j3 t3 = some r) (fun t3 => mk [] [] noG) ?_ ?_)))
  ·intro t3 H
   unfold spec_WritesOk_j3 at H
   refine aV (oMov eC (xQ (AW.ret ?_)))
   cases H
   exact eE rfl rfl
  ·refine aV (oMov eC (xQ (AW.block (AW.iter (fun s5 : Int => mk [(0, (.one (.d (.sl 2 (List.map d_TCell a1))))), (3, (oI s5))] [] noG) H (wk_mk [] (kR rfl rfl (kR rfl rfl SL.nil)) BL.nil BK.nil) ?_))))
   intro kb6 s5 H
   unfold spec_WritesOk_b5 at H
   refine aS (aV (oMov (eR rfl) (oMov (eR rfl) (oLenD eZ (n := a1.length) (List.length_map _) (oLss (eR rfl) eZ (xQ ?_))))))
   rcases oite H with ⟨h7, H⟩ | ⟨h7, H⟩
   ·refine AW.condT eZ (decide_eq_true h7) (AW.skip (TQ.qn (aS (AW.block (AW.seqJ (fun t8 : Bool => (spec_WritesOk_j8 kb6 s5) t8 = some r) (fun t8 => mk [(0, (.one (.d (.sl 2 (List.map d_TCell a1))))), (3, (oI s5)), (46, (oB t8))] [] noG) ?_ ?_)))))
    ·intro t8 H
     unfold spec_WritesOk_j8 at H
     rcases oite H with ⟨h10, H⟩ | ⟨h10, H⟩
     ·refine AW.condT (eR rfl) h10 (aV (oMov eC (xQ (AW.ret (BQ.qr (TQ.qr (TQ.qr (BQ.qr (TQ.qr ?_)))))))))
      cases H
      exact eE rfl rfl
     ·exact AW.condF (eR rfl) (nt h10) (AW.skip (BQ.qn (TQ.qn (aR (oMov (eR rfl) (oAdd eZ eC (oMov eZ (xNil (TQ.qn ⟨(IntKind.wrap .i64 (s5 + 1)), H, (wk_mk [] (kR rfl rfl (kR rfl rfl SL.nil)) BL.nil BK.nil)⟩)))))))))
    ·refine AW.regd (oMov (eR rfl) (oMov (eR rfl) ?_))
     obtain ⟨v11, h12, H⟩ := obind H
     refine oAtD (eR rfl) eZ h12 (oFaddrB (m := 0) eZ rfl (oLoadB (e := (.int .i64 v11.Key)) eZ rfl ?_))
     obtain ⟨v13, h14, H⟩ := obind H
     refine oCall (u := (oB v13)) eC Cl.fn (c_spec_l10Key h14) (Evs.cons eZ Evs.nil) (VDs.cons VD.plain VDs.nil) rfl (oInv eZ (oMov eZ ?_))
     rcases oite H with ⟨h15, H⟩ | ⟨h15, H⟩
     ·refine gDo eZ (congrArg Bool.not h15) (oMov (eR rfl) (gDo (eR rfl) (congrArg Bool.not h15) (oMov (eR rfl) (gDo (eR rfl) (congrArg Bool.not h15) ?_))))
      obtain ⟨v16, h17, H⟩ := obind H
      refine oAtD (eR rfl) eZ h17 (gDo (eR rfl) (congrArg Bool.not h15) (oFaddrB (m := 1) eZ rfl (gDo (eR rfl) (congrArg Bool.not h15) (oLoadB (e := (.int .i64 v16.Value)) eZ rfl (gDo (eR rfl) (congrArg Bool.not h15) ?_)))))
      obtain ⟨v18, h19, H⟩ := obind H
      refine oCall (u := (oB v18)) eC Cl.fn (c_spec_l1In h19) (Evs.cons eZ (Evs.cons eC (Evs.cons eC Evs.nil))) (VDs.cons VD.plain (VDs.cons VD.plain (VDs.cons VD.plain VDs.nil))) rfl (gDo (eR rfl) (congrArg Bool.not h15) (oInv eZ (oPickF (eR rfl) (congrArg Bool.not h15) eZ (oMov eZ ?_))))
      rcases oite H with ⟨h20, H⟩ | ⟨h20, H⟩
      ·refine gDo eZ (congrArg Bool.not h20) (oMov (eR rfl) (gDo (eR rfl) (congrArg Bool.not h20) (oGtr eZ eC (gDo (eR rfl) (congrArg Bool.not h20) (oMov eZ ?_)))))
       rcases oite H with ⟨h21, H⟩ | ⟨h21, H⟩
       ·refine gDo eZ (decide_eq_true h21) (oMov (eR rfl) (gDo (eR rfl) (decide_eq_true h21) (oMov (eR rfl) (gDo (eR rfl) (decide_eq_true h21) (oSub eZ eC (gDo (eR rfl) (decide_eq_true h21) ?_))))))
        obtain ⟨v22, h23, H⟩ := obind H
        refine oAtD (eR rfl) eZ h23 (gDo (eR rfl) (decide_eq_true h21) (oFaddrB (m := 0) eZ rfl (gDo (eR rfl) (decide_eq_true h21) (oLoadB (e := (.int .i64 v22.Key)) eZ rfl (gDo (eR rfl) (decide_eq_true h21) (oMov (eR rfl) (gDo (eR rfl) (decide_eq_true h21) (oMov (eR rfl) (gDo (eR rfl) (decide_eq_true h21) ?_)))))))))
        obtain ⟨v24, h25, H⟩ := obind H
        exact oAtD (eR rfl) eZ h25 (gDo (eR rfl) (decide_eq_true h21) (oFaddrB (m := 0) eZ rfl (gDo (eR rfl) (decide_eq_true h21) (oLoadB (e := (.int .i64 v24.Key)) eZ rfl (gDo (eR rfl) (decide_eq_true h21) (oGeq (eR rfl) eZ (gDo (eR rfl) (congrArg Bool.not h20) (oPickT (eR rfl) (decide_eq_true h21) eZ (oPickF (eR rfl) (congrArg Bool.not h20) eZ (xNil (TQ.qn ⟨(decide (v24.Key ≤ v22.Key)), H, (wk_mk [] (kR rfl rfl (kR rfl rfl (kR rfl rfl SL.nil))) BL.nil BK.nil)⟩)))))))))))
       ·exact gSkip eZ (decide_eq_false h21) rfl (gSkip (eR rfl) (decide_eq_false h21) rfl (gSkip (eR rfl) (decide_eq_false h21) rfl (gSkip (eR rfl) (decide_eq_false h21) rfl (gSkip (eR rfl) (decide_eq_false h21) rfl (gSkip (eR rfl) (decide_eq_false h21) rfl (gSkip (eR rfl) (decide_eq_false h21) rfl (gSkip (eR rfl) (decide_eq_false h21) rfl (gSkip (eR rfl) (decide_eq_false h21) rfl (gSkip (eR rfl) (decide_eq_false h21) rfl (gSkip (eR rfl) (decide_eq_false h21) rfl (gSkip (eR rfl) (decide_eq_false h21) rfl (gDo (eR rfl) (congrArg Bool.not h20) (oPickF (eR rfl) (decide_eq_false h21) eC (oPickF (eR rfl) (congrArg Bool.not h20) eZ (xNil (TQ.qn ⟨false, H, (wk_mk [] (kR rfl rfl (kR rfl rfl (kR rfl rfl SL.nil))) BL.nil BK.nil)⟩))))))))))))))))
      ·exact gSkip eZ (congrArg Bool.not (nt h20)) rfl (gSkip (eR rfl) (congrArg Bool.not (nt h20)) rfl (gSkip (eR rfl) (congrArg Bool.not (nt h20)) rfl (gSkipU eZ rfl (gSkipU (eR rfl) rfl (gSkipU (eR rfl) rfl (gSkipU (eR rfl) rfl (gSkipU (eR rfl) rfl (gSkipU (eR rfl) rfl (gSkipU (eR rfl) rfl (gSkipU (eR rfl) rfl (gSkipU (eR rfl) rfl (gSkipU (eR rfl) rfl (gSkipU (eR rfl) rfl (gSkipU (eR rfl) rfl (gSkip (eR rfl) (congrArg Bool.not (nt h20)) rfl (oPickT (eR rfl) (congrArg Bool.not (nt h20)) eC (xNil (TQ.qn ⟨true, H, (wk_mk [] (kR rfl rfl (kR rfl rfl (kR rfl rfl SL.nil))) BL.nil BK.nil)⟩))))))))))))))))))
     ·exact gSkip eZ (congrArg Bool.not (nt h15)) rfl (gSkip (eR rfl) (congrArg Bool.not (nt h15)) rfl (gSkip (eR rfl) (congrArg Bool.not (nt h15)) rfl (gSkip (eR rfl) (congrArg Bool.not (nt h15)) rfl (gSkip (eR rfl) (congrArg Bool.not (nt h15)) rfl (gSkip (eR rfl) (congrArg Bool.not (nt h15)) rfl (gSkip (eR rfl) (congrArg Bool.not (nt h15)) rfl (oPickT (eR rfl) (congrArg Bool.not (nt h15)) eC (oMov eZ (gSkip eZ rfl rfl (gSkip (eR rfl) rfl rfl (gSkip (eR rfl) rfl rfl (gSkipU eZ rfl (gSkipU (eR rfl) rfl (gSkipU (eR rfl) rfl (gSkipU (eR rfl) rfl (gSkipU (eR rfl) rfl (gSkipU (eR rfl) rfl (gSkipU (eR rfl) rfl (gSkipU (eR rfl) rfl (gSkipU (eR rfl) rfl (gSkipU (eR rfl) rfl (gSkipU (eR rfl) rfl (gSkipU (eR rfl) rfl (gSkip (eR rfl) rfl rfl (oPickT (eR rfl) rfl eC (xNil (TQ.qn ⟨true, H, (wk_mk [] (kR rfl rfl (kR rfl rfl (kR rfl rfl SL.nil))) BL.nil BK.nil)⟩)))))))))))))))))))))))))))
   ·exact AW.condF eZ (decide_eq_false h7) (AW.exit (TQ.qe (TQ.qe (BQ.qe (TQ.qn ⟨(), H, (wk_mk [] SL.nil BL.nil BK.nil)⟩)))))
theorem c_spec_RangeOk {a1 : TRange} {r : Bool} (H : m_spec_RangeOk a1 = some r) : Fn Try.prog k_spec_RangeOk (lent [(.agg (d_TRange a1))]) true [(.bool r)] := by
 refine i_spec_RangeOk_fn (fle rfl) ?_
 rw [init_mk]
 refine AW.weaken (wk_mk [] (kv 0 (.agg [(dI a1.Lo), (dI a1.Hi)]) rfl rfl SL.nil) BL.nil BK.nil) ?_
 unfold m_spec_RangeOk at H
 unfold i_spec_RangeOk
 refine aV (oBox (n := 64) (m := 2) (cs := [(dI a1.Lo), (dI a1.Hi)]) rfl eZ rfl rfl nZ (oMov eC (xQ (aV (oFaddrN (m := 0) (eR rfl) rfl (oLoadV (q := 0) (c := (dI a1.Lo)) eZ bZ rfl rfl (oGeq eZ eC (oMov eZ ?_))))))))
 rcases oite H with ⟨h2, H⟩ | ⟨h2, H⟩
 ·refine gDo eZ (decide_eq_true h2) (oFaddrN (m := 0) (eR rfl) rfl (gDo (eR rfl) (decide_eq_true h2) (oLoadV (q := 0) (c := (dI a1.Lo)) eZ bZ rfl rfl (gDo (eR rfl) (decide_eq_true h2) (oFaddrN (m := 1) (eR rfl) rfl (gDo (eR rfl) (decide_eq_true h2) (oLoadV (q := 1) (c := (dI a1.Hi)) eZ bZ rfl rfl (gDo (eR rfl) (decide_eq_true h2) (oLss (eR rfl) eZ (oPickT (eR rfl) (decide_eq_true h2) eZ (oMov eZ ?_)))))))))))
  rcases oite H with ⟨h3, H⟩ | ⟨h3, H⟩
  ·refine gDo eZ (decide_eq_true h3) (oFaddrN (m := 1) (eR rfl) rfl (gDo (eR rfl) (decide_eq_true h3) (oLoadV (q := 1) (c := (dI a1.Hi)) eZ bZ rfl rfl (gDo (eR rfl) (decide_eq_true h3) (oLeq eZ eC (oPickT (eR rfl) (decide_eq_true h3) eZ (oMov eZ (xQ (AW.weaken (wk_mk [64] (kr 2 rfl rfl SL.nil) (BL.drop rfl BL.nil) BK.nil) (AW.ret ?_))))))))))
   cases H
   exact eE rfl rfl
  ·refine gSkip eZ (decide_eq_false h3) rfl (gSkip (eR rfl) (decide_eq_false h3) rfl (gSkip (eR rfl) (decide_eq_false h3) rfl (oPickF (eR rfl) (decide_eq_false h3) eC (oMov eZ (xQ (AW.weaken (wk_mk [64] (kr 2 rfl rfl SL.nil) (BL.drop rfl BL.nil) BK.nil) (AW.ret ?_)))))))
   cases H
   exact eE rfl rfl
 ·refine gSkip eZ (decide_eq_false h2) rfl (gSkip (eR rfl) (decide_eq_false h2) rfl (gSkip (eR rfl) (decide_eq_false h2) rfl (gSkip (eR rfl) (decide_eq_false h2) rfl (gSkip (eR rfl) (decide_eq_false h2) rfl (oPickF (eR rfl) (decide_eq_false h2) eC (oMov eZ (gSkip eZ rfl rfl (gSkip (eR rfl) rfl rfl (gSkip (eR rfl) rfl rfl (oPickF (eR rfl) rfl eC (oMov eZ (xQ (AW.weaken (wk_mk [64] (kr 2 rfl rfl SL.nil) (BL.drop rfl BL.nil) BK.nil) (AW.ret ?_))))))))))))))
  cases H
  exact eE rfl rfl
theorem c_spec_SharesOk {a1 : (List TShare)} {r : Bool} (H : m_spec_SharesOk a1 = some r) : Fn Try.prog k_spec_SharesOk (lent [(.sl 4 (List.map d_TShare a1))]) true [(.bool r)] := by
 refine i_spec_SharesOk_fn (fle rfl) ?_
 rw [init_mk]
 refine AW.weaken (t := mk [(0, (.one (.d (.sl 4 (List.map d_TShare a1)))))] [] (lk [])) (wk_mk [] (kv 0 (.one (.d (.sl 4 (List.map d_TShare a1)))) rfl rfl SL.nil) BL.nil BK.nil) ?_
 unfold m_spec_SharesOk at H
 unfold i_spec_SharesOk
 refine aV (oMov eC (xQ (aS (aV (oMov (eR rfl) (oLenD eZ (n := a1.length) (List.length_map _) (oGtr eZ eC (xQ ?_))))))))
 rcases oite H with ⟨h2, H⟩ | ⟨h2, H⟩
 ·refine AW.condT eZ (decide_eq_true h2) (aV (oMov eC (xQ (AW.ret (TQ.qr ?_)))))
  cases H
  exact eE rfl rfl
 ·refine AW.condF eZ (decide_eq_false h2) (AW.skip (TQ.qn (AW.seqJ (fun t3 : Unit => spec_SharesOk_j3 t3 = some r) (fun t3 => mk [] [] (lk [])) ?_ ?_)))
  ·intro t3 H
   unfold spec_SharesOk_j3 at H
   refine aV (oMov eC (xQ (AW.ret ?_)))
   cases H
   exact eE rfl rfl
  ·refine aV (oMov eC (xQ (AW.block (AW.iter (fun s5 : Int => mk [(0, (.one (.d (.sl 4 (List.map d_TShare a1))))), (3, (oI s5))] [] (lk [])) H (wk_mkG [] (kR rfl rfl (kR rfl rfl SL.nil)) BL.nil BK.nil GK.nil) ?_))))
   intro kb6 s5 H
   unfold spec_SharesOk_b5 at H
   refine aS (aV (oMov (eR rfl) (oMov (eR rfl) (oLenD eZ (n := a1.length) (List.length_map _) (oLss (eR rfl) eZ (xQ ?_))))))
   rcases oite H with ⟨h7, H⟩ | ⟨h7, H⟩
   ·refine AW.condT eZ (decide_eq_true h7) (AW.skip (TQ.qn (AW.seqJ (fun t8 : Unit => (spec_SharesOk_j8 kb6 s5) t8 = some r) (fun t8 => mk [(0, (.one (.d (.sl 4 (List.map d_TShare a1))))), (3, (oI s5))] [] (lk [])) ?_ ?_)))
    ·intro t8 H
     unfold spec_SharesOk_j8 at H
     exact aR (oMov (eR rfl) (oAdd eZ eC (oMov eZ (xNil (TQ.qn ⟨(IntKind.wrap .i64 (s5 + 1)), H, (wk_mkG [] (kR rfl rfl (kR rfl rfl SL.nil)) BL.nil BK.nil GK.nil)⟩)))))
    ·refine AW.block (aS (AW.regm (rmOne (oMov (eR rfl) (xNil (rmOne (oMov (eR rfl) (xNil (rmOne ?_)))))))))
     obtain ⟨v10, h11, H⟩ := obind H
     refine oAtD (eR rfl) eZ h11 (xNil (rmOne (oLoadBA (es := [(dI v10.Group), (.d (.sl 2 (List.map d_TRange v10.Reads))), (.d (.sl 2 (List.map d_TCell v10.Writes))), (dI v10.Vote)]) eZ rfl (xNil (rmOne (oVar (n := 256) (m := 4) rfl rfl nZ (xNil (rmOne (oStoreV (es := [(dI v10.Group), (.d (.sl 2 (List.map d_TRange v10.Reads))), (.d (.sl 2 (List.map d_TCell v10.Writes))), (dI v10.Vote)]) eZ (eR rfl) rfl rfl bZ rfl (xNil (rmRest (xQ (aS (AW.seqJ (fun t12 : Bool => (spec_SharesOk_j12 v10 (spec_SharesOk_j8 kb6 s5)) t12 = some r) (fun t12 => mk [(0, (.one (.d (.sl 4 (List.map d_TShare a1))))), (3, (oI s5)), (4, (.one (.ptr (.nm 256 0 0)))), (55, (oB t12))] [(256, (.vars 4 [(dI v10.Group), (.d (.sl 2 (List.map d_TRange v10.Reads))), (.d (.sl 2 (List.map d_TCell v10.Writes))), (dI v10.Vote)]))] (lk [])) ?_ ?_))))))))))))))
     ·intro t12 H
      unfold spec_SharesOk_j12 at H
      rcases oite H with ⟨h14, H⟩ | ⟨h14, H⟩
      ·refine AW.condT (eR rfl) h14 (aV (oMov eC (xQ (AW.ret (TQ.qr (BQ.qr (TQ.qr (TQ.qr (BQ.qr (TQ.qr ?_))))))))))
       cases H
       exact eE rfl rfl
      ·refine AW.condF (eR rfl) (nt h14) (AW.skip (TQ.qn (aV (oMov eC (xQ (AW.block (AW.iter (fun s15 : Int => mk [(0, (.one (.d (.sl 4 (List.map d_TShare a1))))), (3, (oI s5)), (4, (.one (.ptr (.nm 256 0 0)))), (5, (oI s15))] [(256, (.vars 4 [(dI v10.Group), (.d (.sl 2 (List.map d_TRange v10.Reads))), (.d (.sl 2 (List.map d_TCell v10.Writes))), (dI v10.Vote)]))] (lk [])) H (wk_mkG [] (kR rfl rfl (kR rfl rfl (kR rfl rfl (kR rfl rfl SL.nil)))) (BL.keep rfl BL.nil) (BK.cons rfl bZ rfl rfl BK.nil) GK.nil) ?_)))))))
       intro kb16 s15 H
       unfold spec_SharesOk_b15 at H
       refine aS (aV (oMov (eR rfl) (oFaddrN (m := 1) (eR rfl) rfl (oLoadV (q := 1) (c := (.d (.sl 2 (List.map d_TRange v10.Reads)))) eZ bZ rfl rfl (oLenD eZ (n := v10.Reads.length) (List.length_map _) (oLss (eR rfl) eZ (xQ ?_)))))))
       rcases oite H with ⟨h17, H⟩ | ⟨h17, H⟩
       ·refine AW.condT eZ (decide_eq_true h17) (AW.skip (TQ.qn (aS (AW.block (aV (oFaddrN (m := 1) (eR rfl) rfl (oLoadV (q := 1) (c := (.d (.sl 2 (List.map d_TRange v10.Reads)))) eZ bZ rfl rfl (oMov (eR rfl) ?_))))))))
        obtain ⟨v18, h19, H⟩ := obind H
        refine oAtD (eR rfl) eZ h19 (oLoadBA (es := [(dI v18.Lo), (dI v18.Hi)]) eZ rfl ?_)
        obtain ⟨v20, h21, H⟩ := obind H
        refine oCall (u := (oB v20)) eC Cl.fn (c_spec_RangeOk h21) (Evs.cons eZ Evs.nil) (VDs.cons (VD.agg rfl) VDs.nil) rfl (oInv eZ (xQ (AW.weaken (wk_mkG [] (kr 69 rfl rfl (kr 0 rfl rfl (kr 3 rfl rfl (kr 4 rfl rfl (kr 5 rfl rfl SL.nil))))) (BL.keep rfl BL.nil) (BK.cons (n := 256) rfl bZ rfl rfl BK.nil) GK.nil) ?_)))
        rcases oite H with ⟨h22, H⟩ | ⟨h22, H⟩
        ·exact AW.condF eZ (congrArg Bool.not h22) (AW.skip (BQ.qn (TQ.qn (aR (oMov (eR rfl) (oAdd eZ eC (oMov eZ (xNil (TQ.qn ⟨(IntKind.wrap .i64 (s15 + 1)), H, (wk_mkG [] (kR rfl rfl (kR rfl rfl (kR rfl rfl (kR rfl rfl SL.nil)))) (BL.keep rfl BL.nil) (BK.cons rfl bZ rfl rfl BK.nil) GK.nil)⟩)))))))))
        ·refine AW.condT eZ (congrArg Bool.not (nt h22)) (aV (oMov eC (xQ (AW.ret (BQ.qr (TQ.qr (TQ.qr (BQ.qr (BQ.qr (TQ.qr (TQ.qr (BQ.qr (TQ.qr ?_)))))))))))))
         cases H
         exact eE rfl rfl
       ·exact AW.condF eZ (decide_eq_false h17) (AW.exit (TQ.qe (TQ.qe (BQ.qe (BQ.qn (TQ.qn ⟨(), H, (wk_mkG [256] (kR rfl rfl (kR rfl rfl SL.nil)) (BL.drop rfl BL.nil) BK.nil GK.nil)⟩))))))
     ·refine AW.regd (oFaddrN (m := 0) eZ rfl (oLoadV (q := 0) (c := (dI v10.Group)) eZ bZ rfl rfl ?_))
      obtain ⟨v23, h24, H⟩ := obind H
      refine oCall (u := (oB v23)) eC Cl.fn (c_spec_l1In h24) (Evs.cons eZ (Evs.cons eC (Evs.cons eC Evs.nil))) (VDs.cons VD.plain (VDs.cons VD.plain (VDs.cons VD.plain VDs.nil))) rfl (oInv eZ (oMov eZ ?_))
      rcases oite H with ⟨h25, H⟩ | ⟨h25, H⟩
      ·refine gDo eZ (congrArg Bool.not h25) (oMov (eR rfl) (gDo (eR rfl) (congrArg Bool.not h25) (oGtr eZ eC (gDo (eR rfl) (congrArg Bool.not h25) (oMov eZ ?_)))))
       rcases oite H with ⟨h26, H⟩ | ⟨h26, H⟩
       ·refine gDo eZ (decide_eq_true h26) (oMov (eR rfl) (gDo (eR rfl) (decide_eq_true h26) (oMov (eR rfl) (gDo (eR rfl) (decide_eq_true h26) (oSub eZ eC (gDo (eR rfl) (decide_eq_true h26) ?_))))))
        obtain ⟨v27, h28, H⟩ := obind H
        refine oAtD (eR rfl) eZ h28 (gDo (eR rfl) (decide_eq_true h26) (oFaddrB (m := 0) eZ rfl (gDo (eR rfl) (decide_eq_true h26) (oLoadB (e := (.int .i64 v27.Group)) eZ rfl (gDo (eR rfl) (decide_eq_true h26) (oFaddrN (m := 0) (eR rfl) rfl (gDo (eR rfl) (decide_eq_true h26) (oLoadV (q := 0) (c := (dI v10.Group)) eZ bZ rfl rfl (gDo (eR rfl) (decide_eq_true h26) (oGeq (eR rfl) eZ (gDo (eR rfl) (congrArg Bool.not h25) (oPickT (eR rfl) (decide_eq_true h26) eZ (oPickF (eR rfl) (congrArg Bool.not h25) eZ (oMov eZ ?_))))))))))))))
        rcases oite H with ⟨h29, H⟩ | ⟨h29, H⟩
        ·exact gSkip eZ (decide_eq_true h29) rfl (gSkip (eR rfl) (decide_eq_true h29) rfl (gSkip (eR rfl) (decide_eq_true h29) rfl (gSkip (eR rfl) (decide_eq_true h29) rfl (oPickT (eR rfl) (decide_eq_true h29) eC (oMov eZ (gSkip eZ rfl rfl (gSkip (eR rfl) rfl rfl (gSkip (eR rfl) rfl rfl (gSkip (eR rfl) rfl rfl (oPickT (eR rfl) rfl eC (oMov eZ (gSkip eZ rfl rfl (gSkip (eR rfl) rfl rfl (gSkip (eR rfl) rfl rfl (gSkip (eR rfl) rfl rfl (oPickT (eR rfl) rfl eC (xNil (TQ.qn ⟨true, H, (wk_mkG [] (kR rfl rfl (kR rfl rfl (kR rfl rfl (kR rfl rfl SL.nil)))) (BL.keep rfl (BL.keep rfl BL.nil)) (BK.cons rfl bZ rfl rfl BK.nil) GK.nil)⟩))))))))))))))))))
        ·refine gDo eZ (decide_eq_false h29) (oFaddrN (m := 1) (eR rfl) rfl (gDo (eR rfl) (decide_eq_false h29) (oLoadV (q := 1) (c := (.d (.sl 2 (List.map d_TRange v10.Reads)))) eZ bZ rfl rfl (gDo (eR rfl) (decide_eq_false h29) (oLenD eZ (n := v10.Reads.length) (List.length_map _) (gDo (eR rfl) (decide_eq_false h29) (oGtr eZ eC (oPickF (eR rfl) (decide_eq_false h29) eZ (oMov eZ ?_)))))))))
         rcases oite H with ⟨h30, H⟩ | ⟨h30, H⟩
         ·exact gSkip eZ (decide_eq_true h30) rfl (gSkip (eR rfl) (decide_eq_true h30) rfl (gSkip (eR rfl) (decide_eq_true h30) rfl (gSkip (eR rfl) (decide_eq_true h30) rfl (oPickT (eR rfl) (decide_eq_true h30) eC (oMov eZ (gSkip eZ rfl rfl (gSkip (eR rfl) rfl rfl (gSkip (eR rfl) rfl rfl (gSkip (eR rfl) rfl rfl (oPickT (eR rfl) rfl eC (xNil (TQ.qn ⟨true, H, (wk_mkG [] (kR rfl rfl (kR rfl rfl (kR rfl rfl (kR rfl rfl SL.nil)))) (BL.keep rfl (BL.keep rfl BL.nil)) (BK.cons rfl bZ rfl rfl BK.nil) GK.nil)⟩))))))))))))
         ·refine gDo eZ (decide_eq_false h30) (oFaddrN (m := 2) (eR rfl) rfl (gDo (eR rfl) (decide_eq_false h30) (oLoadV (q := 2) (c := (.d (.sl 2 (List.map d_TCell v10.Writes)))) eZ bZ rfl rfl (gDo (eR rfl) (decide_eq_false h30) ?_))))
          obtain ⟨v31, h32, H⟩ := obind H
          refine oCall (u := (oB v31)) eC Cl.fn (c_spec_WritesOk h32) (Evs.cons eZ Evs.nil) (VDs.cons VD.plain VDs.nil) rfl (gDo (eR rfl) (decide_eq_false h30) (oInv eZ (oPickF (eR rfl) (decide_eq_false h30) eZ (oMov eZ ?_))))
          rcases oite H with ⟨h33, H⟩ | ⟨h33, H⟩
          ·refine gDo eZ (congrArg Bool.not h33) (oFaddrN (m := 3) (eR rfl) rfl (gDo (eR rfl) (congrArg Bool.not h33) (oLoadV (q := 3) (c := (dI v10.Vote)) eZ bZ rfl rfl (gDo (eR rfl) (congrArg Bool.not h33) ?_))))
           obtain ⟨v34, h35, H⟩ := obind H
           exact oCall (u := (oB v34)) eC Cl.fn (c_spec_l1In h35) (Evs.cons eZ (Evs.cons eC (Evs.cons eC Evs.nil))) (VDs.cons VD.plain (VDs.cons VD.plain (VDs.cons VD.plain VDs.nil))) rfl (gDo (eR rfl) (congrArg Bool.not h33) (oInv eZ (oPickF (eR rfl) (congrArg Bool.not h33) eZ (xNil (TQ.qn ⟨(!v34), H, (wk_mkG [] (kR rfl rfl (kR rfl rfl (kR rfl rfl (kR rfl rfl SL.nil)))) (BL.keep rfl (BL.keep rfl BL.nil)) (BK.cons rfl bZ rfl rfl BK.nil) GK.nil)⟩)))))
          ·exact gSkip eZ (congrArg Bool.not (nt h33)) rfl (gSkip (eR rfl) (congrArg Bool.not (nt h33)) rfl (gSkip (eR rfl) (congrArg Bool.not (nt h33)) rfl (gSkip (eR rfl) (congrArg Bool.not (nt h33)) rfl (oPickT (eR rfl) (congrArg Bool.not (nt h33)) eC (xNil (TQ.qn ⟨true, H, (wk_mkG [] (kR rfl rfl (kR rfl rfl (kR rfl rfl (kR rfl rfl SL.nil)))) (BL.keep rfl (BL.keep rfl BL.nil)) (BK.cons rfl bZ rfl rfl BK.nil) GK.nil)⟩))))))
       ·refine gSkip eZ (decide_eq_false h26) rfl (gSkip (eR rfl) (decide_eq_false h26) rfl (gSkip (eR rfl) (decide_eq_false h26) rfl (gSkip (eR rfl) (decide_eq_false h26) rfl (gSkip (eR rfl) (decide_eq_false h26) rfl (gSkip (eR rfl) (decide_eq_false h26) rfl (gSkip (eR rfl) (decide_eq_false h26) rfl (gSkip (eR rfl) (decide_eq_false h26) rfl (gSkip (eR rfl) (decide_eq_false h26) rfl (gDo (eR rfl) (congrArg Bool.not h25) (oPickF (eR rfl) (decide_eq_false h26) eC (oPickF (eR rfl) (congrArg Bool.not h25) eZ (oMov eZ (gDo eZ rfl (oFaddrN (m := 1) (eR rfl) rfl (gDo (eR rfl) rfl (oLoadV (q := 1) (c := (.d (.sl 2 (List.map d_TRange v10.Reads)))) eZ bZ rfl rfl (gDo (eR rfl) rfl (oLenD eZ (n := v10.Reads.length) (List.length_map _) (gDo (eR rfl) rfl (oGtr eZ eC (oPickF (eR rfl) rfl eZ (oMov eZ ?_))))))))))))))))))))))
        rcases oite H with ⟨h36, H⟩ | ⟨h36, H⟩
        ·exact gSkip eZ (decide_eq_true h36) rfl (gSkip (eR rfl) (decide_eq_true h36) rfl (gSkip (eR rfl) (decide_eq_true h36) rfl (gSkip (eR rfl) (decide_eq_true h36) rfl (oPickT (eR rfl) (decide_eq_true h36) eC (oMov eZ (gSkip eZ rfl rfl (gSkip (eR rfl) rfl rfl (gSkip (eR rfl) rfl rfl (gSkip (eR rfl) rfl rfl (oPickT (eR rfl) rfl eC (xNil (TQ.qn ⟨true, H, (wk_mkG [] (kR rfl rfl (kR rfl rfl (kR rfl rfl (kR rfl rfl SL.nil)))) (BL.keep rfl (BL.keep rfl BL.nil)) (BK.cons rfl bZ rfl rfl BK.nil) GK.nil)⟩))))))))))))
        ·refine gDo eZ (decide_eq_false h36) (oFaddrN (m := 2) (eR rfl) rfl (gDo (eR rfl) (decide_eq_false h36) (oLoadV (q := 2) (c := (.d (.sl 2 (List.map d_TCell v10.Writes)))) eZ bZ rfl rfl (gDo (eR rfl) (decide_eq_false h36) ?_))))
         obtain ⟨v37, h38, H⟩ := obind H
         refine oCall (u := (oB v37)) eC Cl.fn (c_spec_WritesOk h38) (Evs.cons eZ Evs.nil) (VDs.cons VD.plain VDs.nil) rfl (gDo (eR rfl) (decide_eq_false h36) (oInv eZ (oPickF (eR rfl) (decide_eq_false h36) eZ (oMov eZ ?_))))
         rcases oite H with ⟨h39, H⟩ | ⟨h39, H⟩
         ·refine gDo eZ (congrArg Bool.not h39) (oFaddrN (m := 3) (eR rfl) rfl (gDo (eR rfl) (congrArg Bool.not h39) (oLoadV (q := 3) (c := (dI v10.Vote)) eZ bZ rfl rfl (gDo (eR rfl) (congrArg Bool.not h39) ?_))))
          obtain ⟨v40, h41, H⟩ := obind H
          exact oCall (u := (oB v40)) eC Cl.fn (c_spec_l1In h41) (Evs.cons eZ (Evs.cons eC (Evs.cons eC Evs.nil))) (VDs.cons VD.plain (VDs.cons VD.plain (VDs.cons VD.plain VDs.nil))) rfl (gDo (eR rfl) (congrArg Bool.not h39) (oInv eZ (oPickF (eR rfl) (congrArg Bool.not h39) eZ (xNil (TQ.qn ⟨(!v40), H, (wk_mkG [] (kR rfl rfl (kR rfl rfl (kR rfl rfl (kR rfl rfl SL.nil)))) (BL.keep rfl (BL.keep rfl BL.nil)) (BK.cons rfl bZ rfl rfl BK.nil) GK.nil)⟩)))))
         ·exact gSkip eZ (congrArg Bool.not (nt h39)) rfl (gSkip (eR rfl) (congrArg Bool.not (nt h39)) rfl (gSkip (eR rfl) (congrArg Bool.not (nt h39)) rfl (gSkip (eR rfl) (congrArg Bool.not (nt h39)) rfl (oPickT (eR rfl) (congrArg Bool.not (nt h39)) eC (xNil (TQ.qn ⟨true, H, (wk_mkG [] (kR rfl rfl (kR rfl rfl (kR rfl rfl (kR rfl rfl SL.nil)))) (BL.keep rfl (BL.keep rfl BL.nil)) (BK.cons rfl bZ rfl rfl BK.nil) GK.nil)⟩))))))
      ·exact gSkip eZ (congrArg Bool.not (nt h25)) rfl (gSkip (eR rfl) (congrArg Bool.not (nt h25)) rfl (gSkip (eR rfl) (congrArg Bool.not (nt h25)) rfl (gSkipU eZ rfl (gSkipU (eR rfl) rfl (gSkipU (eR rfl) rfl (gSkipU (eR rfl) rfl (gSkipU (eR rfl) rfl (gSkipU (eR rfl) rfl (gSkipU (eR rfl) rfl (gSkipU (eR rfl) rfl (gSkipU (eR rfl) rfl (gSkip (eR rfl) (congrArg Bool.not (nt h25)) rfl (oPickT (eR rfl) (congrArg Bool.not (nt h25)) eC (oMov eZ (gSkip eZ rfl rfl (gSkip (eR rfl) rfl rfl (gSkip (eR rfl) rfl rfl (gSkip (eR rfl) rfl rfl (oPickT (eR rfl) rfl eC (oMov eZ (gSkip eZ rfl rfl (gSkip (eR rfl) rfl rfl (gSkip (eR rfl) rfl rfl (gSkip (eR rfl) rfl rfl (oPickT (eR rfl) rfl eC (oMov eZ (gSkip eZ rfl rfl (gSkip (eR rfl) rfl rfl (gSkip (eR rfl) rfl rfl (gSkip (eR rfl) rfl rfl (oPickT (eR rfl) rfl eC (xNil (TQ.qn ⟨true, H, (wk_mkG [] (kR rfl rfl (kR rfl rfl (kR rfl rfl (kR rfl rfl SL.nil)))) (BL.keep rfl (BL.keep rfl BL.nil)) (BK.cons rfl bZ rfl rfl BK.nil) GK.nil)⟩)))))))))))))))))))))))))))))))))
   ·exact AW.condF eZ (decide_eq_false h7) (AW.exit (TQ.qe (TQ.qe (BQ.qe (TQ.qn ⟨(), H, (wk_mkG [] SL.nil BL.nil BK.nil GK.nil)⟩)))))
theorem c_spec_l14Votes {a1 : (List TShare)} {a2 : Int} {r : Int} (H : m_spec_l14Votes a1 a2 = some r) : Fn Try.prog k_spec_l14Votes (lent [(.sl 4 (List.map d_TShare a1)), (.int .i64 a2)]) true [(.int .i64 r)] := by
 refine i_spec_l14Votes_fn (fle rfl) ?_
 rw [init_mk]
 refine AW.weaken (wk_mk [] (kv 0 (.one (.d (.sl 4 (List.map d_TShare a1)))) rfl rfl (kv 1 (oI a2) rfl rfl SL.nil)) BL.nil BK.nil) ?_
 unfold m_spec_l14Votes at H
 unfold i_spec_l14Votes
 refine aV (oMov eC (xQ (aV (oMov eC (xQ (AW.seqJ (fun t3 : Int => spec_l14Votes_j3 t3 = some r) (fun t3 => mk [(5, (oI t3))] [] noG) ?_ ?_))))))
 ·intro t3 H
  unfold spec_l14Votes_j3 at H
  refine aV (oMov eZ (oMov eZ (xQ (AW.ret ?_))))
  cases H
  exact eE rfl rfl
 ·refine aV (oMov eC (xQ (AW.block (AW.iter (fun s5 : (Int × Int) => mk [(0, (.one (.d (.sl 4 (List.map d_TShare a1))))), (1, (oI a2)), (5, (oI s5.1)), (6, (oI s5.2))] [] noG) H (wk_mk [] (kR rfl rfl (kR rfl rfl (kR rfl rfl (kR rfl rfl SL.nil)))) BL.nil BK.nil) ?_))))
  intro kb6 s5 H
  unfold spec_l14Votes_b5 at H
  refine aS (aV (oMov (eR rfl) (oMov (eR rfl) (oLenD eZ (n := a1.length) (List.length_map _) (oLss (eR rfl) eZ (xQ ?_))))))
  rcases oite H with ⟨h7, H⟩ | ⟨h7, H⟩
  ·refine AW.condT eZ (decide_eq_true h7) (AW.skip (TQ.qn (aS (AW.block (aV (oMov (eR rfl) (oMov (eR rfl) ?_)))))))
   obtain ⟨v8, h9, H⟩ := obind H
   refine oAtD (eR rfl) eZ h9 (oFaddrB (m := 3) eZ rfl (oLoadB (e := (.int .i64 v8.Vote)) eZ rfl (oMov (eR rfl) (oEql (eR rfl) eZ (xQ ?_)))))
   rcases oite H with ⟨h10, H⟩ | ⟨h10, H⟩
   ·exact AW.condT eZ (decide_eq_true h10) (aR (oMov (eR rfl) (oAdd eZ eC (oMov eZ (xNil (BQ.qn (TQ.qn (AW.weaken (wk_mk [] (kr 5 rfl rfl (kr 0 rfl rfl (kr 1 rfl rfl (kr 6 rfl rfl SL.nil)))) BL.nil BK.nil) (aR (oMov (eR rfl) (oAdd eZ eC (oMov eZ (xNil (TQ.qn ⟨((IntKind.wrap .i64 (s5.1 + 1)), (IntKind.wrap .i64 (s5.2 + 1))), H, (wk_mk [] (kR rfl rfl (kR rfl rfl (kR rfl rfl (kR rfl rfl SL.nil)))) BL.nil BK.nil)⟩))))))))))))))
   ·exact AW.condF eZ (decide_eq_false h10) (AW.skip (BQ.qn (TQ.qn (aR (oMov (eR rfl) (oAdd eZ eC (oMov eZ (xNil (TQ.qn ⟨(s5.1, (IntKind.wrap .i64 (s5.2 + 1))), H, (wk_mk [] (kR rfl rfl (kR rfl rfl (kR rfl rfl (kR rfl rfl SL.nil)))) BL.nil BK.nil)⟩)))))))))
  ·exact AW.condF eZ (decide_eq_false h7) (AW.exit (TQ.qe (TQ.qe (BQ.qe (TQ.qn ⟨s5.1, H, (wk_mk [] (kR rfl rfl SL.nil) BL.nil BK.nil)⟩)))))
theorem c_spec_l14RecOk {a1 : TRec} {r : Bool} (H : m_spec_l14RecOk a1 = some r) : Fn Try.prog k_spec_l14RecOk (lent [(.agg (d_TRec a1))]) true [(.bool r)] := by
 refine i_spec_l14RecOk_fn (fle rfl) ?_
 rw [init_mk]
 refine AW.weaken (wk_mk [] (kv 0 (.agg [(dI a1.Tx), (dI a1.Client), (dI a1.Req), (dI a1.State), (.d (.sl 4 (List.map d_TShare a1.Shares)))]) rfl rfl SL.nil) BL.nil BK.nil) ?_
 unfold m_spec_l14RecOk at H
 unfold i_spec_l14RecOk
 refine aV (oBox (n := 64) (m := 5) (cs := [(dI a1.Tx), (dI a1.Client), (dI a1.Req), (dI a1.State), (.d (.sl 4 (List.map d_TShare a1.Shares)))]) rfl eZ rfl rfl nZ (oMov eC (xQ (aS (AW.seqJ (fun t2 : Bool => (spec_l14RecOk_j2 a1) t2 = some r) (fun t2 => mk [(1, (.one (.ptr (.nm 64 0 0)))), (18, (oB t2))] [(64, (.vars 5 [(dI a1.Tx), (dI a1.Client), (dI a1.Req), (dI a1.State), (.d (.sl 4 (List.map d_TShare a1.Shares)))]))] noG) ?_ ?_)))))
 ·intro t2 H
  unfold spec_l14RecOk_j2 at H
  rcases oite H with ⟨h4, H⟩ | ⟨h4, H⟩
  ·refine AW.condT (eR rfl) h4 (aV (oMov eC (xQ (AW.ret (TQ.qr ?_)))))
   cases H
   exact eE rfl rfl
  ·refine AW.condF (eR rfl) (nt h4) (AW.skip (TQ.qn (aS (aV (oFaddrN (m := 3) eZ rfl (oLoadV (q := 3) (c := (dI a1.State)) eZ bZ rfl rfl (xQ (AW.block (aV (oEql eZ eC (oMov eZ (xQ ?_))))))))))))
   rcases oite H with ⟨h5, H⟩ | ⟨h5, H⟩
   ·refine AW.condT eZ (decide_eq_true h5) (aV (oFaddrN (m := 4) (eR rfl) rfl (oLoadV (q := 4) (c := (.d (.sl 4 (List.map d_TShare a1.Shares)))) eZ bZ rfl rfl (oLenD eZ (n := a1.Shares.length) (List.length_map _) (oEql eZ eC (oMov eZ (xQ (AW.ret (BQ.qr (TQ.qr ?_))))))))))
    cases H
    exact eE rfl rfl
   ·refine AW.condF eZ (decide_eq_false h5) (aV (oEql (eR rfl) eC (oMov eZ (xQ ?_))))
    rcases oite H with ⟨h6, H⟩ | ⟨h6, H⟩
    ·refine AW.condT eZ (decide_eq_true h6) (aV (oFaddrN (m := 4) (eR rfl) rfl (oLoadV (q := 4) (c := (.d (.sl 4 (List.map d_TShare a1.Shares)))) eZ bZ rfl rfl ?_)))
     obtain ⟨v7, h8, H⟩ := obind H
     refine oCall (u := (oI v7)) eC Cl.fn (c_spec_l14Votes h8) (Evs.cons eZ (Evs.cons eC Evs.nil)) (VDs.cons VD.plain (VDs.cons VD.plain VDs.nil)) rfl (oGtr eZ eC (oMov eZ ?_))
     rcases oite H with ⟨h9, H⟩ | ⟨h9, H⟩
     ·refine gDo eZ (decide_eq_true h9) (oFaddrN (m := 4) (eR rfl) rfl (gDo (eR rfl) (decide_eq_true h9) (oLoadV (q := 4) (c := (.d (.sl 4 (List.map d_TShare a1.Shares)))) eZ bZ rfl rfl (gDo (eR rfl) (decide_eq_true h9) ?_))))
      obtain ⟨v10, h11, H⟩ := obind H
      refine oCall (u := (oI v10)) eC Cl.fn (c_spec_l14Votes h11) (Evs.cons eZ (Evs.cons eC Evs.nil)) (VDs.cons VD.plain (VDs.cons VD.plain VDs.nil)) rfl (gDo (eR rfl) (decide_eq_true h9) (oEql eZ eC (oPickT (eR rfl) (decide_eq_true h9) eZ (oMov eZ (xQ (AW.weaken (wk_mk [64] (kr 2 rfl rfl SL.nil) (BL.drop rfl BL.nil) BK.nil) (AW.ret (BQ.qr (TQ.qr ?_)))))))))
      cases H
      exact eE rfl rfl
     ·refine gSkip eZ (decide_eq_false h9) rfl (gSkip (eR rfl) (decide_eq_false h9) rfl (gSkip (eR rfl) (decide_eq_false h9) rfl (gSkip (eR rfl) (decide_eq_false h9) rfl (oPickF (eR rfl) (decide_eq_false h9) eC (oMov eZ (xQ (AW.weaken (wk_mk [64] (kr 2 rfl rfl SL.nil) (BL.drop rfl BL.nil) BK.nil) (AW.ret (BQ.qr (TQ.qr ?_))))))))))
      cases H
      exact eE rfl rfl
    ·refine AW.condF eZ (decide_eq_false h6) (aV (oEql (eR rfl) eC (oMov eZ (xQ ?_))))
     rcases oite H with ⟨h12, H⟩ | ⟨h12, H⟩
     ·refine AW.condT eZ (decide_eq_true h12) (aS (AW.regd (oFaddrN (m := 4) (eR rfl) rfl (oLoadV (q := 4) (c := (.d (.sl 4 (List.map d_TShare a1.Shares)))) eZ bZ rfl rfl ?_))))
      obtain ⟨v13, h14, H⟩ := obind H
      refine oCall (u := (oI v13)) eC Cl.fn (c_spec_l14Votes h14) (Evs.cons eZ (Evs.cons eC Evs.nil)) (VDs.cons VD.plain (VDs.cons VD.plain VDs.nil)) rfl (oFaddrN (m := 4) (eR rfl) rfl (oLoadV (q := 4) (c := (.d (.sl 4 (List.map d_TShare a1.Shares)))) eZ (hB rfl bZ) rfl rfl (oLenD eZ (n := a1.Shares.length) (List.length_map _) (oEql (eR rfl) eZ (oMov eZ (xQ (AW.weaken (wk_mk [64] (kr 2 rfl rfl SL.nil) (BL.drop rfl BL.nil) BK.nil) (AW.ret (BQ.qr (TQ.qr ?_))))))))))
      cases H
      exact eE rfl rfl
     ·refine AW.condF eZ (decide_eq_false h12) (AW.skip (BQ.qn (TQ.qn (aV (oFaddrN (m := 3) (eR rfl) rfl (oLoadV (q := 3) (c := (dI a1.State)) eZ bZ rfl rfl (oEql eZ eC (oMov eZ (xQ (AW.ret ?_))))))))))
      cases H
      exact eE rfl rfl
 ·refine aR (oFaddrN (m := 1) (eR rfl) rfl (oLoadV (q := 1) (c := (dI a1.Client)) eZ bZ rfl rfl ?_))
  obtain ⟨v15, h16, H⟩ := obind H
  refine oCall (u := (oB v15)) eC Cl.fn (c_spec_l1Whole h16) (Evs.cons eZ Evs.nil) (VDs.cons VD.plain VDs.nil) rfl (oInv eZ (oMov eZ ?_))
  rcases oite H with ⟨h17, H⟩ | ⟨h17, H⟩
  ·refine gDo eZ (congrArg Bool.not h17) (oFaddrN (m := 2) (eR rfl) rfl (gDo (eR rfl) (congrArg Bool.not h17) (oLoadV (q := 2) (c := (dI a1.Req)) eZ bZ rfl rfl (gDo (eR rfl) (congrArg Bool.not h17) ?_))))
   obtain ⟨v18, h19, H⟩ := obind H
   refine oCall (u := (oB v18)) eC Cl.fn (c_spec_l1In h19) (Evs.cons eZ (Evs.cons eC (Evs.cons eC Evs.nil))) (VDs.cons VD.plain (VDs.cons VD.plain (VDs.cons VD.plain VDs.nil))) rfl (gDo (eR rfl) (congrArg Bool.not h17) (oInv eZ (oPickF (eR rfl) (congrArg Bool.not h17) eZ (oMov eZ ?_))))
   rcases oite H with ⟨h20, H⟩ | ⟨h20, H⟩
   ·refine gDo eZ (congrArg Bool.not h20) (oFaddrN (m := 4) (eR rfl) rfl (gDo (eR rfl) (congrArg Bool.not h20) (oLoadV (q := 4) (c := (.d (.sl 4 (List.map d_TShare a1.Shares)))) eZ bZ rfl rfl (gDo (eR rfl) (congrArg Bool.not h20) ?_))))
    obtain ⟨v21, h22, H⟩ := obind H
    exact oCall (u := (oB v21)) eC Cl.fn (c_spec_SharesOk h22) (Evs.cons eZ Evs.nil) (VDs.cons VD.plain VDs.nil) rfl (gDo (eR rfl) (congrArg Bool.not h20) (oInv eZ (oPickF (eR rfl) (congrArg Bool.not h20) eZ (xNil (TQ.qn ⟨(!v21), H, (wk_mk [] (kR rfl rfl (kR rfl rfl SL.nil)) (BL.keep rfl BL.nil) (BK.cons rfl bZ rfl rfl BK.nil))⟩)))))
   ·exact gSkip eZ (congrArg Bool.not (nt h20)) rfl (gSkip (eR rfl) (congrArg Bool.not (nt h20)) rfl (gSkip (eR rfl) (congrArg Bool.not (nt h20)) rfl (gSkip (eR rfl) (congrArg Bool.not (nt h20)) rfl (oPickT (eR rfl) (congrArg Bool.not (nt h20)) eC (xNil (TQ.qn ⟨true, H, (wk_mk [] (kR rfl rfl (kR rfl rfl SL.nil)) (BL.keep rfl BL.nil) (BK.cons rfl bZ rfl rfl BK.nil))⟩))))))
  ·exact gSkip eZ (congrArg Bool.not (nt h17)) rfl (gSkip (eR rfl) (congrArg Bool.not (nt h17)) rfl (gSkip (eR rfl) (congrArg Bool.not (nt h17)) rfl (gSkip (eR rfl) (congrArg Bool.not (nt h17)) rfl (oPickT (eR rfl) (congrArg Bool.not (nt h17)) eC (oMov eZ (gSkip eZ rfl rfl (gSkip (eR rfl) rfl rfl (gSkip (eR rfl) rfl rfl (gSkip (eR rfl) rfl rfl (oPickT (eR rfl) rfl eC (xNil (TQ.qn ⟨true, H, (wk_mk [] (kR rfl rfl (kR rfl rfl SL.nil)) (BL.keep rfl BL.nil) (BK.cons rfl bZ rfl rfl BK.nil))⟩))))))))))))
theorem c_spec_l12Has {a1 : (List Int)} {a2 : Int} {r : Bool} (H : m_spec_l12Has a1 a2 = some r) : Fn Try.prog k_spec_l12Has (lent [(.sl 1 (List.map d_i64 a1)), (.int .i64 a2)]) true [(.bool r)] := by
 refine i_spec_l12Has_fn (fle rfl) ?_
 rw [init_mk]
 refine AW.weaken (wk_mk [] (kv 0 (.one (.d (.sl 1 (List.map d_i64 a1)))) rfl rfl (kv 1 (oI a2) rfl rfl SL.nil)) BL.nil BK.nil) ?_
 unfold m_spec_l12Has at H
 unfold i_spec_l12Has
 refine aV (oMov eC (xQ (AW.seqJ (fun t3 : Unit => spec_l12Has_j3 t3 = some r) (fun t3 => mk [] [] noG) ?_ ?_)))
 ·intro t3 H
  unfold spec_l12Has_j3 at H
  refine aV (oMov eC (xQ (AW.ret ?_)))
  cases H
  exact eE rfl rfl
 ·refine aV (oMov eC (xQ (AW.block (AW.iter (fun s5 : Int => mk [(0, (.one (.d (.sl 1 (List.map d_i64 a1))))), (1, (oI a2)), (5, (oI s5))] [] noG) H (wk_mk [] (kR rfl rfl (kR rfl rfl (kR rfl rfl SL.nil))) BL.nil BK.nil) ?_))))
  intro kb6 s5 H
  unfold spec_l12Has_b5 at H
  refine aS (aV (oMov (eR rfl) (oMov (eR rfl) (oLenD eZ (n := a1.length) (List.length_map _) (oLss (eR rfl) eZ (xQ ?_))))))
  rcases oite H with ⟨h7, H⟩ | ⟨h7, H⟩
  ·refine AW.condT eZ (decide_eq_true h7) (AW.skip (TQ.qn (aS (AW.block (aV (oMov (eR rfl) (oMov (eR rfl) ?_)))))))
   obtain ⟨v8, h9, H⟩ := obind H
   refine oAtD (eR rfl) eZ h9 (oLoadB (e := (.int .i64 v8)) eZ rfl (oMov (eR rfl) (oEql (eR rfl) eZ (xQ ?_))))
   rcases oite H with ⟨h10, H⟩ | ⟨h10, H⟩
   ·refine AW.condT eZ (decide_eq_true h10) (aV (oMov eC (xQ (AW.ret (BQ.qr (TQ.qr (TQ.qr (BQ.qr (TQ.qr ?_)))))))))
    cases H
    exact eE rfl rfl
   ·exact AW.condF eZ (decide_eq_false h10) (AW.skip (BQ.qn (TQ.qn (aR (oMov (eR rfl) (oAdd eZ eC (oMov eZ (xNil (TQ.qn ⟨(IntKind.wrap .i64 (s5 + 1)), H, (wk_mk [] (kR rfl rfl (kR rfl rfl (kR rfl rfl SL.nil))) BL.nil BK.nil)⟩)))))))))
  ·exact AW.condF eZ (decide_eq_false h7) (AW.exit (TQ.qe (TQ.qe (BQ.qe (TQ.qn ⟨(), H, (wk_mk [] SL.nil BL.nil BK.nil)⟩)))))
theorem c_spec_CoordOk {a1 : TCoord} {r : Bool} (H : m_spec_CoordOk a1 = some r) : Fn Try.prog k_spec_CoordOk (lent [(.agg (d_TCoord a1))]) true [(.bool r)] := by
 refine i_spec_CoordOk_fn (fle rfl) ?_
 rw [init_mk]
 refine AW.weaken (t := mk [(0, (.agg [(.d (.sl 5 (List.map d_TRec a1.Recs))), (.d (.sl 1 (List.map d_i64 a1.Order)))]))] [] (lk [])) (wk_mk [] (kv 0 (.agg [(.d (.sl 5 (List.map d_TRec a1.Recs))), (.d (.sl 1 (List.map d_i64 a1.Order)))]) rfl rfl SL.nil) BL.nil BK.nil) ?_
 unfold m_spec_CoordOk at H
 unfold i_spec_CoordOk
 refine aV (oBox (n := 64) (m := 2) (cs := [(.d (.sl 5 (List.map d_TRec a1.Recs))), (.d (.sl 1 (List.map d_i64 a1.Order)))]) rfl eZ rfl rfl nZ (oMov eC (xQ (aS (AW.seqJ (fun t2 : Bool => (spec_CoordOk_j2 a1) t2 = some r) (fun t2 => mk [(1, (.one (.ptr (.nm 64 0 0)))), (18, (oB t2))] [(64, (.vars 2 [(.d (.sl 5 (List.map d_TRec a1.Recs))), (.d (.sl 1 (List.map d_i64 a1.Order)))]))] (lk [])) ?_ ?_)))))
 ·intro t2 H
  unfold spec_CoordOk_j2 at H
  rcases oite H with ⟨h4, H⟩ | ⟨h4, H⟩
  ·refine AW.condT (eR rfl) h4 (aV (oMov eC (xQ (AW.ret (TQ.qr ?_)))))
   cases H
   exact eE rfl rfl
  ·refine AW.condF (eR rfl) (nt h4) (AW.skip (TQ.qn (aV (oMov eC (xQ (AW.seqJ (fun t5 : Int => (spec_CoordOk_j5 a1) t5 = some r) (fun t5 => mk [(1, (.one (.ptr (.nm 64 0 0)))), (3, (oI t5))] [(64, (.vars 2 [(.d (.sl 5 (List.map d_TRec a1.Recs))), (.d (.sl 1 (List.map d_i64 a1.Order)))]))] (lk [])) ?_ ?_))))))
   ·intro t5 H
    unfold spec_CoordOk_j5 at H
    refine AW.seqJ (fun t7 : Unit => (spec_CoordOk_j7 t5 a1) t7 = some r) (fun t7 => mk [(1, (.one (.ptr (.nm 64 0 0)))), (3, (oI t5))] [(64, (.vars 2 [(.d (.sl 5 (List.map d_TRec a1.Recs))), (.d (.sl 1 (List.map d_i64 a1.Order)))]))] (lk [])) ?_ ?_
    ·intro t7 H
     unfold spec_CoordOk_j7 at H
     refine aV (oMov (eR rfl) (oFaddrN (m := 1) (eR rfl) rfl (oLoadV (q := 1) (c := (.d (.sl 1 (List.map d_i64 a1.Order)))) eZ bZ rfl rfl (oLenD eZ (n := a1.Order.length) (List.length_map _) (oEql (eR rfl) eZ (oMov eZ (xQ (AW.ret ?_))))))))
     cases H
     exact eE rfl rfl
    ·refine aV (oMov eC (xQ (AW.block (AW.iter (fun s9 : Int => mk [(1, (.one (.ptr (.nm 64 0 0)))), (3, (oI t5)), (7, (oI s9))] [(64, (.vars 2 [(.d (.sl 5 (List.map d_TRec a1.Recs))), (.d (.sl 1 (List.map d_i64 a1.Order)))]))] (lk [])) H (wk_mkG [] (kR rfl rfl (kR rfl rfl (kR rfl rfl SL.nil))) (BL.keep rfl BL.nil) (BK.cons rfl bZ rfl rfl BK.nil) GK.nil) ?_))))
     intro kb10 s9 H
     unfold spec_CoordOk_b9 at H
     refine aS (aV (oMov (eR rfl) (oFaddrN (m := 1) (eR rfl) rfl (oLoadV (q := 1) (c := (.d (.sl 1 (List.map d_i64 a1.Order)))) eZ bZ rfl rfl (oLenD eZ (n := a1.Order.length) (List.length_map _) (oLss (eR rfl) eZ (xQ ?_)))))))
     rcases oite H with ⟨h11, H⟩ | ⟨h11, H⟩
     ·refine AW.condT eZ (decide_eq_true h11) (AW.skip (TQ.qn (aS (AW.block (aV (oFaddrN (m := 1) (eR rfl) rfl (oLoadV (q := 1) (c := (.d (.sl 1 (List.map d_i64 a1.Order)))) eZ bZ rfl rfl (oMov (eR rfl) ?_))))))))
      obtain ⟨v12, h13, H⟩ := obind H
      refine oAtD (eR rfl) eZ h13 (oLoadB (e := (.int .i64 v12)) eZ rfl (oMov eZ (xQ (AW.seqJ (fun t14 : Bool => (spec_CoordOk_j14 kb10 s9) t14 = some r) (fun t14 => mk [(1, (.one (.ptr (.nm 64 0 0)))), (3, (oI t5)), (7, (oI s9)), (106, (oB t14))] [(64, (.vars 2 [(.d (.sl 5 (List.map d_TRec a1.Recs))), (.d (.sl 1 (List.map d_i64 a1.Order)))]))] (lk [])) ?_ ?_))))
      ·intro t14 H
       unfold spec_CoordOk_j14 at H
       rcases oite H with ⟨h16, H⟩ | ⟨h16, H⟩
       ·refine AW.condT (eR rfl) h16 (aV (oMov eC (xQ (AW.ret (BQ.qr (TQ.qr (TQ.qr (BQ.qr (TQ.qr ?_)))))))))
        cases H
        exact eE rfl rfl
       ·exact AW.condF (eR rfl) (nt h16) (AW.skip (BQ.qn (TQ.qn (aR (oMov (eR rfl) (oAdd eZ eC (oMov eZ (xNil (TQ.qn ⟨(IntKind.wrap .i64 (s9 + 1)), H, (wk_mkG [] (kR rfl rfl (kR rfl rfl (kR rfl rfl SL.nil))) (BL.keep rfl BL.nil) (BK.cons rfl bZ rfl rfl BK.nil) GK.nil)⟩)))))))))
      ·refine aR (oMov eZ (oFaddrN (m := 0) (eR rfl) rfl (oLoadV (q := 0) (c := (.d (.sl 5 (List.map d_TRec a1.Recs)))) eZ bZ rfl rfl (oLenD eZ (n := a1.Recs.length) (List.length_map _) ?_))))
       obtain ⟨v17, h18, H⟩ := obind H
       refine oCall (u := (oB v17)) eC Cl.fn (c_spec_l1In h18) (Evs.cons (eR rfl) (Evs.cons eC (Evs.cons eZ Evs.nil))) (VDs.cons VD.plain (VDs.cons VD.plain (VDs.cons VD.plain VDs.nil))) rfl (oInv eZ (oMov eZ ?_))
       rcases oite H with ⟨h19, H⟩ | ⟨h19, H⟩
       ·refine gDo eZ (congrArg Bool.not h19) (oFaddrN (m := 0) (eR rfl) rfl (gDo (eR rfl) (congrArg Bool.not h19) (oLoadV (q := 0) (c := (.d (.sl 5 (List.map d_TRec a1.Recs)))) eZ bZ rfl rfl (gDo (eR rfl) (congrArg Bool.not h19) (oMov (eR rfl) (gDo (eR rfl) (congrArg Bool.not h19) (oSub eZ eC (gDo (eR rfl) (congrArg Bool.not h19) ?_))))))))
        obtain ⟨v20, h21, H⟩ := obind H
        refine oAtD (eR rfl) eZ h21 (gDo (eR rfl) (congrArg Bool.not h19) (oFaddrB (m := 3) eZ rfl (gDo (eR rfl) (congrArg Bool.not h19) (oLoadB (e := (.int .i64 v20.State)) eZ rfl (gDo (eR rfl) (congrArg Bool.not h19) (oNeq eZ eC (oPickF (eR rfl) (congrArg Bool.not h19) eZ (oMov eZ ?_))))))))
        rcases oite H with ⟨h22, H⟩ | ⟨h22, H⟩
        ·exact gSkip eZ (decide_eq_true h22) rfl (gSkip (eR rfl) (decide_eq_true h22) rfl (gSkip (eR rfl) (decide_eq_true h22) rfl (gSkip (eR rfl) (decide_eq_true h22) rfl (gSkip (eR rfl) (decide_eq_true h22) rfl (gSkip (eR rfl) (decide_eq_true h22) rfl (oPickT (eR rfl) (decide_eq_true h22) eC (xNil (TQ.qn ⟨true, H, (wk_mkG [] (kR rfl rfl (kR rfl rfl (kR rfl rfl (kR rfl rfl SL.nil)))) (BL.keep rfl BL.nil) (BK.cons rfl bZ rfl rfl BK.nil) GK.nil)⟩))))))))
        ·refine gDo eZ (decide_eq_false h22) (oFaddrN (m := 1) (eR rfl) rfl (gDo (eR rfl) (decide_eq_false h22) (oLoadV (q := 1) (c := (.d (.sl 1 (List.map d_i64 a1.Order)))) eZ bZ rfl rfl (gDo (eR rfl) (decide_eq_false h22) (oMov (eR rfl) (gDo (eR rfl) (decide_eq_false h22) ?_))))))
         obtain ⟨v23, h24, H⟩ := obind H
         refine oCutD (eR rfl) Bd.no (n := (a1.Order.length : Int)) rfl (Bd.at eZ) h24 (gDo (eR rfl) (decide_eq_false h22) (oMov (eR rfl) (gDo (eR rfl) (decide_eq_false h22) ?_)))
         obtain ⟨v25, h26, H⟩ := obind H
         exact oCall (u := (oB v25)) eC Cl.fn (c_spec_l12Has h26) (Evs.cons (eR rfl) (Evs.cons eZ Evs.nil)) (VDs.cons VD.plain (VDs.cons VD.plain VDs.nil)) rfl (oPickF (eR rfl) (decide_eq_false h22) eZ (xNil (TQ.qn ⟨v25, H, (wk_mkG [] (kR rfl rfl (kR rfl rfl (kR rfl rfl (kR rfl rfl SL.nil)))) (BL.keep rfl BL.nil) (BK.cons rfl bZ rfl rfl BK.nil) GK.nil)⟩)))
       ·exact gSkip eZ (congrArg Bool.not (nt h19)) rfl (gSkip (eR rfl) (congrArg Bool.not (nt h19)) rfl (gSkip (eR rfl) (congrArg Bool.not (nt h19)) rfl (gSkip (eR rfl) (congrArg Bool.not (nt h19)) rfl (gSkip (eR rfl) (congrArg Bool.not (nt h19)) rfl (gSkip (eR rfl) (congrArg Bool.not (nt h19)) rfl (gSkip (eR rfl) (congrArg Bool.not (nt h19)) rfl (gSkip (eR rfl) (congrArg Bool.not (nt h19)) rfl (oPickT (eR rfl) (congrArg Bool.not (nt h19)) eC (oMov eZ (gSkip eZ rfl rfl (gSkip (eR rfl) rfl rfl (gSkip (eR rfl) rfl rfl (gSkip (eR rfl) rfl rfl (gSkip (eR rfl) rfl rfl (gSkip (eR rfl) rfl rfl (oPickT (eR rfl) rfl eC (xNil (TQ.qn ⟨true, H, (wk_mkG [] (kR rfl rfl (kR rfl rfl (kR rfl rfl (kR rfl rfl SL.nil)))) (BL.keep rfl BL.nil) (BK.cons rfl bZ rfl rfl BK.nil) GK.nil)⟩))))))))))))))))))
     ·exact AW.condF eZ (decide_eq_false h11) (AW.exit (TQ.qe (TQ.qe (BQ.qe (TQ.qn ⟨(), H, (wk_mkG [] (kR rfl rfl (kR rfl rfl SL.nil)) (BL.keep rfl BL.nil) (BK.cons rfl bZ rfl rfl BK.nil) GK.nil)⟩)))))
   ·refine aV (oMov eC (xQ (AW.block (AW.iter (fun s27 : (Int × Int) => mk [(1, (.one (.ptr (.nm 64 0 0)))), (3, (oI s27.1)), (4, (oI s27.2))] [(64, (.vars 2 [(.d (.sl 5 (List.map d_TRec a1.Recs))), (.d (.sl 1 (List.map d_i64 a1.Order)))]))] (lk [])) H (wk_mkG [] (kR rfl rfl (kR rfl rfl (kR rfl rfl SL.nil))) (BL.keep rfl BL.nil) (BK.cons rfl bZ rfl rfl BK.nil) GK.nil) ?_))))
    intro kb28 s27 H
    unfold spec_CoordOk_b27 at H
    refine aS (aV (oMov (eR rfl) (oFaddrN (m := 0) (eR rfl) rfl (oLoadV (q := 0) (c := (.d (.sl 5 (List.map d_TRec a1.Recs)))) eZ bZ rfl rfl (oLenD eZ (n := a1.Recs.length) (List.length_map _) (oLss (eR rfl) eZ (xQ ?_)))))))
    rcases oite H with ⟨h29, H⟩ | ⟨h29, H⟩
    ·refine AW.condT eZ (decide_eq_true h29) (AW.skip (TQ.qn (AW.seqJ (fun t30 : Int => (spec_CoordOk_j30 kb28 s27) t30 = some r) (fun t30 => mk [(1, (.one (.ptr (.nm 64 0 0)))), (3, (oI t30)), (4, (oI s27.2))] [(64, (.vars 2 [(.d (.sl 5 (List.map d_TRec a1.Recs))), (.d (.sl 1 (List.map d_i64 a1.Order)))]))] (lk [])) ?_ ?_)))
     ·intro t30 H
      unfold spec_CoordOk_j30 at H
      exact aR (oMov (eR rfl) (oAdd eZ eC (oMov eZ (xNil (TQ.qn ⟨(t30, (IntKind.wrap .i64 (s27.2 + 1))), H, (wk_mkG [] (kR rfl rfl (kR rfl rfl (kR rfl rfl SL.nil))) (BL.keep rfl BL.nil) (BK.cons rfl bZ rfl rfl BK.nil) GK.nil)⟩)))))
     ·refine AW.block (aS (AW.regm (rmOne (oFaddrN (m := 0) (eR rfl) rfl (xNil (rmOne (oLoadV (q := 0) (c := (.d (.sl 5 (List.map d_TRec a1.Recs)))) eZ bZ rfl rfl (xNil (rmOne (oMov (eR rfl) (xNil (rmOne ?_))))))))))))
      obtain ⟨v32, h33, H⟩ := obind H
      refine oAtD (eR rfl) eZ h33 (xNil (rmOne (oLoadBA (es := [(dI v32.Tx), (dI v32.Client), (dI v32.Req), (dI v32.State), (.d (.sl 4 (List.map d_TShare v32.Shares)))]) eZ rfl (xNil (rmOne (oVar (n := 320) (m := 5) rfl rfl (nS rfl nZ) (xNil (rmOne (oStoreV (es := [(dI v32.Tx), (dI v32.Client), (dI v32.Req), (dI v32.State), (.d (.sl 4 (List.map d_TShare v32.Shares)))]) eZ (eR rfl) rfl rfl bZ rfl (xNil (rmRest (xQ (aS (AW.seqJ (fun t34 : Bool => (spec_CoordOk_j34 s27 a1 v32 (spec_CoordOk_j30 kb28 s27)) t34 = some r) (fun t34 => mk [(1, (.one (.ptr (.nm 64 0 0)))), (3, (oI s27.1)), (4, (oI s27.2)), (5, (.one (.ptr (.nm 320 0 0)))), (40, (oB t34))] [(64, (.vars 2 [(.d (.sl 5 (List.map d_TRec a1.Recs))), (.d (.sl 1 (List.map d_i64 a1.Order)))])), (320, (.vars 5 [(dI v32.Tx), (dI v32.Client), (dI v32.Req), (dI v32.State), (.d (.sl 4 (List.map d_TShare v32.Shares)))]))] (lk [])) ?_ ?_))))))))))))))
      ·intro t34 H
       unfold spec_CoordOk_j34 at H
       rcases oite H with ⟨h36, H⟩ | ⟨h36, H⟩
       ·refine AW.condT (eR rfl) h36 (aV (oMov eC (xQ (AW.ret (TQ.qr (BQ.qr (TQ.qr (TQ.qr (BQ.qr (TQ.qr ?_))))))))))
        cases H
        exact eE rfl rfl
       ·refine AW.condF (eR rfl) (nt h36) (AW.skip (TQ.qn (AW.seqJ (fun t37 : Unit => (spec_CoordOk_j37 v32 (spec_CoordOk_j30 kb28 s27) s27) t37 = some r) (fun t37 => mk [(1, (.one (.ptr (.nm 64 0 0)))), (3, (oI s27.1)), (4, (oI s27.2)), (5, (.one (.ptr (.nm 320 0 0))))] [(64, (.vars 2 [(.d (.sl 5 (List.map d_TRec a1.Recs))), (.d (.sl 1 (List.map d_i64 a1.Order)))])), (320, (.vars 5 [(dI v32.Tx), (dI v32.Client), (dI v32.Req), (dI v32.State), (.d (.sl 4 (List.map d_TShare v32.Shares)))]))] (lk [])) ?_ ?_)))
        ·intro t37 H
         unfold spec_CoordOk_j37 at H
         refine aV (oFaddrN (m := 3) (eR rfl) rfl (oLoadV (q := 3) (c := (dI v32.State)) eZ (bS rfl bZ) rfl rfl (oEql eZ eC (xQ ?_))))
         rcases oite H with ⟨h39, H⟩ | ⟨h39, H⟩
         ·exact AW.condT eZ (decide_eq_true h39) (aR (oMov (eR rfl) (oAdd eZ eC (oMov eZ (xNil (BQ.qn (TQ.qn ⟨(IntKind.wrap .i64 (s27.1 + 1)), H, (wk_mkG [320] (kR rfl rfl (kR rfl rfl (kR rfl rfl SL.nil))) (BL.keep rfl (BL.drop rfl BL.nil)) (BK.cons rfl bZ rfl rfl BK.nil) GK.nil)⟩)))))))
         ·exact AW.condF eZ (decide_eq_false h39) (AW.skip (BQ.qn (TQ.qn ⟨s27.1, H, (wk_mkG [320] (kR rfl rfl (kR rfl rfl (kR rfl rfl SL.nil))) (BL.keep rfl (BL.drop rfl BL.nil)) (BK.cons rfl bZ rfl rfl BK.nil) GK.nil)⟩)))
        ·refine aV (oMov eC (xQ (AW.block (AW.iter (fun s40 : Int => mk [(1, (.one (.ptr (.nm 64 0 0)))), (3, (oI s27.1)), (4, (oI s27.2)), (5, (.one (.ptr (.nm 320 0 0)))), (6, (oI s40))] [(64, (.vars 2 [(.d (.sl 5 (List.map d_TRec a1.Recs))), (.d (.sl 1 (List.map d_i64 a1.Order)))])), (320, (.vars 5 [(dI v32.Tx), (dI v32.Client), (dI v32.Req), (dI v32.State), (.d (.sl 4 (List.map d_TShare v32.Shares)))]))] (lk [])) H (wk_mkG [] (kR rfl rfl (kR rfl rfl (kR rfl rfl (kR rfl rfl (kR rfl rfl SL.nil))))) (BL.keep rfl (BL.keep rfl BL.nil)) (BK.cons rfl bZ rfl rfl (BK.cons rfl (bS rfl bZ) rfl rfl BK.nil)) GK.nil) ?_))))
         intro kb41 s40 H
         unfold spec_CoordOk_b40 at H
         refine aS (aV (oMov (eR rfl) (oMov (eR rfl) (oLss (eR rfl) eZ (xQ ?_)))))
         rcases oite H with ⟨h42, H⟩ | ⟨h42, H⟩
         ·refine AW.condT eZ (decide_eq_true h42) (AW.skip (TQ.qn (aS (AW.block (AW.seqJ (fun t43 : Bool => (spec_CoordOk_j43 kb41 s40) t43 = some r) (fun t43 => mk [(1, (.one (.ptr (.nm 64 0 0)))), (3, (oI s27.1)), (4, (oI s27.2)), (5, (.one (.ptr (.nm 320 0 0)))), (6, (oI s40)), (65, (oB t43))] [(64, (.vars 2 [(.d (.sl 5 (List.map d_TRec a1.Recs))), (.d (.sl 1 (List.map d_i64 a1.Order)))])), (320, (.vars 5 [(dI v32.Tx), (dI v32.Client), (dI v32.Req), (dI v32.State), (.d (.sl 4 (List.map d_TShare v32.Shares)))]))] (lk [])) ?_ ?_)))))
          ·intro t43 H
           unfold spec_CoordOk_j43 at H
           rcases oite H with ⟨h45, H⟩ | ⟨h45, H⟩
           ·refine AW.condT (eR rfl) h45 (aV (oMov eC (xQ (AW.ret (BQ.qr (TQ.qr (TQ.qr (BQ.qr (TQ.qr (BQ.qr (TQ.qr (TQ.qr (BQ.qr (TQ.qr ?_))))))))))))))
            cases H
            exact eE rfl rfl
           ·exact AW.condF (eR rfl) (nt h45) (AW.skip (BQ.qn (TQ.qn (aR (oMov (eR rfl) (oAdd eZ eC (oMov eZ (xNil (TQ.qn ⟨(IntKind.wrap .i64 (s40 + 1)), H, (wk_mkG [] (kR rfl rfl (kR rfl rfl (kR rfl rfl (kR rfl rfl (kR rfl rfl SL.nil))))) (BL.keep rfl (BL.keep rfl BL.nil)) (BK.cons rfl bZ rfl rfl (BK.cons rfl (bS rfl bZ) rfl rfl BK.nil)) GK.nil)⟩)))))))))
          ·refine AW.regd (oFaddrN (m := 0) (eR rfl) rfl (oLoadV (q := 0) (c := (.d (.sl 5 (List.map d_TRec a1.Recs)))) eZ bZ rfl rfl (oMov (eR rfl) ?_)))
           obtain ⟨v46, h47, H⟩ := obind H
           refine oAtD (eR rfl) eZ h47 (oFaddrB (m := 1) eZ rfl (oLoadB (e := (.int .i64 v46.Client)) eZ rfl (oFaddrN (m := 1) (eR rfl) rfl (oLoadV (q := 1) (c := (dI v32.Client)) eZ (bS rfl bZ) rfl rfl (oEql (eR rfl) eZ (oMov eZ ?_))))))
           rcases oite H with ⟨h48, H⟩ | ⟨h48, H⟩
           ·refine gDo eZ (decide_eq_true h48) (oFaddrN (m := 0) (eR rfl) rfl (gDo (eR rfl) (decide_eq_true h48) (oLoadV (q := 0) (c := (.d (.sl 5 (List.map d_TRec a1.Recs)))) eZ bZ rfl rfl (gDo (eR rfl) (decide_eq_true h48) (oMov (eR rfl) (gDo (eR rfl) (decide_eq_true h48) ?_))))))
            obtain ⟨v49, h50, H⟩ := obind H
            exact oAtD (eR rfl) eZ h50 (gDo (eR rfl) (decide_eq_true h48) (oFaddrB (m := 2) eZ rfl (gDo (eR rfl) (decide_eq_true h48) (oLoadB (e := (.int .i64 v49.Req)) eZ rfl (gDo (eR rfl) (decide_eq_true h48) (oFaddrN (m := 2) (eR rfl) rfl (gDo (eR rfl) (decide_eq_true h48) (oLoadV (q := 2) (c := (dI v32.Req)) eZ (bS rfl bZ) rfl rfl (gDo (eR rfl) (decide_eq_true h48) (oEql (eR rfl) eZ (oPickT (eR rfl) (decide_eq_true h48) eZ (xNil (TQ.qn ⟨(decide (v49.Req = v32.Req)), H, (wk_mkG [] (kR rfl rfl (kR rfl rfl (kR rfl rfl (kR rfl rfl (kR rfl rfl (kR rfl rfl SL.nil)))))) (BL.keep rfl (BL.keep rfl BL.nil)) (BK.cons rfl bZ rfl rfl (BK.cons rfl (bS rfl bZ) rfl rfl BK.nil)) GK.nil)⟩)))))))))))))
           ·exact gSkip eZ (decide_eq_false h48) rfl (gSkip (eR rfl) (decide_eq_false h48) rfl (gSkip (eR rfl) (decide_eq_false h48) rfl (gSkip (eR rfl) (decide_eq_false h48) rfl (gSkip (eR rfl) (decide_eq_false h48) rfl (gSkip (eR rfl) (decide_eq_false h48) rfl (gSkip (eR rfl) (decide_eq_false h48) rfl (gSkip (eR rfl) (decide_eq_false h48) rfl (gSkip (eR rfl) (decide_eq_false h48) rfl (oPickF (eR rfl) (decide_eq_false h48) eC (xNil (TQ.qn ⟨false, H, (wk_mkG [] (kR rfl rfl (kR rfl rfl (kR rfl rfl (kR rfl rfl (kR rfl rfl (kR rfl rfl SL.nil)))))) (BL.keep rfl (BL.keep rfl BL.nil)) (BK.cons rfl bZ rfl rfl (BK.cons rfl (bS rfl bZ) rfl rfl BK.nil)) GK.nil)⟩)))))))))))
         ·exact AW.condF eZ (decide_eq_false h42) (AW.exit (TQ.qe (TQ.qe (BQ.qe (TQ.qn ⟨(), H, (wk_mkG [] (kR rfl rfl (kR rfl rfl (kR rfl rfl (kR rfl rfl SL.nil)))) (BL.keep rfl (BL.keep rfl BL.nil)) (BK.cons rfl bZ rfl rfl (BK.cons rfl (bS rfl bZ) rfl rfl BK.nil)) GK.nil)⟩)))))
      ·refine aR (oFaddrN (m := 0) eZ rfl (oLoadV (q := 0) (c := (dI v32.Tx)) eZ bZ rfl rfl (oMov (eR rfl) (oAdd eZ eC (oNeq (eR rfl) eZ (oMov eZ ?_))))))
       rcases oite H with ⟨h51, H⟩ | ⟨h51, H⟩
       ·exact gSkip eZ (decide_eq_true h51) rfl (gSkip (eR rfl) (decide_eq_true h51) rfl (gSkip (eR rfl) (decide_eq_true h51) rfl (oPickT (eR rfl) (decide_eq_true h51) eC (xNil (TQ.qn ⟨true, H, (wk_mkG [] (kR rfl rfl (kR rfl rfl (kR rfl rfl (kR rfl rfl (kR rfl rfl SL.nil))))) (BL.keep rfl (BL.keep rfl (BL.keep rfl BL.nil))) (BK.cons rfl (bS rfl (bS rfl bZ)) rfl rfl (BK.cons rfl bZ rfl rfl BK.nil)) GK.nil)⟩)))))
       ·refine gDo eZ (decide_eq_false h51) (oLoadVA (es := [(dI v32.Tx), (dI v32.Client), (dI v32.Req), (dI v32.State), (.d (.sl 4 (List.map d_TShare v32.Shares)))]) (eR rfl) bZ rfl (gDo (eR rfl) (decide_eq_false h51) ?_))
        obtain ⟨v52, h53, H⟩ := obind H
        exact oCall (u := (oB v52)) eC Cl.fn (c_spec_l14RecOk h53) (Evs.cons eZ Evs.nil) (VDs.cons (VD.agg rfl) VDs.nil) rfl (gDo (eR rfl) (decide_eq_false h51) (oInv eZ (oPickF (eR rfl) (decide_eq_false h51) eZ (xNil (TQ.qn ⟨(!v52), H, (wk_mkG [] (kR rfl rfl (kR rfl rfl (kR rfl rfl (kR rfl rfl (kR rfl rfl SL.nil))))) (BL.keep rfl (BL.keep rfl (BL.keep rfl BL.nil))) (BK.cons rfl (bS rfl (bS rfl bZ)) rfl rfl (BK.cons rfl bZ rfl rfl BK.nil)) GK.nil)⟩)))))
    ·exact AW.condF eZ (decide_eq_false h29) (AW.exit (TQ.qe (TQ.qe (BQ.qe (TQ.qn ⟨s27.1, H, (wk_mkG [] (kR rfl rfl (kR rfl rfl SL.nil)) (BL.keep rfl BL.nil) (BK.cons rfl bZ rfl rfl BK.nil) GK.nil)⟩)))))
 ·refine aR (oFaddrN (m := 0) (eR rfl) rfl (oLoadV (q := 0) (c := (.d (.sl 5 (List.map d_TRec a1.Recs)))) eZ bZ rfl rfl (oLenD eZ (n := a1.Recs.length) (List.length_map _) (oGtr eZ eC (oMov eZ ?_)))))
  rcases oite H with ⟨h54, H⟩ | ⟨h54, H⟩
  ·exact gSkip eZ (decide_eq_true h54) rfl (gSkip (eR rfl) (decide_eq_true h54) rfl (gSkip (eR rfl) (decide_eq_true h54) rfl (gSkip (eR rfl) (decide_eq_true h54) rfl (oPickT (eR rfl) (decide_eq_true h54) eC (xNil (TQ.qn ⟨true, H, (wk_mkG [] (kR rfl rfl (kR rfl rfl SL.nil)) (BL.keep rfl BL.nil) (BK.cons rfl bZ rfl rfl BK.nil) GK.nil)⟩))))))
  ·exact gDo eZ (decide_eq_false h54) (oFaddrN (m := 1) (eR rfl) rfl (gDo (eR rfl) (decide_eq_false h54) (oLoadV (q := 1) (c := (.d (.sl 1 (List.map d_i64 a1.Order)))) eZ bZ rfl rfl (gDo (eR rfl) (decide_eq_false h54) (oLenD eZ (n := a1.Order.length) (List.length_map _) (gDo (eR rfl) (decide_eq_false h54) (oGtr eZ eC (oPickF (eR rfl) (decide_eq_false h54) eZ (xNil (TQ.qn ⟨(decide (60 < (a1.Order.length : Int))), H, (wk_mkG [] (kR rfl rfl (kR rfl rfl SL.nil)) (BL.keep rfl BL.nil) (BK.cons rfl bZ rfl rfl BK.nil) GK.nil)⟩))))))))))
theorem c_spec_l14Shares {a1 : (List TShare)} {r : (List TShare)} (H : m_spec_l14Shares a1 = some r) : Fn Try.prog k_spec_l14Shares (lent [(.sl 4 (List.map d_TShare a1))]) true [(.sl 4 (List.map d_TShare r))] := by
 refine i_spec_l14Shares_fn (fle rfl) ?_
 rw [init_mk]
 refine AW.weaken (t := mk [(0, (.one (.d (.sl 4 (List.map d_TShare a1)))))] [] (lk [])) (wk_mk [] (kv 0 (.one (.d (.sl 4 (List.map d_TShare a1)))) rfl rfl SL.nil) BL.nil BK.nil) ?_
 unfold m_spec_l14Shares at H
 unfold i_spec_l14Shares
 refine aV (oMov eC (xQ (aV (oBsliceZ (m := 384) rfl nZ (oMov eZ (xQ (AW.seqJ (fun t2 : (List TShare) => spec_l14Shares_j2 t2 = some r) (fun t2 => mk [(3, (.one (.sl 320128 0 t2.length)))] [(320128, (.data 4 (List.map d_TShare t2) true none))] (lk [])) ?_ ?_)))))))
 ·intro t2 H
  unfold spec_l14Shares_j2 at H
  refine aV (oMov eZ (oMov eZ (xQ (AW.ret ?_))))
  cases H
  exact endsR (RL.cons (RV.tmp eZ) (VO.sln bZ (List.length_map _) rfl) RL.nil) (by decide)
 ·refine aV (oMov eC (xQ (AW.block (AW.iter (fun s4 : ((List TShare) × Int) => mk [(0, (.one (.d (.sl 4 (List.map d_TShare a1))))), (3, (.one (.sl 320192 0 s4.1.length))), (4, (oI s4.2))] [(320192, (.data 4 (List.map d_TShare s4.1) true none))] (lk [])) H ((wk_mkG [] (kR rfl rfl (SL.cons eZ rfl (VWk.one (CWk.len (by first | (simp; done) | (simp; omega) | omega))) (kR rfl rfl SL.nil))) (BL.keep rfl BL.nil) (BK.cons rfl bZ rfl rfl BK.nil) GK.nil).trans (wk_zs0 320192 4 3 true (eR rfl) nZ)) ?_))))
  intro kb5 s4 H
  unfold spec_l14Shares_b4 at H
  refine aS (aV (oMov (eR rfl) (oMov (eR rfl) (oLenD eZ (n := a1.length) (List.length_map _) (oLss (eR rfl) eZ (xQ ?_))))))
  rcases oite H with ⟨h6, H⟩ | ⟨h6, H⟩
  ·refine AW.condT eZ (decide_eq_true h6) (AW.skip (TQ.qn (aS (AW.block (aS (AW.regm (rmOne (oMov (eR rfl) (xNil (rmOne (oMov (eR rfl) (xNil (rmOne ?_)))))))))))))
   obtain ⟨v7, h8, H⟩ := obind H
   refine oAtD (eR rfl) eZ h8 (xNil (rmOne (oLoadBA (es := [(dI v7.Group), (.d (.sl 2 (List.map d_TRange v7.Reads))), (.d (.sl 2 (List.map d_TCell v7.Writes))), (dI v7.Vote)]) eZ rfl (xNil (rmOne (oVar (n := 320) (m := 4) rfl rfl (nS rfl nZ) (xNil (rmOne (oStoreV (es := [(dI v7.Group), (.d (.sl 2 (List.map d_TRange v7.Reads))), (.d (.sl 2 (List.map d_TCell v7.Writes))), (dI v7.Vote)]) eZ (eR rfl) rfl rfl bZ rfl (xNil (rmRest (xQ (aS (AW.regm (rmOne (oBsliceZ (m := 1088) rfl (nS rfl (nS rfl (nS rfl nZ))) (xNil (rmOne (oFaddrN (m := 1) (eR rfl) rfl (xNil (rmOne (oLoadV (q := 1) (c := (.d (.sl 2 (List.map d_TRange v7.Reads)))) eZ bZ rfl rfl (xNil (rmOne ?_))))))))))))))))))))))))
   obtain ⟨h9, H⟩ := oguard H
   refine oAppZ (f := d_TRange) (m := 1280) (own := true) (ys := v7.Reads) (q := v7.Reads.length) rfl rfl (eR rfl) eZ (El.lent fun _ _ => rfl) rfl h9 (by decide) (nS rfl (nS rfl (nS rfl nZ))) (xNil (rmOne (oFaddrN (m := 1) (eR rfl) rfl (xNil (rmOne (oStoreV (es := [(dI v7.Group), (.sl 1280 0 v7.Reads.length), (.d (.sl 2 (List.map d_TCell v7.Writes))), (dI v7.Vote)]) eZ (eR rfl) rfl rfl (bS rfl bZ) rfl (xNil (rmRest (xQ (AW.weaken (wk_mkG [] (kr 5 rfl rfl (kr 0 rfl rfl (kr 3 rfl rfl (kr 4 rfl rfl SL.nil)))) (BL.keep rfl (BL.keep rfl (BL.keep rfl (BL.keep rfl (BL.keep rfl BL.nil))))) (BK.cons (n := 320) rfl bZ rfl rfl (BK.cons (n := 1280) rfl (bS rfl bZ) rfl rfl (BK.cons (n := 320192) rfl (bS rfl (bS rfl (bS rfl (bS rfl bZ)))) rfl rfl BK.nil))) GK.nil) (aS (AW.regm (rmOne (oBsliceZ (m := 1408) rfl (nS rfl (nS rfl (nS rfl nZ))) (xNil (rmOne (oFaddrN (m := 2) (eR rfl) rfl (xNil (rmOne (oLoadV (q := 2) (c := (.d (.sl 2 (List.map d_TCell v7.Writes)))) eZ bZ rfl rfl (xNil (rmOne ?_))))))))))))))))))))))
   obtain ⟨h10, H⟩ := oguard H
   refine oAppZ (f := d_TCell) (m := 1600) (own := true) (ys := v7.Writes) (q := v7.Writes.length) rfl rfl (eR rfl) eZ (El.lent fun _ _ => rfl) rfl h10 (by decide) (nS rfl (nS rfl (nS rfl nZ))) (xNil (rmOne (oFaddrN (m := 2) (eR rfl) rfl (xNil (rmOne (oStoreV (es := [(dI v7.Group), (.sl 1280 0 v7.Reads.length), (.sl 1600 0 v7.Writes.length), (dI v7.Vote)]) eZ (eR rfl) rfl rfl (bS rfl bZ) rfl (xNil (rmRest (xQ (AW.regm (rmOne (oMov (eR rfl) (xNil (rmOne (oLoadVA (es := [(dI v7.Group), (.sl 1280 0 v7.Reads.length), (.sl 1600 0 v7.Writes.length), (dI v7.Vote)]) (eR rfl) bZ rfl (xNil (rmOne (oBslice (m := 1856) (q := 1) (cs := [(dI v7.Group), (.sl 1280 0 v7.Reads.length), (.sl 1600 0 v7.Writes.length), (dI v7.Vote)]) rfl (PsCons eZ PsNil) rfl (List.cons_ne_nil _ _) (by simp) (nS rfl (nS rfl (nS rfl (nS rfl (nS rfl nZ))))) (xNil ?_)))))))))))))))))))
   obtain ⟨h11, H⟩ := oguard H
   exact rmAppAbs (f := d_TShare) (xs := s4.1) (t := v7) (q := (s4.1 ++ [v7]).length) (ds := [(.int .i64 v7.Group), (.sl 2 (List.map d_TRange v7.Reads)), (.sl 2 (List.map d_TCell v7.Writes)), (.int .i64 v7.Vote)]) (ns := [1280, 1600]) (eR rfl) eZ (bS rfl (bS rfl (bS rfl (bS rfl (bS rfl bZ))))) rfl bZ rfl (VOs.cons (VO.flat rfl) (VOs.cons (VO.sl (bS rfl (bS rfl (bS rfl (bS rfl bZ)))) (List.length_map _) (allFlat fun _ => rfl)) (VOs.cons (VO.sl (bS rfl (bS rfl bZ)) (List.length_map _) (allFlat fun _ => rfl)) (VOs.cons (VO.flat rfl) VOs.nil)))) rfl rfl rfl rfl h11 (by decide) (erL.cons (v' := (.one (.sl 1856 0 1))) rfl (erL.cons (v' := (.agg [(dI v7.Group), .any, .any, (dI v7.Vote)])) rfl (erL.cons (v' := (.one (.sl 320192 0 s4.1.length))) rfl (erL.cons (v' := (.one (.ptr (.nm 320 0 2)))) rfl (erL.cons (v' := (.one .any)) rfl (erL.cons (v' := (.one (.d (.sl 2 (List.map d_TCell v7.Writes))))) rfl (erL.cons (v' := (.one (.ptr (.nm 320 0 2)))) rfl (erL.cons (v' := (.one .zs)) rfl (erL.cons (v' := (.one (.ptr (.nm 320 0 0)))) rfl (erL.cons (v' := (.one (.d (.sl 4 (List.map d_TShare a1))))) rfl (erL.cons (v' := (.one (.sl 320192 0 s4.1.length))) rfl (erL.cons (v' := (oI s4.2)) rfl erL.nil)))))))))))) (erH.cons (v' := (.vars 4 [(dI v7.Group), .any, .any, (dI v7.Vote)])) rfl rfl (erH.cons (v' := (.vars 4 [(dI v7.Group), .any, .any, (dI v7.Vote)])) rfl rfl (erH.drop rfl (erH.cons (v' := (.vars 4 [(dI v7.Group), .any, (.d (.sl 2 (List.map d_TCell v7.Writes))), (dI v7.Vote)])) rfl rfl (erH.drop rfl (erH.cons (v' := (.data 4 (List.map d_TShare s4.1) true none)) rfl rfl erH.nil)))))) erL.nil (erL.cons (v' := (.one (.sl 1856 0 1))) rfl (erL.cons (v' := (.agg [(dI v7.Group), .any, .any, (dI v7.Vote)])) rfl (erL.cons (v' := (.one .any)) rfl (erL.cons (v' := (.one (.ptr (.nm 320 0 2)))) rfl (erL.cons (v' := (.one .any)) rfl (erL.cons (v' := (.one (.d (.sl 2 (List.map d_TCell v7.Writes))))) rfl (erL.cons (v' := (.one (.ptr (.nm 320 0 2)))) rfl (erL.cons (v' := (.one .zs)) rfl (erL.cons (v' := (.one (.ptr (.nm 320 0 0)))) rfl (erL.cons (v' := (.one (.d (.sl 4 (List.map d_TShare a1))))) rfl (erL.cons (v' := (.one .any)) rfl (erL.cons (v' := (oI s4.2)) rfl erL.nil)))))))))))) (erH.cons (v' := (.vars 4 [(dI v7.Group), .any, .any, (dI v7.Vote)])) rfl rfl (erH.cons (v' := (.vars 4 [(dI v7.Group), .any, .any, (dI v7.Vote)])) rfl rfl (erH.cons (v' := (.vars 4 [(dI v7.Group), .any, (.d (.sl 2 (List.map d_TCell v7.Writes))), (dI v7.Vote)])) rfl rfl (erH.drop rfl erH.nil)))) erL.nil (rmRest (oMov eZ (xNil (BQ.qn (TQ.qn (aR (oMov (eR rfl) (oAdd eZ eC (oMov eZ (xNil (TQ.qn ⟨((s4.1 ++ [v7]), (IntKind.wrap .i64 (s4.2 + 1))), H, (wk_mkG [1856, 320] (kR rfl rfl (kR rfl rfl (kR rfl rfl SL.nil))) (BL.keep rfl (BL.drop rfl (BL.drop rfl (BL.drop rfl BL.nil)))) (BK.cons rfl bZ rfl rfl BK.nil) GK.nil)⟩)))))))))))
  ·exact AW.condF eZ (decide_eq_false h6) (AW.exit (TQ.qe (TQ.qe (BQ.qe (TQ.qn ⟨s4.1, H, ((wk_mkG [] (kR rfl rfl SL.nil) (BL.keep rfl BL.nil) (BK.cons rfl bZ rfl rfl BK.nil) GK.nil).trans (wk_renG 320192 320128 rfl rfl (nS rfl nZ) GR.nil))⟩)))))
theorem c_spec_l14Copy {a1 : TCoord} {r : TCoord} (H : m_spec_l14Copy a1 = some r) : Fn Try.prog k_spec_l14Copy (lent [(.agg (d_TCoord a1))]) true [(.agg (d_TCoord r))] := by
 refine i_spec_l14Copy_fn (fle rfl) ?_
 rw [init_mk]
 refine AW.weaken (t := mk [(0, (.agg [(.d (.sl 5 (List.map d_TRec a1.Recs))), (.d (.sl 1 (List.map d_i64 a1.Order)))]))] [] (lk [])) (wk_mk [] (kv 0 (.agg [(.d (.sl 5 (List.map d_TRec a1.Recs))), (.d (.sl 1 (List.map d_i64 a1.Order)))]) rfl rfl SL.nil) BL.nil BK.nil) ?_
 unfold m_spec_l14Copy at H
 unfold i_spec_l14Copy
 refine aV (oBox (n := 64) (m := 2) (cs := [(.d (.sl 5 (List.map d_TRec a1.Recs))), (.d (.sl 1 (List.map d_i64 a1.Order)))]) rfl eZ rfl rfl nZ (oVar (n := 128) (m := 2) rfl rfl (nS rfl nZ) (xQ (aS (AW.regm (rmOne (oBsliceZ (m := 384) rfl (nS rfl (nS rfl nZ)) (xNil (rmOne (oFaddrN (m := 1) (eR rfl) rfl (xNil (rmOne (oLoadV (q := 1) (c := (.d (.sl 1 (List.map d_i64 a1.Order)))) eZ (bS rfl bZ) rfl rfl (xNil (rmOne ?_)))))))))))))))
 obtain ⟨h2, H⟩ := oguard H
 refine oAppZ (f := d_i64) (m := 576) (own := true) (ys := a1.Order) (q := a1.Order.length) rfl rfl (eR rfl) eZ (El.lent fun _ _ => rfl) rfl h2 (by decide) (nS rfl (nS rfl nZ)) (xNil (rmOne (oBuild (cs := [.zs, (.sl 576 0 a1.Order.length)]) (PsCons eZ PsNil) rfl (xNil (rmOne (oVar (n := 192) (m := 2) rfl rfl (nS rfl (nS rfl (nS rfl nZ))) (xNil (rmOne (oStoreV (es := [.zs, (.sl 576 0 a1.Order.length)]) eZ (eR rfl) rfl rfl bZ rfl (xNil (rmRest (xQ (AW.seqJ (fun t3 : (List TRec) => (spec_l14Copy_j3 a1) t3 = some r) (fun t3 => mk [(2, (.one (.ptr (.nm 128 0 0)))), (3, (.one (.ptr (.nm 192 0 0))))] [(128, (.vars 2 [.zs, .zs])), (320128, (.data 5 (List.map d_TRec t3) true none)), (192, (.vars 2 [(.sl 320128 0 t3.length), (.sl 576 0 a1.Order.length)])), (576, (.data 1 (List.map d_i64 a1.Order) true none))] (lk [])) ?_ ?_)))))))))))))
 ·intro t3 H
  unfold spec_l14Copy_j3 at H
  refine aS (AW.regm (rmOne (oLoadVA (es := [(.sl 320128 0 t3.length), (.sl 576 0 a1.Order.length)]) (eR rfl) (bS rfl (bS rfl bZ)) rfl (xNil (rmOne (oStoreV (es := [(.sl 320128 0 t3.length), (.sl 576 0 a1.Order.length)]) (eR rfl) eZ rfl rfl bZ rfl (xNil (rmRest (xQ (AW.ret ?_))))))))))
  cases H
  exact endsR (RL.cons (RV.cellA (es := [(.sl 320128 0 t3.length), (.sl 576 0 a1.Order.length)]) (eR rfl) bZ rfl) (VO.aggs (VOs.cons (VO.sln (bS rfl (bS rfl bZ)) (List.length_map _) rfl) (VOs.cons (VO.sl (bS rfl (bS rfl (bS rfl (bS rfl bZ)))) (List.length_map _) (allFlat fun _ => rfl)) VOs.nil))) RL.nil) (by decide)
 ·refine aV (oMov eC (xQ (AW.block (AW.iter (fun s5 : (Int × (List TRec)) => mk [(1, (.one (.ptr (.nm 64 0 0)))), (2, (.one (.ptr (.nm 128 0 0)))), (3, (.one (.ptr (.nm 192 0 0)))), (4, (oI s5.1))] [(64, (.vars 2 [(.d (.sl 5 (List.map d_TRec a1.Recs))), (.d (.sl 1 (List.map d_i64 a1.Order)))])), (128, (.vars 2 [.zs, .zs])), (320192, (.data 5 (List.map d_TRec s5.2) true none)), (192, (.vars 2 [(.sl 320192 0 s5.2.length), (.sl 576 0 a1.Order.length)])), (576, (.data 1 (List.map d_i64 a1.Order) true none))] (lk [])) H ((wk_mkG [] (kR rfl rfl (kR rfl rfl (kR rfl rfl (kR rfl rfl SL.nil)))) (BL.keep rfl (BL.keep rfl (BL.keep rfl (BL.keep rfl (BL.keep rfl (BL.keep rfl (BL.keep rfl BL.nil))))))) (BK.cons rfl (bS rfl (bS rfl (bS rfl (bS rfl (bS rfl (bS rfl bZ)))))) rfl rfl (BK.cons rfl (bS rfl (bS rfl (bS rfl (bS rfl (bS rfl bZ))))) rfl rfl (BK.cons rfl (bS rfl bZ) rfl rfl (BK.cons rfl bZ rfl (by first | rfl | simp) (BK.cons rfl (bS rfl (bS rfl (bS rfl (bS rfl bZ)))) rfl rfl BK.nil))))) GK.nil).trans (wk_zsV 320192 5 192 0 true bZ rfl (nS rfl (nS rfl (nS rfl (nS rfl (nS rfl nZ))))))) ?_))))
  intro kb6 s5 H
  unfold spec_l14Copy_b5 at H
  refine aS (aV (oMov (eR rfl) (oFaddrN (m := 0) (eR rfl) rfl (oLoadV (q := 0) (c := (.d (.sl 5 (List.map d_TRec a1.Recs)))) eZ bZ rfl rfl (oLenD eZ (n := a1.Recs.length) (List.length_map _) (oLss (eR rfl) eZ (xQ ?_)))))))
  rcases oite H with ⟨h7, H⟩ | ⟨h7, H⟩
  ·refine AW.condT eZ (decide_eq_true h7) (AW.skip (TQ.qn (aS (AW.block (aS (AW.regm (rmOne (oFaddrN (m := 0) (eR rfl) rfl (xNil (rmOne (oLoadV (q := 0) (c := (.d (.sl 5 (List.map d_TRec a1.Recs)))) eZ bZ rfl rfl (xNil (rmOne (oMov (eR rfl) (xNil (rmOne ?_))))))))))))))))
   obtain ⟨v8, h9, H⟩ := obind H
   refine oAtD (eR rfl) eZ h9 (xNil (rmOne (oLoadBA (es := [(dI v8.Tx), (dI v8.Client), (dI v8.Req), (dI v8.State), (.d (.sl 4 (List.map d_TShare v8.Shares)))]) eZ rfl (xNil (rmOne (oVar (n := 320) (m := 5) rfl rfl (nS rfl (nS rfl (nS rfl (nS rfl (nS rfl nZ))))) (xNil (rmOne (oStoreV (es := [(dI v8.Tx), (dI v8.Client), (dI v8.Req), (dI v8.State), (.d (.sl 4 (List.map d_TShare v8.Shares)))]) eZ (eR rfl) rfl rfl bZ rfl (xNil (rmRest (xQ (aS (AW.regm (rmOne (oFaddrN (m := 4) eZ rfl (xNil (rmOne (oLoadV (q := 4) (c := (.d (.sl 4 (List.map d_TShare v8.Shares)))) eZ bZ rfl rfl (xNil (rmOne ?_)))))))))))))))))))))
   obtain ⟨v10, h11, H⟩ := obind H
   refine oCallN (u := (.one (.sl 1600 0 v10.length))) (bs := [(1600, (.data 4 (List.map d_TShare v10) true none))]) eC Cl.fn (c_spec_l14Shares h11) (Evs.cons eZ Evs.nil) (VDs.cons VD.plain VDs.nil) (by simp [bindR, bindV, bindVs, bindC, bindCs]) rfl (fC (nS rfl (nS rfl (nS rfl (nS rfl (nS rfl (nS rfl (nS rfl nZ))))))) rfl (fC (nS rfl (nS rfl (nS rfl (nS rfl (nS rfl (nS rfl (nS rfl nZ))))))) rfl fN)) (xNil (rmOne (oFaddrN (m := 4) (eR rfl) rfl (xNil (rmOne (oStoreV (es := [(dI v8.Tx), (dI v8.Client), (dI v8.Req), (dI v8.State), (.sl 1600 0 v10.length)]) eZ (eR rfl) rfl rfl (bS rfl bZ) rfl (xNil (rmRest (xQ (AW.weaken (wk_mkG [] (kr 5 rfl rfl (kr 1 rfl rfl (kr 2 rfl rfl (kr 3 rfl rfl (kr 4 rfl rfl SL.nil))))) (BL.keep rfl (BL.keep rfl (BL.keep rfl (BL.keep rfl (BL.keep rfl (BL.keep rfl (BL.keep rfl (BL.keep rfl (BL.keep rfl BL.nil))))))))) (BK.cons (n := 320) rfl bZ rfl rfl (BK.cons (n := 1600) rfl (bS rfl bZ) rfl rfl (BK.cons (n := 64) rfl (bS rfl (bS rfl (bS rfl (bS rfl bZ)))) rfl rfl (BK.cons (n := 128) rfl (bS rfl (bS rfl (bS rfl (bS rfl (bS rfl bZ))))) rfl rfl (BK.cons (n := 320192) rfl (bS rfl (bS rfl (bS rfl (bS rfl (bS rfl (bS rfl bZ)))))) rfl rfl (BK.cons (n := 192) rfl (bS rfl (bS rfl (bS rfl (bS rfl (bS rfl (bS rfl (bS rfl bZ))))))) rfl rfl (BK.cons (n := 576) rfl (bS rfl (bS rfl (bS rfl (bS rfl (bS rfl (bS rfl (bS rfl (bS rfl bZ)))))))) rfl rfl BK.nil))))))) GK.nil) (AW.regm (rmOne (oFaddrN (m := 0) (eR rfl) rfl (xNil (rmOne (oLoadV (q := 0) (c := (.sl 320192 0 s5.2.length)) eZ (bS rfl (bS rfl (bS rfl (bS rfl (bS rfl bZ))))) rfl rfl (xNil (rmOne (oLoadVA (es := [(dI v8.Tx), (dI v8.Client), (dI v8.Req), (dI v8.State), (.sl 1600 0 v10.length)]) (eR rfl) bZ rfl (xNil (rmOne (oBslice (m := 1920) (q := 1) (cs := [(dI v8.Tx), (dI v8.Client), (dI v8.Req), (dI v8.State), (.sl 1600 0 v10.length)]) rfl (PsCons eZ PsNil) rfl (List.cons_ne_nil _ _) (by simp) (nS rfl (nS rfl (nS rfl (nS rfl (nS rfl (nS rfl (nS rfl nZ))))))) (xNil ?_)))))))))))))))))))))))
   obtain ⟨h12, H⟩ := oguard H
   exact rmAppAbs (f := d_TRec) (xs := s5.2) (t := (TRec.mk v8.Tx v8.Client v8.Req v8.State v10)) (q := (s5.2 ++ [(TRec.mk v8.Tx v8.Client v8.Req v8.State v10)]).length) (ds := [(.int .i64 v8.Tx), (.int .i64 v8.Client), (.int .i64 v8.Req), (.int .i64 v8.State), (.sl 4 (List.map d_TShare v10))]) (ns := [1600]) (eR rfl) eZ (bS rfl (bS rfl (bS rfl (bS rfl (bS rfl bZ))))) rfl bZ rfl (VOs.cons (VO.flat rfl) (VOs.cons (VO.flat rfl) (VOs.cons (VO.flat rfl) (VOs.cons (VO.flat rfl) (VOs.cons (VO.sln (bS rfl (bS rfl bZ)) (List.length_map _) rfl) VOs.nil))))) rfl rfl rfl rfl h12 (by decide) (erL.cons (v' := (.one (.sl 1920 0 1))) rfl (erL.cons (v' := (.agg [(dI v8.Tx), (dI v8.Client), (dI v8.Req), (dI v8.State), .any])) rfl (erL.cons (v' := (.one (.sl 320192 0 s5.2.length))) rfl (erL.cons (v' := (.one (.ptr (.nm 192 0 0)))) rfl (erL.cons (v' := (.one (.ptr (.nm 320 0 0)))) rfl (erL.cons (v' := (.one (.ptr (.nm 64 0 0)))) rfl (erL.cons (v' := (.one (.ptr (.nm 128 0 0)))) rfl (erL.cons (v' := (.one (.ptr (.nm 192 0 0)))) rfl (erL.cons (v' := (oI s5.1)) rfl erL.nil))))))))) (erH.cons (v' := (.vars 5 [(dI v8.Tx), (dI v8.Client), (dI v8.Req), (dI v8.State), .any])) rfl rfl (erH.cons (v' := (.vars 5 [(dI v8.Tx), (dI v8.Client), (dI v8.Req), (dI v8.State), .any])) rfl rfl (erH.drop rfl (erH.cons (v' := (.vars 2 [(.d (.sl 5 (List.map d_TRec a1.Recs))), (.d (.sl 1 (List.map d_i64 a1.Order)))])) rfl rfl (erH.cons (v' := (.vars 2 [.zs, .zs])) rfl rfl (erH.cons (v' := (.data 5 (List.map d_TRec s5.2) true none)) rfl rfl (erH.cons (v' := (.vars 2 [(.sl 320192 0 s5.2.length), (.sl 576 0 a1.Order.length)])) rfl rfl (erH.cons (v' := (.data 1 (List.map d_i64 a1.Order) true none)) rfl rfl erH.nil)))))))) erL.nil (erL.cons (v' := (.one (.sl 1920 0 1))) rfl (erL.cons (v' := (.agg [(dI v8.Tx), (dI v8.Client), (dI v8.Req), (dI v8.State), .any])) rfl (erL.cons (v' := (.one .any)) rfl (erL.cons (v' := (.one (.ptr (.nm 192 0 0)))) rfl (erL.cons (v' := (.one (.ptr (.nm 320 0 0)))) rfl (erL.cons (v' := (.one (.ptr (.nm 64 0 0)))) rfl (erL.cons (v' := (.one (.ptr (.nm 128 0 0)))) rfl (erL.cons (v' := (.one (.ptr (.nm 192 0 0)))) rfl (erL.cons (v' := (oI s5.1)) rfl erL.nil))))))))) (erH.cons (v' := (.vars 5 [(dI v8.Tx), (dI v8.Client), (dI v8.Req), (dI v8.State), .any])) rfl rfl (erH.cons (v' := (.vars 5 [(dI v8.Tx), (dI v8.Client), (dI v8.Req), (dI v8.State), .any])) rfl rfl (erH.cons (v' := (.vars 2 [(.d (.sl 5 (List.map d_TRec a1.Recs))), (.d (.sl 1 (List.map d_i64 a1.Order)))])) rfl rfl (erH.cons (v' := (.vars 2 [.zs, .zs])) rfl rfl (erH.drop rfl (erH.cons (v' := (.vars 2 [.any, (.sl 576 0 a1.Order.length)])) rfl rfl (erH.cons (v' := (.data 1 (List.map d_i64 a1.Order) true none)) rfl rfl erH.nil))))))) erL.nil (rmOne (oFaddrN (m := 0) (eR rfl) rfl (xNil (rmOne (oStoreV (es := [(.sl 320192 0 ((s5.2 ++ [(TRec.mk v8.Tx v8.Client v8.Req v8.State v10)]).length)), (.sl 576 0 a1.Order.length)]) eZ (eR rfl) rfl rfl (bS rfl (bS rfl (bS rfl (bS rfl (bS rfl bZ))))) rfl (xNil (rmRest (xNil (BQ.qn (TQ.qn (aR (oMov (eR rfl) (oAdd eZ eC (oMov eZ (xNil (TQ.qn ⟨((IntKind.wrap .i64 (s5.1 + 1)), (s5.2 ++ [(TRec.mk v8.Tx v8.Client v8.Req v8.State v10)])), H, (wk_mkG [1920, 320] (kR rfl rfl (kR rfl rfl (kR rfl rfl (kR rfl rfl SL.nil)))) (BL.keep rfl (BL.keep rfl (BL.drop rfl (BL.drop rfl (BL.keep rfl (BL.keep rfl (BL.keep rfl (BL.keep rfl BL.nil)))))))) (BK.cons rfl (bS rfl (bS rfl (bS rfl (bS rfl bZ)))) rfl rfl (BK.cons rfl (bS rfl (bS rfl (bS rfl (bS rfl (bS rfl bZ))))) rfl rfl (BK.cons rfl (bS rfl bZ) rfl rfl (BK.cons rfl bZ rfl (by first | rfl | simp) (BK.cons rfl (bS rfl (bS rfl (bS rfl (bS rfl (bS rfl (bS rfl (bS rfl bZ))))))) rfl rfl BK.nil))))) GK.nil)⟩))))))))))))))))
  ·exact AW.condF eZ (decide_eq_false h7) (AW.exit (TQ.qe (TQ.qe (BQ.qe (TQ.qn ⟨s5.2, H, ((wk_mkG [64] (kR rfl rfl (kR rfl rfl SL.nil)) (BL.drop rfl (BL.keep rfl (BL.keep rfl (BL.keep rfl (BL.keep rfl BL.nil))))) (BK.cons rfl (bS rfl bZ) rfl rfl (BK.cons rfl (bS rfl (bS rfl bZ)) rfl rfl (BK.cons rfl (bS rfl (bS rfl (bS rfl bZ))) rfl (by first | rfl | simp) (BK.cons rfl (bS rfl (bS rfl (bS rfl (bS rfl bZ)))) rfl rfl BK.nil)))) GK.nil).trans (wk_renG 320192 320128 rfl rfl (nS rfl (nS rfl (nS rfl (nS rfl (nS rfl nZ))))) GR.nil))⟩)))))
theorem c_spec_CoordFind {a1 : TCoord} {a2 : Int} {a3 : Int} {r : Int} (H : m_spec_CoordFind a1 a2 a3 = some r) : Fn Try.prog k_spec_CoordFind (lent [(.agg (d_TCoord a1)), (.int .i64 a2), (.int .i64 a3)]) true [(.int .i64 r)] := by
 refine i_spec_CoordFind_fn (fle rfl) ?_
 rw [init_mk]
 refine AW.weaken (wk_mk [] (kv 0 (.agg [(.d (.sl 5 (List.map d_TRec a1.Recs))), (.d (.sl 1 (List.map d_i64 a1.Order)))]) rfl rfl (kv 1 (oI a2) rfl rfl (kv 2 (oI a3) rfl rfl SL.nil))) BL.nil BK.nil) ?_
 unfold m_spec_CoordFind at H
 unfold i_spec_CoordFind
 refine aV (oBox (n := 192) (m := 2) (cs := [(.d (.sl 5 (List.map d_TRec a1.Recs))), (.d (.sl 1 (List.map d_i64 a1.Order)))]) rfl eZ rfl rfl nZ (oMov eC (xQ (AW.seqJ (fun t4 : Unit => spec_CoordFind_j4 t4 = some r) (fun t4 => mk [] [] noG) ?_ ?_))))
 ·intro t4 H
  unfold spec_CoordFind_j4 at H
  refine aV (oMov eC (xQ (AW.ret ?_)))
  cases H
  exact eE rfl rfl
 ·refine aV (oMov eC (xQ (AW.block (AW.iter (fun s6 : Int => mk [(1, (oI a2)), (2, (oI a3)), (3, (.one (.ptr (.nm 192 0 0)))), (7, (oI s6))] [(192, (.vars 2 [(.d (.sl 5 (List.map d_TRec a1.Recs))), (.d (.sl 1 (List.map d_i64 a1.Order)))]))] noG) H (wk_mk [] (kR rfl rfl (kR rfl rfl (kR rfl rfl (kR rfl rfl SL.nil)))) (BL.keep rfl BL.nil) (BK.cons rfl bZ rfl rfl BK.nil)) ?_))))
  intro kb7 s6 H
  unfold spec_CoordFind_b6 at H
  refine aS (aV (oMov (eR rfl) (oFaddrN (m := 0) (eR rfl) rfl (oLoadV (q := 0) (c := (.d (.sl 5 (List.map d_TRec a1.Recs)))) eZ bZ rfl rfl (oLenD eZ (n := a1.Recs.length) (List.length_map _) (oLss (eR rfl) eZ (oMov eZ ?_)))))))
  rcases oite H with ⟨h8, H⟩ | ⟨h8, H⟩
  ·refine gDo eZ (decide_eq_true h8) (oLoadVA (es := [(.d (.sl 5 (List.map d_TRec a1.Recs))), (.d (.sl 1 (List.map d_i64 a1.Order)))]) (eR rfl) bZ rfl (gDo (eR rfl) (decide_eq_true h8) ?_))
   obtain ⟨v9, h10, H⟩ := obind H
   refine oCall (u := (oB v9)) eC Cl.fn (c_spec_CoordOk h10) (Evs.cons eZ Evs.nil) (VDs.cons (VD.agg rfl) VDs.nil) rfl (oPickT (eR rfl) (decide_eq_true h8) eZ (xQ ?_))
   rcases oite H with ⟨h11, H⟩ | ⟨h11, H⟩
   ·refine AW.condT eZ h11 (AW.skip (TQ.qn (aS (AW.block (AW.seqJ (fun t12 : Bool => (spec_CoordFind_j12 a1 s6 kb7) t12 = some r) (fun t12 => mk [(1, (oI a2)), (2, (oI a3)), (3, (.one (.ptr (.nm 192 0 0)))), (7, (oI s6)), (36, (oB t12))] [(192, (.vars 2 [(.d (.sl 5 (List.map d_TRec a1.Recs))), (.d (.sl 1 (List.map d_i64 a1.Order)))]))] noG) ?_ ?_)))))
    ·intro t12 H
     unfold spec_CoordFind_j12 at H
     rcases oite H with ⟨h14, H⟩ | ⟨h14, H⟩
     ·refine AW.condT (eR rfl) h14 (aV (oFaddrN (m := 0) (eR rfl) rfl (oLoadV (q := 0) (c := (.d (.sl 5 (List.map d_TRec a1.Recs)))) eZ bZ rfl rfl (oMov (eR rfl) ?_))))
      obtain ⟨v15, h16, H⟩ := obind H
      refine oAtD (eR rfl) eZ h16 (oFaddrB (m := 0) eZ rfl (oLoadB (e := (.int .i64 v15.Tx)) eZ rfl (oMov eZ (xQ (AW.ret (BQ.qr (TQ.qr (TQ.qr (BQ.qr (TQ.qr ?_))))))))))
      cases H
      exact eE rfl rfl
     ·exact AW.condF (eR rfl) (nt h14) (AW.skip (BQ.qn (TQ.qn (aR (oMov (eR rfl) (oAdd eZ eC (oMov eZ (xNil (TQ.qn ⟨(IntKind.wrap .i64 (s6 + 1)), H, (wk_mk [] (kR rfl rfl (kR rfl rfl (kR rfl rfl (kR rfl rfl SL.nil)))) (BL.keep rfl BL.nil) (BK.cons rfl bZ rfl rfl BK.nil))⟩)))))))))
    ·refine aR (oFaddrN (m := 0) (eR rfl) rfl (oLoadV (q := 0) (c := (.d (.sl 5 (List.map d_TRec a1.Recs)))) eZ bZ rfl rfl (oMov (eR rfl) ?_)))
     obtain ⟨v17, h18, H⟩ := obind H
     refine oAtD (eR rfl) eZ h18 (oFaddrB (m := 1) eZ rfl (oLoadB (e := (.int .i64 v17.Client)) eZ rfl (oMov (eR rfl) (oEql (eR rfl) eZ (oMov eZ ?_)))))
     rcases oite H with ⟨h19, H⟩ | ⟨h19, H⟩
     ·refine gDo eZ (decide_eq_true h19) (oFaddrN (m := 0) (eR rfl) rfl (gDo (eR rfl) (decide_eq_true h19) (oLoadV (q := 0) (c := (.d (.sl 5 (List.map d_TRec a1.Recs)))) eZ bZ rfl rfl (gDo (eR rfl) (decide_eq_true h19) (oMov (eR rfl) (gDo (eR rfl) (decide_eq_true h19) ?_))))))
      obtain ⟨v20, h21, H⟩ := obind H
      exact oAtD (eR rfl) eZ h21 (gDo (eR rfl) (decide_eq_true h19) (oFaddrB (m := 2) eZ rfl (gDo (eR rfl) (decide_eq_true h19) (oLoadB (e := (.int .i64 v20.Req)) eZ rfl (gDo (eR rfl) (decide_eq_true h19) (oMov (eR rfl) (gDo (eR rfl) (decide_eq_true h19) (oEql (eR rfl) eZ (oPickT (eR rfl) (decide_eq_true h19) eZ (xNil (TQ.qn ⟨(decide (v20.Req = a3)), H, (wk_mk [] (kR rfl rfl (kR rfl rfl (kR rfl rfl (kR rfl rfl (kR rfl rfl SL.nil))))) (BL.keep rfl BL.nil) (BK.cons rfl bZ rfl rfl BK.nil))⟩)))))))))))
     ·exact gSkip eZ (decide_eq_false h19) rfl (gSkip (eR rfl) (decide_eq_false h19) rfl (gSkip (eR rfl) (decide_eq_false h19) rfl (gSkip (eR rfl) (decide_eq_false h19) rfl (gSkip (eR rfl) (decide_eq_false h19) rfl (gSkip (eR rfl) (decide_eq_false h19) rfl (gSkip (eR rfl) (decide_eq_false h19) rfl (gSkip (eR rfl) (decide_eq_false h19) rfl (oPickF (eR rfl) (decide_eq_false h19) eC (xNil (TQ.qn ⟨false, H, (wk_mk [] (kR rfl rfl (kR rfl rfl (kR rfl rfl (kR rfl rfl (kR rfl rfl SL.nil))))) (BL.keep rfl BL.nil) (BK.cons rfl bZ rfl rfl BK.nil))⟩))))))))))
   ·exact AW.condF eZ (nt h11) (AW.exit (TQ.qe (TQ.qe (BQ.qe (TQ.qn ⟨(), H, (wk_mk [192] SL.nil (BL.drop rfl BL.nil) BK.nil)⟩)))))
  ·exact gSkip eZ (decide_eq_false h8) rfl (gSkip (eR rfl) (decide_eq_false h8) rfl (oPickF (eR rfl) (decide_eq_false h8) eC (xQ (AW.condF eZ rfl (AW.exit (TQ.qe (TQ.qe (BQ.qe (TQ.qn ⟨(), H, (wk_mk [192] SL.nil (BL.drop rfl BL.nil) BK.nil)⟩)))))))))
theorem c_spec_CoordBegin {a1 : TCoord} {a2 : Int} {a3 : Int} {r : (TCoord × Int × Int)} (H : m_spec_CoordBegin a1 a2 a3 = some r) : Fn Try.prog k_spec_CoordBegin (lent [(.agg (d_TCoord a1)), (.int .i64 a2), (.int .i64 a3)]) true [(.agg (d_TCoord r.1)), (.int .i64 r.2.1), (.int .i64 r.2.2)] := by
 refine i_spec_CoordBegin_fn (fle rfl) ?_
 rw [init_mk]
 refine AW.weaken (t := mk [(0, (.agg [(.d (.sl 5 (List.map d_TRec a1.Recs))), (.d (.sl 1 (List.map d_i64 a1.Order)))])), (1, (oI a2)), (2, (oI a3))] [] (lk [])) (wk_mk [] (kv 0 (.agg [(.d (.sl 5 (List.map d_TRec a1.Recs))), (.d (.sl 1 (List.map d_i64 a1.Order)))]) rfl rfl (kv 1 (oI a2) rfl rfl (kv 2 (oI a3) rfl rfl SL.nil))) BL.nil BK.nil) ?_
 unfold m_spec_CoordBegin at H
 unfold i_spec_CoordBegin
 refine aV (oBox (n := 192) (m := 2) (cs := [(.d (.sl 5 (List.map d_TRec a1.Recs))), (.d (.sl 1 (List.map d_i64 a1.Order)))]) rfl eZ rfl rfl nZ (oVar (n := 384) (m := 2) rfl rfl (nS rfl nZ) (oMov eC (oMov eC (xQ (aS (AW.seqJ (fun t4 : Bool => (spec_CoordBegin_j4 a1 a2 a3) t4 = some r) (fun t4 => mk [(1, (oI a2)), (2, (oI a3)), (3, (.one (.ptr (.nm 192 0 0)))), (6, (.one (.ptr (.nm 384 0 0)))), (23, (oB t4))] [(192, (.vars 2 [(.d (.sl 5 (List.map d_TRec a1.Recs))), (.d (.sl 1 (List.map d_i64 a1.Order)))])), (384, (.vars 2 [.zs, .zs]))] (lk [])) ?_ ?_)))))))
 ·intro t4 H
  unfold spec_CoordBegin_j4 at H
  rcases oite H with ⟨h6, H⟩ | ⟨h6, H⟩
  ·refine AW.condT (eR rfl) h6 (aS (AW.regm (rmOne (oBuild (cs := [.zs, .zs]) PsNil rfl (xNil (rmOne (oStoreV (es := [.zs, .zs]) (eR rfl) eZ rfl rfl (bS rfl bZ) rfl (xNil (rmRest (oMov eC (oMov eC (xQ (AW.ret (TQ.qr ?_))))))))))))))
   cases H
   exact endsR (RL.cons (RV.cellA (es := [.zs, .zs]) (eR rfl) bZ rfl) (VO.aggs (VOs.cons VO.zs (VOs.cons VO.zs VOs.nil))) (RL.cons (RV.tmp (eR rfl)) (VO.flat rfl) (RL.cons (RV.tmp eZ) (VO.flat rfl) RL.nil))) List.nodup_nil
  ·refine AW.condF (eR rfl) (nt h6) (AW.skip (TQ.qn (aS (AW.regm (rmOne (oLoadVA (es := [(.d (.sl 5 (List.map d_TRec a1.Recs))), (.d (.sl 1 (List.map d_i64 a1.Order)))]) (eR rfl) bZ rfl (xNil (rmOne ?_))))))))
   obtain ⟨v7, h8, H⟩ := obind H
   refine oCallN (u := (.agg [(.sl 1664 0 v7.Recs.length), (.sl 1665 0 v7.Order.length)])) (bs := [(1664, (.data 5 (List.map d_TRec v7.Recs) true none)), (1665, (.data 1 (List.map d_i64 v7.Order) true none))]) eC Cl.fn (c_spec_l14Copy h8) (Evs.cons eZ Evs.nil) (VDs.cons (VD.agg rfl) VDs.nil) (by simp [bindR, bindV, bindVs, bindC, bindCs]) rfl (fC (nS rfl (nS rfl nZ)) rfl (fC (nS rfl (nS rfl nZ)) rfl (fC (nS rfl (nS rfl nZ)) rfl fN))) (xNil (rmOne (oVar (n := 576) (m := 2) rfl rfl (nS rfl (nS rfl (nS rfl (nS rfl nZ)))) (xNil (rmOne (oStoreV (es := [(.sl 1664 0 v7.Recs.length), (.sl 1665 0 v7.Order.length)]) eZ (eR rfl) rfl rfl bZ rfl (xNil (rmRest (xQ (aV (oLoadVA (es := [(.d (.sl 5 (List.map d_TRec a1.Recs))), (.d (.sl 1 (List.map d_i64 a1.Order)))]) (eR rfl) (bS rfl (bS rfl (bS rfl (bS rfl bZ)))) rfl (oMov (eR rfl) (oMov (eR rfl) ?_)))))))))))))
   obtain ⟨v9, h10, H⟩ := obind H
   refine oCall (u := (oI v9)) eC Cl.fn (c_spec_CoordFind h10) (Evs.cons (eR rfl) (Evs.cons (eR rfl) (Evs.cons eZ Evs.nil))) (VDs.cons (VD.agg rfl) (VDs.cons VD.plain (VDs.cons VD.plain VDs.nil))) rfl (oMov eZ (xQ (aS (AW.block (aV (oMov eZ (oGtr eZ eC (oMov eZ (xQ (AW.weaken (wk_mkG [] (kr 31 rfl rfl (kr 10 rfl rfl (kr 9 rfl rfl (kr 1 rfl rfl (kr 2 rfl rfl (kr 3 rfl rfl (kr 6 rfl rfl SL.nil))))))) (BL.keep rfl (BL.keep rfl (BL.keep rfl (BL.keep rfl (BL.keep rfl (BL.keep rfl BL.nil)))))) (BK.cons (n := 576) rfl bZ rfl rfl (BK.cons (n := 1665) rfl (bS rfl (bS rfl bZ)) rfl rfl (BK.cons (n := 1664) rfl (bS rfl (bS rfl (bS rfl bZ))) rfl rfl (BK.cons (n := 192) rfl (bS rfl (bS rfl (bS rfl (bS rfl bZ)))) rfl rfl (BK.cons (n := 384) rfl (bS rfl (bS rfl (bS rfl (bS rfl (bS rfl bZ))))) rfl rfl BK.nil))))) GK.nil) ?_))))))))))
   rcases oite H with ⟨h11, H⟩ | ⟨h11, H⟩
   ·refine AW.condT eZ (decide_eq_true h11) (aS (AW.regm (rmOne (oLoadVA (es := [(.sl 1664 0 v7.Recs.length), (.sl 1665 0 v7.Order.length)]) (eR rfl) bZ rfl (xNil (rmOne (oMov (eR rfl) (xNil (rmOne (oStoreV (es := [(.sl 1664 0 v7.Recs.length), (.sl 1665 0 v7.Order.length)]) (eR rfl) (eR rfl) rfl rfl (bS rfl (bS rfl (bS rfl (bS rfl bZ)))) rfl (xNil (rmRest (oMov eZ (oMov eC (xQ (AW.ret (BQ.qr (TQ.qr ?_))))))))))))))))))
    cases H
    exact endsR (RL.cons (RV.cellA (es := [(.sl 1664 0 v7.Recs.length), (.sl 1665 0 v7.Order.length)]) (eR rfl) bZ rfl) (VO.aggs (VOs.cons (VO.sln (bS rfl (bS rfl (bS rfl bZ))) (List.length_map _) rfl) (VOs.cons (VO.sl (bS rfl (bS rfl bZ)) (List.length_map _) (allFlat fun _ => rfl)) VOs.nil))) (RL.cons (RV.tmp (eR rfl)) (VO.flat rfl) (RL.cons (RV.tmp eZ) (VO.flat rfl) RL.nil))) (by decide)
   ·refine AW.condF eZ (decide_eq_false h11) (aV (oFaddrN (m := 0) (eR rfl) rfl (oLoadV (q := 0) (c := (.d (.sl 5 (List.map d_TRec a1.Recs)))) eZ (bS rfl (bS rfl (bS rfl bZ))) rfl rfl (oLenD eZ (n := a1.Recs.length) (List.length_map _) (oEql eZ eC (oMov eZ (xQ ?_)))))))
    rcases oite H with ⟨h12, H⟩ | ⟨h12, H⟩
    ·refine AW.condT eZ (decide_eq_true h12) (aS (AW.regm (rmOne (oLoadVA (es := [(.sl 1664 0 v7.Recs.length), (.sl 1665 0 v7.Order.length)]) (eR rfl) bZ rfl (xNil (rmOne (oStoreV (es := [(.sl 1664 0 v7.Recs.length), (.sl 1665 0 v7.Order.length)]) (eR rfl) eZ rfl rfl (bS rfl (bS rfl (bS rfl (bS rfl bZ)))) rfl (xNil (rmRest (oMov eC (oMov eC (xQ (AW.ret (BQ.qr (TQ.qr ?_)))))))))))))))
     cases H
     exact endsR (RL.cons (RV.cellA (es := [(.sl 1664 0 v7.Recs.length), (.sl 1665 0 v7.Order.length)]) (eR rfl) bZ rfl) (VO.aggs (VOs.cons (VO.sln (bS rfl (bS rfl (bS rfl bZ))) (List.length_map _) rfl) (VOs.cons (VO.sl (bS rfl (bS rfl bZ)) (List.length_map _) (allFlat fun _ => rfl)) VOs.nil))) (RL.cons (RV.tmp (eR rfl)) (VO.flat rfl) (RL.cons (RV.tmp eZ) (VO.flat rfl) RL.nil))) (by decide)
    ·refine AW.condF eZ (decide_eq_false h12) (AW.skip (BQ.qn (TQ.qn (aV (oFaddrN (m := 0) (eR rfl) rfl (oLoadV (q := 0) (c := (.d (.sl 5 (List.map d_TRec a1.Recs)))) eZ (bS rfl (bS rfl (bS rfl bZ))) rfl rfl (oLenD eZ (n := a1.Recs.length) (List.length_map _) (oAdd eZ eC (oMov eZ (xQ (AW.weaken (wk_mkG [192] (kr 10 rfl rfl (kr 9 rfl rfl (kr 1 rfl rfl (kr 2 rfl rfl (kr 6 rfl rfl SL.nil))))) (BL.keep rfl (BL.keep rfl (BL.keep rfl (BL.drop rfl (BL.keep rfl BL.nil))))) (BK.cons (n := 576) rfl bZ rfl rfl (BK.cons (n := 1665) rfl (bS rfl bZ) rfl rfl (BK.cons (n := 1664) rfl (bS rfl (bS rfl bZ)) rfl rfl (BK.cons (n := 384) rfl (bS rfl (bS rfl (bS rfl (bS rfl bZ)))) rfl rfl BK.nil)))) GK.nil) (aS (AW.regm (rmOne (oFaddrN (m := 0) (eR rfl) rfl (xNil (rmOne (oLoadV (q := 0) (c := (.sl 1664 0 v7.Recs.length)) eZ bZ rfl rfl (xNil (rmOne (oMov (eR rfl) (xNil (rmOne (oMov (eR rfl) (xNil (rmOne (oMov (eR rfl) (xNil (rmOne (oBuild (cs := [(dI (IntKind.wrap .i64 ((a1.Recs.length : Int) + 1))), (dI a2), (dI a3), (dI 1), .zs]) (PsCons (eR rfl) (PsCons (eR rfl) (PsCons eZ (PsCons eC PsNil)))) rfl (xNil (rmOne (oBslice (m := 3328) (q := 1) (cs := [(dI (IntKind.wrap .i64 ((a1.Recs.length : Int) + 1))), (dI a2), (dI a3), (dI 1), .zs]) rfl (PsCons eZ PsNil) rfl (List.cons_ne_nil _ _) (by simp) (nS rfl (nS rfl (nS rfl (nS rfl nZ)))) (xNil ?_))))))))))))))))))))))))))))))))))
     obtain ⟨h13, H⟩ := oguard H
     refine rmAppAbs (f := d_TRec) (xs := v7.Recs) (t := (TRec.mk (IntKind.wrap .i64 ((a1.Recs.length : Int) + 1)) a2 a3 1 ([] : List TShare))) (q := (v7.Recs ++ [(TRec.mk (IntKind.wrap .i64 ((a1.Recs.length : Int) + 1)) a2 a3 1 ([] : List TShare))]).length) (ds := [(.int .i64 (IntKind.wrap .i64 ((a1.Recs.length : Int) + 1))), (.int .i64 a2), (.int .i64 a3), (.int .i64 1), (.sl 4 (List.map d_TShare ([] : List TShare)))]) (ns := []) (eR rfl) eZ (bS rfl (bS rfl (bS rfl bZ))) rfl bZ rfl (VOs.cons (VO.flat rfl) (VOs.cons (VO.flat rfl) (VOs.cons (VO.flat rfl) (VOs.cons (VO.flat rfl) (VOs.cons VO.zs VOs.nil))))) rfl rfl rfl rfl h13 (by decide) (erL.cons (v' := (.one (.sl 3328 0 1))) rfl (erL.cons (v' := (.agg [(dI (IntKind.wrap .i64 ((a1.Recs.length : Int) + 1))), (dI a2), (dI a3), (dI 1), .zs])) rfl (erL.cons (v' := (oI a3)) rfl (erL.cons (v' := (oI a2)) rfl (erL.cons (v' := (oI (IntKind.wrap .i64 ((a1.Recs.length : Int) + 1)))) rfl (erL.cons (v' := (.one (.sl 1664 0 v7.Recs.length))) rfl (erL.cons (v' := (.one (.ptr (.nm 576 0 0)))) rfl (erL.cons (v' := (oI (IntKind.wrap .i64 ((a1.Recs.length : Int) + 1)))) rfl (erL.cons (v' := (.one (.ptr (.nm 576 0 0)))) rfl (erL.cons (v' := (oI a2)) rfl (erL.cons (v' := (oI a3)) rfl (erL.cons (v' := (.one (.ptr (.nm 384 0 0)))) rfl erL.nil)))))))))))) (erH.cons (v' := (.vars 5 [(dI (IntKind.wrap .i64 ((a1.Recs.length : Int) + 1))), (dI a2), (dI a3), (dI 1), .zs])) rfl rfl (erH.cons (v' := (.vars 2 [(.sl 1664 0 v7.Recs.length), (.sl 1665 0 v7.Order.length)])) rfl rfl (erH.cons (v' := (.data 1 (List.map d_i64 v7.Order) true none)) rfl rfl (erH.cons (v' := (.data 5 (List.map d_TRec v7.Recs) true none)) rfl rfl (erH.cons (v' := (.vars 2 [.zs, .zs])) rfl rfl erH.nil))))) erL.nil (erL.cons (v' := (.one (.sl 3328 0 1))) rfl (erL.cons (v' := (.agg [(dI (IntKind.wrap .i64 ((a1.Recs.length : Int) + 1))), (dI a2), (dI a3), (dI 1), .zs])) rfl (erL.cons (v' := (oI a3)) rfl (erL.cons (v' := (oI a2)) rfl (erL.cons (v' := (oI (IntKind.wrap .i64 ((a1.Recs.length : Int) + 1)))) rfl (erL.cons (v' := (.one .any)) rfl (erL.cons (v' := (.one (.ptr (.nm 576 0 0)))) rfl (erL.cons (v' := (oI (IntKind.wrap .i64 ((a1.Recs.length : Int) + 1)))) rfl (erL.cons (v' := (.one (.ptr (.nm 576 0 0)))) rfl (erL.cons (v' := (oI a2)) rfl (erL.cons (v' := (oI a3)) rfl (erL.cons (v' := (.one (.ptr (.nm 384 0 0)))) rfl erL.nil)))))))))))) (erH.cons (v' := (.vars 5 [(dI (IntKind.wrap .i64 ((a1.Recs.length : Int) + 1))), (dI a2), (dI a3), (dI 1), .zs])) rfl rfl (erH.cons (v' := (.vars 2 [.any, (.sl 1665 0 v7.Order.length)])) rfl rfl (erH.cons (v' := (.data 1 (List.map d_i64 v7.Order) true none)) rfl rfl (erH.drop rfl (erH.cons (v' := (.vars 2 [.zs, .zs])) rfl rfl erH.nil))))) erL.nil (rmOne (oFaddrN (m := 0) (eR rfl) rfl (xNil (rmOne (oStoreV (es := [(.sl 1664 0 ((v7.Recs ++ [(TRec.mk (IntKind.wrap .i64 ((a1.Recs.length : Int) + 1)) a2 a3 1 ([] : List TShare))]).length)), (.sl 1665 0 v7.Order.length)]) eZ (eR rfl) rfl rfl (bS rfl (bS rfl bZ)) rfl (xNil (rmRest (xQ (aS (AW.regm (rmOne (oLoadVA (es := [(.sl 1664 0 ((v7.Recs ++ [(TRec.mk (IntKind.wrap .i64 ((a1.Recs.length : Int) + 1)) a2 a3 1 ([] : List TShare))]).length)), (.sl 1665 0 v7.Order.length)]) (eR rfl) bZ rfl (xNil (rmOne (oMov (eR rfl) (xNil (rmOne (oStoreV (es := [(.sl 1664 0 ((v7.Recs ++ [(TRec.mk (IntKind.wrap .i64 ((a1.Recs.length : Int) + 1)) a2 a3 1 ([] : List TShare))]).length)), (.sl 1665 0 v7.Order.length)]) (eR rfl) (eR rfl) rfl rfl (bS rfl (bS rfl (bS rfl (bS rfl (bS rfl bZ))))) rfl (xNil (rmRest (oMov eZ (oMov eC (xQ (AW.weaken (wk_mkG [576, 3328] (kr 8 rfl rfl (kr 7 rfl rfl (kr 6 rfl rfl SL.nil))) (BL.keep rfl (BL.drop rfl (BL.keep rfl (BL.drop rfl (BL.drop rfl (BL.keep rfl (BL.keep rfl BL.nil))))))) (BK.cons (n := 384) rfl bZ rfl rfl (BK.cons (n := 1664) rfl (bS rfl (bS rfl bZ)) rfl rfl (BK.cons (n := 1665) rfl (bS rfl (bS rfl (bS rfl (bS rfl (bS rfl bZ))))) rfl rfl BK.nil))) GK.nil) (AW.ret ?_)))))))))))))))))))))))))
     cases H
     exact endsR (RL.cons (RV.cellA (es := [(.sl 1664 0 ((v7.Recs ++ [(TRec.mk (IntKind.wrap .i64 ((a1.Recs.length : Int) + 1)) a2 a3 1 ([] : List TShare))]).length)), (.sl 1665 0 v7.Order.length)]) (eR rfl) bZ rfl) (VO.aggs (VOs.cons (VO.sln (bS rfl bZ) (List.length_map _) rfl) (VOs.cons (VO.sl (bS rfl (bS rfl bZ)) (List.length_map _) (allFlat fun _ => rfl)) VOs.nil))) (RL.cons (RV.tmp (eR rfl)) (VO.flat rfl) (RL.cons (RV.tmp eZ) (VO.flat rfl) RL.nil))) (by decide)
 ·refine aR (oLoadVA (es := [(.d (.sl 5 (List.map d_TRec a1.Recs))), (.d (.sl 1 (List.map d_i64 a1.Order)))]) (eR rfl) (bS rfl bZ) rfl ?_)
  obtain ⟨v14, h15, H⟩ := obind H
  refine oCall (u := (oB v14)) eC Cl.fn (c_spec_CoordOk h15) (Evs.cons eZ Evs.nil) (VDs.cons (VD.agg rfl) VDs.nil) rfl (oInv eZ (oMov eZ ?_))
  rcases oite H with ⟨h16, H⟩ | ⟨h16, H⟩
  ·refine gDo eZ (congrArg Bool.not h16) (oMov (eR rfl) (gDo (eR rfl) (congrArg Bool.not h16) ?_))
   obtain ⟨v17, h18, H⟩ := obind H
   refine oCall (u := (oB v17)) eC Cl.fn (c_spec_l1Whole h18) (Evs.cons eZ Evs.nil) (VDs.cons VD.plain VDs.nil) rfl (gDo (eR rfl) (congrArg Bool.not h16) (oInv eZ (oPickF (eR rfl) (congrArg Bool.not h16) eZ (oMov eZ ?_))))
   rcases oite H with ⟨h19, H⟩ | ⟨h19, H⟩
   ·refine gDo eZ (congrArg Bool.not h19) (oMov (eR rfl) (gDo (eR rfl) (congrArg Bool.not h19) ?_))
    obtain ⟨v20, h21, H⟩ := obind H
    exact oCall (u := (oB v20)) eC Cl.fn (c_spec_l1In h21) (Evs.cons eZ (Evs.cons eC (Evs.cons eC Evs.nil))) (VDs.cons VD.plain (VDs.cons VD.plain (VDs.cons VD.plain VDs.nil))) rfl (gDo (eR rfl) (congrArg Bool.not h19) (oInv eZ (oPickF (eR rfl) (congrArg Bool.not h19) eZ (xNil (TQ.qn ⟨(!v20), H, (wk_mkG [] (kR rfl rfl (kR rfl rfl (kR rfl rfl (kR rfl rfl (kR rfl rfl SL.nil))))) (BL.keep rfl (BL.keep rfl BL.nil)) (BK.cons rfl (bS rfl bZ) rfl rfl (BK.cons rfl bZ rfl rfl BK.nil)) GK.nil)⟩)))))
   ·exact gSkip eZ (congrArg Bool.not (nt h19)) rfl (gSkip (eR rfl) (congrArg Bool.not (nt h19)) rfl (gSkip (eR rfl) (congrArg Bool.not (nt h19)) rfl (oPickT (eR rfl) (congrArg Bool.not (nt h19)) eC (xNil (TQ.qn ⟨true, H, (wk_mkG [] (kR rfl rfl (kR rfl rfl (kR rfl rfl (kR rfl rfl (kR rfl rfl SL.nil))))) (BL.keep rfl (BL.keep rfl BL.nil)) (BK.cons rfl (bS rfl bZ) rfl rfl (BK.cons rfl bZ rfl rfl BK.nil)) GK.nil)⟩)))))
  ·exact gSkip eZ (congrArg Bool.not (nt h16)) rfl (gSkip (eR rfl) (congrArg Bool.not (nt h16)) rfl (gSkip (eR rfl) (congrArg Bool.not (nt h16)) rfl (oPickT (eR rfl) (congrArg Bool.not (nt h16)) eC (oMov eZ (gSkip eZ rfl rfl (gSkip (eR rfl) rfl rfl (gSkip (eR rfl) rfl rfl (oPickT (eR rfl) rfl eC (xNil (TQ.qn ⟨true, H, (wk_mkG [] (kR rfl rfl (kR rfl rfl (kR rfl rfl (kR rfl rfl (kR rfl rfl SL.nil))))) (BL.keep rfl (BL.keep rfl BL.nil)) (BK.cons rfl (bS rfl bZ) rfl rfl (BK.cons rfl bZ rfl rfl BK.nil)) GK.nil)⟩))))))))))
theorem c_impl_from {a1 : Int} {a2 : Int} {a3 : Int} {r : Bool} (H : m_impl_from a1 a2 a3 = some r) : Fn Try.prog k_impl_from (lent [(.int .i64 a1), (.int .i64 a2), (.int .i64 a3)]) true [(.bool r)] := by
 refine i_impl_from_fn (fle rfl) ?_
 rw [init_mk]
 refine AW.weaken (wk_mk [] (kv 0 (oI a1) rfl rfl (kv 1 (oI a2) rfl rfl (kv 2 (oI a3) rfl rfl SL.nil))) BL.nil BK.nil) ?_
 unfold m_impl_from at H
 unfold i_impl_from
 refine aV (oMov eC (xQ (aV (oMov (eR rfl) (oMov (eR rfl) (oGeq (eR rfl) eZ (oMov eZ ?_)))))))
 rcases oite H with ⟨h4, H⟩ | ⟨h4, H⟩
 ·refine gDo eZ (decide_eq_true h4) (oMov (eR rfl) (gDo (eR rfl) (decide_eq_true h4) (oMov (eR rfl) (gDo (eR rfl) (decide_eq_true h4) (oLeq (eR rfl) eZ (oPickT (eR rfl) (decide_eq_true h4) eZ (oMov eZ (xQ (AW.ret ?_)))))))))
  cases H
  exact eE rfl rfl
 ·refine gSkip eZ (decide_eq_false h4) rfl (gSkip (eR rfl) (decide_eq_false h4) rfl (gSkip (eR rfl) (decide_eq_false h4) rfl (oPickF (eR rfl) (decide_eq_false h4) eC (oMov eZ (xQ (AW.ret ?_))))))
  cases H
  exact eE rfl rfl
theorem c_impl_isWhole {a1 : Int} {r : Bool} (H : m_impl_isWhole a1 = some r) : Fn Try.prog k_impl_isWhole (lent [(.int .i64 a1)]) true [(.bool r)] := by
 refine i_impl_isWhole_fn (fle rfl) ?_
 rw [init_mk]
 refine AW.weaken (wk_mk [] (kv 0 (oI a1) rfl rfl SL.nil) BL.nil BK.nil) ?_
 unfold m_impl_isWhole at H
 unfold i_impl_isWhole
 refine aV (oMov eC (xQ (aV (oMov (eR rfl) ?_))))
 obtain ⟨v2, h3, H⟩ := obind H
 refine oCall (u := (oB v2)) eC Cl.fn (c_impl_from h3) (Evs.cons eZ (Evs.cons eC (Evs.cons eC Evs.nil))) (VDs.cons VD.plain (VDs.cons VD.plain (VDs.cons VD.plain VDs.nil))) rfl (oMov eZ (xQ (AW.ret ?_)))
 cases H
 exact eE rfl rfl
theorem c_impl_isReq {a1 : Int} {r : Bool} (H : m_impl_isReq a1 = some r) : Fn Try.prog k_impl_isReq (lent [(.int .i64 a1)]) true [(.bool r)] := by
 refine i_impl_isReq_fn (fle rfl) ?_
 rw [init_mk]
 refine AW.weaken (wk_mk [] (kv 0 (oI a1) rfl rfl SL.nil) BL.nil BK.nil) ?_
 unfold m_impl_isReq at H
 unfold i_impl_isReq
 refine aV (oMov eC (xQ (aV (oMov (eR rfl) ?_))))
 obtain ⟨v2, h3, H⟩ := obind H
 refine oCall (u := (oB v2)) eC Cl.fn (c_impl_from h3) (Evs.cons eZ (Evs.cons eC (Evs.cons eC Evs.nil))) (VDs.cons VD.plain (VDs.cons VD.plain (VDs.cons VD.plain VDs.nil))) rfl (oMov eZ (xQ (AW.ret ?_)))
 cases H
 exact eE rfl rfl
theorem c_impl_isGroup {a1 : Int} {r : Bool} (H : m_impl_isGroup a1 = some r) : Fn Try.prog k_impl_isGroup (lent [(.int .i64 a1)]) true [(.bool r)] := by
 refine i_impl_isGroup_fn (fle rfl) ?_
 rw [init_mk]
 refine AW.weaken (wk_mk [] (kv 0 (oI a1) rfl rfl SL.nil) BL.nil BK.nil) ?_
 unfold m_impl_isGroup at H
 unfold i_impl_isGroup
 refine aV (oMov eC (xQ (aV (oMov (eR rfl) ?_))))
 obtain ⟨v2, h3, H⟩ := obind H
 refine oCall (u := (oB v2)) eC Cl.fn (c_impl_from h3) (Evs.cons eZ (Evs.cons eC (Evs.cons eC Evs.nil))) (VDs.cons VD.plain (VDs.cons VD.plain (VDs.cons VD.plain VDs.nil))) rfl (oMov eZ (xQ (AW.ret ?_)))
 cases H
 exact eE rfl rfl
theorem c_impl_RangeOk {a1 : TRange} {r : Bool} (H : m_impl_RangeOk a1 = some r) : Fn Try.prog k_impl_RangeOk (lent [(.agg (d_TRange a1))]) true [(.bool r)] := by
 refine i_impl_RangeOk_fn (fle rfl) ?_
 rw [init_mk]
 refine AW.weaken (wk_mk [] (kv 0 (.agg [(dI a1.Lo), (dI a1.Hi)]) rfl rfl SL.nil) BL.nil BK.nil) ?_
 unfold m_impl_RangeOk at H
 unfold i_impl_RangeOk
 refine aV (oBox (n := 64) (m := 2) (cs := [(dI a1.Lo), (dI a1.Hi)]) rfl eZ rfl rfl nZ (oMov eC (xQ (aV (oFaddrN (m := 0) (eR rfl) rfl (oLoadV (q := 0) (c := (dI a1.Lo)) eZ bZ rfl rfl (oGeq eZ eC (oMov eZ ?_))))))))
 rcases oite H with ⟨h2, H⟩ | ⟨h2, H⟩
 ·refine gDo eZ (decide_eq_true h2) (oFaddrN (m := 0) (eR rfl) rfl (gDo (eR rfl) (decide_eq_true h2) (oLoadV (q := 0) (c := (dI a1.Lo)) eZ bZ rfl rfl (gDo (eR rfl) (decide_eq_true h2) (oFaddrN (m := 1) (eR rfl) rfl (gDo (eR rfl) (decide_eq_true h2) (oLoadV (q := 1) (c := (dI a1.Hi)) eZ bZ rfl rfl (gDo (eR rfl) (decide_eq_true h2) (oLss (eR rfl) eZ (oPickT (eR rfl) (decide_eq_true h2) eZ (oMov eZ ?_)))))))))))
  rcases oite H with ⟨h3, H⟩ | ⟨h3, H⟩
  ·refine gDo eZ (decide_eq_true h3) (oFaddrN (m := 1) (eR rfl) rfl (gDo (eR rfl) (decide_eq_true h3) (oLoadV (q := 1) (c := (dI a1.Hi)) eZ bZ rfl rfl (gDo (eR rfl) (decide_eq_true h3) (oLeq eZ eC (oPickT (eR rfl) (decide_eq_true h3) eZ (oMov eZ (xQ (AW.weaken (wk_mk [64] (kr 2 rfl rfl SL.nil) (BL.drop rfl BL.nil) BK.nil) (AW.ret ?_))))))))))
   cases H
   exact eE rfl rfl
  ·refine gSkip eZ (decide_eq_false h3) rfl (gSkip (eR rfl) (decide_eq_false h3) rfl (gSkip (eR rfl) (decide_eq_false h3) rfl (oPickF (eR rfl) (decide_eq_false h3) eC (oMov eZ (xQ (AW.weaken (wk_mk [64] (kr 2 rfl rfl SL.nil) (BL.drop rfl BL.nil) BK.nil) (AW.ret ?_)))))))
   cases H
   exact eE rfl rfl
 ·refine gSkip eZ (decide_eq_false h2) rfl (gSkip (eR rfl) (decide_eq_false h2) rfl (gSkip (eR rfl) (decide_eq_false h2) rfl (gSkip (eR rfl) (decide_eq_false h2) rfl (gSkip (eR rfl) (decide_eq_false h2) rfl (oPickF (eR rfl) (decide_eq_false h2) eC (oMov eZ (gSkip eZ rfl rfl (gSkip (eR rfl) rfl rfl (gSkip (eR rfl) rfl rfl (oPickF (eR rfl) rfl eC (oMov eZ (xQ (AW.weaken (wk_mk [64] (kr 2 rfl rfl SL.nil) (BL.drop rfl BL.nil) BK.nil) (AW.ret ?_))))))))))))))
  cases H
  exact eE rfl rfl
theorem c_impl_readsOk_1 {a1 : TRange} {r : Bool} (H : m_impl_readsOk_1 a1 = some r) : Fn Try.prog k_impl_readsOk_1 (lent [(.agg (d_TRange a1))]) true [(.bool r)] := by
 refine i_impl_readsOk_1_fn (fle rfl) ?_
 rw [init_mk]
 refine AW.weaken (wk_mk [] (kv 0 (.agg [(dI a1.Lo), (dI a1.Hi)]) rfl rfl SL.nil) BL.nil BK.nil) ?_
 unfold m_impl_readsOk_1 at H
 unfold i_impl_readsOk_1
 refine aV (oBox (n := 64) (m := 2) (cs := [(dI a1.Lo), (dI a1.Hi)]) rfl eZ rfl rfl nZ (oMov eC (xQ (aV (oLoadVA (es := [(dI a1.Lo), (dI a1.Hi)]) (eR rfl) bZ rfl ?_)))))
 obtain ⟨v2, h3, H⟩ := obind H
 refine oCall (u := (oB v2)) eC Cl.fn (c_impl_RangeOk h3) (Evs.cons eZ Evs.nil) (VDs.cons (VD.agg rfl) VDs.nil) rfl (oInv eZ (oMov eZ (xQ (AW.ret ?_))))
 cases H
 exact eE rfl rfl
theorem c_slices_IndexFunc_Range__readsOk_1 {a1 : (List TRange)} {r : Int} (H : m_slices_IndexFunc_Range__readsOk_1 a1 = some r) : Fn Try.prog k_slices_IndexFunc___impl_Range_impl_Range_ (lent [(.sl 2 (List.map d_TRange a1)), (.fn k_impl_readsOk_1 [])]) true [(.int .i64 r)] := by
 refine i_slices_IndexFunc___impl_Range_impl_Range__fn (fle rfl) ?_
 rw [init_mk]
 refine AW.weaken (wk_mk [] (kv 0 (.one (.d (.sl 2 (List.map d_TRange a1)))) rfl rfl (SL.cons (v := (.one (.fn k_impl_readsOk_1 []))) (eS rfl eZ) rfl (VWk.one (CWk.fn (css := []))) SL.nil)) BL.nil BK.nil) ?_
 unfold m_slices_IndexFunc_Range__readsOk_1 at H
 unfold i_slices_IndexFunc___impl_Range_impl_Range_
 refine aV (oMov eC (xQ (AW.seqJ (fun t2 : Unit => slices_IndexFunc_Range__readsOk_1_j2 t2 = some r) (fun t2 => mk [] [] noG) ?_ ?_)))
 ·intro t2 H
  unfold slices_IndexFunc_Range__readsOk_1_j2 at H
  refine aV (oMov eC (xQ (AW.ret ?_)))
  cases H
  exact eE rfl rfl
 ·refine aV (oMov (eR rfl) (oLenD eZ (n := a1.length) (List.length_map _) (oMov eC (xQ (AW.block (AW.iter (fun s4 : Int => mk [(0, (.one (.d (.sl 2 (List.map d_TRange a1))))), (1, (.one (.fn k_impl_readsOk_1 []))), (7, (oI (a1.length : Int))), (8, (oI s4))] [] noG) H (wk_mk [] (kR rfl rfl (kR rfl rfl (kR rfl rfl (kR rfl rfl SL.nil)))) BL.nil BK.nil) ?_))))))
  intro kb5 s4 H
  unfold slices_IndexFunc_Range__readsOk_1_b4 at H
  refine aV (oLss (eR rfl) (eR rfl) (xQ (aS ?_)))
  rcases oite H with ⟨h6, H⟩ | ⟨h6, H⟩
  ·refine AW.condT eZ (decide_eq_true h6) (AW.skip (TQ.qn (aS (AW.block (aV (oMov (eR rfl) (oMov eZ (xQ (aV (oMov (eR rfl) (oMov (eR rfl) (oMov (eR rfl) ?_))))))))))))
   obtain ⟨v7, h8, H⟩ := obind H
   refine oAtD (eR rfl) eZ h8 (oLoadBA (es := [(dI v7.Lo), (dI v7.Hi)]) eZ rfl ?_)
   obtain ⟨v9, h10, H⟩ := obind H
   refine oCall (u := (oB v9)) (eR rfl) Cl.fn (c_impl_readsOk_1 h10) (Evs.cons eZ Evs.nil) (VDs.cons (VD.agg rfl) VDs.nil) rfl (xQ ?_)
   rcases oite H with ⟨h11, H⟩ | ⟨h11, H⟩
   ·refine AW.condT eZ h11 (aV (oMov (eR rfl) (oMov eZ (xQ (AW.ret (BQ.qr (TQ.qr (TQ.qr (BQ.qr (TQ.qr ?_))))))))))
    cases H
    exact eE rfl rfl
   ·exact AW.condF eZ (nt h11) (AW.skip (BQ.qn (TQ.qn (aR (oAdd (eR rfl) eC (oMov eZ (xNil (TQ.qn ⟨(IntKind.wrap .i64 (s4 + 1)), H, (wk_mk [] (kR rfl rfl (kR rfl rfl (kR rfl rfl (kR rfl rfl SL.nil)))) BL.nil BK.nil)⟩))))))))
  ·exact AW.condF eZ (decide_eq_false h6) (AW.exit (TQ.qe (TQ.qe (BQ.qe (TQ.qn ⟨(), H, (wk_mk [] SL.nil BL.nil BK.nil)⟩)))))
theorem c_slices_ContainsFunc_Range__readsOk_1 {a1 : (List TRange)} {r : Bool} (H : m_slices_ContainsFunc_Range__readsOk_1 a1 = some r) : Fn Try.prog k_slices_ContainsFunc___impl_Range_impl_Range_ (lent [(.sl 2 (List.map d_TRange a1)), (.fn k_impl_readsOk_1 [])]) true [(.bool r)] := by
 refine i_slices_ContainsFunc___impl_Range_impl_Range__fn (fle rfl) ?_
 rw [init_mk]
 refine AW.weaken (wk_mk [] (kv 0 (.one (.d (.sl 2 (List.map d_TRange a1)))) rfl rfl (SL.cons (v := (.one (.fn k_impl_readsOk_1 []))) (eS rfl eZ) rfl (VWk.one (CWk.fn (css := []))) SL.nil)) BL.nil BK.nil) ?_
 unfold m_slices_ContainsFunc_Range__readsOk_1 at H
 unfold i_slices_ContainsFunc___impl_Range_impl_Range_
 refine aV (oMov eC (xQ (aV (oMov (eR rfl) (oMov (eR rfl) ?_)))))
 obtain ⟨v2, h3, H⟩ := obind H
 refine oCall (u := (oI v2)) eC Cl.fn (c_slices_IndexFunc_Range__readsOk_1 h3) (Evs.cons (eR rfl) (Evs.cons eZ Evs.nil)) (VDs.cons VD.plain (VDs.cons (VD.fn PDs.nil) VDs.nil)) rfl (oGeq eZ eC (oMov eZ (xQ (AW.ret ?_))))
 cases H
 exact eE rfl rfl
theorem c_impl_readsOk {a1 : (List TRange)} {r : Bool} (H : m_impl_readsOk a1 = some r) : Fn Try.prog k_impl_readsOk (lent [(.sl 2 (List.map d_TRange a1))]) true [(.bool r)] := by
 refine i_impl_readsOk_fn (fle rfl) ?_
 rw [init_mk]
 refine AW.weaken (wk_mk [] (kv 0 (.one (.d (.sl 2 (List.map d_TRange a1)))) rfl rfl SL.nil) BL.nil BK.nil) ?_
 unfold m_impl_readsOk at H
 unfold i_impl_readsOk
 refine aV (oMov eC (xQ (aV (oMov (eR rfl) (oLenD eZ (n := a1.length) (List.length_map _) (oLeq eZ eC (oMov eZ ?_)))))))
 rcases oite H with ⟨h2, H⟩ | ⟨h2, H⟩
 ·refine gDo eZ (decide_eq_true h2) (oMov (eR rfl) (gDo (eR rfl) (decide_eq_true h2) ?_))
  obtain ⟨v3, h4, H⟩ := obind H
  refine oCall (u := (oB v3)) eC Cl.fn (c_slices_ContainsFunc_Range__readsOk_1 h4) (Evs.cons eZ (Evs.cons eC Evs.nil)) (VDs.cons VD.plain (VDs.cons (VD.fn PDs.nil) VDs.nil)) rfl (gDo (eR rfl) (decide_eq_true h2) (oInv eZ (oPickT (eR rfl) (decide_eq_true h2) eZ (oMov eZ (xQ (AW.ret ?_))))))
  cases H
  exact eE rfl rfl
 ·refine gSkip eZ (decide_eq_false h2) rfl (gSkip (eR rfl) (decide_eq_false h2) rfl (gSkip (eR rfl) (decide_eq_false h2) rfl (oPickF (eR rfl) (decide_eq_false h2) eC (oMov eZ (xQ (AW.ret ?_))))))
  cases H
  exact eE rfl rfl
theorem c_impl_isKey {a1 : Int} {r : Bool} (H : m_impl_isKey a1 = some r) : Fn Try.prog k_impl_isKey (lent [(.int .i64 a1)]) true [(.bool r)] := by
 refine i_impl_isKey_fn (fle rfl) ?_
 rw [init_mk]
 refine AW.weaken (wk_mk [] (kv 0 (oI a1) rfl rfl SL.nil) BL.nil BK.nil) ?_
 unfold m_impl_isKey at H
 unfold i_impl_isKey
 refine aV (oMov eC (xQ (aV (oMov (eR rfl) ?_))))
 obtain ⟨v2, h3, H⟩ := obind H
 refine oCall (u := (oB v2)) eC Cl.fn (c_impl_from h3) (Evs.cons eZ (Evs.cons eC (Evs.cons eC Evs.nil))) (VDs.cons VD.plain (VDs.cons VD.plain (VDs.cons VD.plain VDs.nil))) rfl (oMov eZ (xQ (AW.ret ?_)))
 cases H
 exact eE rfl rfl
theorem c_impl_isAnswer {a1 : Int} {r : Bool} (H : m_impl_isAnswer a1 = some r) : Fn Try.prog k_impl_isAnswer (lent [(.int .i64 a1)]) true [(.bool r)] := by
 refine i_impl_isAnswer_fn (fle rfl) ?_
 rw [init_mk]
 refine AW.weaken (wk_mk [] (kv 0 (oI a1) rfl rfl SL.nil) BL.nil BK.nil) ?_
 unfold m_impl_isAnswer at H
 unfold i_impl_isAnswer
 refine aV (oMov eC (xQ (aV (oMov (eR rfl) ?_))))
 obtain ⟨v2, h3, H⟩ := obind H
 refine oCall (u := (oB v2)) eC Cl.fn (c_impl_from h3) (Evs.cons eZ (Evs.cons eC (Evs.cons eC Evs.nil))) (VDs.cons VD.plain (VDs.cons VD.plain (VDs.cons VD.plain VDs.nil))) rfl (oMov eZ (xQ (AW.ret ?_)))
 cases H
 exact eE rfl rfl
theorem c_impl_WritesOk {a1 : (List TCell)} {r : Bool} (H : m_impl_WritesOk a1 = some r) : Fn Try.prog k_impl_WritesOk (lent [(.sl 2 (List.map d_TCell a1))]) true [(.bool r)] := by
 refine i_impl_WritesOk_fn (fle rfl) ?_
 rw [init_mk]
 refine AW.weaken (wk_mk [] (kv 0 (.one (.d (.sl 2 (List.map d_TCell a1)))) rfl rfl SL.nil) BL.nil BK.nil) ?_
 unfold m_impl_WritesOk at H
 unfold i_impl_WritesOk
 refine aV (oMov eC (xQ (AW.seqJ (fun t2 : Unit => (impl_WritesOk_j2 a1) t2 = some r) (fun t2 => mk [(0, (.one (.d (.sl 2 (List.map d_TCell a1)))))] [] noG) ?_ ?_)))
 ·intro t2 H
  unfold impl_WritesOk_j2 at H
  refine aV (oMov eZ (oLenD eZ (n := a1.length) (List.length_map _) (oLeq eZ eC (oMov eZ (xQ (AW.ret ?_))))))
  cases H
  exact eE rfl rfl
 ·refine aV (oMov (eR rfl) (oLenD eZ (n := a1.length) (List.length_map _) (oMov eC (xQ (AW.block (AW.iter (fun s4 : Int => mk [(0, (.one (.d (.sl 2 (List.map d_TCell a1))))), (5, (.one (.d (.sl 2 (List.map d_TCell a1))))), (6, (oI (a1.length : Int))), (7, (oI s4))] [] noG) H (wk_mk [] (kR rfl rfl (kR rfl rfl (kR rfl rfl (kR rfl rfl SL.nil)))) BL.nil BK.nil) ?_))))))
  intro kb5 s4 H
  unfold impl_WritesOk_b4 at H
  refine aV (oLss (eR rfl) (eR rfl) (xQ (aS ?_)))
  rcases oite H with ⟨h6, H⟩ | ⟨h6, H⟩
  ·refine AW.condT eZ (decide_eq_true h6) (AW.skip (TQ.qn (aS (AW.block (aV (oMov (eR rfl) ?_))))))
   obtain ⟨v7, h8, H⟩ := obind H
   refine oAtD (eR rfl) (eR rfl) h8 (oLoadBA (es := [(dI v7.Key), (dI v7.Value)]) eZ rfl (oVar (n := 256) (m := 2) rfl rfl nZ (oMov (eR rfl) (oStoreV (es := [(dI v7.Key), (dI v7.Value)]) (eR rfl) (eR rfl) rfl rfl bZ rfl (xQ (AW.seqJ (fun t9 : Bool => (impl_WritesOk_j9 kb5 s4) t9 = some r) (fun t9 => mk [(0, (.one (.d (.sl 2 (List.map d_TCell a1))))), (5, (.one (.d (.sl 2 (List.map d_TCell a1))))), (6, (oI (a1.length : Int))), (7, (oI s4)), (36, (oB t9))] [] noG) ?_ ?_))))))
   ·intro t9 H
    unfold impl_WritesOk_j9 at H
    rcases oite H with ⟨h11, H⟩ | ⟨h11, H⟩
    ·refine AW.condT (eR rfl) h11 (aV (oMov eC (xQ (AW.ret (BQ.qr (TQ.qr (TQ.qr (BQ.qr (TQ.qr ?_)))))))))
     cases H
     exact eE rfl rfl
    ·exact AW.condF (eR rfl) (nt h11) (AW.skip (BQ.qn (TQ.qn (aR (oAdd (eR rfl) eC (oMov eZ (xNil (TQ.qn ⟨(IntKind.wrap .i64 (s4 + 1)), H, (wk_mk [] (kR rfl rfl (kR rfl rfl (kR rfl rfl (kR rfl rfl SL.nil)))) BL.nil BK.nil)⟩))))))))
   ·refine AW.regd (oFaddrN (m := 0) (eR rfl) rfl (oLoadV (q := 0) (c := (dI v7.Key)) eZ bZ rfl rfl ?_))
    obtain ⟨v12, h13, H⟩ := obind H
    refine oCall (u := (oB v12)) eC Cl.fn (c_impl_isKey h13) (Evs.cons eZ Evs.nil) (VDs.cons VD.plain VDs.nil) rfl (oInv eZ (oMov eZ ?_))
    rcases oite H with ⟨h14, H⟩ | ⟨h14, H⟩
    ·refine gDo eZ (congrArg Bool.not h14) (oFaddrN (m := 1) (eR rfl) rfl (gDo (eR rfl) (congrArg Bool.not h14) (oLoadV (q := 1) (c := (dI v7.Value)) eZ bZ rfl rfl (gDo (eR rfl) (congrArg Bool.not h14) ?_))))
     obtain ⟨v15, h16, H⟩ := obind H
     refine oCall (u := (oB v15)) eC Cl.fn (c_impl_isAnswer h16) (Evs.cons eZ Evs.nil) (VDs.cons VD.plain VDs.nil) rfl (gDo (eR rfl) (congrArg Bool.not h14) (oInv eZ (oPickF (eR rfl) (congrArg Bool.not h14) eZ (oMov eZ ?_))))
     rcases oite H with ⟨h17, H⟩ | ⟨h17, H⟩
     ·refine gDo eZ (congrArg Bool.not h17) (oMov (eR rfl) (gDo (eR rfl) (congrArg Bool.not h17) (oGtr eZ eC (gDo (eR rfl) (congrArg Bool.not h17) (oMov eZ ?_)))))
      rcases oite H with ⟨h18, H⟩ | ⟨h18, H⟩
      ·refine gDo eZ (decide_eq_true h18) (oMov (eR rfl) (gDo (eR rfl) (decide_eq_true h18) (oMov (eR rfl) (gDo (eR rfl) (decide_eq_true h18) (oSub eZ eC (gDo (eR rfl) (decide_eq_true h18) ?_))))))
       obtain ⟨v19, h20, H⟩ := obind H
       exact oAtD (eR rfl) eZ h20 (gDo (eR rfl) (decide_eq_true h18) (oFaddrB (m := 0) eZ rfl (gDo (eR rfl) (decide_eq_true h18) (oLoadB (e := (.int .i64 v19.Key)) eZ rfl (gDo (eR rfl) (decide_eq_true h18) (oFaddrN (m := 0) (eR rfl) rfl (gDo (eR rfl) (decide_eq_true h18) (oLoadV (q := 0) (c := (dI v7.Key)) eZ bZ rfl rfl (gDo (eR rfl) (decide_eq_true h18) (oGeq (eR rfl) eZ (gDo (eR rfl) (congrArg Bool.not h17) (oPickT (eR rfl) (decide_eq_true h18) eZ (oPickF (eR rfl) (congrArg Bool.not h17) eZ (xNil (TQ.qn ⟨(decide (v7.Key ≤ v19.Key)), H, (wk_mk [256] (kR rfl rfl (kR rfl rfl (kR rfl rfl (kR rfl rfl (kR rfl rfl SL.nil))))) (BL.drop rfl (BL.drop rfl BL.nil)) BK.nil)⟩)))))))))))))))
      ·exact gSkip eZ (decide_eq_false h18) rfl (gSkip (eR rfl) (decide_eq_false h18) rfl (gSkip (eR rfl) (decide_eq_false h18) rfl (gSkip (eR rfl) (decide_eq_false h18) rfl (gSkip (eR rfl) (decide_eq_false h18) rfl (gSkip (eR rfl) (decide_eq_false h18) rfl (gSkip (eR rfl) (decide_eq_false h18) rfl (gSkip (eR rfl) (decide_eq_false h18) rfl (gSkip (eR rfl) (decide_eq_false h18) rfl (gDo (eR rfl) (congrArg Bool.not h17) (oPickF (eR rfl) (decide_eq_false h18) eC (oPickF (eR rfl) (congrArg Bool.not h17) eZ (xNil (TQ.qn ⟨false, H, (wk_mk [256] (kR rfl rfl (kR rfl rfl (kR rfl rfl (kR rfl rfl (kR rfl rfl SL.nil))))) (BL.drop rfl (BL.drop rfl BL.nil)) BK.nil)⟩)))))))))))))
     ·exact gSkip eZ (congrArg Bool.not (nt h17)) rfl (gSkip (eR rfl) (congrArg Bool.not (nt h17)) rfl (gSkip (eR rfl) (congrArg Bool.not (nt h17)) rfl (gSkipU eZ rfl (gSkipU (eR rfl) rfl (gSkipU (eR rfl) rfl (gSkipU (eR rfl) rfl (gSkipU (eR rfl) rfl (gSkipU (eR rfl) rfl (gSkipU (eR rfl) rfl (gSkipU (eR rfl) rfl (gSkipU (eR rfl) rfl (gSkip (eR rfl) (congrArg Bool.not (nt h17)) rfl (oPickT (eR rfl) (congrArg Bool.not (nt h17)) eC (xNil (TQ.qn ⟨true, H, (wk_mk [256] (kR rfl rfl (kR rfl rfl (kR rfl rfl (kR rfl rfl (kR rfl rfl SL.nil))))) (BL.drop rfl (BL.drop rfl BL.nil)) BK.nil)⟩)))))))))))))))
    ·exact gSkip eZ (congrArg Bool.not (nt h14)) rfl (gSkip (eR rfl) (congrArg Bool.not (nt h14)) rfl (gSkip (eR rfl) (congrArg Bool.not (nt h14)) rfl (gSkip (eR rfl) (congrArg Bool.not (nt h14)) rfl (oPickT (eR rfl) (congrArg Bool.not (nt h14)) eC (oMov eZ (gSkip eZ rfl rfl (gSkip (eR rfl) rfl rfl (gSkip (eR rfl) rfl rfl (gSkipU eZ rfl (gSkipU (eR rfl) rfl (gSkipU (eR rfl) rfl (gSkipU (eR rfl) rfl (gSkipU (eR rfl) rfl (gSkipU (eR rfl) rfl (gSkipU (eR rfl) rfl (gSkipU (eR rfl) rfl (gSkipU (eR rfl) rfl (gSkip (eR rfl) rfl rfl (oPickT (eR rfl) rfl eC (xNil (TQ.qn ⟨true, H, (wk_mk [256] (kR rfl rfl (kR rfl rfl (kR rfl rfl (kR rfl rfl (kR rfl rfl SL.nil))))) (BL.drop rfl (BL.drop rfl BL.nil)) BK.nil)⟩)))))))))))))))))))))
  ·exact AW.condF eZ (decide_eq_false h6) (AW.exit (TQ.qe (TQ.qe (BQ.qe (TQ.qn ⟨(), H, (wk_mk [] (kR rfl rfl SL.nil) BL.nil BK.nil)⟩)))))
end Go.AW
