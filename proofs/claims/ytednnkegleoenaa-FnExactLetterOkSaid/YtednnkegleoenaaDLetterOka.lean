/- That functions of the program compute what the plain functions say: printed by a program of the prover's own (tool/dec.py). Conditions: each theorem's own. -/
import Derived.Test.YtednnkegleoenaaMLetterOk
import Derived.Test.YtednnkegleoenaaGLetterOk
set_option linter.unusedVariables false
set_option linter.unusedSimpArgs false
set_option maxRecDepth 100000
namespace Go.AW
open Go.Proofs
theorem c_laws_szRangeS {a1 : (List TRange)} {a2 : Int} {r : Int} (H : m_laws_szRangeS a1 a2 = some r) : Fn Try.prog k_laws_szRangeS (lent [(.sl 2 (List.map d_TRange a1)), (.int .i64 a2)]) true [(.int .i64 r)] := by
 refine i_laws_szRangeS_fn (fle rfl) ?_
 rw [init_mk]
 refine AW.weaken (wk_mk [] (kv 0 (.one (.d (.sl 2 (List.map d_TRange a1)))) rfl rfl (kv 1 (oI a2) rfl rfl SL.nil)) BL.nil BK.nil) ?_
 unfold m_laws_szRangeS at H
 unfold i_laws_szRangeS
 refine aV (oMov eC (xQ (aV (oMov (eR rfl) (oMov (eR rfl) (oLenD eZ (n := a1.length) (List.length_map _) (oSub (eR rfl) eZ (oMov eZ (xQ (aS (aV (oMov eZ (oLss eZ eC (xQ ?_))))))))))))))
 rcases oite H with ⟨h3, H⟩ | ⟨h3, H⟩
 ·refine AW.condT eZ (decide_eq_true h3) (aV (oMov eC (xQ (AW.ret (TQ.qr ?_)))))
  cases H
  exact eE rfl rfl
 ·refine AW.condF eZ (decide_eq_false h3) (AW.skip (TQ.qn (aV (oMov (eR rfl) (oMov eZ (xQ (AW.ret ?_)))))))
  cases H
  exact eE rfl rfl
theorem c_laws_szWriteS {a1 : (List TCell)} {a2 : Int} {r : Int} (H : m_laws_szWriteS a1 a2 = some r) : Fn Try.prog k_laws_szWriteS (lent [(.sl 2 (List.map d_TCell a1)), (.int .i64 a2)]) true [(.int .i64 r)] := by
 refine i_laws_szWriteS_fn (fle rfl) ?_
 rw [init_mk]
 refine AW.weaken (wk_mk [] (kv 0 (.one (.d (.sl 2 (List.map d_TCell a1)))) rfl rfl (kv 1 (oI a2) rfl rfl SL.nil)) BL.nil BK.nil) ?_
 unfold m_laws_szWriteS at H
 unfold i_laws_szWriteS
 refine aV (oMov eC (xQ (aV (oMov (eR rfl) (oMov (eR rfl) (oLenD eZ (n := a1.length) (List.length_map _) (oSub (eR rfl) eZ (oMov eZ (xQ (aS (aV (oMov eZ (oLss eZ eC (xQ ?_))))))))))))))
 rcases oite H with ⟨h3, H⟩ | ⟨h3, H⟩
 ·refine AW.condT eZ (decide_eq_true h3) (aV (oMov eC (xQ (AW.ret (TQ.qr ?_)))))
  cases H
  exact eE rfl rfl
 ·refine AW.condF eZ (decide_eq_false h3) (AW.skip (TQ.qn (aV (oMov (eR rfl) (oMov eZ (xQ (AW.ret ?_)))))))
  cases H
  exact eE rfl rfl
theorem c_laws_szCellS {a1 : (List TCell)} {a2 : Int} {r : Int} (H : m_laws_szCellS a1 a2 = some r) : Fn Try.prog k_laws_szCellS (lent [(.sl 2 (List.map d_TCell a1)), (.int .i64 a2)]) true [(.int .i64 r)] := by
 refine i_laws_szCellS_fn (fle rfl) ?_
 rw [init_mk]
 refine AW.weaken (wk_mk [] (kv 0 (.one (.d (.sl 2 (List.map d_TCell a1)))) rfl rfl (kv 1 (oI a2) rfl rfl SL.nil)) BL.nil BK.nil) ?_
 unfold m_laws_szCellS at H
 unfold i_laws_szCellS
 refine aV (oMov eC (xQ (aV (oMov (eR rfl) (oMov (eR rfl) (oLenD eZ (n := a1.length) (List.length_map _) (oSub (eR rfl) eZ (oMov eZ (xQ (aS (aV (oMov eZ (oLss eZ eC (xQ ?_))))))))))))))
 rcases oite H with ⟨h3, H⟩ | ⟨h3, H⟩
 ·refine AW.condT eZ (decide_eq_true h3) (aV (oMov eC (xQ (AW.ret (TQ.qr ?_)))))
  cases H
  exact eE rfl rfl
 ·refine AW.condF eZ (decide_eq_false h3) (AW.skip (TQ.qn (aV (oMov (eR rfl) (oMov eZ (xQ (AW.ret ?_)))))))
  cases H
  exact eE rfl rfl
theorem c_laws_szShare {a1 : TShare} {a2 : Int} {r : Int} (H : m_laws_szShare a1 a2 = some r) : Fn Try.prog k_laws_szShare (lent [(.agg (d_TShare a1)), (.int .i64 a2)]) true [(.int .i64 r)] := by
 refine i_laws_szShare_fn (fle rfl) ?_
 rw [init_mk]
 refine AW.weaken (wk_mk [] (kv 0 (.agg [(dI a1.Group), (.d (.sl 2 (List.map d_TRange a1.Reads))), (.d (.sl 2 (List.map d_TCell a1.Writes))), (dI a1.Vote)]) rfl rfl (kv 1 (oI a2) rfl rfl SL.nil)) BL.nil BK.nil) ?_
 unfold m_laws_szShare at H
 unfold i_laws_szShare
 refine aV (oBox (n := 128) (m := 4) (cs := [(dI a1.Group), (.d (.sl 2 (List.map d_TRange a1.Reads))), (.d (.sl 2 (List.map d_TCell a1.Writes))), (dI a1.Vote)]) rfl eZ rfl rfl nZ (oMov eC (xQ (aV (oFaddrN (m := 1) (eR rfl) rfl (oLoadV (q := 1) (c := (.d (.sl 2 (List.map d_TRange a1.Reads)))) eZ bZ rfl rfl (oMov (eR rfl) ?_)))))))
 obtain ⟨v3, h4, H⟩ := obind H
 refine oCall (u := (oI v3)) eC Cl.fn (c_laws_szRangeS h4) (Evs.cons (eR rfl) (Evs.cons eZ Evs.nil)) (VDs.cons VD.plain (VDs.cons VD.plain VDs.nil)) rfl (oMov eZ (xQ (aS (aV (oMov eZ (oLss eZ eC (xQ ?_)))))))
 rcases oite H with ⟨h5, H⟩ | ⟨h5, H⟩
 ·refine AW.condT eZ (decide_eq_true h5) (aV (oMov eC (xQ (AW.ret (TQ.qr ?_)))))
  cases H
  exact eE rfl rfl
 ·refine AW.condF eZ (decide_eq_false h5) (AW.skip (TQ.qn (aV (oFaddrN (m := 2) (eR rfl) rfl (oLoadV (q := 2) (c := (.d (.sl 2 (List.map d_TCell a1.Writes)))) eZ bZ rfl rfl (oMov (eR rfl) ?_))))))
  obtain ⟨v6, h7, H⟩ := obind H
  refine oCall (u := (oI v6)) eC Cl.fn (c_laws_szWriteS h7) (Evs.cons (eR rfl) (Evs.cons eZ Evs.nil)) (VDs.cons VD.plain (VDs.cons VD.plain VDs.nil)) rfl (oMov eZ (xQ (AW.weaken (wk_mk [128] (kr 1 rfl rfl SL.nil) (BL.drop rfl BL.nil) BK.nil) (aS (aV (oMov eZ (oLss eZ eC (xQ ?_))))))))
  rcases oite H with ⟨h8, H⟩ | ⟨h8, H⟩
  ·refine AW.condT eZ (decide_eq_true h8) (aV (oMov eC (xQ (AW.ret (TQ.qr ?_)))))
   cases H
   exact eE rfl rfl
  ·refine AW.condF eZ (decide_eq_false h8) (AW.skip (TQ.qn (aV (oMov (eR rfl) (oMov eZ (xQ (AW.ret ?_)))))))
   cases H
   exact eE rfl rfl
theorem c_laws_szShareS {a1 : (List TShare)} {a2 : Int} {r : Int} (H : m_laws_szShareS a1 a2 = some r) : Fn Try.prog k_laws_szShareS (lent [(.sl 4 (List.map d_TShare a1)), (.int .i64 a2)]) true [(.int .i64 r)] := by
 refine i_laws_szShareS_fn (fle rfl) ?_
 rw [init_mk]
 refine AW.weaken (wk_mk [] (kv 0 (.one (.d (.sl 4 (List.map d_TShare a1)))) rfl rfl (kv 1 (oI a2) rfl rfl SL.nil)) BL.nil BK.nil) ?_
 unfold m_laws_szShareS at H
 unfold i_laws_szShareS
 refine aV (oMov eC (xQ (aV (oMov (eR rfl) (oMov (eR rfl) (oLenD eZ (n := a1.length) (List.length_map _) (oSub (eR rfl) eZ (oMov eZ (xQ (aS (aV (oMov eZ (oLss eZ eC (xQ ?_))))))))))))))
 rcases oite H with ⟨h3, H⟩ | ⟨h3, H⟩
 ·refine AW.condT eZ (decide_eq_true h3) (aV (oMov eC (xQ (AW.ret (TQ.qr ?_)))))
  cases H
  exact eE rfl rfl
 ·refine AW.condF eZ (decide_eq_false h3) (AW.skip (TQ.qn (AW.seqJ (fun t4 : Int => laws_szShareS_j4 t4 = some r) (fun t4 => mk [(1, (oI t4))] [] noG) ?_ ?_)))
  ·intro t4 H
   unfold laws_szShareS_j4 at H
   refine aV (oMov eZ (oMov eZ (xQ (AW.ret ?_))))
   cases H
   exact eE rfl rfl
  ·refine aV (oMov eC (xQ (AW.block (AW.iter (fun s6 : (Int × Int) => mk [(0, (.one (.d (.sl 4 (List.map d_TShare a1))))), (1, (oI s6.1)), (5, (oI s6.2))] [] noG) H (wk_mk [] (kR rfl rfl (kR rfl rfl (kR rfl rfl SL.nil))) BL.nil BK.nil) ?_))))
   intro kb7 s6 H
   unfold laws_szShareS_b6 at H
   refine aS (aV (oMov (eR rfl) (oMov (eR rfl) (oLenD eZ (n := a1.length) (List.length_map _) (oLss (eR rfl) eZ (xQ ?_))))))
   rcases oite H with ⟨h8, H⟩ | ⟨h8, H⟩
   ·refine AW.condT eZ (decide_eq_true h8) (AW.skip (TQ.qn (aS (AW.block (aV (oMov (eR rfl) (oMov (eR rfl) ?_)))))))
    obtain ⟨v9, h10, H⟩ := obind H
    refine oAtD (eR rfl) eZ h10 (oLoadBA (es := [(dI v9.Group), (.d (.sl 2 (List.map d_TRange v9.Reads))), (.d (.sl 2 (List.map d_TCell v9.Writes))), (dI v9.Vote)]) eZ rfl (oMov (eR rfl) ?_))
    obtain ⟨v11, h12, H⟩ := obind H
    refine oCall (u := (oI v11)) eC Cl.fn (c_laws_szShare h12) (Evs.cons (eR rfl) (Evs.cons eZ Evs.nil)) (VDs.cons (VD.agg rfl) (VDs.cons VD.plain VDs.nil)) rfl (oMov eZ (xQ (aV (oMov eZ (oLss eZ eC (xQ (AW.weaken (wk_mk [] (kr 25 rfl rfl (kr 1 rfl rfl (kr 0 rfl rfl (kr 5 rfl rfl SL.nil)))) BL.nil BK.nil) ?_)))))))
    rcases oite H with ⟨h13, H⟩ | ⟨h13, H⟩
    ·refine AW.condT eZ (decide_eq_true h13) (aV (oMov eC (xQ (AW.ret (BQ.qr (TQ.qr (TQ.qr (BQ.qr (TQ.qr ?_)))))))))
     cases H
     exact eE rfl rfl
    ·exact AW.condF eZ (decide_eq_false h13) (AW.skip (BQ.qn (TQ.qn (aR (oMov (eR rfl) (oAdd eZ eC (oMov eZ (xNil (TQ.qn ⟨(v11, (IntKind.wrap .i64 (s6.2 + 1))), H, (wk_mk [] (kR rfl rfl (kR rfl rfl (kR rfl rfl SL.nil))) BL.nil BK.nil)⟩)))))))))
   ·exact AW.condF eZ (decide_eq_false h8) (AW.exit (TQ.qe (TQ.qe (BQ.qe (TQ.qn ⟨s6.1, H, (wk_mk [] (kR rfl rfl SL.nil) BL.nil BK.nil)⟩)))))
theorem c_laws_szLetter {a1 : TLetter} {a2 : Int} {r : Int} (H : m_laws_szLetter a1 a2 = some r) : Fn Try.prog k_laws_szLetter (lent [(.agg (d_TLetter a1)), (.int .i64 a2)]) true [(.int .i64 r)] := by
 refine i_laws_szLetter_fn (fle rfl) ?_
 rw [init_mk]
 refine AW.weaken (wk_mk [] (kv 0 (.agg [(dI a1.Kind), (dI a1.Group), (dI a1.Client), (dI a1.Req), (dI a1.Tx), (dI a1.Lo), (dI a1.Hi), (dI a1.Rank), (dI a1.Code), (.d (.bool a1.Yes)), (.d (.sl 2 (List.map d_TRange a1.Reads))), (.d (.sl 2 (List.map d_TCell a1.Writes))), (.d (.sl 2 (List.map d_TCell a1.Cells))), (.d (.sl 4 (List.map d_TShare a1.Shares)))]) rfl rfl (kv 1 (oI a2) rfl rfl SL.nil)) BL.nil BK.nil) ?_
 unfold m_laws_szLetter at H
 unfold i_laws_szLetter
 refine aV (oBox (n := 128) (m := 14) (cs := [(dI a1.Kind), (dI a1.Group), (dI a1.Client), (dI a1.Req), (dI a1.Tx), (dI a1.Lo), (dI a1.Hi), (dI a1.Rank), (dI a1.Code), (.d (.bool a1.Yes)), (.d (.sl 2 (List.map d_TRange a1.Reads))), (.d (.sl 2 (List.map d_TCell a1.Writes))), (.d (.sl 2 (List.map d_TCell a1.Cells))), (.d (.sl 4 (List.map d_TShare a1.Shares)))]) rfl eZ rfl rfl nZ (oMov eC (xQ (aV (oFaddrN (m := 10) (eR rfl) rfl (oLoadV (q := 10) (c := (.d (.sl 2 (List.map d_TRange a1.Reads)))) eZ bZ rfl rfl (oMov (eR rfl) ?_)))))))
 obtain ⟨v3, h4, H⟩ := obind H
 refine oCall (u := (oI v3)) eC Cl.fn (c_laws_szRangeS h4) (Evs.cons (eR rfl) (Evs.cons eZ Evs.nil)) (VDs.cons VD.plain (VDs.cons VD.plain VDs.nil)) rfl (oMov eZ (xQ (aS (aV (oMov eZ (oLss eZ eC (xQ ?_)))))))
 rcases oite H with ⟨h5, H⟩ | ⟨h5, H⟩
 ·refine AW.condT eZ (decide_eq_true h5) (aV (oMov eC (xQ (AW.ret (TQ.qr ?_)))))
  cases H
  exact eE rfl rfl
 ·refine AW.condF eZ (decide_eq_false h5) (AW.skip (TQ.qn (aV (oFaddrN (m := 11) (eR rfl) rfl (oLoadV (q := 11) (c := (.d (.sl 2 (List.map d_TCell a1.Writes)))) eZ bZ rfl rfl (oMov (eR rfl) ?_))))))
  obtain ⟨v6, h7, H⟩ := obind H
  refine oCall (u := (oI v6)) eC Cl.fn (c_laws_szWriteS h7) (Evs.cons (eR rfl) (Evs.cons eZ Evs.nil)) (VDs.cons VD.plain (VDs.cons VD.plain VDs.nil)) rfl (oMov eZ (xQ (AW.weaken (wk_mk [] (kr 1 rfl rfl (kr 2 rfl rfl SL.nil)) (BL.keep rfl BL.nil) (BK.cons (n := 128) rfl bZ rfl rfl BK.nil)) (aS (aV (oMov eZ (oLss eZ eC (xQ ?_))))))))
  rcases oite H with ⟨h8, H⟩ | ⟨h8, H⟩
  ·refine AW.condT eZ (decide_eq_true h8) (aV (oMov eC (xQ (AW.ret (TQ.qr ?_)))))
   cases H
   exact eE rfl rfl
  ·refine AW.condF eZ (decide_eq_false h8) (AW.skip (TQ.qn (aV (oFaddrN (m := 12) (eR rfl) rfl (oLoadV (q := 12) (c := (.d (.sl 2 (List.map d_TCell a1.Cells)))) eZ bZ rfl rfl (oMov (eR rfl) ?_))))))
   obtain ⟨v9, h10, H⟩ := obind H
   refine oCall (u := (oI v9)) eC Cl.fn (c_laws_szCellS h10) (Evs.cons (eR rfl) (Evs.cons eZ Evs.nil)) (VDs.cons VD.plain (VDs.cons VD.plain VDs.nil)) rfl (oMov eZ (xQ (aS (aV (oMov eZ (oLss eZ eC (xQ ?_)))))))
   rcases oite H with ⟨h11, H⟩ | ⟨h11, H⟩
   ·refine AW.condT eZ (decide_eq_true h11) (aV (oMov eC (xQ (AW.ret (TQ.qr ?_)))))
    cases H
    exact eE rfl rfl
   ·refine AW.condF eZ (decide_eq_false h11) (AW.skip (TQ.qn (aV (oFaddrN (m := 13) (eR rfl) rfl (oLoadV (q := 13) (c := (.d (.sl 4 (List.map d_TShare a1.Shares)))) eZ bZ rfl rfl (oMov (eR rfl) ?_))))))
    obtain ⟨v12, h13, H⟩ := obind H
    refine oCall (u := (oI v12)) eC Cl.fn (c_laws_szShareS h13) (Evs.cons (eR rfl) (Evs.cons eZ Evs.nil)) (VDs.cons VD.plain (VDs.cons VD.plain VDs.nil)) rfl (oMov eZ (xQ (AW.weaken (wk_mk [128] (kr 1 rfl rfl SL.nil) (BL.drop rfl BL.nil) BK.nil) (aS (aV (oMov eZ (oLss eZ eC (xQ ?_))))))))
    rcases oite H with ⟨h14, H⟩ | ⟨h14, H⟩
    ·refine AW.condT eZ (decide_eq_true h14) (aV (oMov eC (xQ (AW.ret (TQ.qr ?_)))))
     cases H
     exact eE rfl rfl
    ·refine AW.condF eZ (decide_eq_false h14) (AW.skip (TQ.qn (aV (oMov (eR rfl) (oMov eZ (xQ (AW.ret ?_)))))))
     cases H
     exact eE rfl rfl
theorem c_laws_toRange {a1 : TRange} {r : TRange} (H : m_laws_toRange a1 = some r) : Fn Try.prog k_laws_toRange (lent [(.agg (d_TRange a1))]) true [(.agg (d_TRange r))] := by
 refine i_laws_toRange_fn (fle rfl) ?_
 rw [init_mk]
 refine AW.weaken (wk_mk [] (kv 0 (.agg [(dI a1.Lo), (dI a1.Hi)]) rfl rfl SL.nil) BL.nil BK.nil) ?_
 unfold m_laws_toRange at H
 unfold i_laws_toRange
 refine aV (oBox (n := 64) (m := 2) (cs := [(dI a1.Lo), (dI a1.Hi)]) rfl eZ rfl rfl nZ (oVar (n := 128) (m := 2) rfl rfl (nS rfl nZ) (xQ (aV (oVar (n := 192) (m := 2) rfl rfl (nS rfl (nS rfl nZ)) (xQ (aV (oFaddrN (m := 0) (eR rfl) rfl (oLoadV (q := 0) (c := (dI a1.Lo)) eZ (bS rfl (bS rfl bZ)) rfl rfl (oFaddrN (m := 0) (eR rfl) rfl (oStoreV (es := [(dI a1.Lo), (dI 0)]) eZ (eR rfl) rfl rfl bZ rfl (xQ (aV (oFaddrN (m := 1) (eR rfl) rfl (oLoadV (q := 1) (c := (dI a1.Hi)) eZ (bS rfl (bS rfl (bS rfl bZ))) rfl rfl (oFaddrN (m := 1) (eR rfl) rfl (oStoreV (es := [(dI a1.Lo), (dI a1.Hi)]) eZ (eR rfl) rfl rfl bZ rfl (xQ (aV (oLoadVA (es := [(dI a1.Lo), (dI a1.Hi)]) (eR rfl) bZ rfl (oStoreV (es := [(dI a1.Lo), (dI a1.Hi)]) (eR rfl) eZ rfl rfl (bS rfl (bS rfl (bS rfl bZ))) rfl (xQ (AW.ret ?_)))))))))))))))))))))))
 cases H
 exact endsR (RL.cons (RV.cellA (es := [(dI a1.Lo), (dI a1.Hi)]) (eR rfl) bZ rfl) (VO.agg (ds := [(.int .i64 a1.Lo), (.int .i64 a1.Hi)]) rfl rfl) RL.nil) List.nodup_nil
theorem c_laws_toRangeS {a1 : (List TRange)} {r : (List TRange)} (H : m_laws_toRangeS a1 = some r) : Fn Try.prog k_laws_toRangeS (lent [(.sl 2 (List.map d_TRange a1))]) true [(.sl 2 (List.map d_TRange r))] := by
 refine i_laws_toRangeS_fn (fle rfl) ?_
 rw [init_mk]
 refine AW.weaken (wk_mk [] (kv 0 (.one (.d (.sl 2 (List.map d_TRange a1)))) rfl rfl SL.nil) BL.nil BK.nil) ?_
 unfold m_laws_toRangeS at H
 unfold i_laws_toRangeS
 refine aV (oMov eC (xQ (aV (oMov (eR rfl) (oLenD eZ (n := a1.length) (List.length_map _) ?_)))))
 obtain ⟨h2, H⟩ := oguard H
 refine oMksl (f := d_TRange) (zv := (TRange.mk 0 0)) (own := true) (m := 448) (q := (Int.toNat (a1.length : Int))) rfl rfl eZ eZ h2.1 h2.2 rfl (by decide) rfl nZ (oMov eZ (xQ (AW.seqJ (fun t3 : (List TRange) => laws_toRangeS_j3 t3 = some r) (fun t3 => mk [(3, (.one (.sl 320128 0 t3.length)))] [(320128, (.data 2 (List.map d_TRange t3) true none))] noG) ?_ ?_)))
 ·intro t3 H
  unfold laws_toRangeS_j3 at H
  refine aV (oMov eZ (oMov eZ (xQ (AW.ret ?_))))
  cases H
  exact endsR (RL.cons (RV.tmp eZ) (VO.sl bZ (List.length_map _) (allFlat fun _ => rfl)) RL.nil) (by decide)
 ·refine aV (oMov eC (xQ (AW.block (AW.iter (fun s5 : ((List TRange) × Int) => mk [(0, (.one (.d (.sl 2 (List.map d_TRange a1))))), (3, (.one (.sl 320192 0 s5.1.length))), (4, (oI s5.2))] [(320192, (.data 2 (List.map d_TRange s5.1) true none))] noG) H ((wk_mk [] (kR rfl rfl (SL.cons (eR rfl) rfl (VWk.one (CWk.len (by first | (simp; done) | (simp; omega) | omega))) (kR rfl rfl SL.nil))) (BL.keep rfl BL.nil) (BK.cons rfl bZ rfl rfl BK.nil)).trans (wk_ren 448 320192 rfl rfl (nS rfl nZ))) ?_))))
  intro kb6 s5 H
  unfold laws_toRangeS_b5 at H
  refine aS (aV (oMov (eR rfl) (oMov (eR rfl) (oLenD eZ (n := a1.length) (List.length_map _) (oLss (eR rfl) eZ (xQ ?_))))))
  rcases oite H with ⟨h7, H⟩ | ⟨h7, H⟩
  ·refine AW.condT eZ (decide_eq_true h7) (AW.skip (TQ.qn (aS (AW.block (aR (oMov (eR rfl) (oMov (eR rfl) (oMov (eR rfl) (oMov (eR rfl) ?_)))))))))
   obtain ⟨v8, h9, H⟩ := obind H
   refine oAtD (eR rfl) eZ h9 (oLoadBA (es := [(dI v8.Lo), (dI v8.Hi)]) eZ rfl ?_)
   obtain ⟨v10, h11, H⟩ := obind H
   refine oCall (u := (.agg [(dI v10.Lo), (dI v10.Hi)])) eC Cl.fn (c_laws_toRange h11) (Evs.cons eZ Evs.nil) (VDs.cons (VD.agg rfl) VDs.nil) rfl ?_
   obtain ⟨v12, h13, H⟩ := obind H
   exact oAtN (eR rfl) (eR rfl) bZ rfl h13 (oStoreD (t := v12) (t' := v10) (es := [(.int .i64 v10.Lo), (.int .i64 v10.Hi)]) eZ (eR rfl) rfl rfl bZ (idx_at h13) rfl rfl (xNil (BQ.qn (TQ.qn (aR (oMov (eR rfl) (oAdd eZ eC (oMov eZ (xNil (TQ.qn ⟨(s5.1.set (Int.toNat s5.2) v10, (IntKind.wrap .i64 (s5.2 + 1))), H, (wk_mk [] (kR rfl rfl (SL.cons (eR rfl) rfl (VWk.one (CWk.len (by first | (simp; done) | (simp; omega) | omega))) (kR rfl rfl SL.nil))) (BL.keep rfl (BL.keep rfl BL.nil)) (BK.cons rfl bZ rfl rfl BK.nil))⟩))))))))))
  ·exact AW.condF eZ (decide_eq_false h7) (AW.exit (TQ.qe (TQ.qe (BQ.qe (TQ.qn ⟨s5.1, H, ((wk_mk [] (kR rfl rfl SL.nil) (BL.keep rfl BL.nil) (BK.cons rfl bZ rfl rfl BK.nil)).trans (wk_ren 320192 320128 rfl rfl (nS rfl nZ)))⟩)))))
theorem c_laws_toWrite {a1 : TCell} {r : TCell} (H : m_laws_toWrite a1 = some r) : Fn Try.prog k_laws_toWrite (lent [(.agg (d_TCell a1))]) true [(.agg (d_TCell r))] := by
 refine i_laws_toWrite_fn (fle rfl) ?_
 rw [init_mk]
 refine AW.weaken (wk_mk [] (kv 0 (.agg [(dI a1.Key), (dI a1.Value)]) rfl rfl SL.nil) BL.nil BK.nil) ?_
 unfold m_laws_toWrite at H
 unfold i_laws_toWrite
 refine aV (oBox (n := 64) (m := 2) (cs := [(dI a1.Key), (dI a1.Value)]) rfl eZ rfl rfl nZ (oVar (n := 128) (m := 2) rfl rfl (nS rfl nZ) (xQ (aV (oVar (n := 192) (m := 2) rfl rfl (nS rfl (nS rfl nZ)) (xQ (aV (oFaddrN (m := 0) (eR rfl) rfl (oLoadV (q := 0) (c := (dI a1.Key)) eZ (bS rfl (bS rfl bZ)) rfl rfl (oFaddrN (m := 0) (eR rfl) rfl (oStoreV (es := [(dI a1.Key), (dI 0)]) eZ (eR rfl) rfl rfl bZ rfl (xQ (aV (oFaddrN (m := 1) (eR rfl) rfl (oLoadV (q := 1) (c := (dI a1.Value)) eZ (bS rfl (bS rfl (bS rfl bZ))) rfl rfl (oFaddrN (m := 1) (eR rfl) rfl (oStoreV (es := [(dI a1.Key), (dI a1.Value)]) eZ (eR rfl) rfl rfl bZ rfl (xQ (aV (oLoadVA (es := [(dI a1.Key), (dI a1.Value)]) (eR rfl) bZ rfl (oStoreV (es := [(dI a1.Key), (dI a1.Value)]) (eR rfl) eZ rfl rfl (bS rfl (bS rfl (bS rfl bZ))) rfl (xQ (AW.ret ?_)))))))))))))))))))))))
 cases H
 exact endsR (RL.cons (RV.cellA (es := [(dI a1.Key), (dI a1.Value)]) (eR rfl) bZ rfl) (VO.agg (ds := [(.int .i64 a1.Key), (.int .i64 a1.Value)]) rfl rfl) RL.nil) List.nodup_nil
theorem c_laws_toWriteS {a1 : (List TCell)} {r : (List TCell)} (H : m_laws_toWriteS a1 = some r) : Fn Try.prog k_laws_toWriteS (lent [(.sl 2 (List.map d_TCell a1))]) true [(.sl 2 (List.map d_TCell r))] := by
 refine i_laws_toWriteS_fn (fle rfl) ?_
 rw [init_mk]
 refine AW.weaken (wk_mk [] (kv 0 (.one (.d (.sl 2 (List.map d_TCell a1)))) rfl rfl SL.nil) BL.nil BK.nil) ?_
 unfold m_laws_toWriteS at H
 unfold i_laws_toWriteS
 refine aV (oMov eC (xQ (aV (oMov (eR rfl) (oLenD eZ (n := a1.length) (List.length_map _) ?_)))))
 obtain ⟨h2, H⟩ := oguard H
 refine oMksl (f := d_TCell) (zv := (TCell.mk 0 0)) (own := true) (m := 448) (q := (Int.toNat (a1.length : Int))) rfl rfl eZ eZ h2.1 h2.2 rfl (by decide) rfl nZ (oMov eZ (xQ (AW.seqJ (fun t3 : (List TCell) => laws_toWriteS_j3 t3 = some r) (fun t3 => mk [(3, (.one (.sl 320128 0 t3.length)))] [(320128, (.data 2 (List.map d_TCell t3) true none))] noG) ?_ ?_)))
 ·intro t3 H
  unfold laws_toWriteS_j3 at H
  refine aV (oMov eZ (oMov eZ (xQ (AW.ret ?_))))
  cases H
  exact endsR (RL.cons (RV.tmp eZ) (VO.sl bZ (List.length_map _) (allFlat fun _ => rfl)) RL.nil) (by decide)
 ·refine aV (oMov eC (xQ (AW.block (AW.iter (fun s5 : ((List TCell) × Int) => mk [(0, (.one (.d (.sl 2 (List.map d_TCell a1))))), (3, (.one (.sl 320192 0 s5.1.length))), (4, (oI s5.2))] [(320192, (.data 2 (List.map d_TCell s5.1) true none))] noG) H ((wk_mk [] (kR rfl rfl (SL.cons (eR rfl) rfl (VWk.one (CWk.len (by first | (simp; done) | (simp; omega) | omega))) (kR rfl rfl SL.nil))) (BL.keep rfl BL.nil) (BK.cons rfl bZ rfl rfl BK.nil)).trans (wk_ren 448 320192 rfl rfl (nS rfl nZ))) ?_))))
  intro kb6 s5 H
  unfold laws_toWriteS_b5 at H
  refine aS (aV (oMov (eR rfl) (oMov (eR rfl) (oLenD eZ (n := a1.length) (List.length_map _) (oLss (eR rfl) eZ (xQ ?_))))))
  rcases oite H with ⟨h7, H⟩ | ⟨h7, H⟩
  ·refine AW.condT eZ (decide_eq_true h7) (AW.skip (TQ.qn (aS (AW.block (aR (oMov (eR rfl) (oMov (eR rfl) (oMov (eR rfl) (oMov (eR rfl) ?_)))))))))
   obtain ⟨v8, h9, H⟩ := obind H
   refine oAtD (eR rfl) eZ h9 (oLoadBA (es := [(dI v8.Key), (dI v8.Value)]) eZ rfl ?_)
   obtain ⟨v10, h11, H⟩ := obind H
   refine oCall (u := (.agg [(dI v10.Key), (dI v10.Value)])) eC Cl.fn (c_laws_toWrite h11) (Evs.cons eZ Evs.nil) (VDs.cons (VD.agg rfl) VDs.nil) rfl ?_
   obtain ⟨v12, h13, H⟩ := obind H
   exact oAtN (eR rfl) (eR rfl) bZ rfl h13 (oStoreD (t := v12) (t' := v10) (es := [(.int .i64 v10.Key), (.int .i64 v10.Value)]) eZ (eR rfl) rfl rfl bZ (idx_at h13) rfl rfl (xNil (BQ.qn (TQ.qn (aR (oMov (eR rfl) (oAdd eZ eC (oMov eZ (xNil (TQ.qn ⟨(s5.1.set (Int.toNat s5.2) v10, (IntKind.wrap .i64 (s5.2 + 1))), H, (wk_mk [] (kR rfl rfl (SL.cons (eR rfl) rfl (VWk.one (CWk.len (by first | (simp; done) | (simp; omega) | omega))) (kR rfl rfl SL.nil))) (BL.keep rfl (BL.keep rfl BL.nil)) (BK.cons rfl bZ rfl rfl BK.nil))⟩))))))))))
  ·exact AW.condF eZ (decide_eq_false h7) (AW.exit (TQ.qe (TQ.qe (BQ.qe (TQ.qn ⟨s5.1, H, ((wk_mk [] (kR rfl rfl SL.nil) (BL.keep rfl BL.nil) (BK.cons rfl bZ rfl rfl BK.nil)).trans (wk_ren 320192 320128 rfl rfl (nS rfl nZ)))⟩)))))
theorem c_laws_toCell {a1 : TCell} {r : TCell} (H : m_laws_toCell a1 = some r) : Fn Try.prog k_laws_toCell (lent [(.agg (d_TCell a1))]) true [(.agg (d_TCell r))] := by
 refine i_laws_toCell_fn (fle rfl) ?_
 rw [init_mk]
 refine AW.weaken (wk_mk [] (kv 0 (.agg [(dI a1.Key), (dI a1.Value)]) rfl rfl SL.nil) BL.nil BK.nil) ?_
 unfold m_laws_toCell at H
 unfold i_laws_toCell
 refine aV (oBox (n := 64) (m := 2) (cs := [(dI a1.Key), (dI a1.Value)]) rfl eZ rfl rfl nZ (oVar (n := 128) (m := 2) rfl rfl (nS rfl nZ) (xQ (aV (oVar (n := 192) (m := 2) rfl rfl (nS rfl (nS rfl nZ)) (xQ (aV (oFaddrN (m := 0) (eR rfl) rfl (oLoadV (q := 0) (c := (dI a1.Key)) eZ (bS rfl (bS rfl bZ)) rfl rfl (oFaddrN (m := 0) (eR rfl) rfl (oStoreV (es := [(dI a1.Key), (dI 0)]) eZ (eR rfl) rfl rfl bZ rfl (xQ (aV (oFaddrN (m := 1) (eR rfl) rfl (oLoadV (q := 1) (c := (dI a1.Value)) eZ (bS rfl (bS rfl (bS rfl bZ))) rfl rfl (oFaddrN (m := 1) (eR rfl) rfl (oStoreV (es := [(dI a1.Key), (dI a1.Value)]) eZ (eR rfl) rfl rfl bZ rfl (xQ (aV (oLoadVA (es := [(dI a1.Key), (dI a1.Value)]) (eR rfl) bZ rfl (oStoreV (es := [(dI a1.Key), (dI a1.Value)]) (eR rfl) eZ rfl rfl (bS rfl (bS rfl (bS rfl bZ))) rfl (xQ (AW.ret ?_)))))))))))))))))))))))
 cases H
 exact endsR (RL.cons (RV.cellA (es := [(dI a1.Key), (dI a1.Value)]) (eR rfl) bZ rfl) (VO.agg (ds := [(.int .i64 a1.Key), (.int .i64 a1.Value)]) rfl rfl) RL.nil) List.nodup_nil
theorem c_laws_toCellS {a1 : (List TCell)} {r : (List TCell)} (H : m_laws_toCellS a1 = some r) : Fn Try.prog k_laws_toCellS (lent [(.sl 2 (List.map d_TCell a1))]) true [(.sl 2 (List.map d_TCell r))] := by
 refine i_laws_toCellS_fn (fle rfl) ?_
 rw [init_mk]
 refine AW.weaken (wk_mk [] (kv 0 (.one (.d (.sl 2 (List.map d_TCell a1)))) rfl rfl SL.nil) BL.nil BK.nil) ?_
 unfold m_laws_toCellS at H
 unfold i_laws_toCellS
 refine aV (oMov eC (xQ (aV (oMov (eR rfl) (oLenD eZ (n := a1.length) (List.length_map _) ?_)))))
 obtain ⟨h2, H⟩ := oguard H
 refine oMksl (f := d_TCell) (zv := (TCell.mk 0 0)) (own := true) (m := 448) (q := (Int.toNat (a1.length : Int))) rfl rfl eZ eZ h2.1 h2.2 rfl (by decide) rfl nZ (oMov eZ (xQ (AW.seqJ (fun t3 : (List TCell) => laws_toCellS_j3 t3 = some r) (fun t3 => mk [(3, (.one (.sl 320128 0 t3.length)))] [(320128, (.data 2 (List.map d_TCell t3) true none))] noG) ?_ ?_)))
 ·intro t3 H
  unfold laws_toCellS_j3 at H
  refine aV (oMov eZ (oMov eZ (xQ (AW.ret ?_))))
  cases H
  exact endsR (RL.cons (RV.tmp eZ) (VO.sl bZ (List.length_map _) (allFlat fun _ => rfl)) RL.nil) (by decide)
 ·refine aV (oMov eC (xQ (AW.block (AW.iter (fun s5 : ((List TCell) × Int) => mk [(0, (.one (.d (.sl 2 (List.map d_TCell a1))))), (3, (.one (.sl 320192 0 s5.1.length))), (4, (oI s5.2))] [(320192, (.data 2 (List.map d_TCell s5.1) true none))] noG) H ((wk_mk [] (kR rfl rfl (SL.cons (eR rfl) rfl (VWk.one (CWk.len (by first | (simp; done) | (simp; omega) | omega))) (kR rfl rfl SL.nil))) (BL.keep rfl BL.nil) (BK.cons rfl bZ rfl rfl BK.nil)).trans (wk_ren 448 320192 rfl rfl (nS rfl nZ))) ?_))))
  intro kb6 s5 H
  unfold laws_toCellS_b5 at H
  refine aS (aV (oMov (eR rfl) (oMov (eR rfl) (oLenD eZ (n := a1.length) (List.length_map _) (oLss (eR rfl) eZ (xQ ?_))))))
  rcases oite H with ⟨h7, H⟩ | ⟨h7, H⟩
  ·refine AW.condT eZ (decide_eq_true h7) (AW.skip (TQ.qn (aS (AW.block (aR (oMov (eR rfl) (oMov (eR rfl) (oMov (eR rfl) (oMov (eR rfl) ?_)))))))))
   obtain ⟨v8, h9, H⟩ := obind H
   refine oAtD (eR rfl) eZ h9 (oLoadBA (es := [(dI v8.Key), (dI v8.Value)]) eZ rfl ?_)
   obtain ⟨v10, h11, H⟩ := obind H
   refine oCall (u := (.agg [(dI v10.Key), (dI v10.Value)])) eC Cl.fn (c_laws_toCell h11) (Evs.cons eZ Evs.nil) (VDs.cons (VD.agg rfl) VDs.nil) rfl ?_
   obtain ⟨v12, h13, H⟩ := obind H
   exact oAtN (eR rfl) (eR rfl) bZ rfl h13 (oStoreD (t := v12) (t' := v10) (es := [(.int .i64 v10.Key), (.int .i64 v10.Value)]) eZ (eR rfl) rfl rfl bZ (idx_at h13) rfl rfl (xNil (BQ.qn (TQ.qn (aR (oMov (eR rfl) (oAdd eZ eC (oMov eZ (xNil (TQ.qn ⟨(s5.1.set (Int.toNat s5.2) v10, (IntKind.wrap .i64 (s5.2 + 1))), H, (wk_mk [] (kR rfl rfl (SL.cons (eR rfl) rfl (VWk.one (CWk.len (by first | (simp; done) | (simp; omega) | omega))) (kR rfl rfl SL.nil))) (BL.keep rfl (BL.keep rfl BL.nil)) (BK.cons rfl bZ rfl rfl BK.nil))⟩))))))))))
  ·exact AW.condF eZ (decide_eq_false h7) (AW.exit (TQ.qe (TQ.qe (BQ.qe (TQ.qn ⟨s5.1, H, ((wk_mk [] (kR rfl rfl SL.nil) (BL.keep rfl BL.nil) (BK.cons rfl bZ rfl rfl BK.nil)).trans (wk_ren 320192 320128 rfl rfl (nS rfl nZ)))⟩)))))
theorem c_laws_toShare {a1 : TShare} {r : TShare} (H : m_laws_toShare a1 = some r) : Fn Try.prog k_laws_toShare (lent [(.agg (d_TShare a1))]) true [(.agg (d_TShare r))] := by
 refine i_laws_toShare_fn (fle rfl) ?_
 rw [init_mk]
 refine AW.weaken (t := mk [(0, (.agg [(dI a1.Group), (.d (.sl 2 (List.map d_TRange a1.Reads))), (.d (.sl 2 (List.map d_TCell a1.Writes))), (dI a1.Vote)]))] [] (lk [])) (wk_mk [] (kv 0 (.agg [(dI a1.Group), (.d (.sl 2 (List.map d_TRange a1.Reads))), (.d (.sl 2 (List.map d_TCell a1.Writes))), (dI a1.Vote)]) rfl rfl SL.nil) BL.nil BK.nil) ?_
 unfold m_laws_toShare at H
 unfold i_laws_toShare
 refine aV (oBox (n := 64) (m := 4) (cs := [(dI a1.Group), (.d (.sl 2 (List.map d_TRange a1.Reads))), (.d (.sl 2 (List.map d_TCell a1.Writes))), (dI a1.Vote)]) rfl eZ rfl rfl nZ (oVar (n := 128) (m := 4) rfl rfl (nS rfl nZ) (xQ (aV (oVar (n := 192) (m := 4) rfl rfl (nS rfl (nS rfl nZ)) (xQ (aV (oFaddrN (m := 0) (eR rfl) rfl (oLoadV (q := 0) (c := (dI a1.Group)) eZ (bS rfl (bS rfl bZ)) rfl rfl (oFaddrN (m := 0) (eR rfl) rfl (oStoreV (es := [(dI a1.Group), .zs, .zs, (dI 0)]) eZ (eR rfl) rfl rfl bZ rfl (xQ (aS (AW.regm (rmOne (oFaddrN (m := 1) (eR rfl) rfl (xNil (rmOne (oLoadV (q := 1) (c := (.d (.sl 2 (List.map d_TRange a1.Reads)))) eZ (bS rfl (bS rfl (bS rfl bZ))) rfl rfl (xNil (rmOne ?_)))))))))))))))))))))
 obtain ⟨v2, h3, H⟩ := obind H
 refine oCallN (u := (.one (.sl 576 0 v2.length))) (bs := [(576, (.data 2 (List.map d_TRange v2) true none))]) eC Cl.fn (c_laws_toRangeS h3) (Evs.cons eZ Evs.nil) (VDs.cons VD.plain VDs.nil) (by simp [bindR, bindV, bindVs, bindC, bindCs]) rfl (fC (nS rfl (nS rfl (nS rfl (nS rfl nZ)))) rfl (fC (nS rfl (nS rfl (nS rfl (nS rfl nZ)))) rfl fN)) (xNil (rmOne (oFaddrN (m := 1) (eR rfl) rfl (xNil (rmOne (oStoreV (es := [(dI a1.Group), (.sl 576 0 v2.length), .zs, (dI 0)]) eZ (eR rfl) rfl rfl (bS rfl bZ) rfl (xNil (rmRest (xQ (aS (AW.regm (rmOne (oFaddrN (m := 2) (eR rfl) rfl (xNil (rmOne (oLoadV (q := 2) (c := (.d (.sl 2 (List.map d_TCell a1.Writes)))) eZ (bS rfl (bS rfl (bS rfl (bS rfl (bS rfl bZ))))) rfl rfl (xNil (rmOne ?_))))))))))))))))))
 obtain ⟨v4, h5, H⟩ := obind H
 refine oCallN (u := (.one (.sl 832 0 v4.length))) (bs := [(832, (.data 2 (List.map d_TCell v4) true none))]) eC Cl.fn (c_laws_toWriteS h5) (Evs.cons eZ Evs.nil) (VDs.cons VD.plain VDs.nil) (by simp [bindR, bindV, bindVs, bindC, bindCs]) rfl (fC (nS rfl (nS rfl (nS rfl (nS rfl (nS rfl (nS rfl nZ)))))) rfl (fC (nS rfl (nS rfl (nS rfl (nS rfl (nS rfl (nS rfl nZ)))))) rfl fN)) (xNil (rmOne (oFaddrN (m := 2) (eR rfl) rfl (xNil (rmOne (oStoreV (es := [(dI a1.Group), (.sl 576 0 v2.length), (.sl 832 0 v4.length), (dI 0)]) eZ (eR rfl) rfl rfl (bS rfl bZ) rfl (xNil (rmRest (xQ (aV (oFaddrN (m := 3) (eR rfl) rfl (oLoadV (q := 3) (c := (dI a1.Vote)) eZ (bS rfl (bS rfl (bS rfl (bS rfl (bS rfl (bS rfl (bS rfl bZ))))))) rfl rfl (oFaddrN (m := 3) (eR rfl) rfl (oStoreV (es := [(dI a1.Group), (.sl 576 0 v2.length), (.sl 832 0 v4.length), (dI a1.Vote)]) eZ (eR rfl) rfl rfl bZ rfl (xQ (AW.weaken (wk_mkG [64] (kr 3 rfl rfl (kr 2 rfl rfl SL.nil)) (BL.keep rfl (BL.keep rfl (BL.keep rfl (BL.keep rfl (BL.keep rfl (BL.keep rfl (BL.keep rfl (BL.keep rfl (BL.drop rfl BL.nil))))))))) (BK.cons (n := 192) rfl bZ rfl rfl (BK.cons (n := 832) rfl (bS rfl (bS rfl bZ)) rfl rfl (BK.cons (n := 576) rfl (bS rfl (bS rfl (bS rfl (bS rfl bZ)))) rfl rfl (BK.cons (n := 128) rfl (bS rfl (bS rfl (bS rfl (bS rfl (bS rfl (bS rfl (bS rfl bZ))))))) rfl rfl BK.nil)))) GK.nil) (aS (AW.regm (rmOne (oLoadVA (es := [(dI a1.Group), (.sl 576 0 v2.length), (.sl 832 0 v4.length), (dI a1.Vote)]) eZ bZ rfl (xNil (rmOne (oStoreV (es := [(dI a1.Group), (.sl 576 0 v2.length), (.sl 832 0 v4.length), (dI a1.Vote)]) (eR rfl) eZ rfl rfl (bS rfl (bS rfl (bS rfl bZ))) rfl (xNil (rmRest (xQ (AW.ret ?_)))))))))))))))))))))))))))
 cases H
 exact endsR (RL.cons (RV.cellA (es := [(dI a1.Group), (.sl 576 0 v2.length), (.sl 832 0 v4.length), (dI a1.Vote)]) (eR rfl) bZ rfl) (VO.aggs (VOs.cons (VO.flat rfl) (VOs.cons (VO.sl (bS rfl (bS rfl (bS rfl bZ))) (List.length_map _) (allFlat fun _ => rfl)) (VOs.cons (VO.sl (bS rfl (bS rfl bZ)) (List.length_map _) (allFlat fun _ => rfl)) (VOs.cons (VO.flat rfl) VOs.nil))))) RL.nil) (by decide)
theorem c_laws_toShareS {a1 : (List TShare)} {r : (List TShare)} (H : m_laws_toShareS a1 = some r) : Fn Try.prog k_laws_toShareS (lent [(.sl 4 (List.map d_TShare a1))]) true [(.sl 4 (List.map d_TShare r))] := by
 refine i_laws_toShareS_fn (fle rfl) ?_
 rw [init_mk]
 refine AW.weaken (t := mk [(0, (.one (.d (.sl 4 (List.map d_TShare a1)))))] [] (lk [])) (wk_mk [] (kv 0 (.one (.d (.sl 4 (List.map d_TShare a1)))) rfl rfl SL.nil) BL.nil BK.nil) ?_
 unfold m_laws_toShareS at H
 unfold i_laws_toShareS
 refine aV (oMov eC (xQ (aS (AW.regm (rmOne (oMov (eR rfl) (xNil (rmOne (oLenD eZ (n := a1.length) (List.length_map _) (xNil ?_))))))))))
 obtain ⟨h2, H⟩ := oguard H
 refine rmMksl (f := d_TShare) (zv := (TShare.mk 0 ([] : (List TRange)) ([] : (List TCell)) 0)) (m := 448) (q := (Int.toNat (a1.length : Int))) rfl eZ eZ h2.1 h2.2 rfl (by decide) rfl nZ (rmRest (oMov eZ (xQ (AW.seqJ (fun t3 : (List TShare) => laws_toShareS_j3 t3 = some r) (fun t3 => mk [(3, (.one (.sl 320128 0 t3.length)))] [(320128, (.data 4 (List.map d_TShare t3) true none))] (lk [])) ?_ ?_))))
 ·intro t3 H
  unfold laws_toShareS_j3 at H
  refine aV (oMov eZ (oMov eZ (xQ (AW.ret ?_))))
  cases H
  exact endsR (RL.cons (RV.tmp eZ) (VO.sln bZ (List.length_map _) rfl) RL.nil) (by decide)
 ·refine aV (oMov eC (xQ (AW.block (AW.iter (fun s5 : ((List TShare) × Int) => mk [(0, (.one (.d (.sl 4 (List.map d_TShare a1))))), (3, (.one (.sl 320192 0 s5.1.length))), (4, (oI s5.2))] [(320192, (.data 4 (List.map d_TShare s5.1) true none))] (lk [])) H ((wk_mkG [] (kR rfl rfl (SL.cons (eR rfl) rfl (VWk.one (CWk.len (by first | (simp; done) | (simp; omega) | omega))) (kR rfl rfl SL.nil))) (BL.keep rfl BL.nil) (BK.cons rfl bZ rfl rfl BK.nil) GK.nil).trans (wk_renG 448 320192 rfl rfl (nS rfl nZ) GR.nil)) ?_))))
  intro kb6 s5 H
  unfold laws_toShareS_b5 at H
  refine aS (aV (oMov (eR rfl) (oMov (eR rfl) (oLenD eZ (n := a1.length) (List.length_map _) (oLss (eR rfl) eZ (xQ ?_))))))
  rcases oite H with ⟨h7, H⟩ | ⟨h7, H⟩
  ·refine AW.condT eZ (decide_eq_true h7) (AW.skip (TQ.qn (aS (AW.block (AW.regm (rmOne (oMov (eR rfl) (xNil (rmOne (oMov (eR rfl) (xNil (rmOne (oMov (eR rfl) (xNil (rmOne (oMov (eR rfl) (xNil (rmOne ?_))))))))))))))))))
   obtain ⟨v8, h9, H⟩ := obind H
   refine oAtD (eR rfl) eZ h9 (xNil (rmOne (oLoadBA (es := [(dI v8.Group), (.d (.sl 2 (List.map d_TRange v8.Reads))), (.d (.sl 2 (List.map d_TCell v8.Writes))), (dI v8.Vote)]) eZ rfl (xNil (rmOne ?_)))))
   obtain ⟨v10, h11, H⟩ := obind H
   refine oCallN (u := (.agg [(dI v10.Group), (.sl 1281 0 v10.Reads.length), (.sl 1282 0 v10.Writes.length), (dI v10.Vote)])) (bs := [(1281, (.data 2 (List.map d_TRange v10.Reads) true none)), (1282, (.data 2 (List.map d_TCell v10.Writes) true none))]) eC Cl.fn (c_laws_toShare h11) (Evs.cons eZ Evs.nil) (VDs.cons (VD.agg rfl) VDs.nil) (by simp [bindR, bindV, bindVs, bindC, bindCs]) rfl (fC (nS rfl nZ) rfl (fC (nS rfl nZ) rfl (fC (nS rfl nZ) rfl fN))) (xNil (rmOne ?_))
   obtain ⟨v12, h13, H⟩ := obind H
   exact oAtN (eR rfl) (eR rfl) (bS rfl (bS rfl bZ)) rfl h13 (xNil (rmStoreAbs (f := d_TShare) (t := v12) (t' := v10) (ds := [(.int .i64 v10.Group), (.sl 2 (List.map d_TRange v10.Reads)), (.sl 2 (List.map d_TCell v10.Writes)), (.int .i64 v10.Vote)]) (ns := [1281, 1282]) eZ (eR rfl) rfl rfl (bS rfl (bS rfl bZ)) (idx_at h13) (VOs.cons (VO.flat rfl) (VOs.cons (VO.sl (bS rfl bZ) (List.length_map _) (allFlat fun _ => rfl)) (VOs.cons (VO.sl bZ (List.length_map _) (allFlat fun _ => rfl)) (VOs.cons (VO.flat rfl) VOs.nil)))) rfl rfl (erL.cons (v' := (.one (.ptr (.nm 320192 (Int.toNat s5.2) 0)))) rfl (erL.cons (v' := (.agg [(dI v10.Group), .any, .any, (dI v10.Vote)])) rfl (erL.cons (v' := (.agg [(dI v8.Group), (.d (.sl 2 (List.map d_TRange v8.Reads))), (.d (.sl 2 (List.map d_TCell v8.Writes))), (dI v8.Vote)])) rfl (erL.cons (v' := (.one (.ptr (.bd (d_TShare v8) 0)))) rfl (erL.cons (v' := (oI s5.2)) rfl (erL.cons (v' := (.one (.d (.sl 4 (List.map d_TShare a1))))) rfl (erL.cons (v' := (oI s5.2)) rfl (erL.cons (v' := (.one (.sl 320192 0 s5.1.length))) rfl (erL.cons (v' := (oB (decide (s5.2 < (a1.length : Int))))) rfl (erL.cons (v' := (oI (a1.length : Int))) rfl (erL.cons (v' := (.one (.d (.sl 4 (List.map d_TShare a1))))) rfl (erL.cons (v' := (oI s5.2)) rfl (erL.cons (v' := (.one (.d (.sl 4 (List.map d_TShare a1))))) rfl (erL.cons (v' := (.one (.sl 320192 0 s5.1.length))) rfl (erL.cons (v' := (oI s5.2)) rfl erL.nil))))))))))))))) (erH.drop rfl (erH.drop rfl (erH.cons (v' := (.data 4 (List.map d_TShare s5.1) true none)) rfl rfl erH.nil))) erL.nil (rmRest (xNil (BQ.qn (TQ.qn (aR (oMov (eR rfl) (oAdd eZ eC (oMov eZ (xNil (TQ.qn ⟨(s5.1.set (Int.toNat s5.2) v10, (IntKind.wrap .i64 (s5.2 + 1))), H, (wk_mkG [] (kR rfl rfl (SL.cons (eR rfl) rfl (VWk.one (CWk.len (by first | (simp; done) | (simp; omega) | omega))) (kR rfl rfl SL.nil))) (BL.keep rfl (BL.keep rfl BL.nil)) (BK.cons rfl bZ rfl rfl BK.nil) GK.nil)⟩))))))))))))
  ·exact AW.condF eZ (decide_eq_false h7) (AW.exit (TQ.qe (TQ.qe (BQ.qe (TQ.qn ⟨s5.1, H, ((wk_mkG [] (kR rfl rfl SL.nil) (BL.keep rfl BL.nil) (BK.cons rfl bZ rfl rfl BK.nil) GK.nil).trans (wk_renG 320192 320128 rfl rfl (nS rfl nZ) GR.nil))⟩)))))
theorem c_laws_toLetter {a1 : TLetter} {r : TLetter} (H : m_laws_toLetter a1 = some r) : Fn Try.prog k_laws_toLetter (lent [(.agg (d_TLetter a1))]) true [(.agg (d_TLetter r))] := by
 refine i_laws_toLetter_fn (fle rfl) ?_
 rw [init_mk]
 refine AW.weaken (t := mk [(0, (.agg [(dI a1.Kind), (dI a1.Group), (dI a1.Client), (dI a1.Req), (dI a1.Tx), (dI a1.Lo), (dI a1.Hi), (dI a1.Rank), (dI a1.Code), (.d (.bool a1.Yes)), (.d (.sl 2 (List.map d_TRange a1.Reads))), (.d (.sl 2 (List.map d_TCell a1.Writes))), (.d (.sl 2 (List.map d_TCell a1.Cells))), (.d (.sl 4 (List.map d_TShare a1.Shares)))]))] [] (lk [])) (wk_mk [] (kv 0 (.agg [(dI a1.Kind), (dI a1.Group), (dI a1.Client), (dI a1.Req), (dI a1.Tx), (dI a1.Lo), (dI a1.Hi), (dI a1.Rank), (dI a1.Code), (.d (.bool a1.Yes)), (.d (.sl 2 (List.map d_TRange a1.Reads))), (.d (.sl 2 (List.map d_TCell a1.Writes))), (.d (.sl 2 (List.map d_TCell a1.Cells))), (.d (.sl 4 (List.map d_TShare a1.Shares)))]) rfl rfl SL.nil) BL.nil BK.nil) ?_
 unfold m_laws_toLetter at H
 unfold i_laws_toLetter
 refine aV (oBox (n := 64) (m := 14) (cs := [(dI a1.Kind), (dI a1.Group), (dI a1.Client), (dI a1.Req), (dI a1.Tx), (dI a1.Lo), (dI a1.Hi), (dI a1.Rank), (dI a1.Code), (.d (.bool a1.Yes)), (.d (.sl 2 (List.map d_TRange a1.Reads))), (.d (.sl 2 (List.map d_TCell a1.Writes))), (.d (.sl 2 (List.map d_TCell a1.Cells))), (.d (.sl 4 (List.map d_TShare a1.Shares)))]) rfl eZ rfl rfl nZ (oVar (n := 128) (m := 14) rfl rfl (nS rfl nZ) (xQ (aV (oVar (n := 192) (m := 14) rfl rfl (nS rfl (nS rfl nZ)) (xQ (aV (oFaddrN (m := 0) (eR rfl) rfl (oLoadV (q := 0) (c := (dI a1.Kind)) eZ (bS rfl (bS rfl bZ)) rfl rfl (oFaddrN (m := 0) (eR rfl) rfl (oStoreV (es := [(dI a1.Kind), (dI 0), (dI 0), (dI 0), (dI 0), (dI 0), (dI 0), (dI 0), (dI 0), (.d (.bool false)), .zs, .zs, .zs, .zs]) eZ (eR rfl) rfl rfl bZ rfl (xQ (aV (oFaddrN (m := 1) (eR rfl) rfl (oLoadV (q := 1) (c := (dI a1.Group)) eZ (bS rfl (bS rfl (bS rfl bZ))) rfl rfl (oFaddrN (m := 1) (eR rfl) rfl (oStoreV (es := [(dI a1.Kind), (dI a1.Group), (dI 0), (dI 0), (dI 0), (dI 0), (dI 0), (dI 0), (dI 0), (.d (.bool false)), .zs, .zs, .zs, .zs]) eZ (eR rfl) rfl rfl bZ rfl (xQ (aV (oFaddrN (m := 2) (eR rfl) rfl (oLoadV (q := 2) (c := (dI a1.Client)) eZ (bS rfl (bS rfl (bS rfl (bS rfl bZ)))) rfl rfl (oFaddrN (m := 2) (eR rfl) rfl (oStoreV (es := [(dI a1.Kind), (dI a1.Group), (dI a1.Client), (dI 0), (dI 0), (dI 0), (dI 0), (dI 0), (dI 0), (.d (.bool false)), .zs, .zs, .zs, .zs]) eZ (eR rfl) rfl rfl bZ rfl (xQ (aV (oFaddrN (m := 3) (eR rfl) rfl (oLoadV (q := 3) (c := (dI a1.Req)) eZ (bS rfl (bS rfl (bS rfl (bS rfl (bS rfl bZ))))) rfl rfl (oFaddrN (m := 3) (eR rfl) rfl ?_))))))))))))))))))))))))))))
 refine oStoreV (es := [(dI a1.Kind), (dI a1.Group), (dI a1.Client), (dI a1.Req), (dI 0), (dI 0), (dI 0), (dI 0), (dI 0), (.d (.bool false)), .zs, .zs, .zs, .zs]) eZ (eR rfl) rfl rfl bZ rfl (xQ (AW.weaken (wk_mkG [] (kr 3 rfl rfl (kr 2 rfl rfl (kr 1 rfl rfl SL.nil))) (BL.keep rfl (BL.keep rfl (BL.keep rfl (BL.keep rfl (BL.keep rfl (BL.keep rfl (BL.keep rfl BL.nil))))))) (BK.cons (n := 192) rfl bZ rfl rfl (BK.cons (n := 128) rfl (bS rfl (bS rfl (bS rfl (bS rfl (bS rfl bZ))))) rfl rfl (BK.cons (n := 64) rfl (bS rfl (bS rfl (bS rfl (bS rfl (bS rfl (bS rfl bZ)))))) rfl rfl BK.nil))) GK.nil) (aV (oFaddrN (m := 4) (eR rfl) rfl (oLoadV (q := 4) (c := (dI a1.Tx)) eZ (bS rfl (bS rfl bZ)) rfl rfl (oFaddrN (m := 4) (eR rfl) rfl (oStoreV (es := [(dI a1.Kind), (dI a1.Group), (dI a1.Client), (dI a1.Req), (dI a1.Tx), (dI 0), (dI 0), (dI 0), (dI 0), (.d (.bool false)), .zs, .zs, .zs, .zs]) eZ (eR rfl) rfl rfl bZ rfl (xQ (aV (oFaddrN (m := 5) (eR rfl) rfl (oLoadV (q := 5) (c := (dI a1.Lo)) eZ (bS rfl (bS rfl (bS rfl bZ))) rfl rfl (oFaddrN (m := 5) (eR rfl) rfl (oStoreV (es := [(dI a1.Kind), (dI a1.Group), (dI a1.Client), (dI a1.Req), (dI a1.Tx), (dI a1.Lo), (dI 0), (dI 0), (dI 0), (.d (.bool false)), .zs, .zs, .zs, .zs]) eZ (eR rfl) rfl rfl bZ rfl (xQ (aV (oFaddrN (m := 6) (eR rfl) rfl (oLoadV (q := 6) (c := (dI a1.Hi)) eZ (bS rfl (bS rfl (bS rfl (bS rfl bZ)))) rfl rfl (oFaddrN (m := 6) (eR rfl) rfl (oStoreV (es := [(dI a1.Kind), (dI a1.Group), (dI a1.Client), (dI a1.Req), (dI a1.Tx), (dI a1.Lo), (dI a1.Hi), (dI 0), (dI 0), (.d (.bool false)), .zs, .zs, .zs, .zs]) eZ (eR rfl) rfl rfl bZ rfl (xQ (aV (oFaddrN (m := 7) (eR rfl) rfl (oLoadV (q := 7) (c := (dI a1.Rank)) eZ (bS rfl (bS rfl (bS rfl (bS rfl (bS rfl bZ))))) rfl rfl (oFaddrN (m := 7) (eR rfl) rfl (oStoreV (es := [(dI a1.Kind), (dI a1.Group), (dI a1.Client), (dI a1.Req), (dI a1.Tx), (dI a1.Lo), (dI a1.Hi), (dI a1.Rank), (dI 0), (.d (.bool false)), .zs, .zs, .zs, .zs]) eZ (eR rfl) rfl rfl bZ rfl (xQ (aV (oFaddrN (m := 8) (eR rfl) rfl (oLoadV (q := 8) (c := (dI a1.Code)) eZ (bS rfl (bS rfl (bS rfl (bS rfl (bS rfl (bS rfl bZ)))))) rfl rfl ?_)))))))))))))))))))))))))))))
 refine oFaddrN (m := 8) (eR rfl) rfl (oStoreV (es := [(dI a1.Kind), (dI a1.Group), (dI a1.Client), (dI a1.Req), (dI a1.Tx), (dI a1.Lo), (dI a1.Hi), (dI a1.Rank), (dI a1.Code), (.d (.bool false)), .zs, .zs, .zs, .zs]) eZ (eR rfl) rfl rfl bZ rfl (xQ (AW.weaken (wk_mkG [] (kr 3 rfl rfl (kr 2 rfl rfl (kr 1 rfl rfl SL.nil))) (BL.keep rfl (BL.keep rfl (BL.keep rfl (BL.keep rfl (BL.keep rfl (BL.keep rfl (BL.keep rfl (BL.keep rfl BL.nil)))))))) (BK.cons (n := 192) rfl bZ rfl rfl (BK.cons (n := 128) rfl (bS rfl (bS rfl (bS rfl (bS rfl (bS rfl (bS rfl bZ)))))) rfl rfl (BK.cons (n := 64) rfl (bS rfl (bS rfl (bS rfl (bS rfl (bS rfl (bS rfl (bS rfl bZ))))))) rfl rfl BK.nil))) GK.nil) (aV (oFaddrN (m := 9) (eR rfl) rfl (oLoadV (q := 9) (c := (.d (.bool a1.Yes))) eZ (bS rfl (bS rfl bZ)) rfl rfl (oFaddrN (m := 9) (eR rfl) rfl (oStoreV (es := [(dI a1.Kind), (dI a1.Group), (dI a1.Client), (dI a1.Req), (dI a1.Tx), (dI a1.Lo), (dI a1.Hi), (dI a1.Rank), (dI a1.Code), (.d (.bool a1.Yes)), .zs, .zs, .zs, .zs]) eZ (eR rfl) rfl rfl bZ rfl (xQ (aS (AW.regm (rmOne (oFaddrN (m := 10) (eR rfl) rfl (xNil (rmOne (oLoadV (q := 10) (c := (.d (.sl 2 (List.map d_TRange a1.Reads)))) eZ (bS rfl (bS rfl (bS rfl bZ))) rfl rfl (xNil (rmOne ?_))))))))))))))))))
 obtain ⟨v2, h3, H⟩ := obind H
 refine oCallN (u := (.one (.sl 2304 0 v2.length))) (bs := [(2304, (.data 2 (List.map d_TRange v2) true none))]) eC Cl.fn (c_laws_toRangeS h3) (Evs.cons eZ Evs.nil) (VDs.cons VD.plain VDs.nil) (by simp [bindR, bindV, bindVs, bindC, bindCs]) rfl (fC (nS rfl (nS rfl (nS rfl (nS rfl nZ)))) rfl (fC (nS rfl (nS rfl (nS rfl (nS rfl nZ)))) rfl fN)) (xNil (rmOne (oFaddrN (m := 10) (eR rfl) rfl (xNil (rmOne (oStoreV (es := [(dI a1.Kind), (dI a1.Group), (dI a1.Client), (dI a1.Req), (dI a1.Tx), (dI a1.Lo), (dI a1.Hi), (dI a1.Rank), (dI a1.Code), (.d (.bool a1.Yes)), (.sl 2304 0 v2.length), .zs, .zs, .zs]) eZ (eR rfl) rfl rfl (bS rfl bZ) rfl (xNil (rmRest (xQ (aS (AW.regm (rmOne (oFaddrN (m := 11) (eR rfl) rfl (xNil (rmOne (oLoadV (q := 11) (c := (.d (.sl 2 (List.map d_TCell a1.Writes)))) eZ (bS rfl (bS rfl (bS rfl (bS rfl (bS rfl bZ))))) rfl rfl (xNil (rmOne ?_))))))))))))))))))
 obtain ⟨v4, h5, H⟩ := obind H
 refine oCallN (u := (.one (.sl 2560 0 v4.length))) (bs := [(2560, (.data 2 (List.map d_TCell v4) true none))]) eC Cl.fn (c_laws_toWriteS h5) (Evs.cons eZ Evs.nil) (VDs.cons VD.plain VDs.nil) (by simp [bindR, bindV, bindVs, bindC, bindCs]) rfl (fC (nS rfl (nS rfl (nS rfl (nS rfl (nS rfl (nS rfl nZ)))))) rfl (fC (nS rfl (nS rfl (nS rfl (nS rfl (nS rfl (nS rfl nZ)))))) rfl fN)) (xNil (rmOne (oFaddrN (m := 11) (eR rfl) rfl (xNil (rmOne (oStoreV (es := [(dI a1.Kind), (dI a1.Group), (dI a1.Client), (dI a1.Req), (dI a1.Tx), (dI a1.Lo), (dI a1.Hi), (dI a1.Rank), (dI a1.Code), (.d (.bool a1.Yes)), (.sl 2304 0 v2.length), (.sl 2560 0 v4.length), .zs, .zs]) eZ (eR rfl) rfl rfl (bS rfl bZ) rfl (xNil (rmRest (xQ (aS (AW.regm (rmOne (oFaddrN (m := 12) (eR rfl) rfl (xNil (rmOne (oLoadV (q := 12) (c := (.d (.sl 2 (List.map d_TCell a1.Cells)))) eZ (bS rfl (bS rfl (bS rfl (bS rfl (bS rfl (bS rfl (bS rfl bZ))))))) rfl rfl (xNil (rmOne ?_))))))))))))))))))
 obtain ⟨v6, h7, H⟩ := obind H
 refine oCallN (u := (.one (.sl 2816 0 v6.length))) (bs := [(2816, (.data 2 (List.map d_TCell v6) true none))]) eC Cl.fn (c_laws_toCellS h7) (Evs.cons eZ Evs.nil) (VDs.cons VD.plain VDs.nil) (by simp [bindR, bindV, bindVs, bindC, bindCs]) rfl (fC (nS rfl (nS rfl (nS rfl (nS rfl (nS rfl (nS rfl (nS rfl (nS rfl nZ)))))))) rfl (fC (nS rfl (nS rfl (nS rfl (nS rfl (nS rfl (nS rfl (nS rfl (nS rfl nZ)))))))) rfl fN)) (xNil (rmOne (oFaddrN (m := 12) (eR rfl) rfl (xNil (rmOne (oStoreV (es := [(dI a1.Kind), (dI a1.Group), (dI a1.Client), (dI a1.Req), (dI a1.Tx), (dI a1.Lo), (dI a1.Hi), (dI a1.Rank), (dI a1.Code), (.d (.bool a1.Yes)), (.sl 2304 0 v2.length), (.sl 2560 0 v4.length), (.sl 2816 0 v6.length), .zs]) eZ (eR rfl) rfl rfl (bS rfl bZ) rfl (xNil (rmRest (xQ (AW.weaken (wk_mkG [] (kr 3 rfl rfl (kr 2 rfl rfl (kr 1 rfl rfl SL.nil))) (BL.keep rfl (BL.keep rfl (BL.keep rfl (BL.keep rfl (BL.keep rfl (BL.keep rfl (BL.keep rfl (BL.keep rfl (BL.keep rfl (BL.keep rfl BL.nil)))))))))) (BK.cons (n := 192) rfl bZ rfl rfl (BK.cons (n := 2816) rfl (bS rfl bZ) rfl rfl (BK.cons (n := 2560) rfl (bS rfl (bS rfl (bS rfl bZ))) rfl rfl (BK.cons (n := 2304) rfl (bS rfl (bS rfl (bS rfl (bS rfl (bS rfl bZ))))) rfl rfl (BK.cons (n := 128) rfl (bS rfl (bS rfl (bS rfl (bS rfl (bS rfl (bS rfl (bS rfl (bS rfl bZ)))))))) rfl rfl (BK.cons (n := 64) rfl (bS rfl (bS rfl (bS rfl (bS rfl (bS rfl (bS rfl (bS rfl (bS rfl (bS rfl bZ))))))))) rfl rfl BK.nil)))))) GK.nil) (aS (AW.regm (rmOne (oFaddrN (m := 13) (eR rfl) rfl (xNil (rmOne (oLoadV (q := 13) (c := (.d (.sl 4 (List.map d_TShare a1.Shares)))) eZ (bS rfl (bS rfl (bS rfl (bS rfl (bS rfl bZ))))) rfl rfl (xNil (rmOne ?_)))))))))))))))))))
 obtain ⟨v8, h9, H⟩ := obind H
 refine oCallN (u := (.one (.sl 3072 0 v8.length))) (bs := [(3072, (.data 4 (List.map d_TShare v8) true none))]) eC Cl.fn (c_laws_toShareS h9) (Evs.cons eZ Evs.nil) (VDs.cons VD.plain VDs.nil) (by simp [bindR, bindV, bindVs, bindC, bindCs]) rfl (fC (nS rfl (nS rfl (nS rfl (nS rfl (nS rfl (nS rfl nZ)))))) rfl (fC (nS rfl (nS rfl (nS rfl (nS rfl (nS rfl (nS rfl nZ)))))) rfl fN)) (xNil (rmOne (oFaddrN (m := 13) (eR rfl) rfl (xNil (rmOne (oStoreV (es := [(dI a1.Kind), (dI a1.Group), (dI a1.Client), (dI a1.Req), (dI a1.Tx), (dI a1.Lo), (dI a1.Hi), (dI a1.Rank), (dI a1.Code), (.d (.bool a1.Yes)), (.sl 2304 0 v2.length), (.sl 2560 0 v4.length), (.sl 2816 0 v6.length), (.sl 3072 0 v8.length)]) eZ (eR rfl) rfl rfl (bS rfl bZ) rfl (xNil (rmRest (xQ (aS (AW.regm (rmOne (oLoadVA (es := [(dI a1.Kind), (dI a1.Group), (dI a1.Client), (dI a1.Req), (dI a1.Tx), (dI a1.Lo), (dI a1.Hi), (dI a1.Rank), (dI a1.Code), (.d (.bool a1.Yes)), (.sl 2304 0 v2.length), (.sl 2560 0 v4.length), (.sl 2816 0 v6.length), (.sl 3072 0 v8.length)]) (eR rfl) bZ rfl (xNil (rmOne (oStoreV (es := [(dI a1.Kind), (dI a1.Group), (dI a1.Client), (dI a1.Req), (dI a1.Tx), (dI a1.Lo), (dI a1.Hi), (dI a1.Rank), (dI a1.Code), (.d (.bool a1.Yes)), (.sl 2304 0 v2.length), (.sl 2560 0 v4.length), (.sl 2816 0 v6.length), (.sl 3072 0 v8.length)]) (eR rfl) eZ rfl rfl (bS rfl (bS rfl (bS rfl (bS rfl (bS rfl (bS rfl bZ)))))) rfl (xNil (rmRest (xQ (AW.ret ?_))))))))))))))))))))
 cases H
 exact endsR (RL.cons (RV.cellA (es := [(dI a1.Kind), (dI a1.Group), (dI a1.Client), (dI a1.Req), (dI a1.Tx), (dI a1.Lo), (dI a1.Hi), (dI a1.Rank), (dI a1.Code), (.d (.bool a1.Yes)), (.sl 2304 0 v2.length), (.sl 2560 0 v4.length), (.sl 2816 0 v6.length), (.sl 3072 0 v8.length)]) (eR rfl) bZ rfl) (VO.aggs (VOs.cons (VO.flat rfl) (VOs.cons (VO.flat rfl) (VOs.cons (VO.flat rfl) (VOs.cons (VO.flat rfl) (VOs.cons (VO.flat rfl) (VOs.cons (VO.flat rfl) (VOs.cons (VO.flat rfl) (VOs.cons (VO.flat rfl) (VOs.cons (VO.flat rfl) (VOs.cons (VO.flat rfl) (VOs.cons (VO.sl (bS rfl (bS rfl (bS rfl (bS rfl (bS rfl (bS rfl bZ)))))) (List.length_map _) (allFlat fun _ => rfl)) (VOs.cons (VO.sl (bS rfl (bS rfl (bS rfl (bS rfl (bS rfl bZ))))) (List.length_map _) (allFlat fun _ => rfl)) (VOs.cons (VO.sl (bS rfl (bS rfl (bS rfl (bS rfl bZ)))) (List.length_map _) (allFlat fun _ => rfl)) (VOs.cons (VO.sln (bS rfl (bS rfl bZ)) (List.length_map _) rfl) VOs.nil))))))))))))))) RL.nil) (by decide)
theorem c_spec_l1In {a1 : Int} {a2 : Int} {a3 : Int} {r : Bool} (H : m_spec_l1In a1 a2 a3 = some r) : Fn Try.prog k_spec_l1In (lent [(.int .i64 a1), (.int .i64 a2), (.int .i64 a3)]) true [(.bool r)] := by
 refine i_spec_l1In_fn (fle rfl) ?_
 rw [init_mk]
 refine AW.weaken (wk_mk [] (kv 0 (oI a1) rfl rfl (kv 1 (oI a2) rfl rfl (kv 2 (oI a3) rfl rfl SL.nil))) BL.nil BK.nil) ?_
 unfold m_spec_l1In at H
 unfold i_spec_l1In
 refine aV (oMov eC (xQ (aV (oMov (eR rfl) (oMov (eR rfl) (oGeq (eR rfl) eZ (oMov eZ ?_)))))))
 rcases oite H with ⟨h4, H⟩ | ⟨h4, H⟩
 ·refine gDo eZ (decide_eq_true h4) (oMov (eR rfl) (gDo (eR rfl) (decide_eq_true h4) (oMov (eR rfl) (gDo (eR rfl) (decide_eq_true h4) (oLeq (eR rfl) eZ (oPickT (eR rfl) (decide_eq_true h4) eZ (oMov eZ (xQ (AW.ret ?_)))))))))
  cases H
  exact eE rfl rfl
 ·refine gSkip eZ (decide_eq_false h4) rfl (gSkip (eR rfl) (decide_eq_false h4) rfl (gSkip (eR rfl) (decide_eq_false h4) rfl (oPickF (eR rfl) (decide_eq_false h4) eC (oMov eZ (xQ (AW.ret ?_))))))
  cases H
  exact eE rfl rfl
theorem c_spec_l16Has {a1 : Int} {r : ByteArray} (H : m_spec_l16Has a1 = some r) : Fn Try.prog k_spec_l16Has (lent [(.int .i64 a1)]) true [(.str r)] := by
 refine i_spec_l16Has_fn (fle rfl) ?_
 rw [init_mk]
 refine AW.weaken (wk_mk [] (kv 0 (oI a1) rfl rfl SL.nil) BL.nil BK.nil) ?_
 unfold m_spec_l16Has at H
 unfold i_spec_l16Has
 refine aV (oMov eC (xQ (aS (aV (oMov (eR rfl) ?_)))))
 obtain ⟨v2, h3, H⟩ := obind H
 refine oCall (u := (oB v2)) eC Cl.fn (c_spec_l1In h3) (Evs.cons eZ (Evs.cons eC (Evs.cons eC Evs.nil))) (VDs.cons VD.plain (VDs.cons VD.plain (VDs.cons VD.plain VDs.nil))) rfl (oInv eZ (xQ ?_))
 rcases oite H with ⟨h4, H⟩ | ⟨h4, H⟩
 ·refine AW.condF eZ (congrArg Bool.not h4) (AW.skip (TQ.qn (aV (oBslice (m := 384) (q := 18) (cs := [(.d (.str ByteArray.empty)), (.d (.str (ByteArray.mk #[99, 113]))), (.d (.str (ByteArray.mk #[99, 113, 116]))), (.d (.str (ByteArray.mk #[103, 99, 113, 116, 114]))), (.d (.str (ByteArray.mk #[103, 99, 113, 116, 114, 107, 67]))), (.d (.str (ByteArray.mk #[99, 116, 83]))), (.d (.str (ByteArray.mk #[99, 116]))), (.d (.str (ByteArray.mk #[99, 116, 121]))), (.d (.str (ByteArray.mk #[103, 116, 82, 87]))), (.d (.str (ByteArray.mk #[103, 116, 121]))), (.d (.str (ByteArray.mk #[103, 116, 121]))), (.d (.str (ByteArray.mk #[103, 110, 114]))), (.d (.str (ByteArray.mk #[110, 67]))), (.d (.str (ByteArray.mk #[103, 110, 114, 67]))), (.d (.str (ByteArray.mk #[110, 121]))), (.d (.str (ByteArray.mk #[103, 110, 114]))), (.d (.str (ByteArray.mk #[103, 110, 114]))), (.d (.str (ByteArray.mk #[110])))]) rfl (PsCons eC (PsCons eC (PsCons eC (PsCons eC (PsCons eC (PsCons eC (PsCons eC (PsCons eC (PsCons eC (PsCons eC (PsCons eC (PsCons eC (PsCons eC (PsCons eC (PsCons eC (PsCons eC (PsCons eC (PsCons eC PsNil)))))))))))))))))) rfl (List.cons_ne_nil _ _) (by simp) nZ (oMov (eR rfl) ?_)))))
  obtain ⟨v5, h6, H⟩ := obind H
  refine oAtX [ByteArray.empty, (ByteArray.mk #[99, 113]), (ByteArray.mk #[99, 113, 116]), (ByteArray.mk #[103, 99, 113, 116, 114]), (ByteArray.mk #[103, 99, 113, 116, 114, 107, 67]), (ByteArray.mk #[99, 116, 83]), (ByteArray.mk #[99, 116]), (ByteArray.mk #[99, 116, 121]), (ByteArray.mk #[103, 116, 82, 87]), (ByteArray.mk #[103, 116, 121]), (ByteArray.mk #[103, 116, 121]), (ByteArray.mk #[103, 110, 114]), (ByteArray.mk #[110, 67]), (ByteArray.mk #[103, 110, 114, 67]), (ByteArray.mk #[110, 121]), (ByteArray.mk #[103, 110, 114]), (ByteArray.mk #[103, 110, 114]), (ByteArray.mk #[110])] (eR rfl) eZ bZ rfl h6 (oLoadVX D.str [ByteArray.empty, (ByteArray.mk #[99, 113]), (ByteArray.mk #[99, 113, 116]), (ByteArray.mk #[103, 99, 113, 116, 114]), (ByteArray.mk #[103, 99, 113, 116, 114, 107, 67]), (ByteArray.mk #[99, 116, 83]), (ByteArray.mk #[99, 116]), (ByteArray.mk #[99, 116, 121]), (ByteArray.mk #[103, 116, 82, 87]), (ByteArray.mk #[103, 116, 121]), (ByteArray.mk #[103, 116, 121]), (ByteArray.mk #[103, 110, 114]), (ByteArray.mk #[110, 67]), (ByteArray.mk #[103, 110, 114, 67]), (ByteArray.mk #[110, 121]), (ByteArray.mk #[103, 110, 114]), (ByteArray.mk #[103, 110, 114]), (ByteArray.mk #[110])] eZ bZ rfl h6 (oMov eZ (xQ (AW.ret ?_))))
  cases H
  exact eE rfl rfl
 ·refine AW.condT eZ (congrArg Bool.not (nt h4)) (aV (oMov eC (xQ (AW.ret (TQ.qr ?_)))))
  cases H
  exact eE rfl rfl
theorem c_spec_l4In {a1 : ByteArray} {a2 : Int} {r : Bool} (H : m_spec_l4In a1 a2 = some r) : Fn Try.prog k_spec_l4In (lent [(.str a1), (.int .u8 a2)]) true [(.bool r)] := by
 refine i_spec_l4In_fn (fle rfl) ?_
 rw [init_mk]
 refine AW.weaken (wk_mk [] (kv 0 (.one (.d (.str a1))) rfl rfl (kv 1 (.one (.d (.int .u8 a2))) rfl rfl SL.nil)) BL.nil BK.nil) ?_
 unfold m_spec_l4In at H
 unfold i_spec_l4In
 refine aV (oMov eC (xQ (AW.seqJ (fun t3 : Unit => spec_l4In_j3 t3 = some r) (fun t3 => mk [] [] noG) ?_ ?_)))
 ·intro t3 H
  unfold spec_l4In_j3 at H
  refine aV (oMov eC (xQ (AW.ret ?_)))
  cases H
  exact eE rfl rfl
 ·refine aV (oMov eC (xQ (AW.block (AW.iter (fun s5 : Int => mk [(0, (.one (.d (.str a1)))), (1, (.one (.d (.int .u8 a2)))), (5, (oI s5))] [] noG) H (wk_mk [] (kR rfl rfl (kR rfl rfl (kR rfl rfl SL.nil))) BL.nil BK.nil) ?_))))
  intro kb6 s5 H
  unfold spec_l4In_b5 at H
  refine aS (aV (oMov (eR rfl) (oMov (eR rfl) (oLenStr eZ (oLss (eR rfl) eZ (xQ ?_))))))
  rcases oite H with ⟨h7, H⟩ | ⟨h7, H⟩
  ·refine AW.condT eZ (decide_eq_true h7) (AW.skip (TQ.qn (aS (AW.block (aV (oMov (eR rfl) (oMov (eR rfl) ?_)))))))
   obtain ⟨v8, h9, H⟩ := obind H
   refine oSidx (eR rfl) eZ h9 (oMov (eR rfl) (oEql (eR rfl) eZ (xQ ?_)))
   rcases oite H with ⟨h10, H⟩ | ⟨h10, H⟩
   ·refine AW.condT eZ (decide_eq_true h10) (aV (oMov eC (xQ (AW.ret (BQ.qr (TQ.qr (TQ.qr (BQ.qr (TQ.qr ?_)))))))))
    cases H
    exact eE rfl rfl
   ·exact AW.condF eZ (decide_eq_false h10) (AW.skip (BQ.qn (TQ.qn (aR (oMov (eR rfl) (oAdd eZ eC (oMov eZ (xNil (TQ.qn ⟨(IntKind.wrap .i64 (s5 + 1)), H, (wk_mk [] (kR rfl rfl (kR rfl rfl (kR rfl rfl SL.nil))) BL.nil BK.nil)⟩)))))))))
  ·exact AW.condF eZ (decide_eq_false h7) (AW.exit (TQ.qe (TQ.qe (BQ.qe (TQ.qn ⟨(), H, (wk_mk [] SL.nil BL.nil BK.nil)⟩)))))
theorem c_spec_l4Num {a1 : Bool} {a2 : Int} {a3 : Int} {a4 : Int} {r : Bool} (H : m_spec_l4Num a1 a2 a3 a4 = some r) : Fn Try.prog k_spec_l4Num (lent [(.bool a1), (.int .i64 a2), (.int .i64 a3), (.int .i64 a4)]) true [(.bool r)] := by
 refine i_spec_l4Num_fn (fle rfl) ?_
 rw [init_mk]
 refine AW.weaken (wk_mk [] (kv 0 (oB a1) rfl rfl (kv 1 (oI a2) rfl rfl (kv 2 (oI a3) rfl rfl (kv 3 (oI a4) rfl rfl SL.nil)))) BL.nil BK.nil) ?_
 unfold m_spec_l4Num at H
 unfold i_spec_l4Num
 refine aV (oMov eC (xQ (aV (oMov (eR rfl) (oMov eZ ?_)))))
 rcases oite H with ⟨h5, H⟩ | ⟨h5, H⟩
 ·refine gDo eZ h5 (oMov (eR rfl) (gDo (eR rfl) h5 (oMov (eR rfl) (gDo (eR rfl) h5 (oMov (eR rfl) (gDo (eR rfl) h5 ?_))))))
  obtain ⟨v6, h7, H⟩ := obind H
  refine oCall (u := (oB v6)) eC Cl.fn (c_spec_l1In h7) (Evs.cons (eR rfl) (Evs.cons (eR rfl) (Evs.cons eZ Evs.nil))) (VDs.cons VD.plain (VDs.cons VD.plain (VDs.cons VD.plain VDs.nil))) rfl (oPickT (eR rfl) h5 eZ (oMov eZ ?_))
  rcases oite H with ⟨h8, H⟩ | ⟨h8, H⟩
  ·refine gSkip eZ h8 rfl (gSkip (eR rfl) h8 rfl (gSkip (eR rfl) h8 rfl (gSkipU eZ rfl (gSkipU (eR rfl) rfl (gSkip (eR rfl) h8 rfl (oPickT (eR rfl) h8 eC (oMov eZ (xQ (AW.weaken (wk_mk [] (kr 8 rfl rfl SL.nil) BL.nil BK.nil) (AW.ret ?_))))))))))
   cases H
   exact eE rfl rfl
  ·refine gDo eZ (nt h8) (oMov (eR rfl) (gDo (eR rfl) (nt h8) (oInv eZ (gDo (eR rfl) (nt h8) (oMov eZ (gSkip eZ (congrArg Bool.not h5) rfl (gSkip (eR rfl) (congrArg Bool.not h5) rfl (gDo (eR rfl) (nt h8) (oPickF (eR rfl) (congrArg Bool.not h5) eC (oPickF (eR rfl) (nt h8) eZ (oMov eZ (xQ (AW.weaken (wk_mk [] (kr 8 rfl rfl SL.nil) BL.nil BK.nil) (AW.ret ?_))))))))))))))
   cases H
   exact eE rfl rfl
 ·refine gSkip eZ (nt h5) rfl (gSkip (eR rfl) (nt h5) rfl (gSkip (eR rfl) (nt h5) rfl (gSkip (eR rfl) (nt h5) rfl (oPickF (eR rfl) (nt h5) eC (oMov eZ (gDo eZ rfl (oMov (eR rfl) (gDo (eR rfl) rfl (oInv eZ (gDo (eR rfl) rfl (oMov eZ (gDo eZ (congrArg Bool.not (nt h5)) (oMov (eR rfl) (gDo (eR rfl) (congrArg Bool.not (nt h5)) (oEql eZ eC (gDo (eR rfl) rfl (oPickT (eR rfl) (congrArg Bool.not (nt h5)) eZ (oPickF (eR rfl) rfl eZ (oMov eZ (xQ (AW.weaken (wk_mk [] (kr 8 rfl rfl SL.nil) BL.nil BK.nil) (AW.ret ?_))))))))))))))))))))))
  cases H
  exact eE rfl rfl
theorem c_spec_RangeOk {a1 : TRange} {r : Bool} (H : m_spec_RangeOk a1 = some r) : Fn Try.prog k_spec_RangeOk (lent [(.agg (d_TRange a1))]) true [(.bool r)] := by
 refine i_spec_RangeOk_fn (fle rfl) ?_
 rw [init_mk]
 refine AW.weaken (wk_mk [] (kv 0 (.agg [(dI a1.Lo), (dI a1.Hi)]) rfl rfl SL.nil) BL.nil BK.nil) ?_
 unfold m_spec_RangeOk at H
 unfold i_spec_RangeOk
 refine aV (oBox (n := 64) (m := 2) (cs := [(dI a1.Lo), (dI a1.Hi)]) rfl eZ rfl rfl nZ (oMov eC (xQ (aV (oFaddrN (m := 0) (eR rfl) rfl (oLoadV (q := 0) (c := (dI a1.Lo)) eZ bZ rfl rfl (oGeq eZ eC (oMov eZ ?_))))))))
 rcases oite H with ⟨h2, H⟩ | ⟨h2, H⟩
 ·refine gDo eZ (decide_eq_true h2) (oFaddrN (m := 0) (eR rfl) rfl (gDo (eR rfl) (decide_eq_true h2) (oLoadV (q := 0) (c := (dI a1.Lo)) eZ bZ rfl rfl (gDo (eR rfl) (decide_eq_true h2) (oFaddrN (m := 1) (eR rfl) rfl (gDo (eR rfl) (decide_eq_true h2) (oLoadV (q := 1) (c := (dI a1.Hi)) eZ bZ rfl rfl (gDo (eR rfl) (decide_eq_true h2) (oLss (eR rfl) eZ (oPickT (eR rfl) (decide_eq_true h2) eZ (oMov eZ ?_)))))))))))
  rcases oite H with ⟨h3, H⟩ | ⟨h3, H⟩
  ·refine gDo eZ (decide_eq_true h3) (oFaddrN (m := 1) (eR rfl) rfl (gDo (eR rfl) (decide_eq_true h3) (oLoadV (q := 1) (c := (dI a1.Hi)) eZ bZ rfl rfl (gDo (eR rfl) (decide_eq_true h3) (oLeq eZ eC (oPickT (eR rfl) (decide_eq_true h3) eZ (oMov eZ (xQ (AW.weaken (wk_mk [64] (kr 2 rfl rfl SL.nil) (BL.drop rfl BL.nil) BK.nil) (AW.ret ?_))))))))))
   cases H
   exact eE rfl rfl
  ·refine gSkip eZ (decide_eq_false h3) rfl (gSkip (eR rfl) (decide_eq_false h3) rfl (gSkip (eR rfl) (decide_eq_false h3) rfl (oPickF (eR rfl) (decide_eq_false h3) eC (oMov eZ (xQ (AW.weaken (wk_mk [64] (kr 2 rfl rfl SL.nil) (BL.drop rfl BL.nil) BK.nil) (AW.ret ?_)))))))
   cases H
   exact eE rfl rfl
 ·refine gSkip eZ (decide_eq_false h2) rfl (gSkip (eR rfl) (decide_eq_false h2) rfl (gSkip (eR rfl) (decide_eq_false h2) rfl (gSkip (eR rfl) (decide_eq_false h2) rfl (gSkip (eR rfl) (decide_eq_false h2) rfl (oPickF (eR rfl) (decide_eq_false h2) eC (oMov eZ (gSkip eZ rfl rfl (gSkip (eR rfl) rfl rfl (gSkip (eR rfl) rfl rfl (oPickF (eR rfl) rfl eC (oMov eZ (xQ (AW.weaken (wk_mk [64] (kr 2 rfl rfl SL.nil) (BL.drop rfl BL.nil) BK.nil) (AW.ret ?_))))))))))))))
  cases H
  exact eE rfl rfl
theorem c_spec_l16RangeOk {a1 : Int} {a2 : Int} {r : Bool} (H : m_spec_l16RangeOk a1 a2 = some r) : Fn Try.prog k_spec_l16RangeOk (lent [(.int .i64 a1), (.int .i64 a2)]) true [(.bool r)] := by
 refine i_spec_l16RangeOk_fn (fle rfl) ?_
 rw [init_mk]
 refine AW.weaken (wk_mk [] (kv 0 (oI a1) rfl rfl (kv 1 (oI a2) rfl rfl SL.nil)) BL.nil BK.nil) ?_
 unfold m_spec_l16RangeOk at H
 unfold i_spec_l16RangeOk
 refine aV (oMov eC (xQ (aV (oMov (eR rfl) (oMov (eR rfl) (oBuild (cs := [(dI a1), (dI a2)]) (PsCons (eR rfl) (PsCons eZ PsNil)) rfl ?_))))))
 obtain ⟨v3, h4, H⟩ := obind H
 refine oCall (u := (oB v3)) eC Cl.fn (c_spec_RangeOk h4) (Evs.cons eZ Evs.nil) (VDs.cons (VD.agg rfl) VDs.nil) rfl (oMov eZ (xQ (AW.ret ?_)))
 cases H
 exact eE rfl rfl
theorem c_spec_l10Key {a1 : Int} {r : Bool} (H : m_spec_l10Key a1 = some r) : Fn Try.prog k_spec_l10Key (lent [(.int .i64 a1)]) true [(.bool r)] := by
 refine i_spec_l10Key_fn (fle rfl) ?_
 rw [init_mk]
 refine AW.weaken (wk_mk [] (kv 0 (oI a1) rfl rfl SL.nil) BL.nil BK.nil) ?_
 unfold m_spec_l10Key at H
 unfold i_spec_l10Key
 refine aV (oMov eC (xQ (aV (oMov (eR rfl) ?_))))
 obtain ⟨v2, h3, H⟩ := obind H
 refine oCall (u := (oB v2)) eC Cl.fn (c_spec_l1In h3) (Evs.cons eZ (Evs.cons eC (Evs.cons eC Evs.nil))) (VDs.cons VD.plain (VDs.cons VD.plain (VDs.cons VD.plain VDs.nil))) rfl (oMov eZ (xQ (AW.ret ?_)))
 cases H
 exact eE rfl rfl
theorem c_spec_WritesOk {a1 : (List TCell)} {r : Bool} (H : m_spec_WritesOk a1 = some r) : Fn Try.prog k_spec_WritesOk (lent [(.sl 2 (List.map d_TCell a1))]) true [(.bool r)] := by
 refine i_spec_WritesOk_fn (fle rfl) ?_
 rw [init_mk]
 refine AW.weaken (wk_mk [] (kv 0 (.one (.d (.sl 2 (List.map d_TCell a1)))) rfl rfl SL.nil) BL.nil BK.nil) ?_
 unfold m_spec_WritesOk at H
 unfold i_spec_WritesOk
 refine aV (oMov eC (xQ (aS (aV (oMov (eR rfl) (oLenD eZ (n := a1.length) (List.length_map _) (oGtr eZ eC (xQ ?_))))))))
 rcases oite H with ⟨h2, H⟩ | ⟨h2, H⟩
 ·refine AW.condT eZ (decide_eq_true h2) (aV (oMov eC (xQ (AW.ret (TQ.qr ?_)))))
  cases H
  exact eE rfl rfl
 ·refine AW.condF eZ (decide_eq_false h2) (AW.skip (TQ.qn (AW.seqJ (fun t3 : Unit => spec_WritesOk_j3 t3 = some r) (fun t3 => mk [] [] noG) ?_ ?_)))
  ·intro t3 H
   unfold spec_WritesOk_j3 at H
   refine aV (oMov eC (xQ (AW.ret ?_)))
   cases H
   exact eE rfl rfl
  ·refine aV (oMov eC (xQ (AW.block (AW.iter (fun s5 : Int => mk [(0, (.one (.d (.sl 2 (List.map d_TCell a1))))), (3, (oI s5))] [] noG) H (wk_mk [] (kR rfl rfl (kR rfl rfl SL.nil)) BL.nil BK.nil) ?_))))
   intro kb6 s5 H
   unfold spec_WritesOk_b5 at H
   refine aS (aV (oMov (eR rfl) (oMov (eR rfl) (oLenD eZ (n := a1.length) (List.length_map _) (oLss (eR rfl) eZ (xQ ?_))))))
   rcases oite H with ⟨h7, H⟩ | ⟨h7, H⟩
   ·refine AW.condT eZ (decide_eq_true h7) (AW.skip (TQ.qn (aS (AW.block (AW.seqJ (fun t8 : Bool => (spec_WritesOk_j8 kb6 s5) t8 = some r) (fun t8 => mk [(0, (.one (.d (.sl 2 (List.map d_TCell a1))))), (3, (oI s5)), (46, (oB t8))] [] noG) ?_ ?_)))))
    ·intro t8 H
     unfold spec_WritesOk_j8 at H
     rcases oite H with ⟨h10, H⟩ | ⟨h10, H⟩
     ·refine AW.condT (eR rfl) h10 (aV (oMov eC (xQ (AW.ret (BQ.qr (TQ.qr (TQ.qr (BQ.qr (TQ.qr ?_)))))))))
      cases H
      exact eE rfl rfl
     ·exact AW.condF (eR rfl) (nt h10) (AW.skip (BQ.qn (TQ.qn (aR (oMov (eR rfl) (oAdd eZ eC (oMov eZ (xNil (TQ.qn ⟨(IntKind.wrap .i64 (s5 + 1)), H, (wk_mk [] (kR rfl rfl (kR rfl rfl SL.nil)) BL.nil BK.nil)⟩)))))))))
    ·refine AW.regd (oMov (eR rfl) (oMov (eR rfl) ?_))
     obtain ⟨v11, h12, H⟩ := obind H
     refine oAtD (eR rfl) eZ h12 (oFaddrB (m := 0) eZ rfl (oLoadB (e := (.int .i64 v11.Key)) eZ rfl ?_))
     obtain ⟨v13, h14, H⟩ := obind H
     refine oCall (u := (oB v13)) eC Cl.fn (c_spec_l10Key h14) (Evs.cons eZ Evs.nil) (VDs.cons VD.plain VDs.nil) rfl (oInv eZ (oMov eZ ?_))
     rcases oite H with ⟨h15, H⟩ | ⟨h15, H⟩
     ·refine gDo eZ (congrArg Bool.not h15) (oMov (eR rfl) (gDo (eR rfl) (congrArg Bool.not h15) (oMov (eR rfl) (gDo (eR rfl) (congrArg Bool.not h15) ?_))))
      obtain ⟨v16, h17, H⟩ := obind H
      refine oAtD (eR rfl) eZ h17 (gDo (eR rfl) (congrArg Bool.not h15) (oFaddrB (m := 1) eZ rfl (gDo (eR rfl) (congrArg Bool.not h15) (oLoadB (e := (.int .i64 v16.Value)) eZ rfl (gDo (eR rfl) (congrArg Bool.not h15) ?_)))))
      obtain ⟨v18, h19, H⟩ := obind H
      refine oCall (u := (oB v18)) eC Cl.fn (c_spec_l1In h19) (Evs.cons eZ (Evs.cons eC (Evs.cons eC Evs.nil))) (VDs.cons VD.plain (VDs.cons VD.plain (VDs.cons VD.plain VDs.nil))) rfl (gDo (eR rfl) (congrArg Bool.not h15) (oInv eZ (oPickF (eR rfl) (congrArg Bool.not h15) eZ (oMov eZ ?_))))
      rcases oite H with ⟨h20, H⟩ | ⟨h20, H⟩
      ·refine gDo eZ (congrArg Bool.not h20) (oMov (eR rfl) (gDo (eR rfl) (congrArg Bool.not h20) (oGtr eZ eC (gDo (eR rfl) (congrArg Bool.not h20) (oMov eZ ?_)))))
       rcases oite H with ⟨h21, H⟩ | ⟨h21, H⟩
       ·refine gDo eZ (decide_eq_true h21) (oMov (eR rfl) (gDo (eR rfl) (decide_eq_true h21) (oMov (eR rfl) (gDo (eR rfl) (decide_eq_true h21) (oSub eZ eC (gDo (eR rfl) (decide_eq_true h21) ?_))))))
        obtain ⟨v22, h23, H⟩ := obind H
        refine oAtD (eR rfl) eZ h23 (gDo (eR rfl) (decide_eq_true h21) (oFaddrB (m := 0) eZ rfl (gDo (eR rfl) (decide_eq_true h21) (oLoadB (e := (.int .i64 v22.Key)) eZ rfl (gDo (eR rfl) (decide_eq_true h21) (oMov (eR rfl) (gDo (eR rfl) (decide_eq_true h21) (oMov (eR rfl) (gDo (eR rfl) (decide_eq_true h21) ?_)))))))))
        obtain ⟨v24, h25, H⟩ := obind H
        exact oAtD (eR rfl) eZ h25 (gDo (eR rfl) (decide_eq_true h21) (oFaddrB (m := 0) eZ rfl (gDo (eR rfl) (decide_eq_true h21) (oLoadB (e := (.int .i64 v24.Key)) eZ rfl (gDo (eR rfl) (decide_eq_true h21) (oGeq (eR rfl) eZ (gDo (eR rfl) (congrArg Bool.not h20) (oPickT (eR rfl) (decide_eq_true h21) eZ (oPickF (eR rfl) (congrArg Bool.not h20) eZ (xNil (TQ.qn ⟨(decide (v24.Key ≤ v22.Key)), H, (wk_mk [] (kR rfl rfl (kR rfl rfl (kR rfl rfl SL.nil))) BL.nil BK.nil)⟩)))))))))))
       ·exact gSkip eZ (decide_eq_false h21) rfl (gSkip (eR rfl) (decide_eq_false h21) rfl (gSkip (eR rfl) (decide_eq_false h21) rfl (gSkip (eR rfl) (decide_eq_false h21) rfl (gSkip (eR rfl) (decide_eq_false h21) rfl (gSkip (eR rfl) (decide_eq_false h21) rfl (gSkip (eR rfl) (decide_eq_false h21) rfl (gSkip (eR rfl) (decide_eq_false h21) rfl (gSkip (eR rfl) (decide_eq_false h21) rfl (gSkip (eR rfl) (decide_eq_false h21) rfl (gSkip (eR rfl) (decide_eq_false h21) rfl (gSkip (eR rfl) (decide_eq_false h21) rfl (gDo (eR rfl) (congrArg Bool.not h20) (oPickF (eR rfl) (decide_eq_false h21) eC (oPickF (eR rfl) (congrArg Bool.not h20) eZ (xNil (TQ.qn ⟨false, H, (wk_mk [] (kR rfl rfl (kR rfl rfl (kR rfl rfl SL.nil))) BL.nil BK.nil)⟩))))))))))))))))
      ·exact gSkip eZ (congrArg Bool.not (nt h20)) rfl (gSkip (eR rfl) (congrArg Bool.not (nt h20)) rfl (gSkip (eR rfl) (congrArg Bool.not (nt h20)) rfl (gSkipU eZ rfl (gSkipU (eR rfl) rfl (gSkipU (eR rfl) rfl (gSkipU (eR rfl) rfl (gSkipU (eR rfl) rfl (gSkipU (eR rfl) rfl (gSkipU (eR rfl) rfl (gSkipU (eR rfl) rfl (gSkipU (eR rfl) rfl (gSkipU (eR rfl) rfl (gSkipU (eR rfl) rfl (gSkipU (eR rfl) rfl (gSkip (eR rfl) (congrArg Bool.not (nt h20)) rfl (oPickT (eR rfl) (congrArg Bool.not (nt h20)) eC (xNil (TQ.qn ⟨true, H, (wk_mk [] (kR rfl rfl (kR rfl rfl (kR rfl rfl SL.nil))) BL.nil BK.nil)⟩))))))))))))))))))
     ·exact gSkip eZ (congrArg Bool.not (nt h15)) rfl (gSkip (eR rfl) (congrArg Bool.not (nt h15)) rfl (gSkip (eR rfl) (congrArg Bool.not (nt h15)) rfl (gSkip (eR rfl) (congrArg Bool.not (nt h15)) rfl (gSkip (eR rfl) (congrArg Bool.not (nt h15)) rfl (gSkip (eR rfl) (congrArg Bool.not (nt h15)) rfl (gSkip (eR rfl) (congrArg Bool.not (nt h15)) rfl (oPickT (eR rfl) (congrArg Bool.not (nt h15)) eC (oMov eZ (gSkip eZ rfl rfl (gSkip (eR rfl) rfl rfl (gSkip (eR rfl) rfl rfl (gSkipU eZ rfl (gSkipU (eR rfl) rfl (gSkipU (eR rfl) rfl (gSkipU (eR rfl) rfl (gSkipU (eR rfl) rfl (gSkipU (eR rfl) rfl (gSkipU (eR rfl) rfl (gSkipU (eR rfl) rfl (gSkipU (eR rfl) rfl (gSkipU (eR rfl) rfl (gSkipU (eR rfl) rfl (gSkipU (eR rfl) rfl (gSkip (eR rfl) rfl rfl (oPickT (eR rfl) rfl eC (xNil (TQ.qn ⟨true, H, (wk_mk [] (kR rfl rfl (kR rfl rfl (kR rfl rfl SL.nil))) BL.nil BK.nil)⟩)))))))))))))))))))))))))))
   ·exact AW.condF eZ (decide_eq_false h7) (AW.exit (TQ.qe (TQ.qe (BQ.qe (TQ.qn ⟨(), H, (wk_mk [] SL.nil BL.nil BK.nil)⟩)))))
theorem c_spec_l1Whole {a1 : Int} {r : Bool} (H : m_spec_l1Whole a1 = some r) : Fn Try.prog k_spec_l1Whole (lent [(.int .i64 a1)]) true [(.bool r)] := by
 refine i_spec_l1Whole_fn (fle rfl) ?_
 rw [init_mk]
 refine AW.weaken (wk_mk [] (kv 0 (oI a1) rfl rfl SL.nil) BL.nil BK.nil) ?_
 unfold m_spec_l1Whole at H
 unfold i_spec_l1Whole
 refine aV (oMov eC (xQ (aV (oMov (eR rfl) ?_))))
 obtain ⟨v2, h3, H⟩ := obind H
 refine oCall (u := (oB v2)) eC Cl.fn (c_spec_l1In h3) (Evs.cons eZ (Evs.cons eC (Evs.cons eC Evs.nil))) (VDs.cons VD.plain (VDs.cons VD.plain (VDs.cons VD.plain VDs.nil))) rfl (oMov eZ (xQ (AW.ret ?_)))
 cases H
 exact eE rfl rfl
theorem c_spec_StoreOk {a1 : (List TCell)} {r : Bool} (H : m_spec_StoreOk a1 = some r) : Fn Try.prog k_spec_StoreOk (lent [(.sl 2 (List.map d_TCell a1))]) true [(.bool r)] := by
 refine i_spec_StoreOk_fn (fle rfl) ?_
 rw [init_mk]
 refine AW.weaken (wk_mk [] (kv 0 (.one (.d (.sl 2 (List.map d_TCell a1)))) rfl rfl SL.nil) BL.nil BK.nil) ?_
 unfold m_spec_StoreOk at H
 unfold i_spec_StoreOk
 refine aV (oMov eC (xQ (aS (aV (oMov (eR rfl) (oLenD eZ (n := a1.length) (List.length_map _) (oGtr eZ eC (xQ ?_))))))))
 rcases oite H with ⟨h2, H⟩ | ⟨h2, H⟩
 ·refine AW.condT eZ (decide_eq_true h2) (aV (oMov eC (xQ (AW.ret (TQ.qr ?_)))))
  cases H
  exact eE rfl rfl
 ·refine AW.condF eZ (decide_eq_false h2) (AW.skip (TQ.qn (AW.seqJ (fun t3 : Unit => spec_StoreOk_j3 t3 = some r) (fun t3 => mk [] [] noG) ?_ ?_)))
  ·intro t3 H
   unfold spec_StoreOk_j3 at H
   refine aV (oMov eC (xQ (AW.ret ?_)))
   cases H
   exact eE rfl rfl
  ·refine aV (oMov eC (xQ (AW.block (AW.iter (fun s5 : Int => mk [(0, (.one (.d (.sl 2 (List.map d_TCell a1))))), (3, (oI s5))] [] noG) H (wk_mk [] (kR rfl rfl (kR rfl rfl SL.nil)) BL.nil BK.nil) ?_))))
   intro kb6 s5 H
   unfold spec_StoreOk_b5 at H
   refine aS (aV (oMov (eR rfl) (oMov (eR rfl) (oLenD eZ (n := a1.length) (List.length_map _) (oLss (eR rfl) eZ (xQ ?_))))))
   rcases oite H with ⟨h7, H⟩ | ⟨h7, H⟩
   ·refine AW.condT eZ (decide_eq_true h7) (AW.skip (TQ.qn (aS (AW.block (AW.seqJ (fun t8 : Bool => (spec_StoreOk_j8 kb6 s5) t8 = some r) (fun t8 => mk [(0, (.one (.d (.sl 2 (List.map d_TCell a1))))), (3, (oI s5)), (46, (oB t8))] [] noG) ?_ ?_)))))
    ·intro t8 H
     unfold spec_StoreOk_j8 at H
     rcases oite H with ⟨h10, H⟩ | ⟨h10, H⟩
     ·refine AW.condT (eR rfl) h10 (aV (oMov eC (xQ (AW.ret (BQ.qr (TQ.qr (TQ.qr (BQ.qr (TQ.qr ?_)))))))))
      cases H
      exact eE rfl rfl
     ·exact AW.condF (eR rfl) (nt h10) (AW.skip (BQ.qn (TQ.qn (aR (oMov (eR rfl) (oAdd eZ eC (oMov eZ (xNil (TQ.qn ⟨(IntKind.wrap .i64 (s5 + 1)), H, (wk_mk [] (kR rfl rfl (kR rfl rfl SL.nil)) BL.nil BK.nil)⟩)))))))))
    ·refine AW.regd (oMov (eR rfl) (oMov (eR rfl) ?_))
     obtain ⟨v11, h12, H⟩ := obind H
     refine oAtD (eR rfl) eZ h12 (oFaddrB (m := 0) eZ rfl (oLoadB (e := (.int .i64 v11.Key)) eZ rfl ?_))
     obtain ⟨v13, h14, H⟩ := obind H
     refine oCall (u := (oB v13)) eC Cl.fn (c_spec_l10Key h14) (Evs.cons eZ Evs.nil) (VDs.cons VD.plain VDs.nil) rfl (oInv eZ (oMov eZ ?_))
     rcases oite H with ⟨h15, H⟩ | ⟨h15, H⟩
     ·refine gDo eZ (congrArg Bool.not h15) (oMov (eR rfl) (gDo (eR rfl) (congrArg Bool.not h15) (oMov (eR rfl) (gDo (eR rfl) (congrArg Bool.not h15) ?_))))
      obtain ⟨v16, h17, H⟩ := obind H
      refine oAtD (eR rfl) eZ h17 (gDo (eR rfl) (congrArg Bool.not h15) (oFaddrB (m := 1) eZ rfl (gDo (eR rfl) (congrArg Bool.not h15) (oLoadB (e := (.int .i64 v16.Value)) eZ rfl (gDo (eR rfl) (congrArg Bool.not h15) ?_)))))
      obtain ⟨v18, h19, H⟩ := obind H
      refine oCall (u := (oB v18)) eC Cl.fn (c_spec_l1Whole h19) (Evs.cons eZ Evs.nil) (VDs.cons VD.plain VDs.nil) rfl (gDo (eR rfl) (congrArg Bool.not h15) (oInv eZ (oPickF (eR rfl) (congrArg Bool.not h15) eZ (oMov eZ ?_))))
      rcases oite H with ⟨h20, H⟩ | ⟨h20, H⟩
      ·refine gDo eZ (congrArg Bool.not h20) (oMov (eR rfl) (gDo (eR rfl) (congrArg Bool.not h20) (oGtr eZ eC (gDo (eR rfl) (congrArg Bool.not h20) (oMov eZ ?_)))))
       rcases oite H with ⟨h21, H⟩ | ⟨h21, H⟩
       ·refine gDo eZ (decide_eq_true h21) (oMov (eR rfl) (gDo (eR rfl) (decide_eq_true h21) (oMov (eR rfl) (gDo (eR rfl) (decide_eq_true h21) (oSub eZ eC (gDo (eR rfl) (decide_eq_true h21) ?_))))))
        obtain ⟨v22, h23, H⟩ := obind H
        refine oAtD (eR rfl) eZ h23 (gDo (eR rfl) (decide_eq_true h21) (oFaddrB (m := 0) eZ rfl (gDo (eR rfl) (decide_eq_true h21) (oLoadB (e := (.int .i64 v22.Key)) eZ rfl (gDo (eR rfl) (decide_eq_true h21) (oMov (eR rfl) (gDo (eR rfl) (decide_eq_true h21) (oMov (eR rfl) (gDo (eR rfl) (decide_eq_true h21) ?_)))))))))
        obtain ⟨v24, h25, H⟩ := obind H
        exact oAtD (eR rfl) eZ h25 (gDo (eR rfl) (decide_eq_true h21) (oFaddrB (m := 0) eZ rfl (gDo (eR rfl) (decide_eq_true h21) (oLoadB (e := (.int .i64 v24.Key)) eZ rfl (gDo (eR rfl) (decide_eq_true h21) (oGeq (eR rfl) eZ (gDo (eR rfl) (congrArg Bool.not h20) (oPickT (eR rfl) (decide_eq_true h21) eZ (oPickF (eR rfl) (congrArg Bool.not h20) eZ (xNil (TQ.qn ⟨(decide (v24.Key ≤ v22.Key)), H, (wk_mk [] (kR rfl rfl (kR rfl rfl (kR rfl rfl SL.nil))) BL.nil BK.nil)⟩)))))))))))
       ·exact gSkip eZ (decide_eq_false h21) rfl (gSkip (eR rfl) (decide_eq_false h21) rfl (gSkip (eR rfl) (decide_eq_false h21) rfl (gSkip (eR rfl) (decide_eq_false h21) rfl (gSkip (eR rfl) (decide_eq_false h21) rfl (gSkip (eR rfl) (decide_eq_false h21) rfl (gSkip (eR rfl) (decide_eq_false h21) rfl (gSkip (eR rfl) (decide_eq_false h21) rfl (gSkip (eR rfl) (decide_eq_false h21) rfl (gSkip (eR rfl) (decide_eq_false h21) rfl (gSkip (eR rfl) (decide_eq_false h21) rfl (gSkip (eR rfl) (decide_eq_false h21) rfl (gDo (eR rfl) (congrArg Bool.not h20) (oPickF (eR rfl) (decide_eq_false h21) eC (oPickF (eR rfl) (congrArg Bool.not h20) eZ (xNil (TQ.qn ⟨false, H, (wk_mk [] (kR rfl rfl (kR rfl rfl (kR rfl rfl SL.nil))) BL.nil BK.nil)⟩))))))))))))))))
      ·exact gSkip eZ (congrArg Bool.not (nt h20)) rfl (gSkip (eR rfl) (congrArg Bool.not (nt h20)) rfl (gSkip (eR rfl) (congrArg Bool.not (nt h20)) rfl (gSkipU eZ rfl (gSkipU (eR rfl) rfl (gSkipU (eR rfl) rfl (gSkipU (eR rfl) rfl (gSkipU (eR rfl) rfl (gSkipU (eR rfl) rfl (gSkipU (eR rfl) rfl (gSkipU (eR rfl) rfl (gSkipU (eR rfl) rfl (gSkipU (eR rfl) rfl (gSkipU (eR rfl) rfl (gSkipU (eR rfl) rfl (gSkip (eR rfl) (congrArg Bool.not (nt h20)) rfl (oPickT (eR rfl) (congrArg Bool.not (nt h20)) eC (xNil (TQ.qn ⟨true, H, (wk_mk [] (kR rfl rfl (kR rfl rfl (kR rfl rfl SL.nil))) BL.nil BK.nil)⟩))))))))))))))))))
     ·exact gSkip eZ (congrArg Bool.not (nt h15)) rfl (gSkip (eR rfl) (congrArg Bool.not (nt h15)) rfl (gSkip (eR rfl) (congrArg Bool.not (nt h15)) rfl (gSkip (eR rfl) (congrArg Bool.not (nt h15)) rfl (gSkip (eR rfl) (congrArg Bool.not (nt h15)) rfl (gSkip (eR rfl) (congrArg Bool.not (nt h15)) rfl (gSkip (eR rfl) (congrArg Bool.not (nt h15)) rfl (oPickT (eR rfl) (congrArg Bool.not (nt h15)) eC (oMov eZ (gSkip eZ rfl rfl (gSkip (eR rfl) rfl rfl (gSkip (eR rfl) rfl rfl (gSkipU eZ rfl (gSkipU (eR rfl) rfl (gSkipU (eR rfl) rfl (gSkipU (eR rfl) rfl (gSkipU (eR rfl) rfl (gSkipU (eR rfl) rfl (gSkipU (eR rfl) rfl (gSkipU (eR rfl) rfl (gSkipU (eR rfl) rfl (gSkipU (eR rfl) rfl (gSkipU (eR rfl) rfl (gSkipU (eR rfl) rfl (gSkip (eR rfl) rfl rfl (oPickT (eR rfl) rfl eC (xNil (TQ.qn ⟨true, H, (wk_mk [] (kR rfl rfl (kR rfl rfl (kR rfl rfl SL.nil))) BL.nil BK.nil)⟩)))))))))))))))))))))))))))
   ·exact AW.condF eZ (decide_eq_false h7) (AW.exit (TQ.qe (TQ.qe (BQ.qe (TQ.qn ⟨(), H, (wk_mk [] SL.nil BL.nil BK.nil)⟩)))))
theorem c_spec_SharesOk {a1 : (List TShare)} {r : Bool} (H : m_spec_SharesOk a1 = some r) : Fn Try.prog k_spec_SharesOk (lent [(.sl 4 (List.map d_TShare a1))]) true [(.bool r)] := by
 refine i_spec_SharesOk_fn (fle rfl) ?_
 rw [init_mk]
 refine AW.weaken (t := mk [(0, (.one (.d (.sl 4 (List.map d_TShare a1)))))] [] (lk [])) (wk_mk [] (kv 0 (.one (.d (.sl 4 (List.map d_TShare a1)))) rfl rfl SL.nil) BL.nil BK.nil) ?_
 unfold m_spec_SharesOk at H
 unfold i_spec_SharesOk
 refine aV (oMov eC (xQ (aS (aV (oMov (eR rfl) (oLenD eZ (n := a1.length) (List.length_map _) (oGtr eZ eC (xQ ?_))))))))
 rcases oite H with ⟨h2, H⟩ | ⟨h2, H⟩
 ·refine AW.condT eZ (decide_eq_true h2) (aV (oMov eC (xQ (AW.ret (TQ.qr ?_)))))
  cases H
  exact eE rfl rfl
 ·refine AW.condF eZ (decide_eq_false h2) (AW.skip (TQ.qn (AW.seqJ (fun t3 : Unit => spec_SharesOk_j3 t3 = some r) (fun t3 => mk [] [] (lk [])) ?_ ?_)))
  ·intro t3 H
   unfold spec_SharesOk_j3 at H
   refine aV (oMov eC (xQ (AW.ret ?_)))
   cases H
   exact eE rfl rfl
  ·refine aV (oMov eC (xQ (AW.block (AW.iter (fun s5 : Int => mk [(0, (.one (.d (.sl 4 (List.map d_TShare a1))))), (3, (oI s5))] [] (lk [])) H (wk_mkG [] (kR rfl rfl (kR rfl rfl SL.nil)) BL.nil BK.nil GK.nil) ?_))))
   intro kb6 s5 H
   unfold spec_SharesOk_b5 at H
   refine aS (aV (oMov (eR rfl) (oMov (eR rfl) (oLenD eZ (n := a1.length) (List.length_map _) (oLss (eR rfl) eZ (xQ ?_))))))
   rcases oite H with ⟨h7, H⟩ | ⟨h7, H⟩
   ·refine AW.condT eZ (decide_eq_true h7) (AW.skip (TQ.qn (AW.seqJ (fun t8 : Unit => (spec_SharesOk_j8 kb6 s5) t8 = some r) (fun t8 => mk [(0, (.one (.d (.sl 4 (List.map d_TShare a1))))), (3, (oI s5))] [] (lk [])) ?_ ?_)))
    ·intro t8 H
     unfold spec_SharesOk_j8 at H
     exact aR (oMov (eR rfl) (oAdd eZ eC (oMov eZ (xNil (TQ.qn ⟨(IntKind.wrap .i64 (s5 + 1)), H, (wk_mkG [] (kR rfl rfl (kR rfl rfl SL.nil)) BL.nil BK.nil GK.nil)⟩)))))
    ·refine AW.block (aS (AW.regm (rmOne (oMov (eR rfl) (xNil (rmOne (oMov (eR rfl) (xNil (rmOne ?_)))))))))
     obtain ⟨v10, h11, H⟩ := obind H
     refine oAtD (eR rfl) eZ h11 (xNil (rmOne (oLoadBA (es := [(dI v10.Group), (.d (.sl 2 (List.map d_TRange v10.Reads))), (.d (.sl 2 (List.map d_TCell v10.Writes))), (dI v10.Vote)]) eZ rfl (xNil (rmOne (oVar (n := 256) (m := 4) rfl rfl nZ (xNil (rmOne (oStoreV (es := [(dI v10.Group), (.d (.sl 2 (List.map d_TRange v10.Reads))), (.d (.sl 2 (List.map d_TCell v10.Writes))), (dI v10.Vote)]) eZ (eR rfl) rfl rfl bZ rfl (xNil (rmRest (xQ (aS (AW.seqJ (fun t12 : Bool => (spec_SharesOk_j12 v10 (spec_SharesOk_j8 kb6 s5)) t12 = some r) (fun t12 => mk [(0, (.one (.d (.sl 4 (List.map d_TShare a1))))), (3, (oI s5)), (4, (.one (.ptr (.nm 256 0 0)))), (55, (oB t12))] [(256, (.vars 4 [(dI v10.Group), (.d (.sl 2 (List.map d_TRange v10.Reads))), (.d (.sl 2 (List.map d_TCell v10.Writes))), (dI v10.Vote)]))] (lk [])) ?_ ?_))))))))))))))
     ·intro t12 H
      unfold spec_SharesOk_j12 at H
      rcases oite H with ⟨h14, H⟩ | ⟨h14, H⟩
      ·refine AW.condT (eR rfl) h14 (aV (oMov eC (xQ (AW.ret (TQ.qr (BQ.qr (TQ.qr (TQ.qr (BQ.qr (TQ.qr ?_))))))))))
       cases H
       exact eE rfl rfl
      ·refine AW.condF (eR rfl) (nt h14) (AW.skip (TQ.qn (aV (oMov eC (xQ (AW.block (AW.iter (fun s15 : Int => mk [(0, (.one (.d (.sl 4 (List.map d_TShare a1))))), (3, (oI s5)), (4, (.one (.ptr (.nm 256 0 0)))), (5, (oI s15))] [(256, (.vars 4 [(dI v10.Group), (.d (.sl 2 (List.map d_TRange v10.Reads))), (.d (.sl 2 (List.map d_TCell v10.Writes))), (dI v10.Vote)]))] (lk [])) H (wk_mkG [] (kR rfl rfl (kR rfl rfl (kR rfl rfl (kR rfl rfl SL.nil)))) (BL.keep rfl BL.nil) (BK.cons rfl bZ rfl rfl BK.nil) GK.nil) ?_)))))))
       intro kb16 s15 H
       unfold spec_SharesOk_b15 at H
       refine aS (aV (oMov (eR rfl) (oFaddrN (m := 1) (eR rfl) rfl (oLoadV (q := 1) (c := (.d (.sl 2 (List.map d_TRange v10.Reads)))) eZ bZ rfl rfl (oLenD eZ (n := v10.Reads.length) (List.length_map _) (oLss (eR rfl) eZ (xQ ?_)))))))
       rcases oite H with ⟨h17, H⟩ | ⟨h17, H⟩
       ·refine AW.condT eZ (decide_eq_true h17) (AW.skip (TQ.qn (aS (AW.block (aV (oFaddrN (m := 1) (eR rfl) rfl (oLoadV (q := 1) (c := (.d (.sl 2 (List.map d_TRange v10.Reads)))) eZ bZ rfl rfl (oMov (eR rfl) ?_))))))))
        obtain ⟨v18, h19, H⟩ := obind H
        refine oAtD (eR rfl) eZ h19 (oLoadBA (es := [(dI v18.Lo), (dI v18.Hi)]) eZ rfl ?_)
        obtain ⟨v20, h21, H⟩ := obind H
        refine oCall (u := (oB v20)) eC Cl.fn (c_spec_RangeOk h21) (Evs.cons eZ Evs.nil) (VDs.cons (VD.agg rfl) VDs.nil) rfl (oInv eZ (xQ (AW.weaken (wk_mkG [] (kr 69 rfl rfl (kr 0 rfl rfl (kr 3 rfl rfl (kr 4 rfl rfl (kr 5 rfl rfl SL.nil))))) (BL.keep rfl BL.nil) (BK.cons (n := 256) rfl bZ rfl rfl BK.nil) GK.nil) ?_)))
        rcases oite H with ⟨h22, H⟩ | ⟨h22, H⟩
        ·exact AW.condF eZ (congrArg Bool.not h22) (AW.skip (BQ.qn (TQ.qn (aR (oMov (eR rfl) (oAdd eZ eC (oMov eZ (xNil (TQ.qn ⟨(IntKind.wrap .i64 (s15 + 1)), H, (wk_mkG [] (kR rfl rfl (kR rfl rfl (kR rfl rfl (kR rfl rfl SL.nil)))) (BL.keep rfl BL.nil) (BK.cons rfl bZ rfl rfl BK.nil) GK.nil)⟩)))))))))
        ·refine AW.condT eZ (congrArg Bool.not (nt h22)) (aV (oMov eC (xQ (AW.ret (BQ.qr (TQ.qr (TQ.qr (BQ.qr (BQ.qr (TQ.qr (TQ.qr (BQ.qr (TQ.qr ?_)))))))))))))
         cases H
         exact eE rfl rfl
       ·exact AW.condF eZ (decide_eq_false h17) (AW.exit (TQ.qe (TQ.qe (BQ.qe (BQ.qn (TQ.qn ⟨(), H, (wk_mkG [256] (kR rfl rfl (kR rfl rfl SL.nil)) (BL.drop rfl BL.nil) BK.nil GK.nil)⟩))))))
     ·refine AW.regd (oFaddrN (m := 0) eZ rfl (oLoadV (q := 0) (c := (dI v10.Group)) eZ bZ rfl rfl ?_))
      obtain ⟨v23, h24, H⟩ := obind H
      refine oCall (u := (oB v23)) eC Cl.fn (c_spec_l1In h24) (Evs.cons eZ (Evs.cons eC (Evs.cons eC Evs.nil))) (VDs.cons VD.plain (VDs.cons VD.plain (VDs.cons VD.plain VDs.nil))) rfl (oInv eZ (oMov eZ ?_))
      rcases oite H with ⟨h25, H⟩ | ⟨h25, H⟩
      ·refine gDo eZ (congrArg Bool.not h25) (oMov (eR rfl) (gDo (eR rfl) (congrArg Bool.not h25) (oGtr eZ eC (gDo (eR rfl) (congrArg Bool.not h25) (oMov eZ ?_)))))
       rcases oite H with ⟨h26, H⟩ | ⟨h26, H⟩
       ·refine gDo eZ (decide_eq_true h26) (oMov (eR rfl) (gDo (eR rfl) (decide_eq_true h26) (oMov (eR rfl) (gDo (eR rfl) (decide_eq_true h26) (oSub eZ eC (gDo (eR rfl) (decide_eq_true h26) ?_))))))
        obtain ⟨v27, h28, H⟩ := obind H
        refine oAtD (eR rfl) eZ h28 (gDo (eR rfl) (decide_eq_true h26) (oFaddrB (m := 0) eZ rfl (gDo (eR rfl) (decide_eq_true h26) (oLoadB (e := (.int .i64 v27.Group)) eZ rfl (gDo (eR rfl) (decide_eq_true h26) (oFaddrN (m := 0) (eR rfl) rfl (gDo (eR rfl) (decide_eq_true h26) (oLoadV (q := 0) (c := (dI v10.Group)) eZ bZ rfl rfl (gDo (eR rfl) (decide_eq_true h26) (oGeq (eR rfl) eZ (gDo (eR rfl) (congrArg Bool.not h25) (oPickT (eR rfl) (decide_eq_true h26) eZ (oPickF (eR rfl) (congrArg Bool.not h25) eZ (oMov eZ ?_))))))))))))))
        rcases oite H with ⟨h29, H⟩ | ⟨h29, H⟩
        ·exact gSkip eZ (decide_eq_true h29) rfl (gSkip (eR rfl) (decide_eq_true h29) rfl (gSkip (eR rfl) (decide_eq_true h29) rfl (gSkip (eR rfl) (decide_eq_true h29) rfl (oPickT (eR rfl) (decide_eq_true h29) eC (oMov eZ (gSkip eZ rfl rfl (gSkip (eR rfl) rfl rfl (gSkip (eR rfl) rfl rfl (gSkip (eR rfl) rfl rfl (oPickT (eR rfl) rfl eC (oMov eZ (gSkip eZ rfl rfl (gSkip (eR rfl) rfl rfl (gSkip (eR rfl) rfl rfl (gSkip (eR rfl) rfl rfl (oPickT (eR rfl) rfl eC (xNil (TQ.qn ⟨true, H, (wk_mkG [] (kR rfl rfl (kR rfl rfl (kR rfl rfl (kR rfl rfl SL.nil)))) (BL.keep rfl (BL.keep rfl BL.nil)) (BK.cons rfl bZ rfl rfl BK.nil) GK.nil)⟩))))))))))))))))))
        ·refine gDo eZ (decide_eq_false h29) (oFaddrN (m := 1) (eR rfl) rfl (gDo (eR rfl) (decide_eq_false h29) (oLoadV (q := 1) (c := (.d (.sl 2 (List.map d_TRange v10.Reads)))) eZ bZ rfl rfl (gDo (eR rfl) (decide_eq_false h29) (oLenD eZ (n := v10.Reads.length) (List.length_map _) (gDo (eR rfl) (decide_eq_false h29) (oGtr eZ eC (oPickF (eR rfl) (decide_eq_false h29) eZ (oMov eZ ?_)))))))))
         rcases oite H with ⟨h30, H⟩ | ⟨h30, H⟩
         ·exact gSkip eZ (decide_eq_true h30) rfl (gSkip (eR rfl) (decide_eq_true h30) rfl (gSkip (eR rfl) (decide_eq_true h30) rfl (gSkip (eR rfl) (decide_eq_true h30) rfl (oPickT (eR rfl) (decide_eq_true h30) eC (oMov eZ (gSkip eZ rfl rfl (gSkip (eR rfl) rfl rfl (gSkip (eR rfl) rfl rfl (gSkip (eR rfl) rfl rfl (oPickT (eR rfl) rfl eC (xNil (TQ.qn ⟨true, H, (wk_mkG [] (kR rfl rfl (kR rfl rfl (kR rfl rfl (kR rfl rfl SL.nil)))) (BL.keep rfl (BL.keep rfl BL.nil)) (BK.cons rfl bZ rfl rfl BK.nil) GK.nil)⟩))))))))))))
         ·refine gDo eZ (decide_eq_false h30) (oFaddrN (m := 2) (eR rfl) rfl (gDo (eR rfl) (decide_eq_false h30) (oLoadV (q := 2) (c := (.d (.sl 2 (List.map d_TCell v10.Writes)))) eZ bZ rfl rfl (gDo (eR rfl) (decide_eq_false h30) ?_))))
          obtain ⟨v31, h32, H⟩ := obind H
          refine oCall (u := (oB v31)) eC Cl.fn (c_spec_WritesOk h32) (Evs.cons eZ Evs.nil) (VDs.cons VD.plain VDs.nil) rfl (gDo (eR rfl) (decide_eq_false h30) (oInv eZ (oPickF (eR rfl) (decide_eq_false h30) eZ (oMov eZ ?_))))
          rcases oite H with ⟨h33, H⟩ | ⟨h33, H⟩
          ·refine gDo eZ (congrArg Bool.not h33) (oFaddrN (m := 3) (eR rfl) rfl (gDo (eR rfl) (congrArg Bool.not h33) (oLoadV (q := 3) (c := (dI v10.Vote)) eZ bZ rfl rfl (gDo (eR rfl) (congrArg Bool.not h33) ?_))))
           obtain ⟨v34, h35, H⟩ := obind H
           exact oCall (u := (oB v34)) eC Cl.fn (c_spec_l1In h35) (Evs.cons eZ (Evs.cons eC (Evs.cons eC Evs.nil))) (VDs.cons VD.plain (VDs.cons VD.plain (VDs.cons VD.plain VDs.nil))) rfl (gDo (eR rfl) (congrArg Bool.not h33) (oInv eZ (oPickF (eR rfl) (congrArg Bool.not h33) eZ (xNil (TQ.qn ⟨(!v34), H, (wk_mkG [] (kR rfl rfl (kR rfl rfl (kR rfl rfl (kR rfl rfl SL.nil)))) (BL.keep rfl (BL.keep rfl BL.nil)) (BK.cons rfl bZ rfl rfl BK.nil) GK.nil)⟩)))))
          ·exact gSkip eZ (congrArg Bool.not (nt h33)) rfl (gSkip (eR rfl) (congrArg Bool.not (nt h33)) rfl (gSkip (eR rfl) (congrArg Bool.not (nt h33)) rfl (gSkip (eR rfl) (congrArg Bool.not (nt h33)) rfl (oPickT (eR rfl) (congrArg Bool.not (nt h33)) eC (xNil (TQ.qn ⟨true, H, (wk_mkG [] (kR rfl rfl (kR rfl rfl (kR rfl rfl (kR rfl rfl SL.nil)))) (BL.keep rfl (BL.keep rfl BL.nil)) (BK.cons rfl bZ rfl rfl BK.nil) GK.nil)⟩))))))
       ·refine gSkip eZ (decide_eq_false h26) rfl (gSkip (eR rfl) (decide_eq_false h26) rfl (gSkip (eR rfl) (decide_eq_false h26) rfl (gSkip (eR rfl) (decide_eq_false h26) rfl (gSkip (eR rfl) (decide_eq_false h26) rfl (gSkip (eR rfl) (decide_eq_false h26) rfl (gSkip (eR rfl) (decide_eq_false h26) rfl (gSkip (eR rfl) (decide_eq_false h26) rfl (gSkip (eR rfl) (decide_eq_false h26) rfl (gDo (eR rfl) (congrArg Bool.not h25) (oPickF (eR rfl) (decide_eq_false h26) eC (oPickF (eR rfl) (congrArg Bool.not h25) eZ (oMov eZ (gDo eZ rfl (oFaddrN (m := 1) (eR rfl) rfl (gDo (eR rfl) rfl (oLoadV (q := 1) (c := (.d (.sl 2 (List.map d_TRange v10.Reads)))) eZ bZ rfl rfl (gDo (eR rfl) rfl (oLenD eZ (n := v10.Reads.length) (List.length_map _) (gDo (eR rfl) rfl (oGtr eZ eC (oPickF (eR rfl) rfl eZ (oMov eZ ?_))))))))))))))))))))))
        rcases oite H with ⟨h36, H⟩ | ⟨h36, H⟩
        ·exact gSkip eZ (decide_eq_true h36) rfl (gSkip (eR rfl) (decide_eq_true h36) rfl (gSkip (eR rfl) (decide_eq_true h36) rfl (gSkip (eR rfl) (decide_eq_true h36) rfl (oPickT (eR rfl) (decide_eq_true h36) eC (oMov eZ (gSkip eZ rfl rfl (gSkip (eR rfl) rfl rfl (gSkip (eR rfl) rfl rfl (gSkip (eR rfl) rfl rfl (oPickT (eR rfl) rfl eC (xNil (TQ.qn ⟨true, H, (wk_mkG [] (kR rfl rfl (kR rfl rfl (kR rfl rfl (kR rfl rfl SL.nil)))) (BL.keep rfl (BL.keep rfl BL.nil)) (BK.cons rfl bZ rfl rfl BK.nil) GK.nil)⟩))))))))))))
        ·refine gDo eZ (decide_eq_false h36) (oFaddrN (m := 2) (eR rfl) rfl (gDo (eR rfl) (decide_eq_false h36) (oLoadV (q := 2) (c := (.d (.sl 2 (List.map d_TCell v10.Writes)))) eZ bZ rfl rfl (gDo (eR rfl) (decide_eq_false h36) ?_))))
         obtain ⟨v37, h38, H⟩ := obind H
         refine oCall (u := (oB v37)) eC Cl.fn (c_spec_WritesOk h38) (Evs.cons eZ Evs.nil) (VDs.cons VD.plain VDs.nil) rfl (gDo (eR rfl) (decide_eq_false h36) (oInv eZ (oPickF (eR rfl) (decide_eq_false h36) eZ (oMov eZ ?_))))
         rcases oite H with ⟨h39, H⟩ | ⟨h39, H⟩
         ·refine gDo eZ (congrArg Bool.not h39) (oFaddrN (m := 3) (eR rfl) rfl (gDo (eR rfl) (congrArg Bool.not h39) (oLoadV (q := 3) (c := (dI v10.Vote)) eZ bZ rfl rfl (gDo (eR rfl) (congrArg Bool.not h39) ?_))))
          obtain ⟨v40, h41, H⟩ := obind H
          exact oCall (u := (oB v40)) eC Cl.fn (c_spec_l1In h41) (Evs.cons eZ (Evs.cons eC (Evs.cons eC Evs.nil))) (VDs.cons VD.plain (VDs.cons VD.plain (VDs.cons VD.plain VDs.nil))) rfl (gDo (eR rfl) (congrArg Bool.not h39) (oInv eZ (oPickF (eR rfl) (congrArg Bool.not h39) eZ (xNil (TQ.qn ⟨(!v40), H, (wk_mkG [] (kR rfl rfl (kR rfl rfl (kR rfl rfl (kR rfl rfl SL.nil)))) (BL.keep rfl (BL.keep rfl BL.nil)) (BK.cons rfl bZ rfl rfl BK.nil) GK.nil)⟩)))))
         ·exact gSkip eZ (congrArg Bool.not (nt h39)) rfl (gSkip (eR rfl) (congrArg Bool.not (nt h39)) rfl (gSkip (eR rfl) (congrArg Bool.not (nt h39)) rfl (gSkip (eR rfl) (congrArg Bool.not (nt h39)) rfl (oPickT (eR rfl) (congrArg Bool.not (nt h39)) eC (xNil (TQ.qn ⟨true, H, (wk_mkG [] (kR rfl rfl (kR rfl rfl (kR rfl rfl (kR rfl rfl SL.nil)))) (BL.keep rfl (BL.keep rfl BL.nil)) (BK.cons rfl bZ rfl rfl BK.nil) GK.nil)⟩))))))
      ·exact gSkip eZ (congrArg Bool.not (nt h25)) rfl (gSkip (eR rfl) (congrArg Bool.not (nt h25)) rfl (gSkip (eR rfl) (congrArg Bool.not (nt h25)) rfl (gSkipU eZ rfl (gSkipU (eR rfl) rfl (gSkipU (eR rfl) rfl (gSkipU (eR rfl) rfl (gSkipU (eR rfl) rfl (gSkipU (eR rfl) rfl (gSkipU (eR rfl) rfl (gSkipU (eR rfl) rfl (gSkipU (eR rfl) rfl (gSkip (eR rfl) (congrArg Bool.not (nt h25)) rfl (oPickT (eR rfl) (congrArg Bool.not (nt h25)) eC (oMov eZ (gSkip eZ rfl rfl (gSkip (eR rfl) rfl rfl (gSkip (eR rfl) rfl rfl (gSkip (eR rfl) rfl rfl (oPickT (eR rfl) rfl eC (oMov eZ (gSkip eZ rfl rfl (gSkip (eR rfl) rfl rfl (gSkip (eR rfl) rfl rfl (gSkip (eR rfl) rfl rfl (oPickT (eR rfl) rfl eC (oMov eZ (gSkip eZ rfl rfl (gSkip (eR rfl) rfl rfl (gSkip (eR rfl) rfl rfl (gSkip (eR rfl) rfl rfl (oPickT (eR rfl) rfl eC (xNil (TQ.qn ⟨true, H, (wk_mkG [] (kR rfl rfl (kR rfl rfl (kR rfl rfl (kR rfl rfl SL.nil)))) (BL.keep rfl (BL.keep rfl BL.nil)) (BK.cons rfl bZ rfl rfl BK.nil) GK.nil)⟩)))))))))))))))))))))))))))))))))
   ·exact AW.condF eZ (decide_eq_false h7) (AW.exit (TQ.qe (TQ.qe (BQ.qe (TQ.qn ⟨(), H, (wk_mkG [] SL.nil BL.nil BK.nil GK.nil)⟩)))))
theorem c_spec_l14Votes {a1 : (List TShare)} {a2 : Int} {r : Int} (H : m_spec_l14Votes a1 a2 = some r) : Fn Try.prog k_spec_l14Votes (lent [(.sl 4 (List.map d_TShare a1)), (.int .i64 a2)]) true [(.int .i64 r)] := by
 refine i_spec_l14Votes_fn (fle rfl) ?_
 rw [init_mk]
 refine AW.weaken (wk_mk [] (kv 0 (.one (.d (.sl 4 (List.map d_TShare a1)))) rfl rfl (kv 1 (oI a2) rfl rfl SL.nil)) BL.nil BK.nil) ?_
 unfold m_spec_l14Votes at H
 unfold i_spec_l14Votes
 refine aV (oMov eC (xQ (aV (oMov eC (xQ (AW.seqJ (fun t3 : Int => spec_l14Votes_j3 t3 = some r) (fun t3 => mk [(5, (oI t3))] [] noG) ?_ ?_))))))
 ·intro t3 H
  unfold spec_l14Votes_j3 at H
  refine aV (oMov eZ (oMov eZ (xQ (AW.ret ?_))))
  cases H
  exact eE rfl rfl
 ·refine aV (oMov eC (xQ (AW.block (AW.iter (fun s5 : (Int × Int) => mk [(0, (.one (.d (.sl 4 (List.map d_TShare a1))))), (1, (oI a2)), (5, (oI s5.1)), (6, (oI s5.2))] [] noG) H (wk_mk [] (kR rfl rfl (kR rfl rfl (kR rfl rfl (kR rfl rfl SL.nil)))) BL.nil BK.nil) ?_))))
  intro kb6 s5 H
  unfold spec_l14Votes_b5 at H
  refine aS (aV (oMov (eR rfl) (oMov (eR rfl) (oLenD eZ (n := a1.length) (List.length_map _) (oLss (eR rfl) eZ (xQ ?_))))))
  rcases oite H with ⟨h7, H⟩ | ⟨h7, H⟩
  ·refine AW.condT eZ (decide_eq_true h7) (AW.skip (TQ.qn (aS (AW.block (aV (oMov (eR rfl) (oMov (eR rfl) ?_)))))))
   obtain ⟨v8, h9, H⟩ := obind H
   refine oAtD (eR rfl) eZ h9 (oFaddrB (m := 3) eZ rfl (oLoadB (e := (.int .i64 v8.Vote)) eZ rfl (oMov (eR rfl) (oEql (eR rfl) eZ (xQ ?_)))))
   rcases oite H with ⟨h10, H⟩ | ⟨h10, H⟩
   ·exact AW.condT eZ (decide_eq_true h10) (aR (oMov (eR rfl) (oAdd eZ eC (oMov eZ (xNil (BQ.qn (TQ.qn (AW.weaken (wk_mk [] (kr 5 rfl rfl (kr 0 rfl rfl (kr 1 rfl rfl (kr 6 rfl rfl SL.nil)))) BL.nil BK.nil) (aR (oMov (eR rfl) (oAdd eZ eC (oMov eZ (xNil (TQ.qn ⟨((IntKind.wrap .i64 (s5.1 + 1)), (IntKind.wrap .i64 (s5.2 + 1))), H, (wk_mk [] (kR rfl rfl (kR rfl rfl (kR rfl rfl (kR rfl rfl SL.nil)))) BL.nil BK.nil)⟩))))))))))))))
   ·exact AW.condF eZ (decide_eq_false h10) (AW.skip (BQ.qn (TQ.qn (aR (oMov (eR rfl) (oAdd eZ eC (oMov eZ (xNil (TQ.qn ⟨(s5.1, (IntKind.wrap .i64 (s5.2 + 1))), H, (wk_mk [] (kR rfl rfl (kR rfl rfl (kR rfl rfl (kR rfl rfl SL.nil)))) BL.nil BK.nil)⟩)))))))))
  ·exact AW.condF eZ (decide_eq_false h7) (AW.exit (TQ.qe (TQ.qe (BQ.qe (TQ.qn ⟨s5.1, H, (wk_mk [] (kR rfl rfl SL.nil) BL.nil BK.nil)⟩)))))
end Go.AW
