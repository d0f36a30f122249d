/- That functions of the program compute what the plain functions say: printed by a program of the prover's own (tool/dec.py). Conditions: each theorem's own. -/
import Derived.Test.YtcicokdmnhbjjaaGreatMNewShard
import Derived.Test.YtcicokdmnhbjjaaGreatGNewShard
import Derived.Test.YtcicokdmnhbjjaaGreatSNewShard
import Derived.Test.YtcicokdmnhbjjaaGreatYt
import Derived.KernelRfl
set_option linter.unusedVariables false
set_option linter.unusedSimpArgs false
set_option maxRecDepth 100000
namespace Go.AW
open Go.Proofs
theorem c_laws_szRangeS {a1 : (List TRange)} {a2 : Int} {r : Int} (H : m_laws_szRangeS a1 a2 = some r) : Fn Tryz.prog 10 (lent [(.sl 2 (List.map d_TRange a1)), (.int .i64 a2)]) true [(.int .i64 r)] := by
 refine f10 (fle rfl) ?_
 rw [init_mk]
 refine AW.weaken (wk_mk [] (kv 0 (.one (.d (.sl 2 (List.map d_TRange a1)))) rfl rfl (kv 1 (oI a2) rfl rfl SL.nil)) BL.nil BK.nil) ?_
 unfold m_laws_szRangeS at H
 unfold i10
 refine aV (oMov eC (xQ (aV (oMov (eR rfl) (oMov (eR rfl) (oLenD eZ (n := a1.length) (List.length_map _) (oSub (eR rfl) eZ (oMov eZ (xQ (aS (aV (oMov eZ (oLss eZ eC (xQ ?_))))))))))))))
 rcases oite H with ⟨h3, H⟩ | ⟨h3, H⟩
 ·refine AW.condT eZ (dT h3) (aV (oMov eC (xQ (AW.ret (TQ.qr ?_)))))
  cases H
  exact eE rfl rfl
 ·refine AW.condF eZ (dF h3) (AW.skip (TQ.qn (aV (oMov (eR rfl) (oMov eZ (xQ (AW.ret ?_)))))))
  cases H
  exact eE rfl rfl
theorem c_laws_toRange {a1 : TRange} {r : TRange} (H : m_laws_toRange a1 = some r) : Fn Tryz.prog 64 (lent [(.agg (d_TRange a1))]) true [(.agg (d_TRange r))] := by
 refine f64 (fle rfl) ?_
 rw [init_mk]
 refine AW.weaken (wk_mk [] (kv 0 (.agg [(dI a1.Lo), (dI a1.Hi)]) rfl rfl SL.nil) BL.nil BK.nil) ?_
 unfold m_laws_toRange at H
 unfold i64
 refine aV (oBox (n := 64) (m := 2) (cs := [(dI a1.Lo), (dI a1.Hi)]) rfl eZ rfl rfl nZ (oVar (n := 128) (m := 2) rfl rfl (nS rfl nZ) (xQ (aV (oVar (n := 192) (m := 2) rfl rfl (nS rfl (nS rfl nZ)) (xQ (aV (oFaddrN (m := 0) (eR rfl) rfl (oLoadV (q := 0) (c := (dI a1.Lo)) eZ (bS rfl (bS rfl bZ)) rfl rfl (oFaddrN (m := 0) (eR rfl) rfl (oStoreV (es := [(dI a1.Lo), (dI 0)]) eZ (eR rfl) rfl rfl bZ rfl (xQ (aV (oFaddrN (m := 1) (eR rfl) rfl (oLoadV (q := 1) (c := (dI a1.Hi)) eZ (bS rfl (bS rfl (bS rfl bZ))) rfl rfl (oFaddrN (m := 1) (eR rfl) rfl (oStoreV (es := [(dI a1.Lo), (dI a1.Hi)]) eZ (eR rfl) rfl rfl bZ rfl (xQ (aV (oLoadVA (es := [(dI a1.Lo), (dI a1.Hi)]) (eR rfl) bZ rfl (oStoreV (es := [(dI a1.Lo), (dI a1.Hi)]) (eR rfl) eZ rfl rfl (bS rfl (bS rfl (bS rfl bZ))) rfl (xQ (AW.ret ?_)))))))))))))))))))))))
 cases H
 exact endsR (RL.cons (RV.cellA (es := [(dI a1.Lo), (dI a1.Hi)]) (eR rfl) bZ rfl) (VO.agg (ds := [(.int .i64 a1.Lo), (.int .i64 a1.Hi)]) rfl rfl) RL.nil) List.nodup_nil
theorem c_laws_toRangeS {a1 : (List TRange)} {r : (List TRange)} (H : m_laws_toRangeS a1 = some r) : Fn Tryz.prog 12 (lent [(.sl 2 (List.map d_TRange a1))]) true [(.sl 2 (List.map d_TRange r))] := by
 refine f12 (fle rfl) ?_
 rw [init_mk]
 refine AW.weaken (wk_mk [] (kv 0 (.one (.d (.sl 2 (List.map d_TRange a1)))) rfl rfl SL.nil) BL.nil BK.nil) ?_
 unfold m_laws_toRangeS at H
 unfold i12
 refine aV (oMov eC (xQ (aV (oMov (eR rfl) (oLenD eZ (n := a1.length) (List.length_map _) ?_)))))
 obtain ⟨h2, H⟩ := oguard H
 refine oMksl (f := d_TRange) (zv := (TRange.mk 0 0)) (own := true) (m := 448) (q := (Int.toNat (a1.length : Int))) rfl rfl eZ eZ h2.1 h2.2 rfl (by decide) rfl nZ (oMov eZ (xQ (AW.seqJ (fun t3 : (List TRange) => laws_toRangeS_j3 t3 = some r) (fun t3 => mk [(3, (.one (.sl 320128 0 t3.length)))] [(320128, (.data 2 (List.map d_TRange t3) true none))] noG) ?_ ?_)))
 ·intro t3 H
  unfold laws_toRangeS_j3 at H
  refine aV (oMov eZ (oMov eZ (xQ (AW.ret ?_))))
  cases H
  exact endsR (RL.cons (RV.tmp eZ) (VO.sl bZ (List.length_map _) (allFlat fun _ => rfl)) RL.nil) (by decide)
 ·refine aV (oMov eC (xQ (AW.block (AW.iter (fun s5 : ((List TRange) × Int) => mk [(0, (.one (.d (.sl 2 (List.map d_TRange a1))))), (3, (.one (.sl 320192 0 s5.1.length))), (4, (oI s5.2))] [(320192, (.data 2 (List.map d_TRange s5.1) true none))] noG) H ((wk_mk [] (kR rfl rfl (SL.cons (eR rfl) rfl (VWk.one (CWk.len (by first | (simp; done) | (simp; omega) | omega | (simp only [List.length_map]; omega)))) (kR rfl rfl SL.nil))) (BL.keep rfl BL.nil) (BK.cons rfl bZ rfl rfl BK.nil)).trans (wk_ren 448 320192 rfl rfl (nS rfl nZ))) ?_))))
  intro kb6 s5 H
  unfold laws_toRangeS_b5 at H
  refine aS (aV (oMov (eR rfl) (oMov (eR rfl) (oLenD eZ (n := a1.length) (List.length_map _) (oLss (eR rfl) eZ (xQ ?_))))))
  rcases oite H with ⟨h7, H⟩ | ⟨h7, H⟩
  ·refine AW.condT eZ (dT h7) (AW.skip (TQ.qn (aS (AW.block (aR (oMov (eR rfl) (oMov (eR rfl) (oMov (eR rfl) (oMov (eR rfl) ?_)))))))))
   obtain ⟨v8, h9, H⟩ := obind H
   refine oAtD (eR rfl) eZ h9 (oLoadBA (es := [(dI v8.Lo), (dI v8.Hi)]) eZ rfl ?_)
   obtain ⟨v10, h11, H⟩ := obind H
   refine oCall (u := (.agg [(dI v10.Lo), (dI v10.Hi)])) eC Cl.fn (c_laws_toRange h11) (Evs.cons eZ Evs.nil) (VDs.cons (VD.agg rfl) VDs.nil) rfl ?_
   obtain ⟨v12, h13, H⟩ := obind H
   exact oAtN (eR rfl) (eR rfl) bZ rfl h13 (oStoreD (t := v12) (t' := v10) (es := [(.int .i64 v10.Lo), (.int .i64 v10.Hi)]) eZ (eR rfl) rfl rfl bZ (idx_at h13) rfl rfl (xNil (BQ.qn (TQ.qn (aR (oMov (eR rfl) (oAdd eZ eC (oMov eZ (xNil (TQ.qn ⟨(s5.1.set (Int.toNat s5.2) v10, (IntKind.wrap .i64 (s5.2 + 1))), H, (wk_mk [] (kR rfl rfl (SL.cons (eR rfl) rfl (VWk.one (CWk.len (by first | (simp; done) | (simp; omega) | omega | (simp only [List.length_map]; omega)))) (kR rfl rfl SL.nil))) (BL.keep rfl (BL.keep rfl BL.nil)) (BK.cons rfl bZ rfl rfl BK.nil))⟩))))))))))
  ·exact AW.condF eZ (dF h7) (AW.exit (TQ.qe (TQ.qe (BQ.qe (TQ.qn ⟨s5.1, H, ((wk_mk [] (kR rfl rfl SL.nil) (BL.keep rfl BL.nil) (BK.cons rfl bZ rfl rfl BK.nil)).trans (wk_ren 320192 320128 rfl rfl (nS rfl nZ)))⟩)))))
theorem c_spec_l1In {a1 : Int} {a2 : Int} {a3 : Int} {r : Bool} (H : m_spec_l1In a1 a2 a3 = some r) : Fn Tryz.prog 22 (lent [(.int .i64 a1), (.int .i64 a2), (.int .i64 a3)]) true [(.bool r)] := by
 refine f22 (fle rfl) ?_
 rw [init_mk]
 refine AW.weaken (wk_mk [] (kv 0 (oI a1) rfl rfl (kv 1 (oI a2) rfl rfl (kv 2 (oI a3) rfl rfl SL.nil))) BL.nil BK.nil) ?_
 unfold m_spec_l1In at H
 unfold i22
 refine aV (oMov eC (xQ (aV (oMov (eR rfl) (oMov (eR rfl) (oGeq (eR rfl) eZ (oMov eZ ?_)))))))
 rcases oite H with ⟨h4, H⟩ | ⟨h4, H⟩
 ·refine gDo eZ (dT h4) (oMov (eR rfl) (gDo (eR rfl) (dT h4) (oMov (eR rfl) (gDo (eR rfl) (dT h4) (oLeq (eR rfl) eZ (oPickT (eR rfl) (dT h4) eZ (oMov eZ (xQ (AW.ret ?_)))))))))
  cases H
  exact eE rfl rfl
 ·refine gSkip eZ (dF h4) rfl (gSkip (eR rfl) (dF h4) rfl (gSkip (eR rfl) (dF h4) rfl (oPickF (eR rfl) (dF h4) eC (oMov eZ (xQ (AW.ret ?_))))))
  cases H
  exact eE rfl rfl
theorem c_spec_RangeOk {a1 : TRange} {r : Bool} (H : m_spec_RangeOk a1 = some r) : Fn Tryz.prog 77 (lent [(.agg (d_TRange a1))]) true [(.bool r)] := by
 refine f77 (fle rfl) ?_
 rw [init_mk]
 refine AW.weaken (wk_mk [] (kv 0 (.agg [(dI a1.Lo), (dI a1.Hi)]) rfl rfl SL.nil) BL.nil BK.nil) ?_
 unfold m_spec_RangeOk at H
 unfold i77
 refine aV (oBox (n := 64) (m := 2) (cs := [(dI a1.Lo), (dI a1.Hi)]) rfl eZ rfl rfl nZ (oMov eC (xQ (aV (oFaddrN (m := 0) (eR rfl) rfl (oLoadV (q := 0) (c := (dI a1.Lo)) eZ bZ rfl rfl (oGeq eZ eC (oMov eZ ?_))))))))
 rcases oite H with ⟨h2, H⟩ | ⟨h2, H⟩
 ·refine gDo eZ (dT h2) (oFaddrN (m := 0) (eR rfl) rfl (gDo (eR rfl) (dT h2) (oLoadV (q := 0) (c := (dI a1.Lo)) eZ bZ rfl rfl (gDo (eR rfl) (dT h2) (oFaddrN (m := 1) (eR rfl) rfl (gDo (eR rfl) (dT h2) (oLoadV (q := 1) (c := (dI a1.Hi)) eZ bZ rfl rfl (gDo (eR rfl) (dT h2) (oLss (eR rfl) eZ (oPickT (eR rfl) (dT h2) eZ (oMov eZ ?_)))))))))))
  rcases oite H with ⟨h3, H⟩ | ⟨h3, H⟩
  ·refine gDo eZ (dT h3) (oFaddrN (m := 1) (eR rfl) rfl (gDo (eR rfl) (dT h3) (oLoadV (q := 1) (c := (dI a1.Hi)) eZ bZ rfl rfl (gDo (eR rfl) (dT h3) (oLeq eZ eC (oPickT (eR rfl) (dT h3) eZ (oMov eZ (xQ (AW.weaken (wk_mk [64] (kr 2 rfl rfl SL.nil) (BL.drop rfl BL.nil) BK.nil) (AW.ret ?_))))))))))
   cases H
   exact eE rfl rfl
  ·refine gSkip eZ (dF h3) rfl (gSkip (eR rfl) (dF h3) rfl (gSkip (eR rfl) (dF h3) rfl (oPickF (eR rfl) (dF h3) eC (oMov eZ (xQ (AW.weaken (wk_mk [64] (kr 2 rfl rfl SL.nil) (BL.drop rfl BL.nil) BK.nil) (AW.ret ?_)))))))
   cases H
   exact eE rfl rfl
 ·refine gSkip eZ (dF h2) rfl (gSkip (eR rfl) (dF h2) rfl (gSkip (eR rfl) (dF h2) rfl (gSkip (eR rfl) (dF h2) rfl (gSkip (eR rfl) (dF h2) rfl (oPickF (eR rfl) (dF h2) eC (oMov eZ (gSkip eZ rfl rfl (gSkip (eR rfl) rfl rfl (gSkip (eR rfl) rfl rfl (oPickF (eR rfl) rfl eC (oMov eZ (xQ (AW.weaken (wk_mk [64] (kr 2 rfl rfl SL.nil) (BL.drop rfl BL.nil) BK.nil) (AW.ret ?_))))))))))))))
  cases H
  exact eE rfl rfl
theorem c_spec_RangesOk {a1 : (List TRange)} {r : Bool} (H : m_spec_RangesOk a1 = some r) : Fn Tryz.prog 23 (lent [(.sl 2 (List.map d_TRange a1))]) true [(.bool r)] := by
 refine f23 (fle rfl) ?_
 rw [init_mk]
 refine AW.weaken (wk_mk [] (kv 0 (.one (.d (.sl 2 (List.map d_TRange a1)))) rfl rfl SL.nil) BL.nil BK.nil) ?_
 unfold m_spec_RangesOk at H
 unfold i23
 refine aV (oMov eC (xQ (aS (aV (oMov (eR rfl) (oLenD eZ (n := a1.length) (List.length_map _) (oGtr eZ eC (xQ ?_))))))))
 rcases oite H with ⟨h2, H⟩ | ⟨h2, H⟩
 ·refine AW.condT eZ (dT h2) (aV (oMov eC (xQ (AW.ret (TQ.qr ?_)))))
  cases H
  exact eE rfl rfl
 ·refine AW.condF eZ (dF h2) (AW.skip (TQ.qn (AW.seqJ (fun t3 : Unit => spec_RangesOk_j3 t3 = some r) (fun t3 => mk [] [] noG) ?_ ?_)))
  ·intro t3 H
   unfold spec_RangesOk_j3 at H
   refine aV (oMov eC (xQ (AW.ret ?_)))
   cases H
   exact eE rfl rfl
  ·refine aV (oMov eC (xQ (AW.block (AW.iter (fun s5 : Int => mk [(0, (.one (.d (.sl 2 (List.map d_TRange a1))))), (3, (oI s5))] [] noG) H (wk_mk [] (kR rfl rfl (kR rfl rfl SL.nil)) BL.nil BK.nil) ?_))))
   intro kb6 s5 H
   unfold spec_RangesOk_b5 at H
   refine aS (aV (oMov (eR rfl) (oMov (eR rfl) (oLenD eZ (n := a1.length) (List.length_map _) (oLss (eR rfl) eZ (xQ ?_))))))
   rcases oite H with ⟨h7, H⟩ | ⟨h7, H⟩
   ·refine AW.condT eZ (dT h7) (AW.skip (TQ.qn (aS (AW.block (AW.seqJ (fun t8 : Bool => (spec_RangesOk_j8 kb6 s5) t8 = some r) (fun t8 => mk [(0, (.one (.d (.sl 2 (List.map d_TRange a1))))), (3, (oI s5)), (36, (oB t8))] [] noG) ?_ ?_)))))
    ·intro t8 H
     unfold spec_RangesOk_j8 at H
     rcases oite H with ⟨h10, H⟩ | ⟨h10, H⟩
     ·refine AW.condT (eR rfl) h10 (aV (oMov eC (xQ (AW.ret (BQ.qr (TQ.qr (TQ.qr (BQ.qr (TQ.qr ?_)))))))))
      cases H
      exact eE rfl rfl
     ·exact AW.condF (eR rfl) (nt h10) (AW.skip (BQ.qn (TQ.qn (aR (oMov (eR rfl) (oAdd eZ eC (oMov eZ (xNil (TQ.qn ⟨(IntKind.wrap .i64 (s5 + 1)), H, (wk_mk [] (kR rfl rfl (kR rfl rfl SL.nil)) BL.nil BK.nil)⟩)))))))))
    ·refine AW.regd (oMov (eR rfl) (oMov (eR rfl) ?_))
     obtain ⟨v11, h12, H⟩ := obind H
     refine oAtD (eR rfl) eZ h12 (oLoadBA (es := [(dI v11.Lo), (dI v11.Hi)]) eZ rfl ?_)
     obtain ⟨v13, h14, H⟩ := obind H
     refine oCall (u := (oB v13)) eC Cl.fn (c_spec_RangeOk h14) (Evs.cons eZ Evs.nil) (VDs.cons (VD.agg rfl) VDs.nil) rfl (oInv eZ (oMov eZ ?_))
     rcases oite H with ⟨h15, H⟩ | ⟨h15, H⟩
     ·refine gDo eZ (cN h15) (oMov (eR rfl) (gDo (eR rfl) (cN h15) (oGtr eZ eC (gDo (eR rfl) (cN h15) (oMov eZ ?_)))))
      rcases oite H with ⟨h16, H⟩ | ⟨h16, H⟩
      ·refine gDo eZ (dT h16) (oMov (eR rfl) (gDo (eR rfl) (dT h16) (oMov (eR rfl) (gDo (eR rfl) (dT h16) ?_))))
       obtain ⟨v17, h18, H⟩ := obind H
       refine oAtD (eR rfl) eZ h18 (gDo (eR rfl) (dT h16) (oFaddrB (m := 0) eZ rfl (gDo (eR rfl) (dT h16) (oLoadB (e := (.int .i64 v17.Lo)) eZ rfl (gDo (eR rfl) (dT h16) (oMov (eR rfl) (gDo (eR rfl) (dT h16) (oMov (eR rfl) (gDo (eR rfl) (dT h16) (oSub eZ eC (gDo (eR rfl) (dT h16) ?_)))))))))))
       obtain ⟨v19, h20, H⟩ := obind H
       exact oAtD (eR rfl) eZ h20 (gDo (eR rfl) (dT h16) (oFaddrB (m := 1) eZ rfl (gDo (eR rfl) (dT h16) (oLoadB (e := (.int .i64 v19.Hi)) eZ rfl (gDo (eR rfl) (dT h16) (oLss (eR rfl) eZ (gDo (eR rfl) (cN h15) (oPickT (eR rfl) (dT h16) eZ (oPickF (eR rfl) (cN h15) eZ (xNil (TQ.qn ⟨(decide (v17.Lo < v19.Hi)), H, (wk_mk [] (kR rfl rfl (kR rfl rfl (kR rfl rfl SL.nil))) BL.nil BK.nil)⟩)))))))))))
      ·exact gSkip eZ (dF h16) rfl (gSkip (eR rfl) (dF h16) rfl (gSkip (eR rfl) (dF h16) rfl (gSkip (eR rfl) (dF h16) rfl (gSkip (eR rfl) (dF h16) rfl (gSkip (eR rfl) (dF h16) rfl (gSkip (eR rfl) (dF h16) rfl (gSkip (eR rfl) (dF h16) rfl (gSkip (eR rfl) (dF h16) rfl (gSkip (eR rfl) (dF h16) rfl (gSkip (eR rfl) (dF h16) rfl (gSkip (eR rfl) (dF h16) rfl (gDo (eR rfl) (cN h15) (oPickF (eR rfl) (dF h16) eC (oPickF (eR rfl) (cN h15) eZ (xNil (TQ.qn ⟨false, H, (wk_mk [] (kR rfl rfl (kR rfl rfl (kR rfl rfl SL.nil))) BL.nil BK.nil)⟩))))))))))))))))
     ·exact gSkip eZ (cN (nt h15)) rfl (gSkip (eR rfl) (cN (nt h15)) rfl (gSkip (eR rfl) (cN (nt h15)) rfl (gSkipU eZ rfl (gSkipU (eR rfl) rfl (gSkipU (eR rfl) rfl (gSkipU (eR rfl) rfl (gSkipU (eR rfl) rfl (gSkipU (eR rfl) rfl (gSkipU (eR rfl) rfl (gSkipU (eR rfl) rfl (gSkipU (eR rfl) rfl (gSkipU (eR rfl) rfl (gSkipU (eR rfl) rfl (gSkipU (eR rfl) rfl (gSkip (eR rfl) (cN (nt h15)) rfl (oPickT (eR rfl) (cN (nt h15)) eC (xNil (TQ.qn ⟨true, H, (wk_mk [] (kR rfl rfl (kR rfl rfl (kR rfl rfl SL.nil))) BL.nil BK.nil)⟩))))))))))))))))))
   ·exact AW.condF eZ (dF h7) (AW.exit (TQ.qe (TQ.qe (BQ.qe (TQ.qn ⟨(), H, (wk_mk [] SL.nil BL.nil BK.nil)⟩)))))
theorem c_spec_l10Key {a1 : Int} {r : Bool} (H : m_spec_l10Key a1 = some r) : Fn Tryz.prog 78 (lent [(.int .i64 a1)]) true [(.bool r)] := by
 refine f78 (fle rfl) ?_
 rw [init_mk]
 refine AW.weaken (wk_mk [] (kv 0 (oI a1) rfl rfl SL.nil) BL.nil BK.nil) ?_
 unfold m_spec_l10Key at H
 unfold i78
 refine aV (oMov eC (xQ (aV (oMov (eR rfl) ?_))))
 obtain ⟨v2, h3, H⟩ := obind H
 refine oCall (u := (oB v2)) eC Cl.fn (c_spec_l1In h3) (Evs.cons eZ (Evs.cons eC (Evs.cons eC Evs.nil))) (VDs.cons VD.plain (VDs.cons VD.plain (VDs.cons VD.plain VDs.nil))) rfl (oMov eZ (xQ (AW.ret ?_)))
 cases H
 exact eE rfl rfl
theorem c_spec_l1Whole {a1 : Int} {r : Bool} (H : m_spec_l1Whole a1 = some r) : Fn Tryz.prog 79 (lent [(.int .i64 a1)]) true [(.bool r)] := by
 refine f79 (fle rfl) ?_
 rw [init_mk]
 refine AW.weaken (wk_mk [] (kv 0 (oI a1) rfl rfl SL.nil) BL.nil BK.nil) ?_
 unfold m_spec_l1Whole at H
 unfold i79
 refine aV (oMov eC (xQ (aV (oMov (eR rfl) ?_))))
 obtain ⟨v2, h3, H⟩ := obind H
 refine oCall (u := (oB v2)) eC Cl.fn (c_spec_l1In h3) (Evs.cons eZ (Evs.cons eC (Evs.cons eC Evs.nil))) (VDs.cons VD.plain (VDs.cons VD.plain (VDs.cons VD.plain VDs.nil))) rfl (oMov eZ (xQ (AW.ret ?_)))
 cases H
 exact eE rfl rfl
theorem c_spec_StoreOk {a1 : (List TCell)} {r : Bool} (H : m_spec_StoreOk a1 = some r) : Fn Tryz.prog 24 (lent [(.sl 2 (List.map d_TCell a1))]) true [(.bool r)] := by
 refine f24 (fle rfl) ?_
 rw [init_mk]
 refine AW.weaken (wk_mk [] (kv 0 (.one (.d (.sl 2 (List.map d_TCell a1)))) rfl rfl SL.nil) BL.nil BK.nil) ?_
 unfold m_spec_StoreOk at H
 unfold i24
 refine aV (oMov eC (xQ (aS (aV (oMov (eR rfl) (oLenD eZ (n := a1.length) (List.length_map _) (oGtr eZ eC (xQ ?_))))))))
 rcases oite H with ⟨h2, H⟩ | ⟨h2, H⟩
 ·refine AW.condT eZ (dT h2) (aV (oMov eC (xQ (AW.ret (TQ.qr ?_)))))
  cases H
  exact eE rfl rfl
 ·refine AW.condF eZ (dF h2) (AW.skip (TQ.qn (AW.seqJ (fun t3 : Unit => spec_StoreOk_j3 t3 = some r) (fun t3 => mk [] [] noG) ?_ ?_)))
  ·intro t3 H
   unfold spec_StoreOk_j3 at H
   refine aV (oMov eC (xQ (AW.ret ?_)))
   cases H
   exact eE rfl rfl
  ·refine aV (oMov eC (xQ (AW.block (AW.iter (fun s5 : Int => mk [(0, (.one (.d (.sl 2 (List.map d_TCell a1))))), (3, (oI s5))] [] noG) H (wk_mk [] (kR rfl rfl (kR rfl rfl SL.nil)) BL.nil BK.nil) ?_))))
   intro kb6 s5 H
   unfold spec_StoreOk_b5 at H
   refine aS (aV (oMov (eR rfl) (oMov (eR rfl) (oLenD eZ (n := a1.length) (List.length_map _) (oLss (eR rfl) eZ (xQ ?_))))))
   rcases oite H with ⟨h7, H⟩ | ⟨h7, H⟩
   ·refine AW.condT eZ (dT h7) (AW.skip (TQ.qn (aS (AW.block (AW.seqJ (fun t8 : Bool => (spec_StoreOk_j8 kb6 s5) t8 = some r) (fun t8 => mk [(0, (.one (.d (.sl 2 (List.map d_TCell a1))))), (3, (oI s5)), (46, (oB t8))] [] noG) ?_ ?_)))))
    ·intro t8 H
     unfold spec_StoreOk_j8 at H
     rcases oite H with ⟨h10, H⟩ | ⟨h10, H⟩
     ·refine AW.condT (eR rfl) h10 (aV (oMov eC (xQ (AW.ret (BQ.qr (TQ.qr (TQ.qr (BQ.qr (TQ.qr ?_)))))))))
      cases H
      exact eE rfl rfl
     ·exact AW.condF (eR rfl) (nt h10) (AW.skip (BQ.qn (TQ.qn (aR (oMov (eR rfl) (oAdd eZ eC (oMov eZ (xNil (TQ.qn ⟨(IntKind.wrap .i64 (s5 + 1)), H, (wk_mk [] (kR rfl rfl (kR rfl rfl SL.nil)) BL.nil BK.nil)⟩)))))))))
    ·refine AW.regd (oMov (eR rfl) (oMov (eR rfl) ?_))
     obtain ⟨v11, h12, H⟩ := obind H
     refine oAtD (eR rfl) eZ h12 (oFaddrB (m := 0) eZ rfl (oLoadB (e := (.int .i64 v11.Key)) eZ rfl ?_))
     obtain ⟨v13, h14, H⟩ := obind H
     refine oCall (u := (oB v13)) eC Cl.fn (c_spec_l10Key h14) (Evs.cons eZ Evs.nil) (VDs.cons VD.plain VDs.nil) rfl (oInv eZ (oMov eZ ?_))
     rcases oite H with ⟨h15, H⟩ | ⟨h15, H⟩
     ·refine gDo eZ (cN h15) (oMov (eR rfl) (gDo (eR rfl) (cN h15) (oMov (eR rfl) (gDo (eR rfl) (cN h15) ?_))))
      obtain ⟨v16, h17, H⟩ := obind H
      refine oAtD (eR rfl) eZ h17 (gDo (eR rfl) (cN h15) (oFaddrB (m := 1) eZ rfl (gDo (eR rfl) (cN h15) (oLoadB (e := (.int .i64 v16.Value)) eZ rfl (gDo (eR rfl) (cN h15) ?_)))))
      obtain ⟨v18, h19, H⟩ := obind H
      refine oCall (u := (oB v18)) eC Cl.fn (c_spec_l1Whole h19) (Evs.cons eZ Evs.nil) (VDs.cons VD.plain VDs.nil) rfl (gDo (eR rfl) (cN h15) (oInv eZ (oPickF (eR rfl) (cN h15) eZ (oMov eZ ?_))))
      rcases oite H with ⟨h20, H⟩ | ⟨h20, H⟩
      ·refine gDo eZ (cN h20) (oMov (eR rfl) (gDo (eR rfl) (cN h20) (oGtr eZ eC (gDo (eR rfl) (cN h20) (oMov eZ ?_)))))
       rcases oite H with ⟨h21, H⟩ | ⟨h21, H⟩
       ·refine gDo eZ (dT h21) (oMov (eR rfl) (gDo (eR rfl) (dT h21) (oMov (eR rfl) (gDo (eR rfl) (dT h21) (oSub eZ eC (gDo (eR rfl) (dT h21) ?_))))))
        obtain ⟨v22, h23, H⟩ := obind H
        refine oAtD (eR rfl) eZ h23 (gDo (eR rfl) (dT h21) (oFaddrB (m := 0) eZ rfl (gDo (eR rfl) (dT h21) (oLoadB (e := (.int .i64 v22.Key)) eZ rfl (gDo (eR rfl) (dT h21) (oMov (eR rfl) (gDo (eR rfl) (dT h21) (oMov (eR rfl) (gDo (eR rfl) (dT h21) ?_)))))))))
        obtain ⟨v24, h25, H⟩ := obind H
        exact oAtD (eR rfl) eZ h25 (gDo (eR rfl) (dT h21) (oFaddrB (m := 0) eZ rfl (gDo (eR rfl) (dT h21) (oLoadB (e := (.int .i64 v24.Key)) eZ rfl (gDo (eR rfl) (dT h21) (oGeq (eR rfl) eZ (gDo (eR rfl) (cN h20) (oPickT (eR rfl) (dT h21) eZ (oPickF (eR rfl) (cN h20) eZ (xNil (TQ.qn ⟨(decide (v24.Key ≤ v22.Key)), H, (wk_mk [] (kR rfl rfl (kR rfl rfl (kR rfl rfl SL.nil))) BL.nil BK.nil)⟩)))))))))))
       ·exact gSkip eZ (dF h21) rfl (gSkip (eR rfl) (dF h21) rfl (gSkip (eR rfl) (dF h21) rfl (gSkip (eR rfl) (dF h21) rfl (gSkip (eR rfl) (dF h21) rfl (gSkip (eR rfl) (dF h21) rfl (gSkip (eR rfl) (dF h21) rfl (gSkip (eR rfl) (dF h21) rfl (gSkip (eR rfl) (dF h21) rfl (gSkip (eR rfl) (dF h21) rfl (gSkip (eR rfl) (dF h21) rfl (gSkip (eR rfl) (dF h21) rfl (gDo (eR rfl) (cN h20) (oPickF (eR rfl) (dF h21) eC (oPickF (eR rfl) (cN h20) eZ (xNil (TQ.qn ⟨false, H, (wk_mk [] (kR rfl rfl (kR rfl rfl (kR rfl rfl SL.nil))) BL.nil BK.nil)⟩))))))))))))))))
      ·exact gSkip eZ (cN (nt h20)) rfl (gSkip (eR rfl) (cN (nt h20)) rfl (gSkip (eR rfl) (cN (nt h20)) rfl (gSkipU eZ rfl (gSkipU (eR rfl) rfl (gSkipU (eR rfl) rfl (gSkipU (eR rfl) rfl (gSkipU (eR rfl) rfl (gSkipU (eR rfl) rfl (gSkipU (eR rfl) rfl (gSkipU (eR rfl) rfl (gSkipU (eR rfl) rfl (gSkipU (eR rfl) rfl (gSkipU (eR rfl) rfl (gSkipU (eR rfl) rfl (gSkip (eR rfl) (cN (nt h20)) rfl (oPickT (eR rfl) (cN (nt h20)) eC (xNil (TQ.qn ⟨true, H, (wk_mk [] (kR rfl rfl (kR rfl rfl (kR rfl rfl SL.nil))) BL.nil BK.nil)⟩))))))))))))))))))
     ·exact gSkip eZ (cN (nt h15)) rfl (gSkip (eR rfl) (cN (nt h15)) rfl (gSkip (eR rfl) (cN (nt h15)) rfl (gSkip (eR rfl) (cN (nt h15)) rfl (gSkip (eR rfl) (cN (nt h15)) rfl (gSkip (eR rfl) (cN (nt h15)) rfl (gSkip (eR rfl) (cN (nt h15)) rfl (oPickT (eR rfl) (cN (nt h15)) eC (oMov eZ (gSkip eZ rfl rfl (gSkip (eR rfl) rfl rfl (gSkip (eR rfl) rfl rfl (gSkipU eZ rfl (gSkipU (eR rfl) rfl (gSkipU (eR rfl) rfl (gSkipU (eR rfl) rfl (gSkipU (eR rfl) rfl (gSkipU (eR rfl) rfl (gSkipU (eR rfl) rfl (gSkipU (eR rfl) rfl (gSkipU (eR rfl) rfl (gSkipU (eR rfl) rfl (gSkipU (eR rfl) rfl (gSkipU (eR rfl) rfl (gSkip (eR rfl) rfl rfl (oPickT (eR rfl) rfl eC (xNil (TQ.qn ⟨true, H, (wk_mk [] (kR rfl rfl (kR rfl rfl (kR rfl rfl SL.nil))) BL.nil BK.nil)⟩)))))))))))))))))))))))))))
   ·exact AW.condF eZ (dF h7) (AW.exit (TQ.qe (TQ.qe (BQ.qe (TQ.qn ⟨(), H, (wk_mk [] SL.nil BL.nil BK.nil)⟩)))))
theorem c_spec_l12Tx {a1 : Int} {r : Bool} (H : m_spec_l12Tx a1 = some r) : Fn Tryz.prog 80 (lent [(.int .i64 a1)]) true [(.bool r)] := by
 refine f80 (fle rfl) ?_
 rw [init_mk]
 refine AW.weaken (wk_mk [] (kv 0 (oI a1) rfl rfl SL.nil) BL.nil BK.nil) ?_
 unfold m_spec_l12Tx at H
 unfold i80
 refine aV (oMov eC (xQ (aV (oMov (eR rfl) ?_))))
 obtain ⟨v2, h3, H⟩ := obind H
 refine oCall (u := (oB v2)) eC Cl.fn (c_spec_l1In h3) (Evs.cons eZ (Evs.cons eC (Evs.cons eC Evs.nil))) (VDs.cons VD.plain (VDs.cons VD.plain (VDs.cons VD.plain VDs.nil))) rfl (oMov eZ (xQ (AW.ret ?_)))
 cases H
 exact eE rfl rfl
theorem c_spec_l12Range {a1 : TLock} {r : TRange} (H : m_spec_l12Range a1 = some r) : Fn Tryz.prog 29 (lent [(.agg (d_TLock a1))]) true [(.agg (d_TRange r))] := by
 refine f29 (fle rfl) ?_
 rw [init_mk]
 refine AW.weaken (wk_mk [] (kv 0 (.agg [(dI a1.Tx), (dI a1.Lo), (dI a1.Hi), (dI a1.Mode)]) rfl rfl SL.nil) BL.nil BK.nil) ?_
 unfold m_spec_l12Range at H
 unfold i29
 refine aV (oBox (n := 64) (m := 4) (cs := [(dI a1.Tx), (dI a1.Lo), (dI a1.Hi), (dI a1.Mode)]) rfl eZ rfl rfl nZ (oVar (n := 128) (m := 2) rfl rfl (nS rfl nZ) (xQ (aV (oFaddrN (m := 1) (eR rfl) rfl (oLoadV (q := 1) (c := (dI a1.Lo)) eZ (bS rfl bZ) rfl rfl (oFaddrN (m := 2) (eR rfl) rfl (oLoadV (q := 2) (c := (dI a1.Hi)) eZ (bS rfl bZ) rfl rfl (oBuild (cs := [(dI a1.Lo), (dI a1.Hi)]) (PsCons (eR rfl) (PsCons eZ PsNil)) rfl (oStoreV (es := [(dI a1.Lo), (dI a1.Hi)]) (eR rfl) eZ rfl rfl bZ rfl (xQ (AW.ret ?_))))))))))))
 cases H
 exact endsR (RL.cons (RV.cellA (es := [(dI a1.Lo), (dI a1.Hi)]) (eR rfl) bZ rfl) (VO.agg (ds := [(.int .i64 a1.Lo), (.int .i64 a1.Hi)]) rfl rfl) RL.nil) List.nodup_nil
theorem c_spec_l12Mode {a1 : Int} {r : Bool} (H : m_spec_l12Mode a1 = some r) : Fn Tryz.prog 81 (lent [(.int .i64 a1)]) true [(.bool r)] := by
 refine f81 (fle rfl) ?_
 rw [init_mk]
 refine AW.weaken (wk_mk [] (kv 0 (oI a1) rfl rfl SL.nil) BL.nil BK.nil) ?_
 unfold m_spec_l12Mode at H
 unfold i81
 refine aV (oMov eC (xQ (aV (oMov (eR rfl) (oEql eZ eC (oMov eZ ?_))))))
 rcases oite H with ⟨h2, H⟩ | ⟨h2, H⟩
 ·refine gSkip eZ (dT h2) rfl (gSkip (eR rfl) (dT h2) rfl (oPickT (eR rfl) (dT h2) eC (oMov eZ (xQ (AW.ret ?_)))))
  cases H
  exact eE rfl rfl
 ·refine gDo eZ (dF h2) (oMov (eR rfl) (gDo (eR rfl) (dF h2) (oEql eZ eC (oPickF (eR rfl) (dF h2) eZ (oMov eZ (xQ (AW.ret ?_)))))))
  cases H
  exact eE rfl rfl
theorem c_spec_l1Max {a1 : Int} {a2 : Int} {r : Int} (H : m_spec_l1Max a1 a2 = some r) : Fn Tryz.prog 135 (lent [(.int .i64 a1), (.int .i64 a2)]) true [(.int .i64 r)] := by
 refine f135 (fle rfl) ?_
 rw [init_mk]
 refine AW.weaken (wk_mk [] (kv 0 (oI a1) rfl rfl (kv 1 (oI a2) rfl rfl SL.nil)) BL.nil BK.nil) ?_
 unfold m_spec_l1Max at H
 unfold i135
 refine aV (oMov eC (xQ (aS (aV (oMov (eR rfl) (oMov (eR rfl) (oGtr (eR rfl) eZ (xQ ?_))))))))
 rcases oite H with ⟨h3, H⟩ | ⟨h3, H⟩
 ·refine AW.condT eZ (dT h3) (aV (oMov (eR rfl) (oMov eZ (xQ (AW.ret (TQ.qr ?_))))))
  cases H
  exact eE rfl rfl
 ·refine AW.condF eZ (dF h3) (AW.skip (TQ.qn (aV (oMov (eR rfl) (oMov eZ (xQ (AW.ret ?_)))))))
  cases H
  exact eE rfl rfl
theorem c_spec_l1Min {a1 : Int} {a2 : Int} {r : Int} (H : m_spec_l1Min a1 a2 = some r) : Fn Tryz.prog 136 (lent [(.int .i64 a1), (.int .i64 a2)]) true [(.int .i64 r)] := by
 refine f136 (fle rfl) ?_
 rw [init_mk]
 refine AW.weaken (wk_mk [] (kv 0 (oI a1) rfl rfl (kv 1 (oI a2) rfl rfl SL.nil)) BL.nil BK.nil) ?_
 unfold m_spec_l1Min at H
 unfold i136
 refine aV (oMov eC (xQ (aS (aV (oMov (eR rfl) (oMov (eR rfl) (oLss (eR rfl) eZ (xQ ?_))))))))
 rcases oite H with ⟨h3, H⟩ | ⟨h3, H⟩
 ·refine AW.condT eZ (dT h3) (aV (oMov (eR rfl) (oMov eZ (xQ (AW.ret (TQ.qr ?_))))))
  cases H
  exact eE rfl rfl
 ·refine AW.condF eZ (dF h3) (AW.skip (TQ.qn (aV (oMov (eR rfl) (oMov eZ (xQ (AW.ret ?_)))))))
  cases H
  exact eE rfl rfl
theorem c_spec_RangeMeet {a1 : TRange} {a2 : TRange} {r : (TRange × Bool)} (H : m_spec_RangeMeet a1 a2 = some r) : Fn Tryz.prog 114 (lent [(.agg (d_TRange a1)), (.agg (d_TRange a2))]) true [(.agg (d_TRange r.1)), (.bool r.2)] := by
 refine f114 (fle rfl) ?_
 rw [init_mk]
 refine AW.weaken (wk_mk [] (kv 0 (.agg [(dI a1.Lo), (dI a1.Hi)]) rfl rfl (kv 1 (.agg [(dI a2.Lo), (dI a2.Hi)]) rfl rfl SL.nil)) BL.nil BK.nil) ?_
 unfold m_spec_RangeMeet at H
 unfold i114
 refine aV (oBox (n := 128) (m := 2) (cs := [(dI a1.Lo), (dI a1.Hi)]) rfl eZ rfl rfl nZ (oBox (n := 192) (m := 2) (cs := [(dI a2.Lo), (dI a2.Hi)]) rfl (eR rfl) rfl rfl (nS rfl nZ) (oVar (n := 256) (m := 2) rfl rfl (nS rfl (nS rfl nZ)) (oMov eC (xQ (aS (AW.regd (oFaddrN (m := 0) (eR rfl) rfl (oLoadV (q := 0) (c := (dI a1.Lo)) eZ (hB rfl (bS rfl (bS rfl bZ))) rfl rfl (oFaddrN (m := 0) (eR rfl) rfl (oLoadV (q := 0) (c := (dI a2.Lo)) eZ (hB rfl (bS rfl bZ)) rfl rfl ?_)))))))))))
 obtain ⟨v3, h4, H⟩ := obind H
 refine oCall (u := (oI v3)) eC Cl.fn (c_spec_l1Max h4) (Evs.cons (eR rfl) (Evs.cons eZ Evs.nil)) (VDs.cons VD.plain (VDs.cons VD.plain VDs.nil)) rfl (oFaddrN (m := 1) (eR rfl) rfl (oLoadV (q := 1) (c := (dI a1.Hi)) eZ (hB rfl (bS rfl (bS rfl bZ))) rfl rfl (oFaddrN (m := 1) (eR rfl) rfl (oLoadV (q := 1) (c := (dI a2.Hi)) eZ (hB rfl (bS rfl bZ)) rfl rfl ?_))))
 obtain ⟨v5, h6, H⟩ := obind H
 refine oCall (u := (oI v5)) eC Cl.fn (c_spec_l1Min h6) (Evs.cons (eR rfl) (Evs.cons eZ Evs.nil)) (VDs.cons VD.plain (VDs.cons VD.plain VDs.nil)) rfl (oBuild (cs := [(dI v3), (dI v5)]) (PsCons (eR rfl) (PsCons eZ PsNil)) rfl (oVar (n := 384) (m := 2) rfl rfl (hN (nS rfl (nS rfl (nS rfl nZ)))) (oStoreV (es := [(dI v3), (dI v5)]) eZ (eR rfl) rfl rfl bZ rfl (xQ (AW.weaken (wk_mk [] (kr 6 rfl rfl (kr 4 rfl rfl (kr 3 rfl rfl (kr 2 rfl rfl SL.nil)))) (BL.keep rfl (BL.keep rfl (BL.keep rfl (BL.keep rfl (BL.keep rfl BL.nil))))) (BK.cons (n := 384) rfl bZ rfl rfl (BK.cons (n := 256) rfl (bS rfl (bS rfl bZ)) rfl rfl (BK.cons (n := 192) rfl (bS rfl (bS rfl (bS rfl bZ))) rfl rfl (BK.cons (n := 128) rfl (bS rfl (bS rfl (bS rfl (bS rfl bZ)))) rfl rfl BK.nil))))) (aS (AW.seqJ (fun t7 : Bool => (spec_RangeMeet_j7 v3 v5) t7 = some r) (fun t7 => mk [(4, (.one (.ptr (.nm 256 0 0)))), (6, (.one (.ptr (.nm 384 0 0)))), (30, (oB t7))] [(256, (.vars 2 [(dI 0), (dI 0)])), (384, (.vars 2 [(dI v3), (dI v5)]))] noG) ?_ ?_)))))))
 ·intro t7 H
  unfold spec_RangeMeet_j7 at H
  rcases oite H with ⟨h9, H⟩ | ⟨h9, H⟩
  ·refine AW.condT (eR rfl) h9 (aV (oBuild (cs := [(dI 0), (dI 0)]) PsNil rfl (oStoreV (es := [(dI 0), (dI 0)]) (eR rfl) eZ rfl rfl bZ rfl (oMov eC (xQ (AW.ret (TQ.qr ?_)))))))
   cases H
   exact endsR (RL.cons (RV.cellA (es := [(dI 0), (dI 0)]) (eR rfl) bZ rfl) (VO.agg (ds := [(.int .i64 0), (.int .i64 0)]) rfl rfl) (RL.cons (RV.tmp eZ) (VO.flat rfl) RL.nil)) List.nodup_nil
  ·refine AW.condF (eR rfl) (nt h9) (AW.skip (TQ.qn (aV (oLoadVA (es := [(dI v3), (dI v5)]) (eR rfl) (bS rfl bZ) rfl (oStoreV (es := [(dI v3), (dI v5)]) (eR rfl) eZ rfl rfl bZ rfl (oMov eC (xQ (AW.ret ?_))))))))
   cases H
   exact endsR (RL.cons (RV.cellA (es := [(dI v3), (dI v5)]) (eR rfl) bZ rfl) (VO.agg (ds := [(.int .i64 v3), (.int .i64 v5)]) rfl rfl) (RL.cons (RV.tmp eZ) (VO.flat rfl) RL.nil)) List.nodup_nil
 ·refine aR (oLoadVA (es := [(dI a1.Lo), (dI a1.Hi)]) (eR rfl) (bS rfl (bS rfl (bS rfl bZ))) rfl ?_)
  obtain ⟨v10, h11, H⟩ := obind H
  refine oCall (u := (oB v10)) eC Cl.fn (c_spec_RangeOk h11) (Evs.cons eZ Evs.nil) (VDs.cons (VD.agg rfl) VDs.nil) rfl (oInv eZ (oMov eZ ?_))
  rcases oite H with ⟨h12, H⟩ | ⟨h12, H⟩
  ·refine gDo eZ (cN h12) (oLoadVA (es := [(dI a2.Lo), (dI a2.Hi)]) (eR rfl) (bS rfl (bS rfl bZ)) rfl (gDo (eR rfl) (cN h12) ?_))
   obtain ⟨v13, h14, H⟩ := obind H
   refine oCall (u := (oB v13)) eC Cl.fn (c_spec_RangeOk h14) (Evs.cons eZ Evs.nil) (VDs.cons (VD.agg rfl) VDs.nil) rfl (gDo (eR rfl) (cN h12) (oInv eZ (oPickF (eR rfl) (cN h12) eZ (oMov eZ ?_))))
   rcases oite H with ⟨h15, H⟩ | ⟨h15, H⟩
   ·refine gDo eZ (cN h15) (oLoadVA (es := [(dI v3), (dI v5)]) (eR rfl) bZ rfl (gDo (eR rfl) (cN h15) ?_))
    obtain ⟨v16, h17, H⟩ := obind H
    exact oCall (u := (oB v16)) eC Cl.fn (c_spec_RangeOk h17) (Evs.cons eZ Evs.nil) (VDs.cons (VD.agg rfl) VDs.nil) rfl (gDo (eR rfl) (cN h15) (oInv eZ (oPickF (eR rfl) (cN h15) eZ (xNil (TQ.qn ⟨(!v16), H, (wk_mk [192, 128] (kR rfl rfl (kR rfl rfl (kR rfl rfl SL.nil))) (BL.keep rfl (BL.keep rfl (BL.drop rfl (BL.drop rfl BL.nil)))) (BK.cons rfl (bS rfl bZ) rfl rfl (BK.cons rfl bZ rfl rfl BK.nil)))⟩)))))
   ·exact gSkip eZ (cN (nt h15)) rfl (gSkip (eR rfl) (cN (nt h15)) rfl (gSkip (eR rfl) (cN (nt h15)) rfl (oPickT (eR rfl) (cN (nt h15)) eC (xNil (TQ.qn ⟨true, H, (wk_mk [192, 128] (kR rfl rfl (kR rfl rfl (kR rfl rfl SL.nil))) (BL.keep rfl (BL.keep rfl (BL.drop rfl (BL.drop rfl BL.nil)))) (BK.cons rfl (bS rfl bZ) rfl rfl (BK.cons rfl bZ rfl rfl BK.nil)))⟩)))))
  ·exact gSkip eZ (cN (nt h12)) rfl (gSkip (eR rfl) (cN (nt h12)) rfl (gSkip (eR rfl) (cN (nt h12)) rfl (oPickT (eR rfl) (cN (nt h12)) eC (oMov eZ (gSkip eZ rfl rfl (gSkip (eR rfl) rfl rfl (gSkip (eR rfl) rfl rfl (oPickT (eR rfl) rfl eC (xNil (TQ.qn ⟨true, H, (wk_mk [192, 128] (kR rfl rfl (kR rfl rfl (kR rfl rfl SL.nil))) (BL.keep rfl (BL.keep rfl (BL.drop rfl (BL.drop rfl BL.nil)))) (BK.cons rfl (bS rfl bZ) rfl rfl (BK.cons rfl bZ rfl rfl BK.nil)))⟩))))))))))
theorem c_spec_l12Clash {a1 : TLock} {a2 : TLock} {r : Bool} (H : m_spec_l12Clash a1 a2 = some r) : Fn Tryz.prog 82 (lent [(.agg (d_TLock a1)), (.agg (d_TLock a2))]) true [(.bool r)] := by
 refine f82 (fle rfl) ?_
 rw [init_mk]
 refine AW.weaken (wk_mk [] (kv 0 (.agg [(dI a1.Tx), (dI a1.Lo), (dI a1.Hi), (dI a1.Mode)]) rfl rfl (kv 1 (.agg [(dI a2.Tx), (dI a2.Lo), (dI a2.Hi), (dI a2.Mode)]) rfl rfl SL.nil)) BL.nil BK.nil) ?_
 unfold m_spec_l12Clash at H
 unfold i82
 refine aV (oBox (n := 128) (m := 4) (cs := [(dI a1.Tx), (dI a1.Lo), (dI a1.Hi), (dI a1.Mode)]) rfl eZ rfl rfl nZ (oBox (n := 192) (m := 4) (cs := [(dI a2.Tx), (dI a2.Lo), (dI a2.Hi), (dI a2.Mode)]) rfl (eR rfl) rfl rfl (nS rfl nZ) (oMov eC (xQ (aS (AW.regd (oLoadVA (es := [(dI a1.Tx), (dI a1.Lo), (dI a1.Hi), (dI a1.Mode)]) (eR rfl) (hB rfl (bS rfl bZ)) rfl ?_)))))))
 obtain ⟨v3, h4, H⟩ := obind H
 refine oCall (u := (.agg [(dI v3.Lo), (dI v3.Hi)])) eC Cl.fn (c_spec_l12Range h4) (Evs.cons eZ Evs.nil) (VDs.cons (VD.agg rfl) VDs.nil) rfl (oLoadVA (es := [(dI a2.Tx), (dI a2.Lo), (dI a2.Hi), (dI a2.Mode)]) (eR rfl) (hB rfl bZ) rfl ?_)
 obtain ⟨v5, h6, H⟩ := obind H
 refine oCall (u := (.agg [(dI v5.Lo), (dI v5.Hi)])) eC Cl.fn (c_spec_l12Range h6) (Evs.cons eZ Evs.nil) (VDs.cons (VD.agg rfl) VDs.nil) rfl ?_
 obtain ⟨v7, h8, H⟩ := obind H
 refine oCall (u := (.tup [(.agg [(dI v7.1.Lo), (dI v7.1.Hi)]), (oB v7.2)])) eC Cl.fn (c_spec_RangeMeet h8) (Evs.cons (eR rfl) (Evs.cons eZ Evs.nil)) (VDs.cons (VD.agg rfl) (VDs.cons (VD.agg rfl) VDs.nil)) rfl (oMov eZ (oExt (v := (.agg [(dI v7.1.Lo), (dI v7.1.Hi)])) eZ rfl (oExt (v := (oB v7.2)) (eR rfl) rfl (oVar (n := 320) (m := 2) rfl rfl (hN (nS rfl (nS rfl nZ))) (oStoreV (es := [(dI v7.1.Lo), (dI v7.1.Hi)]) eZ (eR rfl) rfl rfl bZ rfl (oMov (eR rfl) (xQ (aV (oMov eZ (oMov eZ ?_))))))))))
 rcases oite H with ⟨h9, H⟩ | ⟨h9, H⟩
 ·refine gDo eZ h9 (oFaddrN (m := 0) (eR rfl) rfl (gDo (eR rfl) h9 (oLoadV (q := 0) (c := (dI a1.Tx)) eZ (bS rfl (bS rfl (bS rfl bZ))) rfl rfl (gDo (eR rfl) h9 (oFaddrN (m := 0) (eR rfl) rfl (gDo (eR rfl) h9 (oLoadV (q := 0) (c := (dI a2.Tx)) eZ (bS rfl (bS rfl bZ)) rfl rfl (gDo (eR rfl) h9 (oNeq (eR rfl) eZ (oPickT (eR rfl) h9 eZ (oMov eZ ?_)))))))))))
  rcases oite H with ⟨h10, H⟩ | ⟨h10, H⟩
  ·refine gDo eZ (dT h10) (oFaddrN (m := 3) (eR rfl) rfl (gDo (eR rfl) (dT h10) (oLoadV (q := 3) (c := (dI a1.Mode)) eZ (bS rfl (bS rfl (bS rfl bZ))) rfl rfl (gDo (eR rfl) (dT h10) (oEql eZ eC (gDo (eR rfl) (dT h10) (oMov eZ ?_)))))))
   rcases oite H with ⟨h11, H⟩ | ⟨h11, H⟩
   ·refine gSkip eZ (dT h11) rfl (gSkip (eR rfl) (dT h11) rfl (gSkip (eR rfl) (dT h11) rfl (gDo (eR rfl) (dT h10) (oPickT (eR rfl) (dT h11) eC (oPickT (eR rfl) (dT h10) eZ (oMov eZ (xQ (AW.weaken (wk_mk [320, 192, 128] (kr 4 rfl rfl SL.nil) (BL.drop rfl (BL.drop rfl (BL.drop rfl (BL.drop rfl BL.nil)))) BK.nil) (AW.ret ?_)))))))))
    cases H
    exact eE rfl rfl
   ·refine gDo eZ (dF h11) (oFaddrN (m := 3) (eR rfl) rfl (gDo (eR rfl) (dF h11) (oLoadV (q := 3) (c := (dI a2.Mode)) eZ (bS rfl (bS rfl bZ)) rfl rfl (gDo (eR rfl) (dF h11) (oEql eZ eC (gDo (eR rfl) (dT h10) (oPickF (eR rfl) (dF h11) eZ (oPickT (eR rfl) (dT h10) eZ (oMov eZ (xQ (AW.weaken (wk_mk [320, 192, 128] (kr 4 rfl rfl SL.nil) (BL.drop rfl (BL.drop rfl (BL.drop rfl (BL.drop rfl BL.nil)))) BK.nil) (AW.ret ?_))))))))))))
    cases H
    exact eE rfl rfl
  ·refine gSkip eZ (dF h10) rfl (gSkip (eR rfl) (dF h10) rfl (gSkip (eR rfl) (dF h10) rfl (gSkip (eR rfl) (dF h10) rfl (gSkipU eZ rfl (gSkipU (eR rfl) rfl (gSkipU (eR rfl) rfl (gSkip (eR rfl) (dF h10) rfl (oPickF (eR rfl) (dF h10) eC (oMov eZ (xQ (AW.weaken (wk_mk [320, 192, 128] (kr 4 rfl rfl SL.nil) (BL.drop rfl (BL.drop rfl (BL.drop rfl (BL.drop rfl BL.nil)))) BK.nil) (AW.ret ?_))))))))))))
   cases H
   exact eE rfl rfl
 ·refine gSkip eZ (nt h9) rfl (gSkip (eR rfl) (nt h9) rfl (gSkip (eR rfl) (nt h9) rfl (gSkip (eR rfl) (nt h9) rfl (gSkip (eR rfl) (nt h9) rfl (oPickF (eR rfl) (nt h9) eC (oMov eZ (gSkip eZ rfl rfl (gSkip (eR rfl) rfl rfl (gSkip (eR rfl) rfl rfl (gSkip (eR rfl) rfl rfl (gSkipU eZ rfl (gSkipU (eR rfl) rfl (gSkipU (eR rfl) rfl (gSkip (eR rfl) rfl rfl (oPickF (eR rfl) rfl eC (oMov eZ (xQ (AW.weaken (wk_mk [320, 192, 128] (kr 4 rfl rfl SL.nil) (BL.drop rfl (BL.drop rfl (BL.drop rfl (BL.drop rfl BL.nil)))) BK.nil) (AW.ret ?_)))))))))))))))))))
  cases H
  exact eE rfl rfl
theorem c_spec_LocksOk {a1 : (List TLock)} {r : Bool} (H : m_spec_LocksOk a1 = some r) : Fn Tryz.prog 25 (lent [(.sl 4 (List.map d_TLock a1))]) true [(.bool r)] := by
 refine f25 (fle rfl) ?_
 rw [init_mk]
 refine AW.weaken (wk_mk [] (kv 0 (.one (.d (.sl 4 (List.map d_TLock a1)))) rfl rfl SL.nil) BL.nil BK.nil) ?_
 unfold m_spec_LocksOk at H
 unfold i25
 refine aV (oMov eC (xQ (aS (aV (oMov (eR rfl) (oLenD eZ (n := a1.length) (List.length_map _) (oGtr eZ eC (xQ ?_))))))))
 rcases oite H with ⟨h2, H⟩ | ⟨h2, H⟩
 ·refine AW.condT eZ (dT h2) (aV (oMov eC (xQ (AW.ret (TQ.qr ?_)))))
  cases H
  exact eE rfl rfl
 ·refine AW.condF eZ (dF h2) (AW.skip (TQ.qn (AW.seqJ (fun t3 : Unit => spec_LocksOk_j3 t3 = some r) (fun t3 => mk [] [] noG) ?_ ?_)))
  ·intro t3 H
   unfold spec_LocksOk_j3 at H
   refine aV (oMov eC (xQ (AW.ret ?_)))
   cases H
   exact eE rfl rfl
  ·refine aV (oMov eC (xQ (AW.block (AW.iter (fun s5 : Int => mk [(0, (.one (.d (.sl 4 (List.map d_TLock a1))))), (3, (oI s5))] [] noG) H (wk_mk [] (kR rfl rfl (kR rfl rfl SL.nil)) BL.nil BK.nil) ?_))))
   intro kb6 s5 H
   unfold spec_LocksOk_b5 at H
   refine aS (aV (oMov (eR rfl) (oMov (eR rfl) (oLenD eZ (n := a1.length) (List.length_map _) (oLss (eR rfl) eZ (xQ ?_))))))
   rcases oite H with ⟨h7, H⟩ | ⟨h7, H⟩
   ·refine AW.condT eZ (dT h7) (AW.skip (TQ.qn (AW.seqJ (fun t8 : Unit => (spec_LocksOk_j8 kb6 s5) t8 = some r) (fun t8 => mk [(0, (.one (.d (.sl 4 (List.map d_TLock a1))))), (3, (oI s5))] [] noG) ?_ ?_)))
    ·intro t8 H
     unfold spec_LocksOk_j8 at H
     exact aR (oMov (eR rfl) (oAdd eZ eC (oMov eZ (xNil (TQ.qn ⟨(IntKind.wrap .i64 (s5 + 1)), H, (wk_mk [] (kR rfl rfl (kR rfl rfl SL.nil)) BL.nil BK.nil)⟩)))))
    ·refine AW.block (aS (AW.seqJ (fun t10 : Bool => (spec_LocksOk_j10 s5 a1 (spec_LocksOk_j8 kb6 s5)) t10 = some r) (fun t10 => mk [(0, (.one (.d (.sl 4 (List.map d_TLock a1))))), (3, (oI s5)), (38, (oB t10))] [] noG) ?_ ?_))
     ·intro t10 H
      unfold spec_LocksOk_j10 at H
      rcases oite H with ⟨h12, H⟩ | ⟨h12, H⟩
      ·refine AW.condT (eR rfl) h12 (aV (oMov eC (xQ (AW.ret (TQ.qr (BQ.qr (TQ.qr (TQ.qr (BQ.qr (TQ.qr ?_))))))))))
       cases H
       exact eE rfl rfl
      ·refine AW.condF (eR rfl) (nt h12) (AW.skip (TQ.qn (aV (oMov eC (xQ (AW.block (AW.iter (fun s13 : Int => mk [(0, (.one (.d (.sl 4 (List.map d_TLock a1))))), (3, (oI s5)), (4, (oI s13))] [] noG) H (wk_mk [] (kR rfl rfl (kR rfl rfl (kR rfl rfl SL.nil))) BL.nil BK.nil) ?_)))))))
       intro kb14 s13 H
       unfold spec_LocksOk_b13 at H
       refine aS (aV (oMov (eR rfl) (oMov (eR rfl) (oLss (eR rfl) eZ (xQ ?_)))))
       rcases oite H with ⟨h15, H⟩ | ⟨h15, H⟩
       ·refine AW.condT eZ (dT h15) (AW.skip (TQ.qn (aS (AW.block (aS (AW.regd (oMov (eR rfl) (oMov (eR rfl) ?_))))))))
        obtain ⟨v16, h17, H⟩ := obind H
        refine oAtD (eR rfl) eZ h17 (oLoadBA (es := [(dI v16.Tx), (dI v16.Lo), (dI v16.Hi), (dI v16.Mode)]) eZ rfl (oMov (eR rfl) (oMov (eR rfl) ?_)))
        obtain ⟨v18, h19, H⟩ := obind H
        refine oAtD (eR rfl) eZ h19 (oLoadBA (es := [(dI v18.Tx), (dI v18.Lo), (dI v18.Hi), (dI v18.Mode)]) eZ rfl ?_)
        obtain ⟨v20, h21, H⟩ := obind H
        refine oCall (u := (oB v20)) eC Cl.fn (c_spec_l12Clash h21) (Evs.cons (eR rfl) (Evs.cons eZ Evs.nil)) (VDs.cons (VD.agg rfl) (VDs.cons (VD.agg rfl) VDs.nil)) rfl (xQ ?_)
        rcases oite H with ⟨h22, H⟩ | ⟨h22, H⟩
        ·refine AW.condT eZ h22 (aV (oMov eC (xQ (AW.weaken (wk_mk [] (kr 2 rfl rfl SL.nil) BL.nil BK.nil) (AW.ret (BQ.qr (TQ.qr (TQ.qr (BQ.qr (BQ.qr (TQ.qr (TQ.qr (BQ.qr (TQ.qr ?_))))))))))))))
         cases H
         exact eE rfl rfl
        ·exact AW.condF eZ (nt h22) (AW.skip (BQ.qn (TQ.qn (aR (oMov (eR rfl) (oAdd eZ eC (oMov eZ (xNil (TQ.qn ⟨(IntKind.wrap .i64 (s13 + 1)), H, (wk_mk [] (kR rfl rfl (kR rfl rfl (kR rfl rfl SL.nil))) BL.nil BK.nil)⟩)))))))))
       ·exact AW.condF eZ (dF h15) (AW.exit (TQ.qe (TQ.qe (BQ.qe (BQ.qn (TQ.qn ⟨(), H, (wk_mk [] (kR rfl rfl (kR rfl rfl SL.nil)) BL.nil BK.nil)⟩))))))
     ·refine aR (oMov (eR rfl) (oMov (eR rfl) ?_))
      obtain ⟨v23, h24, H⟩ := obind H
      refine oAtD (eR rfl) eZ h24 (oFaddrB (m := 0) eZ rfl (oLoadB (e := (.int .i64 v23.Tx)) eZ rfl ?_))
      obtain ⟨v25, h26, H⟩ := obind H
      refine oCall (u := (oB v25)) eC Cl.fn (c_spec_l12Tx h26) (Evs.cons eZ Evs.nil) (VDs.cons VD.plain VDs.nil) rfl (oInv eZ (oMov eZ ?_))
      rcases oite H with ⟨h27, H⟩ | ⟨h27, H⟩
      ·refine gDo eZ (cN h27) (oMov (eR rfl) (gDo (eR rfl) (cN h27) (oMov (eR rfl) (gDo (eR rfl) (cN h27) ?_))))
       obtain ⟨v28, h29, H⟩ := obind H
       refine oAtD (eR rfl) eZ h29 (gDo (eR rfl) (cN h27) (oLoadBA (es := [(dI v28.Tx), (dI v28.Lo), (dI v28.Hi), (dI v28.Mode)]) eZ rfl (gDo (eR rfl) (cN h27) ?_)))
       obtain ⟨v30, h31, H⟩ := obind H
       refine oCall (u := (.agg [(dI v30.Lo), (dI v30.Hi)])) eC Cl.fn (c_spec_l12Range h31) (Evs.cons eZ Evs.nil) (VDs.cons (VD.agg rfl) VDs.nil) rfl (gDo (eR rfl) (cN h27) ?_)
       obtain ⟨v32, h33, H⟩ := obind H
       refine oCall (u := (oB v32)) eC Cl.fn (c_spec_RangeOk h33) (Evs.cons eZ Evs.nil) (VDs.cons (VD.agg rfl) VDs.nil) rfl (gDo (eR rfl) (cN h27) (oInv eZ (oPickF (eR rfl) (cN h27) eZ (oMov eZ ?_))))
       rcases oite H with ⟨h34, H⟩ | ⟨h34, H⟩
       ·refine gDo eZ (cN h34) (oMov (eR rfl) (gDo (eR rfl) (cN h34) (oMov (eR rfl) (gDo (eR rfl) (cN h34) ?_))))
        obtain ⟨v35, h36, H⟩ := obind H
        refine oAtD (eR rfl) eZ h36 (gDo (eR rfl) (cN h34) (oFaddrB (m := 3) eZ rfl (gDo (eR rfl) (cN h34) (oLoadB (e := (.int .i64 v35.Mode)) eZ rfl (gDo (eR rfl) (cN h34) ?_)))))
        obtain ⟨v37, h38, H⟩ := obind H
        exact oCall (u := (oB v37)) eC Cl.fn (c_spec_l12Mode h38) (Evs.cons eZ Evs.nil) (VDs.cons VD.plain VDs.nil) rfl (gDo (eR rfl) (cN h34) (oInv eZ (oPickF (eR rfl) (cN h34) eZ (xNil (TQ.qn ⟨(!v37), H, (wk_mk [] (kR rfl rfl (kR rfl rfl (kR rfl rfl SL.nil))) BL.nil BK.nil)⟩)))))
       ·exact gSkip eZ (cN (nt h34)) rfl (gSkip (eR rfl) (cN (nt h34)) rfl (gSkip (eR rfl) (cN (nt h34)) rfl (gSkip (eR rfl) (cN (nt h34)) rfl (gSkip (eR rfl) (cN (nt h34)) rfl (gSkip (eR rfl) (cN (nt h34)) rfl (gSkip (eR rfl) (cN (nt h34)) rfl (oPickT (eR rfl) (cN (nt h34)) eC (xNil (TQ.qn ⟨true, H, (wk_mk [] (kR rfl rfl (kR rfl rfl (kR rfl rfl SL.nil))) BL.nil BK.nil)⟩)))))))))
      ·exact gSkip eZ (cN (nt h27)) rfl (gSkip (eR rfl) (cN (nt h27)) rfl (gSkip (eR rfl) (cN (nt h27)) rfl (gSkip (eR rfl) (cN (nt h27)) rfl (gSkip (eR rfl) (cN (nt h27)) rfl (gSkip (eR rfl) (cN (nt h27)) rfl (gSkip (eR rfl) (cN (nt h27)) rfl (oPickT (eR rfl) (cN (nt h27)) eC (oMov eZ (gSkip eZ rfl rfl (gSkip (eR rfl) rfl rfl (gSkip (eR rfl) rfl rfl (gSkip (eR rfl) rfl rfl (gSkip (eR rfl) rfl rfl (gSkip (eR rfl) rfl rfl (gSkip (eR rfl) rfl rfl (oPickT (eR rfl) rfl eC (xNil (TQ.qn ⟨true, H, (wk_mk [] (kR rfl rfl (kR rfl rfl (kR rfl rfl SL.nil))) BL.nil BK.nil)⟩))))))))))))))))))
   ·exact AW.condF eZ (dF h7) (AW.exit (TQ.qe (TQ.qe (BQ.qe (TQ.qn ⟨(), H, (wk_mk [] SL.nil BL.nil BK.nil)⟩)))))
theorem c_spec_l13Txs {a1 : (List Int)} {r : Bool} (H : m_spec_l13Txs a1 = some r) : Fn Tryz.prog 26 (lent [(.sl 1 (List.map d_i64 a1))]) true [(.bool r)] := by
 refine f26 (fle rfl) ?_
 rw [init_mk]
 refine AW.weaken (wk_mk [] (kv 0 (.one (.d (.sl 1 (List.map d_i64 a1)))) rfl rfl SL.nil) BL.nil BK.nil) ?_
 unfold m_spec_l13Txs at H
 unfold i26
 refine aV (oMov eC (xQ (AW.seqJ (fun t2 : Unit => spec_l13Txs_j2 t2 = some r) (fun t2 => mk [] [] noG) ?_ ?_)))
 ·intro t2 H
  unfold spec_l13Txs_j2 at H
  refine aV (oMov eC (xQ (AW.ret ?_)))
  cases H
  exact eE rfl rfl
 ·refine aV (oMov eC (xQ (AW.block (AW.iter (fun s4 : Int => mk [(0, (.one (.d (.sl 1 (List.map d_i64 a1))))), (3, (oI s4))] [] noG) H (wk_mk [] (kR rfl rfl (kR rfl rfl SL.nil)) BL.nil BK.nil) ?_))))
  intro kb5 s4 H
  unfold spec_l13Txs_b4 at H
  refine aS (aV (oMov (eR rfl) (oMov (eR rfl) (oLenD eZ (n := a1.length) (List.length_map _) (oLss (eR rfl) eZ (xQ ?_))))))
  rcases oite H with ⟨h6, H⟩ | ⟨h6, H⟩
  ·refine AW.condT eZ (dT h6) (AW.skip (TQ.qn (aS (AW.block (AW.seqJ (fun t7 : Bool => (spec_l13Txs_j7 kb5 s4) t7 = some r) (fun t7 => mk [(0, (.one (.d (.sl 1 (List.map d_i64 a1))))), (3, (oI s4)), (31, (oB t7))] [] noG) ?_ ?_)))))
   ·intro t7 H
    unfold spec_l13Txs_j7 at H
    rcases oite H with ⟨h9, H⟩ | ⟨h9, H⟩
    ·refine AW.condT (eR rfl) h9 (aV (oMov eC (xQ (AW.ret (BQ.qr (TQ.qr (TQ.qr (BQ.qr (TQ.qr ?_)))))))))
     cases H
     exact eE rfl rfl
    ·exact AW.condF (eR rfl) (nt h9) (AW.skip (BQ.qn (TQ.qn (aR (oMov (eR rfl) (oAdd eZ eC (oMov eZ (xNil (TQ.qn ⟨(IntKind.wrap .i64 (s4 + 1)), H, (wk_mk [] (kR rfl rfl (kR rfl rfl SL.nil)) BL.nil BK.nil)⟩)))))))))
   ·refine AW.regd (oMov (eR rfl) (oMov (eR rfl) ?_))
    obtain ⟨v10, h11, H⟩ := obind H
    refine oAtD (eR rfl) eZ h11 (oLoadB (e := (.int .i64 v10)) eZ rfl ?_)
    obtain ⟨v12, h13, H⟩ := obind H
    refine oCall (u := (oB v12)) eC Cl.fn (c_spec_l12Tx h13) (Evs.cons eZ Evs.nil) (VDs.cons VD.plain VDs.nil) rfl (oInv eZ (oMov eZ ?_))
    rcases oite H with ⟨h14, H⟩ | ⟨h14, H⟩
    ·refine gDo eZ (cN h14) (oMov (eR rfl) (gDo (eR rfl) (cN h14) (oGtr eZ eC (gDo (eR rfl) (cN h14) (oMov eZ ?_)))))
     rcases oite H with ⟨h15, H⟩ | ⟨h15, H⟩
     ·refine gDo eZ (dT h15) (oMov (eR rfl) (gDo (eR rfl) (dT h15) (oMov (eR rfl) (gDo (eR rfl) (dT h15) (oSub eZ eC (gDo (eR rfl) (dT h15) ?_))))))
      obtain ⟨v16, h17, H⟩ := obind H
      refine oAtD (eR rfl) eZ h17 (gDo (eR rfl) (dT h15) (oLoadB (e := (.int .i64 v16)) eZ rfl (gDo (eR rfl) (dT h15) (oMov (eR rfl) (gDo (eR rfl) (dT h15) (oMov (eR rfl) (gDo (eR rfl) (dT h15) ?_)))))))
      obtain ⟨v18, h19, H⟩ := obind H
      exact oAtD (eR rfl) eZ h19 (gDo (eR rfl) (dT h15) (oLoadB (e := (.int .i64 v18)) eZ rfl (gDo (eR rfl) (dT h15) (oGeq (eR rfl) eZ (gDo (eR rfl) (cN h14) (oPickT (eR rfl) (dT h15) eZ (oPickF (eR rfl) (cN h14) eZ (xNil (TQ.qn ⟨(decide (v18 ≤ v16)), H, (wk_mk [] (kR rfl rfl (kR rfl rfl (kR rfl rfl SL.nil))) BL.nil BK.nil)⟩)))))))))
     ·exact gSkip eZ (dF h15) rfl (gSkip (eR rfl) (dF h15) rfl (gSkip (eR rfl) (dF h15) rfl (gSkip (eR rfl) (dF h15) rfl (gSkip (eR rfl) (dF h15) rfl (gSkip (eR rfl) (dF h15) rfl (gSkip (eR rfl) (dF h15) rfl (gSkip (eR rfl) (dF h15) rfl (gSkip (eR rfl) (dF h15) rfl (gSkip (eR rfl) (dF h15) rfl (gDo (eR rfl) (cN h14) (oPickF (eR rfl) (dF h15) eC (oPickF (eR rfl) (cN h14) eZ (xNil (TQ.qn ⟨false, H, (wk_mk [] (kR rfl rfl (kR rfl rfl (kR rfl rfl SL.nil))) BL.nil BK.nil)⟩))))))))))))))
    ·exact gSkip eZ (cN (nt h14)) rfl (gSkip (eR rfl) (cN (nt h14)) rfl (gSkip (eR rfl) (cN (nt h14)) rfl (gSkipU eZ rfl (gSkipU (eR rfl) rfl (gSkipU (eR rfl) rfl (gSkipU (eR rfl) rfl (gSkipU (eR rfl) rfl (gSkipU (eR rfl) rfl (gSkipU (eR rfl) rfl (gSkipU (eR rfl) rfl (gSkipU (eR rfl) rfl (gSkipU (eR rfl) rfl (gSkip (eR rfl) (cN (nt h14)) rfl (oPickT (eR rfl) (cN (nt h14)) eC (xNil (TQ.qn ⟨true, H, (wk_mk [] (kR rfl rfl (kR rfl rfl (kR rfl rfl SL.nil))) BL.nil BK.nil)⟩))))))))))))))))
  ·exact AW.condF eZ (dF h6) (AW.exit (TQ.qe (TQ.qe (BQ.qe (TQ.qn ⟨(), H, (wk_mk [] SL.nil BL.nil BK.nil)⟩)))))
theorem c_spec_RangesHave {a1 : (List TRange)} {a2 : TRange} {r : Bool} (H : m_spec_RangesHave a1 a2 = some r) : Fn Tryz.prog 27 (lent [(.sl 2 (List.map d_TRange a1)), (.agg (d_TRange a2))]) true [(.bool r)] := by
 refine f27 (fle rfl) ?_
 rw [init_mk]
 refine AW.weaken (wk_mk [] (kv 0 (.one (.d (.sl 2 (List.map d_TRange a1)))) rfl rfl (kv 1 (.agg [(dI a2.Lo), (dI a2.Hi)]) rfl rfl SL.nil)) BL.nil BK.nil) ?_
 unfold m_spec_RangesHave at H
 unfold i27
 refine aV (oBox (n := 192) (m := 2) (cs := [(dI a2.Lo), (dI a2.Hi)]) rfl (eR rfl) rfl rfl nZ (oMov eC (xQ (aS (AW.seqJ (fun t3 : Bool => (spec_RangesHave_j3 a1 a2) t3 = some r) (fun t3 => mk [(0, (.one (.d (.sl 2 (List.map d_TRange a1))))), (3, (.one (.ptr (.nm 192 0 0)))), (14, (oB t3))] [(192, (.vars 2 [(dI a2.Lo), (dI a2.Hi)]))] noG) ?_ ?_)))))
 ·intro t3 H
  unfold spec_RangesHave_j3 at H
  rcases oite H with ⟨h5, H⟩ | ⟨h5, H⟩
  ·refine AW.condT (eR rfl) h5 (aV (oMov eC (xQ (AW.ret (TQ.qr ?_)))))
   cases H
   exact eE rfl rfl
  ·refine AW.condF (eR rfl) (nt h5) (AW.skip (TQ.qn (aV (oFaddrN (m := 0) (eR rfl) rfl (oLoadV (q := 0) (c := (dI a2.Lo)) eZ bZ rfl rfl (oMov eZ (xQ (AW.seqJ (fun t6 : Int => (spec_RangesHave_j6 a2) t6 = some r) (fun t6 => mk [(3, (.one (.ptr (.nm 192 0 0)))), (5, (oI t6))] [(192, (.vars 2 [(dI a2.Lo), (dI a2.Hi)]))] noG) ?_ ?_))))))))
   ·intro t6 H
    unfold spec_RangesHave_j6 at H
    refine aV (oMov (eR rfl) (oFaddrN (m := 1) (eR rfl) rfl (oLoadV (q := 1) (c := (dI a2.Hi)) eZ bZ rfl rfl (oGeq (eR rfl) eZ (oMov eZ (xQ (AW.ret ?_)))))))
    cases H
    exact eE rfl rfl
   ·refine aV (oMov eC (xQ (AW.block (AW.iter (fun s8 : (Int × Int) => mk [(0, (.one (.d (.sl 2 (List.map d_TRange a1))))), (3, (.one (.ptr (.nm 192 0 0)))), (5, (oI s8.1)), (6, (oI s8.2))] [(192, (.vars 2 [(dI a2.Lo), (dI a2.Hi)]))] noG) H (wk_mk [] (kR rfl rfl (kR rfl rfl (kR rfl rfl (kR rfl rfl SL.nil)))) (BL.keep rfl BL.nil) (BK.cons rfl bZ rfl rfl BK.nil)) ?_))))
    intro kb9 s8 H
    unfold spec_RangesHave_b8 at H
    refine aS (aV (oMov (eR rfl) (oMov (eR rfl) (oLenD eZ (n := a1.length) (List.length_map _) (oLss (eR rfl) eZ (xQ ?_))))))
    rcases oite H with ⟨h10, H⟩ | ⟨h10, H⟩
    ·refine AW.condT eZ (dT h10) (AW.skip (TQ.qn (aS (AW.block (AW.seqJ (fun t11 : Bool => (spec_RangesHave_j11 a1 s8 kb9) t11 = some r) (fun t11 => mk [(0, (.one (.d (.sl 2 (List.map d_TRange a1))))), (3, (.one (.ptr (.nm 192 0 0)))), (5, (oI s8.1)), (6, (oI s8.2)), (38, (oB t11))] [(192, (.vars 2 [(dI a2.Lo), (dI a2.Hi)]))] noG) ?_ ?_)))))
     ·intro t11 H
      unfold spec_RangesHave_j11 at H
      rcases oite H with ⟨h13, H⟩ | ⟨h13, H⟩
      ·refine AW.condT (eR rfl) h13 (aR (oMov eZ (oMov (eR rfl) ?_)))
       obtain ⟨v14, h15, H⟩ := obind H
       exact oAtD (eR rfl) eZ h15 (oFaddrB (m := 1) eZ rfl (oLoadB (e := (.int .i64 v14.Hi)) eZ rfl (oMov eZ (xNil (BQ.qn (TQ.qn (aR (oMov (eR rfl) (oAdd eZ eC (oMov eZ (xNil (TQ.qn ⟨(v14.Hi, (IntKind.wrap .i64 (s8.2 + 1))), H, (wk_mk [] (kR rfl rfl (kR rfl rfl (kR rfl rfl (kR rfl rfl SL.nil)))) (BL.keep rfl BL.nil) (BK.cons rfl bZ rfl rfl BK.nil))⟩))))))))))))
      ·exact AW.condF (eR rfl) (nt h13) (AW.skip (BQ.qn (TQ.qn (aR (oMov (eR rfl) (oAdd eZ eC (oMov eZ (xNil (TQ.qn ⟨(s8.1, (IntKind.wrap .i64 (s8.2 + 1))), H, (wk_mk [] (kR rfl rfl (kR rfl rfl (kR rfl rfl (kR rfl rfl SL.nil)))) (BL.keep rfl BL.nil) (BK.cons rfl bZ rfl rfl BK.nil))⟩)))))))))
     ·refine aR (oMov (eR rfl) (oMov (eR rfl) ?_))
      obtain ⟨v16, h17, H⟩ := obind H
      refine oAtD (eR rfl) eZ h17 (oFaddrB (m := 0) eZ rfl (oLoadB (e := (.int .i64 v16.Lo)) eZ rfl (oMov (eR rfl) (oLeq (eR rfl) eZ (oMov eZ ?_)))))
      rcases oite H with ⟨h18, H⟩ | ⟨h18, H⟩
      ·refine gDo eZ (dT h18) (oMov (eR rfl) (gDo (eR rfl) (dT h18) (oMov (eR rfl) (gDo (eR rfl) (dT h18) (oMov (eR rfl) (gDo (eR rfl) (dT h18) ?_))))))
       obtain ⟨v19, h20, H⟩ := obind H
       exact oAtD (eR rfl) eZ h20 (gDo (eR rfl) (dT h18) (oFaddrB (m := 1) eZ rfl (gDo (eR rfl) (dT h18) (oLoadB (e := (.int .i64 v19.Hi)) eZ rfl (gDo (eR rfl) (dT h18) (oLss (eR rfl) eZ (oPickT (eR rfl) (dT h18) eZ (xNil (TQ.qn ⟨(decide (s8.1 < v19.Hi)), H, (wk_mk [] (kR rfl rfl (kR rfl rfl (kR rfl rfl (kR rfl rfl (kR rfl rfl SL.nil))))) (BL.keep rfl BL.nil) (BK.cons rfl bZ rfl rfl BK.nil))⟩)))))))))
      ·exact gSkip eZ (dF h18) rfl (gSkip (eR rfl) (dF h18) rfl (gSkip (eR rfl) (dF h18) rfl (gSkip (eR rfl) (dF h18) rfl (gSkip (eR rfl) (dF h18) rfl (gSkip (eR rfl) (dF h18) rfl (gSkip (eR rfl) (dF h18) rfl (oPickF (eR rfl) (dF h18) eC (xNil (TQ.qn ⟨false, H, (wk_mk [] (kR rfl rfl (kR rfl rfl (kR rfl rfl (kR rfl rfl (kR rfl rfl SL.nil))))) (BL.keep rfl BL.nil) (BK.cons rfl bZ rfl rfl BK.nil))⟩)))))))))
    ·exact AW.condF eZ (dF h10) (AW.exit (TQ.qe (TQ.qe (BQ.qe (TQ.qn ⟨s8.1, H, (wk_mk [] (kR rfl rfl (kR rfl rfl SL.nil)) (BL.keep rfl BL.nil) (BK.cons rfl bZ rfl rfl BK.nil))⟩)))))
 ·refine aR (oMov (eR rfl) ?_)
  obtain ⟨v21, h22, H⟩ := obind H
  refine oCall (u := (oB v21)) eC Cl.fn (c_spec_RangesOk h22) (Evs.cons eZ Evs.nil) (VDs.cons VD.plain VDs.nil) rfl (oInv eZ (oMov eZ ?_))
  rcases oite H with ⟨h23, H⟩ | ⟨h23, H⟩
  ·refine gDo eZ (cN h23) (oLoadVA (es := [(dI a2.Lo), (dI a2.Hi)]) (eR rfl) bZ rfl (gDo (eR rfl) (cN h23) ?_))
   obtain ⟨v24, h25, H⟩ := obind H
   exact oCall (u := (oB v24)) eC Cl.fn (c_spec_RangeOk h25) (Evs.cons eZ Evs.nil) (VDs.cons (VD.agg rfl) VDs.nil) rfl (gDo (eR rfl) (cN h23) (oInv eZ (oPickF (eR rfl) (cN h23) eZ (xNil (TQ.qn ⟨(!v24), H, (wk_mk [] (kR rfl rfl (kR rfl rfl (kR rfl rfl SL.nil))) (BL.keep rfl BL.nil) (BK.cons rfl bZ rfl rfl BK.nil))⟩)))))
  ·exact gSkip eZ (cN (nt h23)) rfl (gSkip (eR rfl) (cN (nt h23)) rfl (gSkip (eR rfl) (cN (nt h23)) rfl (oPickT (eR rfl) (cN (nt h23)) eC (xNil (TQ.qn ⟨true, H, (wk_mk [] (kR rfl rfl (kR rfl rfl (kR rfl rfl SL.nil))) (BL.keep rfl BL.nil) (BK.cons rfl bZ rfl rfl BK.nil))⟩)))))
theorem c_spec_l10One {a1 : Int} {r : TRange} (H : m_spec_l10One a1 = some r) : Fn Tryz.prog 28 (lent [(.int .i64 a1)]) true [(.agg (d_TRange r))] := by
 refine f28 (fle rfl) ?_
 rw [init_mk]
 refine AW.weaken (wk_mk [] (kv 0 (oI a1) rfl rfl SL.nil) BL.nil BK.nil) ?_
 unfold m_spec_l10One at H
 unfold i28
 refine aV (oVar (n := 128) (m := 2) rfl rfl nZ (xQ (aV (oMov (eR rfl) (oMov (eR rfl) (oAdd eZ eC (oBuild (cs := [(dI a1), (dI (IntKind.wrap .i64 (a1 + 1)))]) (PsCons (eR rfl) (PsCons eZ PsNil)) rfl (oStoreV (es := [(dI a1), (dI (IntKind.wrap .i64 (a1 + 1)))]) (eR rfl) eZ rfl rfl bZ rfl (xQ (AW.ret ?_))))))))))
 cases H
 exact endsR (RL.cons (RV.cellA (es := [(dI a1), (dI (IntKind.wrap .i64 (a1 + 1)))]) (eR rfl) bZ rfl) (VO.agg (ds := [(.int .i64 a1), (.int .i64 (IntKind.wrap .i64 (a1 + 1)))]) rfl rfl) RL.nil) List.nodup_nil
theorem c_spec_l12Has {a1 : (List Int)} {a2 : Int} {r : Bool} (H : m_spec_l12Has a1 a2 = some r) : Fn Tryz.prog 30 (lent [(.sl 1 (List.map d_i64 a1)), (.int .i64 a2)]) true [(.bool r)] := by
 refine f30 (fle rfl) ?_
 rw [init_mk]
 refine AW.weaken (wk_mk [] (kv 0 (.one (.d (.sl 1 (List.map d_i64 a1)))) rfl rfl (kv 1 (oI a2) rfl rfl SL.nil)) BL.nil BK.nil) ?_
 unfold m_spec_l12Has at H
 unfold i30
 refine aV (oMov eC (xQ (AW.seqJ (fun t3 : Unit => spec_l12Has_j3 t3 = some r) (fun t3 => mk [] [] noG) ?_ ?_)))
 ·intro t3 H
  unfold spec_l12Has_j3 at H
  refine aV (oMov eC (xQ (AW.ret ?_)))
  cases H
  exact eE rfl rfl
 ·refine aV (oMov eC (xQ (AW.block (AW.iter (fun s5 : Int => mk [(0, (.one (.d (.sl 1 (List.map d_i64 a1))))), (1, (oI a2)), (5, (oI s5))] [] noG) H (wk_mk [] (kR rfl rfl (kR rfl rfl (kR rfl rfl SL.nil))) BL.nil BK.nil) ?_))))
  intro kb6 s5 H
  unfold spec_l12Has_b5 at H
  refine aS (aV (oMov (eR rfl) (oMov (eR rfl) (oLenD eZ (n := a1.length) (List.length_map _) (oLss (eR rfl) eZ (xQ ?_))))))
  rcases oite H with ⟨h7, H⟩ | ⟨h7, H⟩
  ·refine AW.condT eZ (dT h7) (AW.skip (TQ.qn (aS (AW.block (aV (oMov (eR rfl) (oMov (eR rfl) ?_)))))))
   obtain ⟨v8, h9, H⟩ := obind H
   refine oAtD (eR rfl) eZ h9 (oLoadB (e := (.int .i64 v8)) eZ rfl (oMov (eR rfl) (oEql (eR rfl) eZ (xQ ?_))))
   rcases oite H with ⟨h10, H⟩ | ⟨h10, H⟩
   ·refine AW.condT eZ (dT h10) (aV (oMov eC (xQ (AW.ret (BQ.qr (TQ.qr (TQ.qr (BQ.qr (TQ.qr ?_)))))))))
    cases H
    exact eE rfl rfl
   ·exact AW.condF eZ (dF h10) (AW.skip (BQ.qn (TQ.qn (aR (oMov (eR rfl) (oAdd eZ eC (oMov eZ (xNil (TQ.qn ⟨(IntKind.wrap .i64 (s5 + 1)), H, (wk_mk [] (kR rfl rfl (kR rfl rfl (kR rfl rfl SL.nil))) BL.nil BK.nil)⟩)))))))))
  ·exact AW.condF eZ (dF h7) (AW.exit (TQ.qe (TQ.qe (BQ.qe (TQ.qn ⟨(), H, (wk_mk [] SL.nil BL.nil BK.nil)⟩)))))
theorem c_spec_WritesOk {a1 : (List TCell)} {r : Bool} (H : m_spec_WritesOk a1 = some r) : Fn Tryz.prog 83 (lent [(.sl 2 (List.map d_TCell a1))]) true [(.bool r)] := by
 refine f83 (fle rfl) ?_
 rw [init_mk]
 refine AW.weaken (wk_mk [] (kv 0 (.one (.d (.sl 2 (List.map d_TCell a1)))) rfl rfl SL.nil) BL.nil BK.nil) ?_
 unfold m_spec_WritesOk at H
 unfold i83
 refine aV (oMov eC (xQ (aS (aV (oMov (eR rfl) (oLenD eZ (n := a1.length) (List.length_map _) (oGtr eZ eC (xQ ?_))))))))
 rcases oite H with ⟨h2, H⟩ | ⟨h2, H⟩
 ·refine AW.condT eZ (dT h2) (aV (oMov eC (xQ (AW.ret (TQ.qr ?_)))))
  cases H
  exact eE rfl rfl
 ·refine AW.condF eZ (dF h2) (AW.skip (TQ.qn (AW.seqJ (fun t3 : Unit => spec_WritesOk_j3 t3 = some r) (fun t3 => mk [] [] noG) ?_ ?_)))
  ·intro t3 H
   unfold spec_WritesOk_j3 at H
   refine aV (oMov eC (xQ (AW.ret ?_)))
   cases H
   exact eE rfl rfl
  ·refine aV (oMov eC (xQ (AW.block (AW.iter (fun s5 : Int => mk [(0, (.one (.d (.sl 2 (List.map d_TCell a1))))), (3, (oI s5))] [] noG) H (wk_mk [] (kR rfl rfl (kR rfl rfl SL.nil)) BL.nil BK.nil) ?_))))
   intro kb6 s5 H
   unfold spec_WritesOk_b5 at H
   refine aS (aV (oMov (eR rfl) (oMov (eR rfl) (oLenD eZ (n := a1.length) (List.length_map _) (oLss (eR rfl) eZ (xQ ?_))))))
   rcases oite H with ⟨h7, H⟩ | ⟨h7, H⟩
   ·refine AW.condT eZ (dT h7) (AW.skip (TQ.qn (aS (AW.block (AW.seqJ (fun t8 : Bool => (spec_WritesOk_j8 kb6 s5) t8 = some r) (fun t8 => mk [(0, (.one (.d (.sl 2 (List.map d_TCell a1))))), (3, (oI s5)), (46, (oB t8))] [] noG) ?_ ?_)))))
    ·intro t8 H
     unfold spec_WritesOk_j8 at H
     rcases oite H with ⟨h10, H⟩ | ⟨h10, H⟩
     ·refine AW.condT (eR rfl) h10 (aV (oMov eC (xQ (AW.ret (BQ.qr (TQ.qr (TQ.qr (BQ.qr (TQ.qr ?_)))))))))
      cases H
      exact eE rfl rfl
     ·exact AW.condF (eR rfl) (nt h10) (AW.skip (BQ.qn (TQ.qn (aR (oMov (eR rfl) (oAdd eZ eC (oMov eZ (xNil (TQ.qn ⟨(IntKind.wrap .i64 (s5 + 1)), H, (wk_mk [] (kR rfl rfl (kR rfl rfl SL.nil)) BL.nil BK.nil)⟩)))))))))
    ·refine AW.regd (oMov (eR rfl) (oMov (eR rfl) ?_))
     obtain ⟨v11, h12, H⟩ := obind H
     refine oAtD (eR rfl) eZ h12 (oFaddrB (m := 0) eZ rfl (oLoadB (e := (.int .i64 v11.Key)) eZ rfl ?_))
     obtain ⟨v13, h14, H⟩ := obind H
     refine oCall (u := (oB v13)) eC Cl.fn (c_spec_l10Key h14) (Evs.cons eZ Evs.nil) (VDs.cons VD.plain VDs.nil) rfl (oInv eZ (oMov eZ ?_))
     rcases oite H with ⟨h15, H⟩ | ⟨h15, H⟩
     ·refine gDo eZ (cN h15) (oMov (eR rfl) (gDo (eR rfl) (cN h15) (oMov (eR rfl) (gDo (eR rfl) (cN h15) ?_))))
      obtain ⟨v16, h17, H⟩ := obind H
      refine oAtD (eR rfl) eZ h17 (gDo (eR rfl) (cN h15) (oFaddrB (m := 1) eZ rfl (gDo (eR rfl) (cN h15) (oLoadB (e := (.int .i64 v16.Value)) eZ rfl (gDo (eR rfl) (cN h15) ?_)))))
      obtain ⟨v18, h19, H⟩ := obind H
      refine oCall (u := (oB v18)) eC Cl.fn (c_spec_l1In h19) (Evs.cons eZ (Evs.cons eC (Evs.cons eC Evs.nil))) (VDs.cons VD.plain (VDs.cons VD.plain (VDs.cons VD.plain VDs.nil))) rfl (gDo (eR rfl) (cN h15) (oInv eZ (oPickF (eR rfl) (cN h15) eZ (oMov eZ ?_))))
      rcases oite H with ⟨h20, H⟩ | ⟨h20, H⟩
      ·refine gDo eZ (cN h20) (oMov (eR rfl) (gDo (eR rfl) (cN h20) (oGtr eZ eC (gDo (eR rfl) (cN h20) (oMov eZ ?_)))))
       rcases oite H with ⟨h21, H⟩ | ⟨h21, H⟩
       ·refine gDo eZ (dT h21) (oMov (eR rfl) (gDo (eR rfl) (dT h21) (oMov (eR rfl) (gDo (eR rfl) (dT h21) (oSub eZ eC (gDo (eR rfl) (dT h21) ?_))))))
        obtain ⟨v22, h23, H⟩ := obind H
        refine oAtD (eR rfl) eZ h23 (gDo (eR rfl) (dT h21) (oFaddrB (m := 0) eZ rfl (gDo (eR rfl) (dT h21) (oLoadB (e := (.int .i64 v22.Key)) eZ rfl (gDo (eR rfl) (dT h21) (oMov (eR rfl) (gDo (eR rfl) (dT h21) (oMov (eR rfl) (gDo (eR rfl) (dT h21) ?_)))))))))
        obtain ⟨v24, h25, H⟩ := obind H
        exact oAtD (eR rfl) eZ h25 (gDo (eR rfl) (dT h21) (oFaddrB (m := 0) eZ rfl (gDo (eR rfl) (dT h21) (oLoadB (e := (.int .i64 v24.Key)) eZ rfl (gDo (eR rfl) (dT h21) (oGeq (eR rfl) eZ (gDo (eR rfl) (cN h20) (oPickT (eR rfl) (dT h21) eZ (oPickF (eR rfl) (cN h20) eZ (xNil (TQ.qn ⟨(decide (v24.Key ≤ v22.Key)), H, (wk_mk [] (kR rfl rfl (kR rfl rfl (kR rfl rfl SL.nil))) BL.nil BK.nil)⟩)))))))))))
       ·exact gSkip eZ (dF h21) rfl (gSkip (eR rfl) (dF h21) rfl (gSkip (eR rfl) (dF h21) rfl (gSkip (eR rfl) (dF h21) rfl (gSkip (eR rfl) (dF h21) rfl (gSkip (eR rfl) (dF h21) rfl (gSkip (eR rfl) (dF h21) rfl (gSkip (eR rfl) (dF h21) rfl (gSkip (eR rfl) (dF h21) rfl (gSkip (eR rfl) (dF h21) rfl (gSkip (eR rfl) (dF h21) rfl (gSkip (eR rfl) (dF h21) rfl (gDo (eR rfl) (cN h20) (oPickF (eR rfl) (dF h21) eC (oPickF (eR rfl) (cN h20) eZ (xNil (TQ.qn ⟨false, H, (wk_mk [] (kR rfl rfl (kR rfl rfl (kR rfl rfl SL.nil))) BL.nil BK.nil)⟩))))))))))))))))
      ·exact gSkip eZ (cN (nt h20)) rfl (gSkip (eR rfl) (cN (nt h20)) rfl (gSkip (eR rfl) (cN (nt h20)) rfl (gSkipU eZ rfl (gSkipU (eR rfl) rfl (gSkipU (eR rfl) rfl (gSkipU (eR rfl) rfl (gSkipU (eR rfl) rfl (gSkipU (eR rfl) rfl (gSkipU (eR rfl) rfl (gSkipU (eR rfl) rfl (gSkipU (eR rfl) rfl (gSkipU (eR rfl) rfl (gSkipU (eR rfl) rfl (gSkipU (eR rfl) rfl (gSkip (eR rfl) (cN (nt h20)) rfl (oPickT (eR rfl) (cN (nt h20)) eC (xNil (TQ.qn ⟨true, H, (wk_mk [] (kR rfl rfl (kR rfl rfl (kR rfl rfl SL.nil))) BL.nil BK.nil)⟩))))))))))))))))))
     ·exact gSkip eZ (cN (nt h15)) rfl (gSkip (eR rfl) (cN (nt h15)) rfl (gSkip (eR rfl) (cN (nt h15)) rfl (gSkip (eR rfl) (cN (nt h15)) rfl (gSkip (eR rfl) (cN (nt h15)) rfl (gSkip (eR rfl) (cN (nt h15)) rfl (gSkip (eR rfl) (cN (nt h15)) rfl (oPickT (eR rfl) (cN (nt h15)) eC (oMov eZ (gSkip eZ rfl rfl (gSkip (eR rfl) rfl rfl (gSkip (eR rfl) rfl rfl (gSkipU eZ rfl (gSkipU (eR rfl) rfl (gSkipU (eR rfl) rfl (gSkipU (eR rfl) rfl (gSkipU (eR rfl) rfl (gSkipU (eR rfl) rfl (gSkipU (eR rfl) rfl (gSkipU (eR rfl) rfl (gSkipU (eR rfl) rfl (gSkipU (eR rfl) rfl (gSkipU (eR rfl) rfl (gSkipU (eR rfl) rfl (gSkip (eR rfl) rfl rfl (oPickT (eR rfl) rfl eC (xNil (TQ.qn ⟨true, H, (wk_mk [] (kR rfl rfl (kR rfl rfl (kR rfl rfl SL.nil))) BL.nil BK.nil)⟩)))))))))))))))))))))))))))
   ·exact AW.condF eZ (dF h7) (AW.exit (TQ.qe (TQ.qe (BQ.qe (TQ.qn ⟨(), H, (wk_mk [] SL.nil BL.nil BK.nil)⟩)))))
theorem c_spec_RangeIn {a1 : TRange} {a2 : TRange} {r : Bool} (H : m_spec_RangeIn a1 a2 = some r) : Fn Tryz.prog 115 (lent [(.agg (d_TRange a1)), (.agg (d_TRange a2))]) true [(.bool r)] := by
 refine f115 (fle rfl) ?_
 rw [init_mk]
 refine AW.weaken (wk_mk [] (kv 0 (.agg [(dI a1.Lo), (dI a1.Hi)]) rfl rfl (kv 1 (.agg [(dI a2.Lo), (dI a2.Hi)]) rfl rfl SL.nil)) BL.nil BK.nil) ?_
 unfold m_spec_RangeIn at H
 unfold i115
 refine aV (oBox (n := 128) (m := 2) (cs := [(dI a1.Lo), (dI a1.Hi)]) rfl eZ rfl rfl nZ (oBox (n := 192) (m := 2) (cs := [(dI a2.Lo), (dI a2.Hi)]) rfl (eR rfl) rfl rfl (nS rfl nZ) (oMov eC (xQ (aV (oLoadVA (es := [(dI a1.Lo), (dI a1.Hi)]) (eR rfl) (bS rfl bZ) rfl ?_))))))
 obtain ⟨v3, h4, H⟩ := obind H
 refine oCall (u := (oB v3)) eC Cl.fn (c_spec_RangeOk h4) (Evs.cons eZ Evs.nil) (VDs.cons (VD.agg rfl) VDs.nil) rfl (oMov eZ ?_)
 rcases oite H with ⟨h5, H⟩ | ⟨h5, H⟩
 ·refine gDo eZ h5 (oLoadVA (es := [(dI a2.Lo), (dI a2.Hi)]) (eR rfl) bZ rfl (gDo (eR rfl) h5 ?_))
  obtain ⟨v6, h7, H⟩ := obind H
  refine oCall (u := (oB v6)) eC Cl.fn (c_spec_RangeOk h7) (Evs.cons eZ Evs.nil) (VDs.cons (VD.agg rfl) VDs.nil) rfl (oPickT (eR rfl) h5 eZ (oMov eZ ?_))
  rcases oite H with ⟨h8, H⟩ | ⟨h8, H⟩
  ·refine gDo eZ h8 (oFaddrN (m := 0) (eR rfl) rfl (gDo (eR rfl) h8 (oLoadV (q := 0) (c := (dI a1.Lo)) eZ (bS rfl bZ) rfl rfl (gDo (eR rfl) h8 (oFaddrN (m := 0) (eR rfl) rfl (gDo (eR rfl) h8 (oLoadV (q := 0) (c := (dI a2.Lo)) eZ bZ rfl rfl (gDo (eR rfl) h8 (oGeq (eR rfl) eZ (oPickT (eR rfl) h8 eZ (oMov eZ ?_)))))))))))
   rcases oite H with ⟨h9, H⟩ | ⟨h9, H⟩
   ·refine gDo eZ (dT h9) (oFaddrN (m := 1) (eR rfl) rfl (gDo (eR rfl) (dT h9) (oLoadV (q := 1) (c := (dI a1.Hi)) eZ (bS rfl bZ) rfl rfl (gDo (eR rfl) (dT h9) (oFaddrN (m := 1) (eR rfl) rfl (gDo (eR rfl) (dT h9) (oLoadV (q := 1) (c := (dI a2.Hi)) eZ bZ rfl rfl (gDo (eR rfl) (dT h9) (oLeq (eR rfl) eZ (oPickT (eR rfl) (dT h9) eZ (oMov eZ (xQ (AW.weaken (wk_mk [192, 128] (kr 4 rfl rfl SL.nil) (BL.drop rfl (BL.drop rfl BL.nil)) BK.nil) (AW.ret ?_))))))))))))))
    cases H
    exact eE rfl rfl
   ·refine gSkip eZ (dF h9) rfl (gSkip (eR rfl) (dF h9) rfl (gSkip (eR rfl) (dF h9) rfl (gSkip (eR rfl) (dF h9) rfl (gSkip (eR rfl) (dF h9) rfl (oPickF (eR rfl) (dF h9) eC (oMov eZ (xQ (AW.weaken (wk_mk [192, 128] (kr 4 rfl rfl SL.nil) (BL.drop rfl (BL.drop rfl BL.nil)) BK.nil) (AW.ret ?_)))))))))
    cases H
    exact eE rfl rfl
  ·refine gSkip eZ (nt h8) rfl (gSkip (eR rfl) (nt h8) rfl (gSkip (eR rfl) (nt h8) rfl (gSkip (eR rfl) (nt h8) rfl (gSkip (eR rfl) (nt h8) rfl (oPickF (eR rfl) (nt h8) eC (oMov eZ (gSkip eZ rfl rfl (gSkip (eR rfl) rfl rfl (gSkip (eR rfl) rfl rfl (gSkip (eR rfl) rfl rfl (gSkip (eR rfl) rfl rfl (oPickF (eR rfl) rfl eC (oMov eZ (xQ (AW.weaken (wk_mk [192, 128] (kr 4 rfl rfl SL.nil) (BL.drop rfl (BL.drop rfl BL.nil)) BK.nil) (AW.ret ?_))))))))))))))))
   cases H
   exact eE rfl rfl
 ·refine gSkip eZ (nt h5) rfl (gSkip (eR rfl) (nt h5) rfl (oPickF (eR rfl) (nt h5) eC (oMov eZ (gSkip eZ rfl rfl (gSkip (eR rfl) rfl rfl (gSkip (eR rfl) rfl rfl (gSkip (eR rfl) rfl rfl (gSkip (eR rfl) rfl rfl (oPickF (eR rfl) rfl eC (oMov eZ (gSkip eZ rfl rfl (gSkip (eR rfl) rfl rfl (gSkip (eR rfl) rfl rfl (gSkip (eR rfl) rfl rfl (gSkip (eR rfl) rfl rfl (oPickF (eR rfl) rfl eC (oMov eZ (xQ (AW.weaken (wk_mk [192, 128] (kr 4 rfl rfl SL.nil) (BL.drop rfl (BL.drop rfl BL.nil)) BK.nil) (AW.ret ?_))))))))))))))))))))
  cases H
  exact eE rfl rfl
theorem c_spec_l12Holds {a1 : (List TLock)} {a2 : Int} {a3 : TRange} {a4 : Int} {r : Bool} (H : m_spec_l12Holds a1 a2 a3 a4 = some r) : Fn Tryz.prog 84 (lent [(.sl 4 (List.map d_TLock a1)), (.int .i64 a2), (.agg (d_TRange a3)), (.int .i64 a4)]) true [(.bool r)] := by
 refine f84 (fle rfl) ?_
 rw [init_mk]
 refine AW.weaken (wk_mk [] (kv 0 (.one (.d (.sl 4 (List.map d_TLock a1)))) rfl rfl (kv 1 (oI a2) rfl rfl (kv 2 (.agg [(dI a3.Lo), (dI a3.Hi)]) rfl rfl (kv 3 (oI a4) rfl rfl SL.nil)))) BL.nil BK.nil) ?_
 unfold m_spec_l12Holds at H
 unfold i84
 refine aV (oBox (n := 384) (m := 2) (cs := [(dI a3.Lo), (dI a3.Hi)]) rfl (eR rfl) rfl rfl nZ (oMov eC (xQ (AW.seqJ (fun t5 : Unit => spec_l12Holds_j5 t5 = some r) (fun t5 => mk [] [] noG) ?_ ?_))))
 ·intro t5 H
  unfold spec_l12Holds_j5 at H
  refine aV (oMov eC (xQ (AW.ret ?_)))
  cases H
  exact eE rfl rfl
 ·refine aV (oMov eC (xQ (AW.block (AW.iter (fun s7 : Int => mk [(0, (.one (.d (.sl 4 (List.map d_TLock a1))))), (1, (oI a2)), (3, (oI a4)), (6, (.one (.ptr (.nm 384 0 0)))), (9, (oI s7))] [(384, (.vars 2 [(dI a3.Lo), (dI a3.Hi)]))] noG) H (wk_mk [] (kR rfl rfl (kR rfl rfl (kR rfl rfl (kR rfl rfl (kR rfl rfl SL.nil))))) (BL.keep rfl BL.nil) (BK.cons rfl bZ rfl rfl BK.nil)) ?_))))
  intro kb8 s7 H
  unfold spec_l12Holds_b7 at H
  refine aS (aV (oMov (eR rfl) (oMov (eR rfl) (oLenD eZ (n := a1.length) (List.length_map _) (oLss (eR rfl) eZ (xQ ?_))))))
  rcases oite H with ⟨h9, H⟩ | ⟨h9, H⟩
  ·refine AW.condT eZ (dT h9) (AW.skip (TQ.qn (aS (AW.block (AW.seqJ (fun t10 : Bool => (spec_l12Holds_j10 kb8 s7) t10 = some r) (fun t10 => mk [(0, (.one (.d (.sl 4 (List.map d_TLock a1))))), (1, (oI a2)), (3, (oI a4)), (6, (.one (.ptr (.nm 384 0 0)))), (9, (oI s7)), (40, (oB t10))] [(384, (.vars 2 [(dI a3.Lo), (dI a3.Hi)]))] noG) ?_ ?_)))))
   ·intro t10 H
    unfold spec_l12Holds_j10 at H
    rcases oite H with ⟨h12, H⟩ | ⟨h12, H⟩
    ·refine AW.condT (eR rfl) h12 (aV (oMov eC (xQ (AW.ret (BQ.qr (TQ.qr (TQ.qr (BQ.qr (TQ.qr ?_)))))))))
     cases H
     exact eE rfl rfl
    ·exact AW.condF (eR rfl) (nt h12) (AW.skip (BQ.qn (TQ.qn (aR (oMov (eR rfl) (oAdd eZ eC (oMov eZ (xNil (TQ.qn ⟨(IntKind.wrap .i64 (s7 + 1)), H, (wk_mk [] (kR rfl rfl (kR rfl rfl (kR rfl rfl (kR rfl rfl (kR rfl rfl SL.nil))))) (BL.keep rfl BL.nil) (BK.cons rfl bZ rfl rfl BK.nil))⟩)))))))))
   ·refine AW.regd (oMov (eR rfl) (oMov (eR rfl) ?_))
    obtain ⟨v13, h14, H⟩ := obind H
    refine oAtD (eR rfl) eZ h14 (oFaddrB (m := 0) eZ rfl (oLoadB (e := (.int .i64 v13.Tx)) eZ rfl (oMov (eR rfl) (oEql (eR rfl) eZ (oMov eZ ?_)))))
    rcases oite H with ⟨h15, H⟩ | ⟨h15, H⟩
    ·refine gDo eZ (dT h15) (oLoadVA (es := [(dI a3.Lo), (dI a3.Hi)]) (eR rfl) (hB rfl bZ) rfl (gDo (eR rfl) (dT h15) (oMov (eR rfl) (gDo (eR rfl) (dT h15) (oMov (eR rfl) (gDo (eR rfl) (dT h15) ?_))))))
     obtain ⟨v16, h17, H⟩ := obind H
     refine oAtD (eR rfl) eZ h17 (gDo (eR rfl) (dT h15) (oLoadBA (es := [(dI v16.Tx), (dI v16.Lo), (dI v16.Hi), (dI v16.Mode)]) eZ rfl (gDo (eR rfl) (dT h15) ?_)))
     obtain ⟨v18, h19, H⟩ := obind H
     refine oCall (u := (.agg [(dI v18.Lo), (dI v18.Hi)])) eC Cl.fn (c_spec_l12Range h19) (Evs.cons eZ Evs.nil) (VDs.cons (VD.agg rfl) VDs.nil) rfl (gDo (eR rfl) (dT h15) ?_)
     obtain ⟨v20, h21, H⟩ := obind H
     refine oCall (u := (oB v20)) eC Cl.fn (c_spec_RangeIn h21) (Evs.cons (eR rfl) (Evs.cons eZ Evs.nil)) (VDs.cons (VD.agg rfl) (VDs.cons (VD.agg rfl) VDs.nil)) rfl (oPickT (eR rfl) (dT h15) eZ (oMov eZ ?_))
     rcases oite H with ⟨h22, H⟩ | ⟨h22, H⟩
     ·refine gDo eZ h22 (oMov (eR rfl) (gDo (eR rfl) h22 (oMov (eR rfl) (gDo (eR rfl) h22 ?_))))
      obtain ⟨v23, h24, H⟩ := obind H
      exact oAtD (eR rfl) eZ h24 (gDo (eR rfl) h22 (oFaddrB (m := 3) eZ rfl (gDo (eR rfl) h22 (oLoadB (e := (.int .i64 v23.Mode)) eZ rfl (gDo (eR rfl) h22 (oMov (eR rfl) (gDo (eR rfl) h22 (oGeq (eR rfl) eZ (oPickT (eR rfl) h22 eZ (xNil (TQ.qn ⟨(decide (a4 ≤ v23.Mode)), H, (wk_mk [] (kR rfl rfl (kR rfl rfl (kR rfl rfl (kR rfl rfl (kR rfl rfl (kR rfl rfl SL.nil)))))) (BL.keep rfl BL.nil) (BK.cons rfl bZ rfl rfl BK.nil))⟩)))))))))))
     ·exact gSkip eZ (nt h22) rfl (gSkip (eR rfl) (nt h22) rfl (gSkip (eR rfl) (nt h22) rfl (gSkip (eR rfl) (nt h22) rfl (gSkip (eR rfl) (nt h22) rfl (gSkip (eR rfl) (nt h22) rfl (gSkip (eR rfl) (nt h22) rfl (oPickF (eR rfl) (nt h22) eC (xNil (TQ.qn ⟨false, H, (wk_mk [] (kR rfl rfl (kR rfl rfl (kR rfl rfl (kR rfl rfl (kR rfl rfl (kR rfl rfl SL.nil)))))) (BL.keep rfl BL.nil) (BK.cons rfl bZ rfl rfl BK.nil))⟩)))))))))
    ·exact gSkip eZ (dF h15) rfl (gSkip (eR rfl) (dF h15) rfl (gSkip (eR rfl) (dF h15) rfl (gSkip (eR rfl) (dF h15) rfl (gSkip (eR rfl) (dF h15) rfl (gSkip (eR rfl) (dF h15) rfl (gSkip (eR rfl) (dF h15) rfl (oPickF (eR rfl) (dF h15) eC (oMov eZ (gSkip eZ rfl rfl (gSkip (eR rfl) rfl rfl (gSkip (eR rfl) rfl rfl (gSkip (eR rfl) rfl rfl (gSkip (eR rfl) rfl rfl (gSkip (eR rfl) rfl rfl (gSkip (eR rfl) rfl rfl (oPickF (eR rfl) rfl eC (xNil (TQ.qn ⟨false, H, (wk_mk [] (kR rfl rfl (kR rfl rfl (kR rfl rfl (kR rfl rfl (kR rfl rfl (kR rfl rfl SL.nil)))))) (BL.keep rfl BL.nil) (BK.cons rfl bZ rfl rfl BK.nil))⟩))))))))))))))))))
  ·exact AW.condF eZ (dF h9) (AW.exit (TQ.qe (TQ.qe (BQ.qe (TQ.qn ⟨(), H, (wk_mk [384] SL.nil (BL.drop rfl BL.nil) BK.nil)⟩)))))
theorem c_spec_l13HeldsOk {a1 : TShard} {r : Bool} (H : m_spec_l13HeldsOk a1 = some r) : Fn Tryz.prog 31 (lent [(.agg (d_TShard a1))]) true [(.bool r)] := by
 refine f31 (fle rfl) ?_
 rw [init_mk]
 refine AW.weaken (t := mk [(0, (.agg [(dI a1.Me), (.d (.sl 2 (List.map d_TRange a1.Own))), (.d (.sl 2 (List.map d_TRange a1.Frozen))), (.d (.sl 2 (List.map d_TCell a1.Cells))), (.d (.sl 4 (List.map d_TLock a1.Locks))), (.d (.sl 2 (List.map d_THeld a1.Helds))), (.d (.sl 1 (List.map d_i64 a1.Wounded))), (.d (.sl 1 (List.map d_i64 a1.Ended))), (dI a1.Rank)]))] [] (lk [])) (wk_mk [] (kv 0 (.agg [(dI a1.Me), (.d (.sl 2 (List.map d_TRange a1.Own))), (.d (.sl 2 (List.map d_TRange a1.Frozen))), (.d (.sl 2 (List.map d_TCell a1.Cells))), (.d (.sl 4 (List.map d_TLock a1.Locks))), (.d (.sl 2 (List.map d_THeld a1.Helds))), (.d (.sl 1 (List.map d_i64 a1.Wounded))), (.d (.sl 1 (List.map d_i64 a1.Ended))), (dI a1.Rank)]) rfl rfl SL.nil) BL.nil BK.nil) ?_
 unfold m_spec_l13HeldsOk at H
 unfold i31
 refine aV (oBox (n := 64) (m := 9) (cs := [(dI a1.Me), (.d (.sl 2 (List.map d_TRange a1.Own))), (.d (.sl 2 (List.map d_TRange a1.Frozen))), (.d (.sl 2 (List.map d_TCell a1.Cells))), (.d (.sl 4 (List.map d_TLock a1.Locks))), (.d (.sl 2 (List.map d_THeld a1.Helds))), (.d (.sl 1 (List.map d_i64 a1.Wounded))), (.d (.sl 1 (List.map d_i64 a1.Ended))), (dI a1.Rank)]) rfl eZ rfl rfl nZ (oMov eC (xQ (AW.seqJ (fun t2 : Unit => spec_l13HeldsOk_j2 t2 = some r) (fun t2 => mk [] [] (lk [])) ?_ ?_))))
 ·intro t2 H
  unfold spec_l13HeldsOk_j2 at H
  refine aV (oMov eC (xQ (AW.ret ?_)))
  cases H
  exact eE rfl rfl
 ·refine aV (oMov eC (xQ (AW.block (AW.iter (fun s4 : Int => mk [(1, (.one (.ptr (.nm 64 0 0)))), (3, (oI s4))] [(64, (.vars 9 [(dI a1.Me), (.d (.sl 2 (List.map d_TRange a1.Own))), (.d (.sl 2 (List.map d_TRange a1.Frozen))), (.d (.sl 2 (List.map d_TCell a1.Cells))), (.d (.sl 4 (List.map d_TLock a1.Locks))), (.d (.sl 2 (List.map d_THeld a1.Helds))), (.d (.sl 1 (List.map d_i64 a1.Wounded))), (.d (.sl 1 (List.map d_i64 a1.Ended))), (dI a1.Rank)]))] (lk [])) H (wk_mkG [] (kR rfl rfl (kR rfl rfl SL.nil)) (BL.keep rfl BL.nil) (BK.cons rfl bZ rfl rfl BK.nil) GK.nil) ?_))))
  intro kb5 s4 H
  unfold spec_l13HeldsOk_b4 at H
  refine aS (aV (oMov (eR rfl) (oFaddrN (m := 5) (eR rfl) rfl (oLoadV (q := 5) (c := (.d (.sl 2 (List.map d_THeld a1.Helds)))) eZ bZ rfl rfl (oLenD eZ (n := a1.Helds.length) (List.length_map _) (oLss (eR rfl) eZ (xQ ?_)))))))
  rcases oite H with ⟨h6, H⟩ | ⟨h6, H⟩
  ·refine AW.condT eZ (dT h6) (AW.skip (TQ.qn (AW.seqJ (fun t7 : Unit => (spec_l13HeldsOk_j7 kb5 s4) t7 = some r) (fun t7 => mk [(1, (.one (.ptr (.nm 64 0 0)))), (3, (oI s4))] [(64, (.vars 9 [(dI a1.Me), (.d (.sl 2 (List.map d_TRange a1.Own))), (.d (.sl 2 (List.map d_TRange a1.Frozen))), (.d (.sl 2 (List.map d_TCell a1.Cells))), (.d (.sl 4 (List.map d_TLock a1.Locks))), (.d (.sl 2 (List.map d_THeld a1.Helds))), (.d (.sl 1 (List.map d_i64 a1.Wounded))), (.d (.sl 1 (List.map d_i64 a1.Ended))), (dI a1.Rank)]))] (lk [])) ?_ ?_)))
   ·intro t7 H
    unfold spec_l13HeldsOk_j7 at H
    exact aR (oMov (eR rfl) (oAdd eZ eC (oMov eZ (xNil (TQ.qn ⟨(IntKind.wrap .i64 (s4 + 1)), H, (wk_mkG [] (kR rfl rfl (kR rfl rfl SL.nil)) (BL.keep rfl BL.nil) (BK.cons rfl bZ rfl rfl BK.nil) GK.nil)⟩)))))
   ·refine AW.block (aS (AW.regm (rmOne (oFaddrN (m := 5) (eR rfl) rfl (xNil (rmOne (oLoadV (q := 5) (c := (.d (.sl 2 (List.map d_THeld a1.Helds)))) eZ bZ rfl rfl (xNil (rmOne (oMov (eR rfl) (xNil (rmOne ?_))))))))))))
    obtain ⟨v9, h10, H⟩ := obind H
    refine oAtD (eR rfl) eZ h10 (xNil (rmOne (oLoadBA (es := [(dI v9.Tx), (.d (.sl 2 (List.map d_TCell v9.Writes)))]) eZ rfl (xNil (rmOne (oVar (n := 256) (m := 2) rfl rfl (nS rfl nZ) (xNil (rmOne (oStoreV (es := [(dI v9.Tx), (.d (.sl 2 (List.map d_TCell v9.Writes)))]) eZ (eR rfl) rfl rfl bZ rfl (xNil (rmRest (xQ (aS (AW.seqJ (fun t11 : Bool => (spec_l13HeldsOk_j11 v9 a1 (spec_l13HeldsOk_j7 kb5 s4)) t11 = some r) (fun t11 => mk [(1, (.one (.ptr (.nm 64 0 0)))), (3, (oI s4)), (4, (.one (.ptr (.nm 256 0 0)))), (43, (oB t11))] [(64, (.vars 9 [(dI a1.Me), (.d (.sl 2 (List.map d_TRange a1.Own))), (.d (.sl 2 (List.map d_TRange a1.Frozen))), (.d (.sl 2 (List.map d_TCell a1.Cells))), (.d (.sl 4 (List.map d_TLock a1.Locks))), (.d (.sl 2 (List.map d_THeld a1.Helds))), (.d (.sl 1 (List.map d_i64 a1.Wounded))), (.d (.sl 1 (List.map d_i64 a1.Ended))), (dI a1.Rank)])), (256, (.vars 2 [(dI v9.Tx), (.d (.sl 2 (List.map d_TCell v9.Writes)))]))] (lk [])) ?_ ?_))))))))))))))
    ·intro t11 H
     unfold spec_l13HeldsOk_j11 at H
     rcases oite H with ⟨h13, H⟩ | ⟨h13, H⟩
     ·refine AW.condT (eR rfl) h13 (aV (oMov eC (xQ (AW.ret (TQ.qr (BQ.qr (TQ.qr (TQ.qr (BQ.qr (TQ.qr ?_))))))))))
      cases H
      exact eE rfl rfl
     ·refine AW.condF (eR rfl) (nt h13) (AW.skip (TQ.qn (AW.seqJ (fun t14 : Unit => (spec_l13HeldsOk_j14 a1 v9 (spec_l13HeldsOk_j7 kb5 s4)) t14 = some r) (fun t14 => mk [(1, (.one (.ptr (.nm 64 0 0)))), (3, (oI s4)), (4, (.one (.ptr (.nm 256 0 0))))] [(64, (.vars 9 [(dI a1.Me), (.d (.sl 2 (List.map d_TRange a1.Own))), (.d (.sl 2 (List.map d_TRange a1.Frozen))), (.d (.sl 2 (List.map d_TCell a1.Cells))), (.d (.sl 4 (List.map d_TLock a1.Locks))), (.d (.sl 2 (List.map d_THeld a1.Helds))), (.d (.sl 1 (List.map d_i64 a1.Wounded))), (.d (.sl 1 (List.map d_i64 a1.Ended))), (dI a1.Rank)])), (256, (.vars 2 [(dI v9.Tx), (.d (.sl 2 (List.map d_TCell v9.Writes)))]))] (lk [])) ?_ ?_)))
      ·intro t14 H
       unfold spec_l13HeldsOk_j14 at H
       refine AW.seqJ (fun t16 : Bool => (spec_l13HeldsOk_j16 (spec_l13HeldsOk_j7 kb5 s4)) t16 = some r) (fun t16 => mk [(1, (.one (.ptr (.nm 64 0 0)))), (3, (oI s4)), (75, (oB t16))] [(64, (.vars 9 [(dI a1.Me), (.d (.sl 2 (List.map d_TRange a1.Own))), (.d (.sl 2 (List.map d_TRange a1.Frozen))), (.d (.sl 2 (List.map d_TCell a1.Cells))), (.d (.sl 4 (List.map d_TLock a1.Locks))), (.d (.sl 2 (List.map d_THeld a1.Helds))), (.d (.sl 1 (List.map d_i64 a1.Wounded))), (.d (.sl 1 (List.map d_i64 a1.Ended))), (dI a1.Rank)]))] (lk [])) ?_ ?_
       ·intro t16 H
        unfold spec_l13HeldsOk_j16 at H
        rcases oite H with ⟨h18, H⟩ | ⟨h18, H⟩
        ·refine AW.condT (eR rfl) h18 (aV (oMov eC (xQ (AW.ret (BQ.qr (TQ.qr (TQ.qr (BQ.qr (TQ.qr ?_)))))))))
         cases H
         exact eE rfl rfl
        ·exact AW.condF (eR rfl) (nt h18) (AW.skip (BQ.qn (TQ.qn ⟨(), H, (wk_mkG [] (kR rfl rfl (kR rfl rfl SL.nil)) (BL.keep rfl BL.nil) (BK.cons rfl bZ rfl rfl BK.nil) GK.nil)⟩)))
       ·refine aR (oFaddrN (m := 6) eZ rfl (oLoadV (q := 6) (c := (.d (.sl 1 (List.map d_i64 a1.Wounded)))) eZ bZ rfl rfl (oFaddrN (m := 0) (eR rfl) rfl (oLoadV (q := 0) (c := (dI v9.Tx)) eZ (bS rfl bZ) rfl rfl ?_))))
        obtain ⟨v19, h20, H⟩ := obind H
        refine oCall (u := (oB v19)) eC Cl.fn (c_spec_l12Has h20) (Evs.cons (eR rfl) (Evs.cons eZ Evs.nil)) (VDs.cons VD.plain (VDs.cons VD.plain VDs.nil)) rfl (oMov eZ ?_)
        rcases oite H with ⟨h21, H⟩ | ⟨h21, H⟩
        ·exact gSkip eZ h21 rfl (gSkip (eR rfl) h21 rfl (gSkip (eR rfl) h21 rfl (gSkip (eR rfl) h21 rfl (gSkip (eR rfl) h21 rfl (oPickT (eR rfl) h21 eC (xNil (TQ.qn ⟨true, H, (wk_mkG [256] (kR rfl rfl (kR rfl rfl (kR rfl rfl SL.nil))) (BL.keep rfl (BL.drop rfl BL.nil)) (BK.cons rfl bZ rfl rfl BK.nil) GK.nil)⟩)))))))
        ·refine gDo eZ (nt h21) (oFaddrN (m := 7) (eR rfl) rfl (gDo (eR rfl) (nt h21) (oLoadV (q := 7) (c := (.d (.sl 1 (List.map d_i64 a1.Ended)))) eZ bZ rfl rfl (gDo (eR rfl) (nt h21) (oFaddrN (m := 0) (eR rfl) rfl (gDo (eR rfl) (nt h21) (oLoadV (q := 0) (c := (dI v9.Tx)) eZ (bS rfl bZ) rfl rfl (gDo (eR rfl) (nt h21) ?_))))))))
         obtain ⟨v22, h23, H⟩ := obind H
         exact oCall (u := (oB v22)) eC Cl.fn (c_spec_l12Has h23) (Evs.cons (eR rfl) (Evs.cons eZ Evs.nil)) (VDs.cons VD.plain (VDs.cons VD.plain VDs.nil)) rfl (oPickF (eR rfl) (nt h21) eZ (xNil (TQ.qn ⟨v22, H, (wk_mkG [256] (kR rfl rfl (kR rfl rfl (kR rfl rfl SL.nil))) (BL.keep rfl (BL.drop rfl BL.nil)) (BK.cons rfl bZ rfl rfl BK.nil) GK.nil)⟩)))
      ·refine aV (oMov eC (xQ (AW.block (AW.iter (fun s24 : Int => mk [(1, (.one (.ptr (.nm 64 0 0)))), (3, (oI s4)), (4, (.one (.ptr (.nm 256 0 0)))), (5, (oI s24))] [(64, (.vars 9 [(dI a1.Me), (.d (.sl 2 (List.map d_TRange a1.Own))), (.d (.sl 2 (List.map d_TRange a1.Frozen))), (.d (.sl 2 (List.map d_TCell a1.Cells))), (.d (.sl 4 (List.map d_TLock a1.Locks))), (.d (.sl 2 (List.map d_THeld a1.Helds))), (.d (.sl 1 (List.map d_i64 a1.Wounded))), (.d (.sl 1 (List.map d_i64 a1.Ended))), (dI a1.Rank)])), (256, (.vars 2 [(dI v9.Tx), (.d (.sl 2 (List.map d_TCell v9.Writes)))]))] (lk [])) H (wk_mkG [] (kR rfl rfl (kR rfl rfl (kR rfl rfl (kR rfl rfl SL.nil)))) (BL.keep rfl (BL.keep rfl BL.nil)) (BK.cons rfl bZ rfl rfl (BK.cons rfl (bS rfl bZ) rfl rfl BK.nil)) GK.nil) ?_))))
       intro kb25 s24 H
       unfold spec_l13HeldsOk_b24 at H
       refine aS (aV (oMov (eR rfl) (oFaddrN (m := 1) (eR rfl) rfl (oLoadV (q := 1) (c := (.d (.sl 2 (List.map d_TCell v9.Writes)))) eZ (bS rfl bZ) rfl rfl (oLenD eZ (n := v9.Writes.length) (List.length_map _) (oLss (eR rfl) eZ (xQ ?_)))))))
       rcases oite H with ⟨h26, H⟩ | ⟨h26, H⟩
       ·refine AW.condT eZ (dT h26) (AW.skip (TQ.qn (aS (AW.block (aS (AW.regd (oFaddrN (m := 4) (eR rfl) rfl (oLoadV (q := 4) (c := (.d (.sl 4 (List.map d_TLock a1.Locks)))) eZ (hB rfl bZ) rfl rfl (oFaddrN (m := 0) (eR rfl) rfl (oLoadV (q := 0) (c := (dI v9.Tx)) eZ (hB rfl (bS rfl bZ)) rfl rfl (oFaddrN (m := 1) (eR rfl) rfl (oLoadV (q := 1) (c := (.d (.sl 2 (List.map d_TCell v9.Writes)))) eZ (bS rfl bZ) rfl rfl (oMov (eR rfl) ?_)))))))))))))
        obtain ⟨v27, h28, H⟩ := obind H
        refine oAtD (eR rfl) eZ h28 (oFaddrB (m := 0) eZ rfl (oLoadB (e := (.int .i64 v27.Key)) eZ rfl ?_))
        obtain ⟨v29, h30, H⟩ := obind H
        refine oCall (u := (.agg [(dI v29.Lo), (dI v29.Hi)])) eC Cl.fn (c_spec_l10One h30) (Evs.cons eZ Evs.nil) (VDs.cons VD.plain VDs.nil) rfl ?_
        obtain ⟨v31, h32, H⟩ := obind H
        refine oCall (u := (oB v31)) eC Cl.fn (c_spec_l12Holds h32) (Evs.cons (eR rfl) (Evs.cons (eR rfl) (Evs.cons eZ (Evs.cons eC Evs.nil)))) (VDs.cons VD.plain (VDs.cons VD.plain (VDs.cons (VD.agg rfl) (VDs.cons VD.plain VDs.nil)))) rfl (oInv eZ (xQ (AW.weaken (wk_mkG [] (kr 63 rfl rfl (kr 1 rfl rfl (kr 3 rfl rfl (kr 4 rfl rfl (kr 5 rfl rfl SL.nil))))) (BL.keep rfl (BL.keep rfl BL.nil)) (BK.cons (n := 64) rfl bZ rfl rfl (BK.cons (n := 256) rfl (bS rfl bZ) rfl rfl BK.nil)) GK.nil) ?_)))
        rcases oite H with ⟨h33, H⟩ | ⟨h33, H⟩
        ·exact AW.condF eZ (cN h33) (AW.skip (BQ.qn (TQ.qn (aR (oMov (eR rfl) (oAdd eZ eC (oMov eZ (xNil (TQ.qn ⟨(IntKind.wrap .i64 (s24 + 1)), H, (wk_mkG [] (kR rfl rfl (kR rfl rfl (kR rfl rfl (kR rfl rfl SL.nil)))) (BL.keep rfl (BL.keep rfl BL.nil)) (BK.cons rfl bZ rfl rfl (BK.cons rfl (bS rfl bZ) rfl rfl BK.nil)) GK.nil)⟩)))))))))
        ·refine AW.condT eZ (cN (nt h33)) (aV (oMov eC (xQ (AW.ret (BQ.qr (TQ.qr (TQ.qr (BQ.qr (TQ.qr (BQ.qr (TQ.qr (TQ.qr (BQ.qr (TQ.qr ?_))))))))))))))
         cases H
         exact eE rfl rfl
       ·exact AW.condF eZ (dF h26) (AW.exit (TQ.qe (TQ.qe (BQ.qe (TQ.qn ⟨(), H, (wk_mkG [] (kR rfl rfl (kR rfl rfl (kR rfl rfl SL.nil))) (BL.keep rfl (BL.keep rfl BL.nil)) (BK.cons rfl bZ rfl rfl (BK.cons rfl (bS rfl bZ) rfl rfl BK.nil)) GK.nil)⟩)))))
    ·refine AW.regd (oFaddrN (m := 0) eZ rfl (oLoadV (q := 0) (c := (dI v9.Tx)) eZ bZ rfl rfl ?_))
     obtain ⟨v34, h35, H⟩ := obind H
     refine oCall (u := (oB v34)) eC Cl.fn (c_spec_l12Tx h35) (Evs.cons eZ Evs.nil) (VDs.cons VD.plain VDs.nil) rfl (oInv eZ (oMov eZ ?_))
     rcases oite H with ⟨h36, H⟩ | ⟨h36, H⟩
     ·refine gDo eZ (cN h36) (oMov (eR rfl) (gDo (eR rfl) (cN h36) (oGtr eZ eC (gDo (eR rfl) (cN h36) (oMov eZ ?_)))))
      rcases oite H with ⟨h37, H⟩ | ⟨h37, H⟩
      ·refine gDo eZ (dT h37) (oFaddrN (m := 5) (eR rfl) rfl (gDo (eR rfl) (dT h37) (oLoadV (q := 5) (c := (.d (.sl 2 (List.map d_THeld a1.Helds)))) eZ (bS rfl (bS rfl bZ)) rfl rfl (gDo (eR rfl) (dT h37) (oMov (eR rfl) (gDo (eR rfl) (dT h37) (oSub eZ eC (gDo (eR rfl) (dT h37) ?_))))))))
       obtain ⟨v38, h39, H⟩ := obind H
       refine oAtD (eR rfl) eZ h39 (gDo (eR rfl) (dT h37) (oFaddrB (m := 0) eZ rfl (gDo (eR rfl) (dT h37) (oLoadB (e := (.int .i64 v38.Tx)) eZ rfl (gDo (eR rfl) (dT h37) (oFaddrN (m := 0) (eR rfl) rfl (gDo (eR rfl) (dT h37) (oLoadV (q := 0) (c := (dI v9.Tx)) eZ bZ rfl rfl (gDo (eR rfl) (dT h37) (oGeq (eR rfl) eZ (gDo (eR rfl) (cN h36) (oPickT (eR rfl) (dT h37) eZ (oPickF (eR rfl) (cN h36) eZ (oMov eZ ?_))))))))))))))
       rcases oite H with ⟨h40, H⟩ | ⟨h40, H⟩
       ·exact gSkip eZ (dT h40) rfl (gSkip (eR rfl) (dT h40) rfl (gSkip (eR rfl) (dT h40) rfl (gSkip (eR rfl) (dT h40) rfl (oPickT (eR rfl) (dT h40) eC (xNil (TQ.qn ⟨true, H, (wk_mkG [] (kR rfl rfl (kR rfl rfl (kR rfl rfl (kR rfl rfl SL.nil)))) (BL.keep rfl (BL.keep rfl (BL.keep rfl BL.nil))) (BK.cons rfl (bS rfl (bS rfl bZ)) rfl rfl (BK.cons rfl bZ rfl rfl BK.nil)) GK.nil)⟩))))))
       ·refine gDo eZ (dF h40) (oFaddrN (m := 1) (eR rfl) rfl (gDo (eR rfl) (dF h40) (oLoadV (q := 1) (c := (.d (.sl 2 (List.map d_TCell v9.Writes)))) eZ bZ rfl rfl (gDo (eR rfl) (dF h40) ?_))))
        obtain ⟨v41, h42, H⟩ := obind H
        exact oCall (u := (oB v41)) eC Cl.fn (c_spec_WritesOk h42) (Evs.cons eZ Evs.nil) (VDs.cons VD.plain VDs.nil) rfl (gDo (eR rfl) (dF h40) (oInv eZ (oPickF (eR rfl) (dF h40) eZ (xNil (TQ.qn ⟨(!v41), H, (wk_mkG [] (kR rfl rfl (kR rfl rfl (kR rfl rfl (kR rfl rfl SL.nil)))) (BL.keep rfl (BL.keep rfl (BL.keep rfl BL.nil))) (BK.cons rfl (bS rfl (bS rfl bZ)) rfl rfl (BK.cons rfl bZ rfl rfl BK.nil)) GK.nil)⟩)))))
      ·refine gSkip eZ (dF h37) rfl (gSkip (eR rfl) (dF h37) rfl (gSkip (eR rfl) (dF h37) rfl (gSkip (eR rfl) (dF h37) rfl (gSkip (eR rfl) (dF h37) rfl (gSkip (eR rfl) (dF h37) rfl (gSkip (eR rfl) (dF h37) rfl (gSkip (eR rfl) (dF h37) rfl (gSkip (eR rfl) (dF h37) rfl (gSkip (eR rfl) (dF h37) rfl (gDo (eR rfl) (cN h36) (oPickF (eR rfl) (dF h37) eC (oPickF (eR rfl) (cN h36) eZ (oMov eZ (gDo eZ rfl (oFaddrN (m := 1) (eR rfl) rfl (gDo (eR rfl) rfl (oLoadV (q := 1) (c := (.d (.sl 2 (List.map d_TCell v9.Writes)))) eZ bZ rfl rfl (gDo (eR rfl) rfl ?_))))))))))))))))))
       obtain ⟨v43, h44, H⟩ := obind H
       exact oCall (u := (oB v43)) eC Cl.fn (c_spec_WritesOk h44) (Evs.cons eZ Evs.nil) (VDs.cons VD.plain VDs.nil) rfl (gDo (eR rfl) rfl (oInv eZ (oPickF (eR rfl) rfl eZ (xNil (TQ.qn ⟨(!v43), H, (wk_mkG [] (kR rfl rfl (kR rfl rfl (kR rfl rfl (kR rfl rfl SL.nil)))) (BL.keep rfl (BL.keep rfl (BL.keep rfl BL.nil))) (BK.cons rfl (bS rfl (bS rfl bZ)) rfl rfl (BK.cons rfl bZ rfl rfl BK.nil)) GK.nil)⟩)))))
     ·exact gSkip eZ (cN (nt h36)) rfl (gSkip (eR rfl) (cN (nt h36)) rfl (gSkip (eR rfl) (cN (nt h36)) rfl (gSkipU eZ rfl (gSkipU (eR rfl) rfl (gSkipU (eR rfl) rfl (gSkipU (eR rfl) rfl (gSkipU (eR rfl) rfl (gSkipU (eR rfl) rfl (gSkipU (eR rfl) rfl (gSkipU (eR rfl) rfl (gSkipU (eR rfl) rfl (gSkipU (eR rfl) rfl (gSkip (eR rfl) (cN (nt h36)) rfl (oPickT (eR rfl) (cN (nt h36)) eC (oMov eZ (gSkip eZ rfl rfl (gSkip (eR rfl) rfl rfl (gSkip (eR rfl) rfl rfl (gSkip (eR rfl) rfl rfl (oPickT (eR rfl) rfl eC (xNil (TQ.qn ⟨true, H, (wk_mkG [] (kR rfl rfl (kR rfl rfl (kR rfl rfl (kR rfl rfl SL.nil)))) (BL.keep rfl (BL.keep rfl (BL.keep rfl BL.nil))) (BK.cons rfl (bS rfl (bS rfl bZ)) rfl rfl (BK.cons rfl bZ rfl rfl BK.nil)) GK.nil)⟩))))))))))))))))))))))
  ·exact AW.condF eZ (dF h6) (AW.exit (TQ.qe (TQ.qe (BQ.qe (TQ.qn ⟨(), H, (wk_mkG [64] SL.nil (BL.drop rfl BL.nil) BK.nil GK.nil)⟩)))))
theorem c_spec_l11Get {a1 : (List TCell)} {a2 : Int} {r : Int} (H : m_spec_l11Get a1 a2 = some r) : Fn Tryz.prog 116 (lent [(.sl 2 (List.map d_TCell a1)), (.int .i64 a2)]) true [(.int .i64 r)] := by
 refine f116 (fle rfl) ?_
 rw [init_mk]
 refine AW.weaken (wk_mk [] (kv 0 (.one (.d (.sl 2 (List.map d_TCell a1)))) rfl rfl (kv 1 (oI a2) rfl rfl SL.nil)) BL.nil BK.nil) ?_
 unfold m_spec_l11Get at H
 unfold i116
 refine aV (oMov eC (xQ (AW.seqJ (fun t3 : Unit => spec_l11Get_j3 t3 = some r) (fun t3 => mk [] [] noG) ?_ ?_)))
 ·intro t3 H
  unfold spec_l11Get_j3 at H
  refine aV (oMov eC (xQ (AW.ret ?_)))
  cases H
  exact eE rfl rfl
 ·refine aV (oMov eC (xQ (AW.block (AW.iter (fun s5 : Int => mk [(0, (.one (.d (.sl 2 (List.map d_TCell a1))))), (1, (oI a2)), (5, (oI s5))] [] noG) H (wk_mk [] (kR rfl rfl (kR rfl rfl (kR rfl rfl SL.nil))) BL.nil BK.nil) ?_))))
  intro kb6 s5 H
  unfold spec_l11Get_b5 at H
  refine aS (aV (oMov (eR rfl) (oMov (eR rfl) (oLenD eZ (n := a1.length) (List.length_map _) (oLss (eR rfl) eZ (xQ ?_))))))
  rcases oite H with ⟨h7, H⟩ | ⟨h7, H⟩
  ·refine AW.condT eZ (dT h7) (AW.skip (TQ.qn (aS (AW.block (aV (oMov (eR rfl) (oMov (eR rfl) ?_)))))))
   obtain ⟨v8, h9, H⟩ := obind H
   refine oAtD (eR rfl) eZ h9 (oFaddrB (m := 0) eZ rfl (oLoadB (e := (.int .i64 v8.Key)) eZ rfl (oMov (eR rfl) (oEql (eR rfl) eZ (xQ ?_)))))
   rcases oite H with ⟨h10, H⟩ | ⟨h10, H⟩
   ·refine AW.condT eZ (dT h10) (aV (oMov (eR rfl) (oMov (eR rfl) ?_)))
    obtain ⟨v11, h12, H⟩ := obind H
    refine oAtD (eR rfl) eZ h12 (oFaddrB (m := 1) eZ rfl (oLoadB (e := (.int .i64 v11.Value)) eZ rfl (oMov eZ (xQ (AW.weaken (wk_mk [] (kr 4 rfl rfl SL.nil) BL.nil BK.nil) (AW.ret (BQ.qr (TQ.qr (TQ.qr (BQ.qr (TQ.qr ?_)))))))))))
    cases H
    exact eE rfl rfl
   ·exact AW.condF eZ (dF h10) (AW.skip (BQ.qn (TQ.qn (aR (oMov (eR rfl) (oAdd eZ eC (oMov eZ (xNil (TQ.qn ⟨(IntKind.wrap .i64 (s5 + 1)), H, (wk_mk [] (kR rfl rfl (kR rfl rfl (kR rfl rfl SL.nil))) BL.nil BK.nil)⟩)))))))))
  ·exact AW.condF eZ (dF h7) (AW.exit (TQ.qe (TQ.qe (BQ.qe (TQ.qn ⟨(), H, (wk_mk [] SL.nil BL.nil BK.nil)⟩)))))
theorem c_spec_StoreNew {a1 : (List TCell)} {a2 : (List TCell)} {r : Int} (H : m_spec_StoreNew a1 a2 = some r) : Fn Tryz.prog 85 (lent [(.sl 2 (List.map d_TCell a1)), (.sl 2 (List.map d_TCell a2))]) true [(.int .i64 r)] := by
 refine f85 (fle rfl) ?_
 rw [init_mk]
 refine AW.weaken (wk_mk [] (kv 0 (.one (.d (.sl 2 (List.map d_TCell a1)))) rfl rfl (kv 1 (.one (.d (.sl 2 (List.map d_TCell a2)))) rfl rfl SL.nil)) BL.nil BK.nil) ?_
 unfold m_spec_StoreNew at H
 unfold i85
 refine aV (oMov eC (xQ (aS (AW.seqJ (fun t3 : Bool => (spec_StoreNew_j3 a2 a1) t3 = some r) (fun t3 => mk [(0, (.one (.d (.sl 2 (List.map d_TCell a1))))), (1, (.one (.d (.sl 2 (List.map d_TCell a2))))), (14, (oB t3))] [] noG) ?_ ?_))))
 ·intro t3 H
  unfold spec_StoreNew_j3 at H
  rcases oite H with ⟨h5, H⟩ | ⟨h5, H⟩
  ·refine AW.condT (eR rfl) h5 (aV (oMov eC (xQ (AW.ret (TQ.qr ?_)))))
   cases H
   exact eE rfl rfl
  ·refine AW.condF (eR rfl) (nt h5) (AW.skip (TQ.qn (aV (oMov eC (xQ (AW.seqJ (fun t6 : Int => spec_StoreNew_j6 t6 = some r) (fun t6 => mk [(5, (oI t6))] [] noG) ?_ ?_))))))
   ·intro t6 H
    unfold spec_StoreNew_j6 at H
    refine aV (oMov eZ (oMov eZ (xQ (AW.ret ?_))))
    cases H
    exact eE rfl rfl
   ·refine aV (oMov eC (xQ (AW.block (AW.iter (fun s8 : (Int × Int) => mk [(0, (.one (.d (.sl 2 (List.map d_TCell a1))))), (1, (.one (.d (.sl 2 (List.map d_TCell a2))))), (5, (oI s8.1)), (6, (oI s8.2))] [] noG) H (wk_mk [] (kR rfl rfl (kR rfl rfl (kR rfl rfl (kR rfl rfl SL.nil)))) BL.nil BK.nil) ?_))))
    intro kb9 s8 H
    unfold spec_StoreNew_b8 at H
    refine aS (aV (oMov (eR rfl) (oMov (eR rfl) (oLenD eZ (n := a2.length) (List.length_map _) (oLss (eR rfl) eZ (xQ ?_))))))
    rcases oite H with ⟨h10, H⟩ | ⟨h10, H⟩
    ·refine AW.condT eZ (dT h10) (AW.skip (TQ.qn (aS (AW.block (AW.seqJ (fun t11 : Bool => (spec_StoreNew_j11 kb9 s8) t11 = some r) (fun t11 => mk [(0, (.one (.d (.sl 2 (List.map d_TCell a1))))), (1, (.one (.d (.sl 2 (List.map d_TCell a2))))), (5, (oI s8.1)), (6, (oI s8.2)), (36, (oB t11))] [] noG) ?_ ?_)))))
     ·intro t11 H
      unfold spec_StoreNew_j11 at H
      rcases oite H with ⟨h13, H⟩ | ⟨h13, H⟩
      ·exact AW.condT (eR rfl) h13 (aR (oMov (eR rfl) (oAdd eZ eC (oMov eZ (xNil (BQ.qn (TQ.qn (aR (oMov (eR rfl) (oAdd eZ eC (oMov eZ (xNil (TQ.qn ⟨((IntKind.wrap .i64 (s8.1 + 1)), (IntKind.wrap .i64 (s8.2 + 1))), H, (wk_mk [] (kR rfl rfl (kR rfl rfl (kR rfl rfl (kR rfl rfl SL.nil)))) BL.nil BK.nil)⟩)))))))))))))
      ·exact AW.condF (eR rfl) (nt h13) (AW.skip (BQ.qn (TQ.qn (aR (oMov (eR rfl) (oAdd eZ eC (oMov eZ (xNil (TQ.qn ⟨(s8.1, (IntKind.wrap .i64 (s8.2 + 1))), H, (wk_mk [] (kR rfl rfl (kR rfl rfl (kR rfl rfl (kR rfl rfl SL.nil)))) BL.nil BK.nil)⟩)))))))))
     ·refine aR (oMov (eR rfl) (oMov (eR rfl) ?_))
      obtain ⟨v14, h15, H⟩ := obind H
      refine oAtD (eR rfl) eZ h15 (oFaddrB (m := 1) eZ rfl (oLoadB (e := (.int .i64 v14.Value)) eZ rfl (oGeq eZ eC (oMov eZ ?_))))
      rcases oite H with ⟨h16, H⟩ | ⟨h16, H⟩
      ·refine gDo eZ (dT h16) (oMov (eR rfl) (gDo (eR rfl) (dT h16) (oMov (eR rfl) (gDo (eR rfl) (dT h16) (oMov (eR rfl) (gDo (eR rfl) (dT h16) ?_))))))
       obtain ⟨v17, h18, H⟩ := obind H
       refine oAtD (eR rfl) eZ h18 (gDo (eR rfl) (dT h16) (oFaddrB (m := 0) eZ rfl (gDo (eR rfl) (dT h16) (oLoadB (e := (.int .i64 v17.Key)) eZ rfl (gDo (eR rfl) (dT h16) ?_)))))
       obtain ⟨v19, h20, H⟩ := obind H
       exact oCall (u := (oI v19)) eC Cl.fn (c_spec_l11Get h20) (Evs.cons (eR rfl) (Evs.cons eZ Evs.nil)) (VDs.cons VD.plain (VDs.cons VD.plain VDs.nil)) rfl (gDo (eR rfl) (dT h16) (oLss eZ eC (oPickT (eR rfl) (dT h16) eZ (xNil (TQ.qn ⟨(decide (v19 < 0)), H, (wk_mk [] (kR rfl rfl (kR rfl rfl (kR rfl rfl (kR rfl rfl (kR rfl rfl SL.nil))))) BL.nil BK.nil)⟩)))))
      ·exact gSkip eZ (dF h16) rfl (gSkip (eR rfl) (dF h16) rfl (gSkip (eR rfl) (dF h16) rfl (gSkip (eR rfl) (dF h16) rfl (gSkip (eR rfl) (dF h16) rfl (gSkip (eR rfl) (dF h16) rfl (gSkip (eR rfl) (dF h16) rfl (gSkip (eR rfl) (dF h16) rfl (oPickF (eR rfl) (dF h16) eC (xNil (TQ.qn ⟨false, H, (wk_mk [] (kR rfl rfl (kR rfl rfl (kR rfl rfl (kR rfl rfl (kR rfl rfl SL.nil))))) BL.nil BK.nil)⟩))))))))))
    ·exact AW.condF eZ (dF h10) (AW.exit (TQ.qe (TQ.qe (BQ.qe (TQ.qn ⟨s8.1, H, (wk_mk [] (kR rfl rfl SL.nil) BL.nil BK.nil)⟩)))))
 ·refine aR (oMov (eR rfl) ?_)
  obtain ⟨v21, h22, H⟩ := obind H
  refine oCall (u := (oB v21)) eC Cl.fn (c_spec_StoreOk h22) (Evs.cons eZ Evs.nil) (VDs.cons VD.plain VDs.nil) rfl (oInv eZ (oMov eZ ?_))
  rcases oite H with ⟨h23, H⟩ | ⟨h23, H⟩
  ·refine gDo eZ (cN h23) (oMov (eR rfl) (gDo (eR rfl) (cN h23) ?_))
   obtain ⟨v24, h25, H⟩ := obind H
   exact oCall (u := (oB v24)) eC Cl.fn (c_spec_WritesOk h25) (Evs.cons eZ Evs.nil) (VDs.cons VD.plain VDs.nil) rfl (gDo (eR rfl) (cN h23) (oInv eZ (oPickF (eR rfl) (cN h23) eZ (xNil (TQ.qn ⟨(!v24), H, (wk_mk [] (kR rfl rfl (kR rfl rfl (kR rfl rfl SL.nil))) BL.nil BK.nil)⟩)))))
  ·exact gSkip eZ (cN (nt h23)) rfl (gSkip (eR rfl) (cN (nt h23)) rfl (gSkip (eR rfl) (cN (nt h23)) rfl (oPickT (eR rfl) (cN (nt h23)) eC (xNil (TQ.qn ⟨true, H, (wk_mk [] (kR rfl rfl (kR rfl rfl (kR rfl rfl SL.nil))) BL.nil BK.nil)⟩)))))
theorem c_spec_l13New {a1 : TShard} {r : Int} (H : m_spec_l13New a1 = some r) : Fn Tryz.prog 32 (lent [(.agg (d_TShard a1))]) true [(.int .i64 r)] := by
 refine f32 (fle rfl) ?_
 rw [init_mk]
 refine AW.weaken (wk_mk [] (kv 0 (.agg [(dI a1.Me), (.d (.sl 2 (List.map d_TRange a1.Own))), (.d (.sl 2 (List.map d_TRange a1.Frozen))), (.d (.sl 2 (List.map d_TCell a1.Cells))), (.d (.sl 4 (List.map d_TLock a1.Locks))), (.d (.sl 2 (List.map d_THeld a1.Helds))), (.d (.sl 1 (List.map d_i64 a1.Wounded))), (.d (.sl 1 (List.map d_i64 a1.Ended))), (dI a1.Rank)]) rfl rfl SL.nil) BL.nil BK.nil) ?_
 unfold m_spec_l13New at H
 unfold i32
 refine aV (oBox (n := 64) (m := 9) (cs := [(dI a1.Me), (.d (.sl 2 (List.map d_TRange a1.Own))), (.d (.sl 2 (List.map d_TRange a1.Frozen))), (.d (.sl 2 (List.map d_TCell a1.Cells))), (.d (.sl 4 (List.map d_TLock a1.Locks))), (.d (.sl 2 (List.map d_THeld a1.Helds))), (.d (.sl 1 (List.map d_i64 a1.Wounded))), (.d (.sl 1 (List.map d_i64 a1.Ended))), (dI a1.Rank)]) rfl eZ rfl rfl nZ (oMov eC (xQ (aV (oMov eC (xQ (AW.seqJ (fun t2 : Int => spec_l13New_j2 t2 = some r) (fun t2 => mk [(3, (oI t2))] [] noG) ?_ ?_)))))))
 ·intro t2 H
  unfold spec_l13New_j2 at H
  refine aV (oMov eZ (oMov eZ (xQ (AW.ret ?_))))
  cases H
  exact eE rfl rfl
 ·refine aV (oMov eC (xQ (AW.block (AW.iter (fun s4 : (Int × Int) => mk [(1, (.one (.ptr (.nm 64 0 0)))), (3, (oI s4.1)), (4, (oI s4.2))] [(64, (.vars 9 [(dI a1.Me), (.d (.sl 2 (List.map d_TRange a1.Own))), (.d (.sl 2 (List.map d_TRange a1.Frozen))), (.d (.sl 2 (List.map d_TCell a1.Cells))), (.d (.sl 4 (List.map d_TLock a1.Locks))), (.d (.sl 2 (List.map d_THeld a1.Helds))), (.d (.sl 1 (List.map d_i64 a1.Wounded))), (.d (.sl 1 (List.map d_i64 a1.Ended))), (dI a1.Rank)]))] noG) H (wk_mk [] (kR rfl rfl (kR rfl rfl (kR rfl rfl SL.nil))) (BL.keep rfl BL.nil) (BK.cons rfl bZ rfl rfl BK.nil)) ?_))))
  intro kb5 s4 H
  unfold spec_l13New_b4 at H
  refine aS (aV (oMov (eR rfl) (oFaddrN (m := 5) (eR rfl) rfl (oLoadV (q := 5) (c := (.d (.sl 2 (List.map d_THeld a1.Helds)))) eZ bZ rfl rfl (oLenD eZ (n := a1.Helds.length) (List.length_map _) (oLss (eR rfl) eZ (xQ ?_)))))))
  rcases oite H with ⟨h6, H⟩ | ⟨h6, H⟩
  ·refine AW.condT eZ (dT h6) (AW.skip (TQ.qn (aS (AW.block (AW.regd (oMov (eR rfl) (oFaddrN (m := 3) (eR rfl) rfl (oLoadV (q := 3) (c := (.d (.sl 2 (List.map d_TCell a1.Cells)))) eZ bZ rfl rfl (oFaddrN (m := 5) (eR rfl) rfl (oLoadV (q := 5) (c := (.d (.sl 2 (List.map d_THeld a1.Helds)))) eZ bZ rfl rfl (oMov (eR rfl) ?_)))))))))))
   obtain ⟨v7, h8, H⟩ := obind H
   refine oAtD (eR rfl) eZ h8 (oFaddrB (m := 1) eZ rfl (oLoadB (e := (.sl 2 (List.map d_TCell v7.Writes))) eZ rfl ?_))
   obtain ⟨v9, h10, H⟩ := obind H
   exact oCall (u := (oI v9)) eC Cl.fn (c_spec_StoreNew h10) (Evs.cons (eR rfl) (Evs.cons eZ Evs.nil)) (VDs.cons VD.plain (VDs.cons VD.plain VDs.nil)) rfl (oAdd (eR rfl) eZ (oMov eZ (xNil (BQ.qn (TQ.qn (AW.weaken (wk_mk [] (kr 3 rfl rfl (kr 1 rfl rfl (kr 4 rfl rfl SL.nil))) (BL.keep rfl BL.nil) (BK.cons (n := 64) rfl bZ rfl rfl BK.nil)) (aR (oMov (eR rfl) (oAdd eZ eC (oMov eZ (xNil (TQ.qn ⟨((IntKind.wrap .i64 (s4.1 + v9)), (IntKind.wrap .i64 (s4.2 + 1))), H, (wk_mk [] (kR rfl rfl (kR rfl rfl (kR rfl rfl SL.nil))) (BL.keep rfl BL.nil) (BK.cons rfl bZ rfl rfl BK.nil))⟩))))))))))))
  ·exact AW.condF eZ (dF h6) (AW.exit (TQ.qe (TQ.qe (BQ.qe (TQ.qn ⟨s4.1, H, (wk_mk [64] (kR rfl rfl SL.nil) (BL.drop rfl BL.nil) BK.nil)⟩)))))
theorem c_spec_ShardOk {a1 : TShard} {r : Bool} (H : m_spec_ShardOk a1 = some r) : Fn Tryz.prog 6 (lent [(.agg (d_TShard a1))]) true [(.bool r)] := by
 refine f6 (fle rfl) ?_
 rw [init_mk]
 refine AW.weaken (wk_mk [] (kv 0 (.agg [(dI a1.Me), (.d (.sl 2 (List.map d_TRange a1.Own))), (.d (.sl 2 (List.map d_TRange a1.Frozen))), (.d (.sl 2 (List.map d_TCell a1.Cells))), (.d (.sl 4 (List.map d_TLock a1.Locks))), (.d (.sl 2 (List.map d_THeld a1.Helds))), (.d (.sl 1 (List.map d_i64 a1.Wounded))), (.d (.sl 1 (List.map d_i64 a1.Ended))), (dI a1.Rank)]) rfl rfl SL.nil) BL.nil BK.nil) ?_
 unfold m_spec_ShardOk at H
 unfold i6
 refine aV (oBox (n := 64) (m := 9) (cs := [(dI a1.Me), (.d (.sl 2 (List.map d_TRange a1.Own))), (.d (.sl 2 (List.map d_TRange a1.Frozen))), (.d (.sl 2 (List.map d_TCell a1.Cells))), (.d (.sl 4 (List.map d_TLock a1.Locks))), (.d (.sl 2 (List.map d_THeld a1.Helds))), (.d (.sl 1 (List.map d_i64 a1.Wounded))), (.d (.sl 1 (List.map d_i64 a1.Ended))), (dI a1.Rank)]) rfl eZ rfl rfl nZ (oMov eC (xQ (aS (AW.seqJ (fun t2 : Bool => (spec_ShardOk_j2 a1) t2 = some r) (fun t2 => mk [(1, (.one (.ptr (.nm 64 0 0)))), (41, (oB t2))] [(64, (.vars 9 [(dI a1.Me), (.d (.sl 2 (List.map d_TRange a1.Own))), (.d (.sl 2 (List.map d_TRange a1.Frozen))), (.d (.sl 2 (List.map d_TCell a1.Cells))), (.d (.sl 4 (List.map d_TLock a1.Locks))), (.d (.sl 2 (List.map d_THeld a1.Helds))), (.d (.sl 1 (List.map d_i64 a1.Wounded))), (.d (.sl 1 (List.map d_i64 a1.Ended))), (dI a1.Rank)]))] noG) ?_ ?_)))))
 ·intro t2 H
  unfold spec_ShardOk_j2 at H
  rcases oite H with ⟨h4, H⟩ | ⟨h4, H⟩
  ·refine AW.condT (eR rfl) h4 (aV (oMov eC (xQ (AW.ret (TQ.qr ?_)))))
   cases H
   exact eE rfl rfl
  ·refine AW.condF (eR rfl) (nt h4) (AW.skip (TQ.qn (aS (AW.seqJ (fun t5 : Bool => (spec_ShardOk_j5 a1) t5 = some r) (fun t5 => mk [(1, (.one (.ptr (.nm 64 0 0)))), (69, (oB t5))] [(64, (.vars 9 [(dI a1.Me), (.d (.sl 2 (List.map d_TRange a1.Own))), (.d (.sl 2 (List.map d_TRange a1.Frozen))), (.d (.sl 2 (List.map d_TCell a1.Cells))), (.d (.sl 4 (List.map d_TLock a1.Locks))), (.d (.sl 2 (List.map d_THeld a1.Helds))), (.d (.sl 1 (List.map d_i64 a1.Wounded))), (.d (.sl 1 (List.map d_i64 a1.Ended))), (dI a1.Rank)]))] noG) ?_ ?_))))
   ·intro t5 H
    unfold spec_ShardOk_j5 at H
    rcases oite H with ⟨h7, H⟩ | ⟨h7, H⟩
    ·refine AW.condT (eR rfl) h7 (aV (oMov eC (xQ (AW.ret (TQ.qr ?_)))))
     cases H
     exact eE rfl rfl
    ·refine AW.condF (eR rfl) (nt h7) (AW.skip (TQ.qn (AW.seqJ (fun t8 : Unit => (spec_ShardOk_j8 a1) t8 = some r) (fun t8 => mk [(1, (.one (.ptr (.nm 64 0 0))))] [(64, (.vars 9 [(dI a1.Me), (.d (.sl 2 (List.map d_TRange a1.Own))), (.d (.sl 2 (List.map d_TRange a1.Frozen))), (.d (.sl 2 (List.map d_TCell a1.Cells))), (.d (.sl 4 (List.map d_TLock a1.Locks))), (.d (.sl 2 (List.map d_THeld a1.Helds))), (.d (.sl 1 (List.map d_i64 a1.Wounded))), (.d (.sl 1 (List.map d_i64 a1.Ended))), (dI a1.Rank)]))] noG) ?_ ?_)))
     ·intro t8 H
      unfold spec_ShardOk_j8 at H
      refine AW.seqJ (fun t10 : Unit => (spec_ShardOk_j10 a1) t10 = some r) (fun t10 => mk [(1, (.one (.ptr (.nm 64 0 0))))] [(64, (.vars 9 [(dI a1.Me), (.d (.sl 2 (List.map d_TRange a1.Own))), (.d (.sl 2 (List.map d_TRange a1.Frozen))), (.d (.sl 2 (List.map d_TCell a1.Cells))), (.d (.sl 4 (List.map d_TLock a1.Locks))), (.d (.sl 2 (List.map d_THeld a1.Helds))), (.d (.sl 1 (List.map d_i64 a1.Wounded))), (.d (.sl 1 (List.map d_i64 a1.Ended))), (dI a1.Rank)]))] noG) ?_ ?_
      ·intro t10 H
       unfold spec_ShardOk_j10 at H
       refine AW.seqJ (fun t12 : Unit => (spec_ShardOk_j12 a1) t12 = some r) (fun t12 => mk [(1, (.one (.ptr (.nm 64 0 0))))] [(64, (.vars 9 [(dI a1.Me), (.d (.sl 2 (List.map d_TRange a1.Own))), (.d (.sl 2 (List.map d_TRange a1.Frozen))), (.d (.sl 2 (List.map d_TCell a1.Cells))), (.d (.sl 4 (List.map d_TLock a1.Locks))), (.d (.sl 2 (List.map d_THeld a1.Helds))), (.d (.sl 1 (List.map d_i64 a1.Wounded))), (.d (.sl 1 (List.map d_i64 a1.Ended))), (dI a1.Rank)]))] noG) ?_ ?_
       ·intro t12 H
        unfold spec_ShardOk_j12 at H
        refine AW.seqJ (fun t14 : Unit => (spec_ShardOk_j14 a1) t14 = some r) (fun t14 => mk [(1, (.one (.ptr (.nm 64 0 0))))] [(64, (.vars 9 [(dI a1.Me), (.d (.sl 2 (List.map d_TRange a1.Own))), (.d (.sl 2 (List.map d_TRange a1.Frozen))), (.d (.sl 2 (List.map d_TCell a1.Cells))), (.d (.sl 4 (List.map d_TLock a1.Locks))), (.d (.sl 2 (List.map d_THeld a1.Helds))), (.d (.sl 1 (List.map d_i64 a1.Wounded))), (.d (.sl 1 (List.map d_i64 a1.Ended))), (dI a1.Rank)]))] noG) ?_ ?_
        ·intro t14 H
         unfold spec_ShardOk_j14 at H
         refine aS (AW.regd (oLoadVA (es := [(dI a1.Me), (.d (.sl 2 (List.map d_TRange a1.Own))), (.d (.sl 2 (List.map d_TRange a1.Frozen))), (.d (.sl 2 (List.map d_TCell a1.Cells))), (.d (.sl 4 (List.map d_TLock a1.Locks))), (.d (.sl 2 (List.map d_THeld a1.Helds))), (.d (.sl 1 (List.map d_i64 a1.Wounded))), (.d (.sl 1 (List.map d_i64 a1.Ended))), (dI a1.Rank)]) eZ bZ rfl ?_))
         obtain ⟨v16, h17, H⟩ := obind H
         refine oCall (u := (oB v16)) eC Cl.fn (c_spec_l13HeldsOk h17) (Evs.cons eZ Evs.nil) (VDs.cons (VD.agg rfl) VDs.nil) rfl (oMov eZ ?_)
         rcases oite H with ⟨h18, H⟩ | ⟨h18, H⟩
         ·refine gDo eZ h18 (oFaddrN (m := 3) (eR rfl) rfl (gDo (eR rfl) h18 (oLoadV (q := 3) (c := (.d (.sl 2 (List.map d_TCell a1.Cells)))) eZ (hB rfl bZ) rfl rfl (gDo (eR rfl) h18 (oLenD eZ (n := a1.Cells.length) (List.length_map _) (gDo (eR rfl) h18 (oLoadVA (es := [(dI a1.Me), (.d (.sl 2 (List.map d_TRange a1.Own))), (.d (.sl 2 (List.map d_TRange a1.Frozen))), (.d (.sl 2 (List.map d_TCell a1.Cells))), (.d (.sl 4 (List.map d_TLock a1.Locks))), (.d (.sl 2 (List.map d_THeld a1.Helds))), (.d (.sl 1 (List.map d_i64 a1.Wounded))), (.d (.sl 1 (List.map d_i64 a1.Ended))), (dI a1.Rank)]) (eR rfl) bZ rfl (gDo (eR rfl) h18 ?_))))))))
          obtain ⟨v19, h20, H⟩ := obind H
          refine oCall (u := (oI v19)) eC Cl.fn (c_spec_l13New h20) (Evs.cons eZ Evs.nil) (VDs.cons (VD.agg rfl) VDs.nil) rfl (gDo (eR rfl) h18 (oAdd (eR rfl) eZ (gDo (eR rfl) h18 (oLeq eZ eC (oPickT (eR rfl) h18 eZ (oMov eZ (xQ (AW.ret ?_))))))))
          cases H
          exact eE rfl rfl
         ·refine gSkip eZ (nt h18) rfl (gSkip (eR rfl) (nt h18) rfl (gSkip (eR rfl) (nt h18) rfl (gSkip (eR rfl) (nt h18) rfl (gSkip (eR rfl) (nt h18) rfl (gSkip (eR rfl) (nt h18) rfl (gSkip (eR rfl) (nt h18) rfl (oPickF (eR rfl) (nt h18) eC (oMov eZ (xQ (AW.ret ?_))))))))))
          cases H
          exact eE rfl rfl
        ·refine aV (oMov eC (xQ (AW.block (AW.iter (fun s21 : Int => mk [(1, (.one (.ptr (.nm 64 0 0)))), (7, (oI s21))] [(64, (.vars 9 [(dI a1.Me), (.d (.sl 2 (List.map d_TRange a1.Own))), (.d (.sl 2 (List.map d_TRange a1.Frozen))), (.d (.sl 2 (List.map d_TCell a1.Cells))), (.d (.sl 4 (List.map d_TLock a1.Locks))), (.d (.sl 2 (List.map d_THeld a1.Helds))), (.d (.sl 1 (List.map d_i64 a1.Wounded))), (.d (.sl 1 (List.map d_i64 a1.Ended))), (dI a1.Rank)]))] noG) H (wk_mk [] (kR rfl rfl (kR rfl rfl SL.nil)) (BL.keep rfl BL.nil) (BK.cons rfl bZ rfl rfl BK.nil)) ?_))))
         intro kb22 s21 H
         unfold spec_ShardOk_b21 at H
         refine aS (aV (oMov (eR rfl) (oFaddrN (m := 6) (eR rfl) rfl (oLoadV (q := 6) (c := (.d (.sl 1 (List.map d_i64 a1.Wounded)))) eZ bZ rfl rfl (oLenD eZ (n := a1.Wounded.length) (List.length_map _) (oLss (eR rfl) eZ (xQ ?_)))))))
         rcases oite H with ⟨h23, H⟩ | ⟨h23, H⟩
         ·refine AW.condT eZ (dT h23) (AW.skip (TQ.qn (aS (AW.block (aS (AW.regd (oFaddrN (m := 7) (eR rfl) rfl (oLoadV (q := 7) (c := (.d (.sl 1 (List.map d_i64 a1.Ended)))) eZ bZ rfl rfl (oFaddrN (m := 6) (eR rfl) rfl (oLoadV (q := 6) (c := (.d (.sl 1 (List.map d_i64 a1.Wounded)))) eZ bZ rfl rfl (oMov (eR rfl) ?_)))))))))))
          obtain ⟨v24, h25, H⟩ := obind H
          refine oAtD (eR rfl) eZ h25 (oLoadB (e := (.int .i64 v24)) eZ rfl ?_)
          obtain ⟨v26, h27, H⟩ := obind H
          refine oCall (u := (oB v26)) eC Cl.fn (c_spec_l12Has h27) (Evs.cons (eR rfl) (Evs.cons eZ Evs.nil)) (VDs.cons VD.plain (VDs.cons VD.plain VDs.nil)) rfl (xQ ?_)
          rcases oite H with ⟨h28, H⟩ | ⟨h28, H⟩
          ·refine AW.condT eZ h28 (aV (oMov eC (xQ (AW.weaken (wk_mk [64] (kr 2 rfl rfl SL.nil) (BL.drop rfl BL.nil) BK.nil) (AW.ret (BQ.qr (TQ.qr (TQ.qr (BQ.qr (TQ.qr ?_))))))))))
           cases H
           exact eE rfl rfl
          ·exact AW.condF eZ (nt h28) (AW.skip (BQ.qn (TQ.qn (aR (oMov (eR rfl) (oAdd eZ eC (oMov eZ (xNil (TQ.qn ⟨(IntKind.wrap .i64 (s21 + 1)), H, (wk_mk [] (kR rfl rfl (kR rfl rfl SL.nil)) (BL.keep rfl BL.nil) (BK.cons rfl bZ rfl rfl BK.nil))⟩)))))))))
         ·exact AW.condF eZ (dF h23) (AW.exit (TQ.qe (TQ.qe (BQ.qe (TQ.qn ⟨(), H, (wk_mk [] (kR rfl rfl SL.nil) (BL.keep rfl BL.nil) (BK.cons rfl bZ rfl rfl BK.nil))⟩)))))
       ·refine aV (oMov eC (xQ (AW.block (AW.iter (fun s29 : Int => mk [(1, (.one (.ptr (.nm 64 0 0)))), (5, (oI s29))] [(64, (.vars 9 [(dI a1.Me), (.d (.sl 2 (List.map d_TRange a1.Own))), (.d (.sl 2 (List.map d_TRange a1.Frozen))), (.d (.sl 2 (List.map d_TCell a1.Cells))), (.d (.sl 4 (List.map d_TLock a1.Locks))), (.d (.sl 2 (List.map d_THeld a1.Helds))), (.d (.sl 1 (List.map d_i64 a1.Wounded))), (.d (.sl 1 (List.map d_i64 a1.Ended))), (dI a1.Rank)]))] noG) H (wk_mk [] (kR rfl rfl (kR rfl rfl SL.nil)) (BL.keep rfl BL.nil) (BK.cons rfl bZ rfl rfl BK.nil)) ?_))))
        intro kb30 s29 H
        unfold spec_ShardOk_b29 at H
        refine aS (aV (oMov (eR rfl) (oFaddrN (m := 4) (eR rfl) rfl (oLoadV (q := 4) (c := (.d (.sl 4 (List.map d_TLock a1.Locks)))) eZ bZ rfl rfl (oLenD eZ (n := a1.Locks.length) (List.length_map _) (oLss (eR rfl) eZ (xQ ?_)))))))
        rcases oite H with ⟨h31, H⟩ | ⟨h31, H⟩
        ·refine AW.condT eZ (dT h31) (AW.skip (TQ.qn (aS (AW.block (aV (oFaddrN (m := 4) (eR rfl) rfl (oLoadV (q := 4) (c := (.d (.sl 4 (List.map d_TLock a1.Locks)))) eZ bZ rfl rfl (oMov (eR rfl) ?_))))))))
         obtain ⟨v32, h33, H⟩ := obind H
         refine oAtD (eR rfl) eZ h33 (oLoadBA (es := [(dI v32.Tx), (dI v32.Lo), (dI v32.Hi), (dI v32.Mode)]) eZ rfl (oVar (n := 384) (m := 4) rfl rfl (nS rfl nZ) (oStoreV (es := [(dI v32.Tx), (dI v32.Lo), (dI v32.Hi), (dI v32.Mode)]) eZ (eR rfl) rfl rfl bZ rfl (xQ (AW.seqJ (fun t34 : Bool => (spec_ShardOk_j34 kb30 s29) t34 = some r) (fun t34 => mk [(1, (.one (.ptr (.nm 64 0 0)))), (5, (oI s29)), (135, (oB t34))] [(64, (.vars 9 [(dI a1.Me), (.d (.sl 2 (List.map d_TRange a1.Own))), (.d (.sl 2 (List.map d_TRange a1.Frozen))), (.d (.sl 2 (List.map d_TCell a1.Cells))), (.d (.sl 4 (List.map d_TLock a1.Locks))), (.d (.sl 2 (List.map d_THeld a1.Helds))), (.d (.sl 1 (List.map d_i64 a1.Wounded))), (.d (.sl 1 (List.map d_i64 a1.Ended))), (dI a1.Rank)]))] noG) ?_ ?_)))))
         ·intro t34 H
          unfold spec_ShardOk_j34 at H
          rcases oite H with ⟨h36, H⟩ | ⟨h36, H⟩
          ·refine AW.condT (eR rfl) h36 (aV (oMov eC (xQ (AW.ret (BQ.qr (TQ.qr (TQ.qr (BQ.qr (TQ.qr ?_)))))))))
           cases H
           exact eE rfl rfl
          ·exact AW.condF (eR rfl) (nt h36) (AW.skip (BQ.qn (TQ.qn (aR (oMov (eR rfl) (oAdd eZ eC (oMov eZ (xNil (TQ.qn ⟨(IntKind.wrap .i64 (s29 + 1)), H, (wk_mk [] (kR rfl rfl (kR rfl rfl SL.nil)) (BL.keep rfl BL.nil) (BK.cons rfl bZ rfl rfl BK.nil))⟩)))))))))
         ·refine AW.regd (oFaddrN (m := 1) (eR rfl) rfl (oLoadV (q := 1) (c := (.d (.sl 2 (List.map d_TRange a1.Own)))) eZ (hB rfl (bS rfl (bS rfl bZ))) rfl rfl (oLoadVA (es := [(dI v32.Tx), (dI v32.Lo), (dI v32.Hi), (dI v32.Mode)]) (eR rfl) bZ rfl ?_)))
          obtain ⟨v37, h38, H⟩ := obind H
          refine oCall (u := (.agg [(dI v37.Lo), (dI v37.Hi)])) eC Cl.fn (c_spec_l12Range h38) (Evs.cons eZ Evs.nil) (VDs.cons (VD.agg rfl) VDs.nil) rfl ?_
          obtain ⟨v39, h40, H⟩ := obind H
          refine oCall (u := (oB v39)) eC Cl.fn (c_spec_RangesHave h40) (Evs.cons (eR rfl) (Evs.cons eZ Evs.nil)) (VDs.cons VD.plain (VDs.cons (VD.agg rfl) VDs.nil)) rfl (oInv eZ (oMov eZ ?_))
          rcases oite H with ⟨h41, H⟩ | ⟨h41, H⟩
          ·refine gDo eZ (cN h41) (oFaddrN (m := 6) (eR rfl) rfl (gDo (eR rfl) (cN h41) (oLoadV (q := 6) (c := (.d (.sl 1 (List.map d_i64 a1.Wounded)))) eZ (bS rfl (bS rfl bZ)) rfl rfl (gDo (eR rfl) (cN h41) (oFaddrN (m := 0) (eR rfl) rfl (gDo (eR rfl) (cN h41) (oLoadV (q := 0) (c := (dI v32.Tx)) eZ bZ rfl rfl (gDo (eR rfl) (cN h41) ?_))))))))
           obtain ⟨v42, h43, H⟩ := obind H
           refine oCall (u := (oB v42)) eC Cl.fn (c_spec_l12Has h43) (Evs.cons (eR rfl) (Evs.cons eZ Evs.nil)) (VDs.cons VD.plain (VDs.cons VD.plain VDs.nil)) rfl (oPickF (eR rfl) (cN h41) eZ (oMov eZ ?_))
           rcases oite H with ⟨h44, H⟩ | ⟨h44, H⟩
           ·exact gSkip eZ h44 rfl (gSkip (eR rfl) h44 rfl (gSkip (eR rfl) h44 rfl (gSkip (eR rfl) h44 rfl (gSkip (eR rfl) h44 rfl (oPickT (eR rfl) h44 eC (xNil (TQ.qn ⟨true, H, (wk_mk [384] (kR rfl rfl (kR rfl rfl (kR rfl rfl SL.nil))) (BL.drop rfl (BL.drop rfl (BL.keep rfl BL.nil))) (BK.cons rfl (bS rfl (bS rfl bZ)) rfl rfl BK.nil))⟩)))))))
           ·refine gDo eZ (nt h44) (oFaddrN (m := 7) (eR rfl) rfl (gDo (eR rfl) (nt h44) (oLoadV (q := 7) (c := (.d (.sl 1 (List.map d_i64 a1.Ended)))) eZ (bS rfl (bS rfl bZ)) rfl rfl (gDo (eR rfl) (nt h44) (oFaddrN (m := 0) (eR rfl) rfl (gDo (eR rfl) (nt h44) (oLoadV (q := 0) (c := (dI v32.Tx)) eZ bZ rfl rfl (gDo (eR rfl) (nt h44) ?_))))))))
            obtain ⟨v45, h46, H⟩ := obind H
            exact oCall (u := (oB v45)) eC Cl.fn (c_spec_l12Has h46) (Evs.cons (eR rfl) (Evs.cons eZ Evs.nil)) (VDs.cons VD.plain (VDs.cons VD.plain VDs.nil)) rfl (oPickF (eR rfl) (nt h44) eZ (xNil (TQ.qn ⟨v45, H, (wk_mk [384] (kR rfl rfl (kR rfl rfl (kR rfl rfl SL.nil))) (BL.drop rfl (BL.drop rfl (BL.keep rfl BL.nil))) (BK.cons rfl (bS rfl (bS rfl bZ)) rfl rfl BK.nil))⟩)))
          ·exact gSkip eZ (cN (nt h41)) rfl (gSkip (eR rfl) (cN (nt h41)) rfl (gSkip (eR rfl) (cN (nt h41)) rfl (gSkip (eR rfl) (cN (nt h41)) rfl (gSkip (eR rfl) (cN (nt h41)) rfl (oPickT (eR rfl) (cN (nt h41)) eC (oMov eZ (gSkip eZ rfl rfl (gSkip (eR rfl) rfl rfl (gSkip (eR rfl) rfl rfl (gSkip (eR rfl) rfl rfl (gSkip (eR rfl) rfl rfl (oPickT (eR rfl) rfl eC (xNil (TQ.qn ⟨true, H, (wk_mk [384] (kR rfl rfl (kR rfl rfl (kR rfl rfl SL.nil))) (BL.drop rfl (BL.drop rfl (BL.keep rfl BL.nil))) (BK.cons rfl (bS rfl (bS rfl bZ)) rfl rfl BK.nil))⟩))))))))))))))
        ·exact AW.condF eZ (dF h31) (AW.exit (TQ.qe (TQ.qe (BQ.qe (TQ.qn ⟨(), H, (wk_mk [] (kR rfl rfl SL.nil) (BL.keep rfl BL.nil) (BK.cons rfl bZ rfl rfl BK.nil))⟩)))))
      ·refine aV (oMov eC (xQ (AW.block (AW.iter (fun s47 : Int => mk [(1, (.one (.ptr (.nm 64 0 0)))), (4, (oI s47))] [(64, (.vars 9 [(dI a1.Me), (.d (.sl 2 (List.map d_TRange a1.Own))), (.d (.sl 2 (List.map d_TRange a1.Frozen))), (.d (.sl 2 (List.map d_TCell a1.Cells))), (.d (.sl 4 (List.map d_TLock a1.Locks))), (.d (.sl 2 (List.map d_THeld a1.Helds))), (.d (.sl 1 (List.map d_i64 a1.Wounded))), (.d (.sl 1 (List.map d_i64 a1.Ended))), (dI a1.Rank)]))] noG) H (wk_mk [] (kR rfl rfl (kR rfl rfl SL.nil)) (BL.keep rfl BL.nil) (BK.cons rfl bZ rfl rfl BK.nil)) ?_))))
       intro kb48 s47 H
       unfold spec_ShardOk_b47 at H
       refine aS (aV (oMov (eR rfl) (oFaddrN (m := 3) (eR rfl) rfl (oLoadV (q := 3) (c := (.d (.sl 2 (List.map d_TCell a1.Cells)))) eZ bZ rfl rfl (oLenD eZ (n := a1.Cells.length) (List.length_map _) (oLss (eR rfl) eZ (xQ ?_)))))))
       rcases oite H with ⟨h49, H⟩ | ⟨h49, H⟩
       ·refine AW.condT eZ (dT h49) (AW.skip (TQ.qn (aS (AW.block (aS (AW.regd (oFaddrN (m := 1) (eR rfl) rfl (oLoadV (q := 1) (c := (.d (.sl 2 (List.map d_TRange a1.Own)))) eZ (hB rfl bZ) rfl rfl (oFaddrN (m := 3) (eR rfl) rfl (oLoadV (q := 3) (c := (.d (.sl 2 (List.map d_TCell a1.Cells)))) eZ bZ rfl rfl (oMov (eR rfl) ?_)))))))))))
        obtain ⟨v50, h51, H⟩ := obind H
        refine oAtD (eR rfl) eZ h51 (oFaddrB (m := 0) eZ rfl (oLoadB (e := (.int .i64 v50.Key)) eZ rfl ?_))
        obtain ⟨v52, h53, H⟩ := obind H
        refine oCall (u := (.agg [(dI v52.Lo), (dI v52.Hi)])) eC Cl.fn (c_spec_l10One h53) (Evs.cons eZ Evs.nil) (VDs.cons VD.plain VDs.nil) rfl ?_
        obtain ⟨v54, h55, H⟩ := obind H
        refine oCall (u := (oB v54)) eC Cl.fn (c_spec_RangesHave h55) (Evs.cons (eR rfl) (Evs.cons eZ Evs.nil)) (VDs.cons VD.plain (VDs.cons (VD.agg rfl) VDs.nil)) rfl (oInv eZ (xQ (AW.weaken (wk_mk [] (kr 103 rfl rfl (kr 1 rfl rfl (kr 4 rfl rfl SL.nil))) (BL.keep rfl BL.nil) (BK.cons (n := 64) rfl bZ rfl rfl BK.nil)) ?_)))
        rcases oite H with ⟨h56, H⟩ | ⟨h56, H⟩
        ·exact AW.condF eZ (cN h56) (AW.skip (BQ.qn (TQ.qn (aR (oMov (eR rfl) (oAdd eZ eC (oMov eZ (xNil (TQ.qn ⟨(IntKind.wrap .i64 (s47 + 1)), H, (wk_mk [] (kR rfl rfl (kR rfl rfl SL.nil)) (BL.keep rfl BL.nil) (BK.cons rfl bZ rfl rfl BK.nil))⟩)))))))))
        ·refine AW.condT eZ (cN (nt h56)) (aV (oMov eC (xQ (AW.ret (BQ.qr (TQ.qr (TQ.qr (BQ.qr (TQ.qr ?_)))))))))
         cases H
         exact eE rfl rfl
       ·exact AW.condF eZ (dF h49) (AW.exit (TQ.qe (TQ.qe (BQ.qe (TQ.qn ⟨(), H, (wk_mk [] (kR rfl rfl SL.nil) (BL.keep rfl BL.nil) (BK.cons rfl bZ rfl rfl BK.nil))⟩)))))
     ·refine aV (oMov eC (xQ (AW.block (AW.iter (fun s57 : Int => mk [(1, (.one (.ptr (.nm 64 0 0)))), (3, (oI s57))] [(64, (.vars 9 [(dI a1.Me), (.d (.sl 2 (List.map d_TRange a1.Own))), (.d (.sl 2 (List.map d_TRange a1.Frozen))), (.d (.sl 2 (List.map d_TCell a1.Cells))), (.d (.sl 4 (List.map d_TLock a1.Locks))), (.d (.sl 2 (List.map d_THeld a1.Helds))), (.d (.sl 1 (List.map d_i64 a1.Wounded))), (.d (.sl 1 (List.map d_i64 a1.Ended))), (dI a1.Rank)]))] noG) H (wk_mk [] (kR rfl rfl (kR rfl rfl SL.nil)) (BL.keep rfl BL.nil) (BK.cons rfl bZ rfl rfl BK.nil)) ?_))))
      intro kb58 s57 H
      unfold spec_ShardOk_b57 at H
      refine aS (aV (oMov (eR rfl) (oFaddrN (m := 2) (eR rfl) rfl (oLoadV (q := 2) (c := (.d (.sl 2 (List.map d_TRange a1.Frozen)))) eZ bZ rfl rfl (oLenD eZ (n := a1.Frozen.length) (List.length_map _) (oLss (eR rfl) eZ (xQ ?_)))))))
      rcases oite H with ⟨h59, H⟩ | ⟨h59, H⟩
      ·refine AW.condT eZ (dT h59) (AW.skip (TQ.qn (aS (AW.block (aS (AW.regd (oFaddrN (m := 1) (eR rfl) rfl (oLoadV (q := 1) (c := (.d (.sl 2 (List.map d_TRange a1.Own)))) eZ bZ rfl rfl (oFaddrN (m := 2) (eR rfl) rfl (oLoadV (q := 2) (c := (.d (.sl 2 (List.map d_TRange a1.Frozen)))) eZ bZ rfl rfl (oMov (eR rfl) ?_)))))))))))
       obtain ⟨v60, h61, H⟩ := obind H
       refine oAtD (eR rfl) eZ h61 (oLoadBA (es := [(dI v60.Lo), (dI v60.Hi)]) eZ rfl ?_)
       obtain ⟨v62, h63, H⟩ := obind H
       refine oCall (u := (oB v62)) eC Cl.fn (c_spec_RangesHave h63) (Evs.cons (eR rfl) (Evs.cons eZ Evs.nil)) (VDs.cons VD.plain (VDs.cons (VD.agg rfl) VDs.nil)) rfl (oInv eZ (xQ (AW.weaken (wk_mk [] (kr 85 rfl rfl (kr 1 rfl rfl (kr 3 rfl rfl SL.nil))) (BL.keep rfl BL.nil) (BK.cons (n := 64) rfl bZ rfl rfl BK.nil)) ?_)))
       rcases oite H with ⟨h64, H⟩ | ⟨h64, H⟩
       ·exact AW.condF eZ (cN h64) (AW.skip (BQ.qn (TQ.qn (aR (oMov (eR rfl) (oAdd eZ eC (oMov eZ (xNil (TQ.qn ⟨(IntKind.wrap .i64 (s57 + 1)), H, (wk_mk [] (kR rfl rfl (kR rfl rfl SL.nil)) (BL.keep rfl BL.nil) (BK.cons rfl bZ rfl rfl BK.nil))⟩)))))))))
       ·refine AW.condT eZ (cN (nt h64)) (aV (oMov eC (xQ (AW.ret (BQ.qr (TQ.qr (TQ.qr (BQ.qr (TQ.qr ?_)))))))))
        cases H
        exact eE rfl rfl
      ·exact AW.condF eZ (dF h59) (AW.exit (TQ.qe (TQ.qe (BQ.qe (TQ.qn ⟨(), H, (wk_mk [] (kR rfl rfl SL.nil) (BL.keep rfl BL.nil) (BK.cons rfl bZ rfl rfl BK.nil))⟩)))))
   ·refine aR (oFaddrN (m := 5) eZ rfl (oLoadV (q := 5) (c := (.d (.sl 2 (List.map d_THeld a1.Helds)))) eZ bZ rfl rfl (oLenD eZ (n := a1.Helds.length) (List.length_map _) (oGtr eZ eC (oMov eZ ?_)))))
    rcases oite H with ⟨h65, H⟩ | ⟨h65, H⟩
    ·exact gSkip eZ (dT h65) rfl (gSkip (eR rfl) (dT h65) rfl (gSkip (eR rfl) (dT h65) rfl (gSkip (eR rfl) (dT h65) rfl (oPickT (eR rfl) (dT h65) eC (oMov eZ (gSkip eZ rfl rfl (gSkip (eR rfl) rfl rfl (gSkip (eR rfl) rfl rfl (gSkip (eR rfl) rfl rfl (oPickT (eR rfl) rfl eC (oMov eZ (gSkip eZ rfl rfl (gSkip (eR rfl) rfl rfl (gSkip (eR rfl) rfl rfl (gSkip (eR rfl) rfl rfl (oPickT (eR rfl) rfl eC (oMov eZ (gSkip eZ rfl rfl (gSkip (eR rfl) rfl rfl (gSkip (eR rfl) rfl rfl (gSkip (eR rfl) rfl rfl (oPickT (eR rfl) rfl eC (xNil (TQ.qn ⟨true, H, (wk_mk [] (kR rfl rfl (kR rfl rfl SL.nil)) (BL.keep rfl BL.nil) (BK.cons rfl bZ rfl rfl BK.nil))⟩))))))))))))))))))))))))
    ·refine gDo eZ (dF h65) (oFaddrN (m := 6) (eR rfl) rfl (gDo (eR rfl) (dF h65) (oLoadV (q := 6) (c := (.d (.sl 1 (List.map d_i64 a1.Wounded)))) eZ bZ rfl rfl (gDo (eR rfl) (dF h65) (oLenD eZ (n := a1.Wounded.length) (List.length_map _) (gDo (eR rfl) (dF h65) (oGtr eZ eC (oPickF (eR rfl) (dF h65) eZ (oMov eZ ?_)))))))))
     rcases oite H with ⟨h66, H⟩ | ⟨h66, H⟩
     ·exact gSkip eZ (dT h66) rfl (gSkip (eR rfl) (dT h66) rfl (gSkip (eR rfl) (dT h66) rfl (gSkip (eR rfl) (dT h66) rfl (oPickT (eR rfl) (dT h66) eC (oMov eZ (gSkip eZ rfl rfl (gSkip (eR rfl) rfl rfl (gSkip (eR rfl) rfl rfl (gSkip (eR rfl) rfl rfl (oPickT (eR rfl) rfl eC (oMov eZ (gSkip eZ rfl rfl (gSkip (eR rfl) rfl rfl (gSkip (eR rfl) rfl rfl (gSkip (eR rfl) rfl rfl (oPickT (eR rfl) rfl eC (xNil (TQ.qn ⟨true, H, (wk_mk [] (kR rfl rfl (kR rfl rfl SL.nil)) (BL.keep rfl BL.nil) (BK.cons rfl bZ rfl rfl BK.nil))⟩))))))))))))))))))
     ·refine gDo eZ (dF h66) (oFaddrN (m := 7) (eR rfl) rfl (gDo (eR rfl) (dF h66) (oLoadV (q := 7) (c := (.d (.sl 1 (List.map d_i64 a1.Ended)))) eZ bZ rfl rfl (gDo (eR rfl) (dF h66) (oLenD eZ (n := a1.Ended.length) (List.length_map _) (gDo (eR rfl) (dF h66) (oGtr eZ eC (oPickF (eR rfl) (dF h66) eZ (oMov eZ ?_)))))))))
      rcases oite H with ⟨h67, H⟩ | ⟨h67, H⟩
      ·exact gSkip eZ (dT h67) rfl (gSkip (eR rfl) (dT h67) rfl (gSkip (eR rfl) (dT h67) rfl (gSkip (eR rfl) (dT h67) rfl (oPickT (eR rfl) (dT h67) eC (oMov eZ (gSkip eZ rfl rfl (gSkip (eR rfl) rfl rfl (gSkip (eR rfl) rfl rfl (gSkip (eR rfl) rfl rfl (oPickT (eR rfl) rfl eC (xNil (TQ.qn ⟨true, H, (wk_mk [] (kR rfl rfl (kR rfl rfl SL.nil)) (BL.keep rfl BL.nil) (BK.cons rfl bZ rfl rfl BK.nil))⟩))))))))))))
      ·refine gDo eZ (dF h67) (oFaddrN (m := 6) (eR rfl) rfl (gDo (eR rfl) (dF h67) (oLoadV (q := 6) (c := (.d (.sl 1 (List.map d_i64 a1.Wounded)))) eZ bZ rfl rfl (gDo (eR rfl) (dF h67) ?_))))
       obtain ⟨v68, h69, H⟩ := obind H
       refine oCall (u := (oB v68)) eC Cl.fn (c_spec_l13Txs h69) (Evs.cons eZ Evs.nil) (VDs.cons VD.plain VDs.nil) rfl (gDo (eR rfl) (dF h67) (oInv eZ (oPickF (eR rfl) (dF h67) eZ (oMov eZ ?_))))
       rcases oite H with ⟨h70, H⟩ | ⟨h70, H⟩
       ·refine gDo eZ (cN h70) (oFaddrN (m := 7) (eR rfl) rfl (gDo (eR rfl) (cN h70) (oLoadV (q := 7) (c := (.d (.sl 1 (List.map d_i64 a1.Ended)))) eZ bZ rfl rfl (gDo (eR rfl) (cN h70) ?_))))
        obtain ⟨v71, h72, H⟩ := obind H
        exact oCall (u := (oB v71)) eC Cl.fn (c_spec_l13Txs h72) (Evs.cons eZ Evs.nil) (VDs.cons VD.plain VDs.nil) rfl (gDo (eR rfl) (cN h70) (oInv eZ (oPickF (eR rfl) (cN h70) eZ (xNil (TQ.qn ⟨(!v71), H, (wk_mk [] (kR rfl rfl (kR rfl rfl SL.nil)) (BL.keep rfl BL.nil) (BK.cons rfl bZ rfl rfl BK.nil))⟩)))))
       ·exact gSkip eZ (cN (nt h70)) rfl (gSkip (eR rfl) (cN (nt h70)) rfl (gSkip (eR rfl) (cN (nt h70)) rfl (gSkip (eR rfl) (cN (nt h70)) rfl (oPickT (eR rfl) (cN (nt h70)) eC (xNil (TQ.qn ⟨true, H, (wk_mk [] (kR rfl rfl (kR rfl rfl SL.nil)) (BL.keep rfl BL.nil) (BK.cons rfl bZ rfl rfl BK.nil))⟩))))))
 ·refine aR (oFaddrN (m := 0) (eR rfl) rfl (oLoadV (q := 0) (c := (dI a1.Me)) eZ bZ rfl rfl ?_))
  obtain ⟨v73, h74, H⟩ := obind H
  refine oCall (u := (oB v73)) eC Cl.fn (c_spec_l1In h74) (Evs.cons eZ (Evs.cons eC (Evs.cons eC Evs.nil))) (VDs.cons VD.plain (VDs.cons VD.plain (VDs.cons VD.plain VDs.nil))) rfl (oInv eZ (oMov eZ ?_))
  rcases oite H with ⟨h75, H⟩ | ⟨h75, H⟩
  ·refine gDo eZ (cN h75) (oFaddrN (m := 1) (eR rfl) rfl (gDo (eR rfl) (cN h75) (oLoadV (q := 1) (c := (.d (.sl 2 (List.map d_TRange a1.Own)))) eZ bZ rfl rfl (gDo (eR rfl) (cN h75) ?_))))
   obtain ⟨v76, h77, H⟩ := obind H
   refine oCall (u := (oB v76)) eC Cl.fn (c_spec_RangesOk h77) (Evs.cons eZ Evs.nil) (VDs.cons VD.plain VDs.nil) rfl (gDo (eR rfl) (cN h75) (oInv eZ (oPickF (eR rfl) (cN h75) eZ (oMov eZ ?_))))
   rcases oite H with ⟨h78, H⟩ | ⟨h78, H⟩
   ·refine gDo eZ (cN h78) (oFaddrN (m := 2) (eR rfl) rfl (gDo (eR rfl) (cN h78) (oLoadV (q := 2) (c := (.d (.sl 2 (List.map d_TRange a1.Frozen)))) eZ bZ rfl rfl (gDo (eR rfl) (cN h78) ?_))))
    obtain ⟨v79, h80, H⟩ := obind H
    refine oCall (u := (oB v79)) eC Cl.fn (c_spec_RangesOk h80) (Evs.cons eZ Evs.nil) (VDs.cons VD.plain VDs.nil) rfl (gDo (eR rfl) (cN h78) (oInv eZ (oPickF (eR rfl) (cN h78) eZ (oMov eZ ?_))))
    rcases oite H with ⟨h81, H⟩ | ⟨h81, H⟩
    ·refine gDo eZ (cN h81) (oFaddrN (m := 3) (eR rfl) rfl (gDo (eR rfl) (cN h81) (oLoadV (q := 3) (c := (.d (.sl 2 (List.map d_TCell a1.Cells)))) eZ bZ rfl rfl (gDo (eR rfl) (cN h81) ?_))))
     obtain ⟨v82, h83, H⟩ := obind H
     refine oCall (u := (oB v82)) eC Cl.fn (c_spec_StoreOk h83) (Evs.cons eZ Evs.nil) (VDs.cons VD.plain VDs.nil) rfl (gDo (eR rfl) (cN h81) (oInv eZ (oPickF (eR rfl) (cN h81) eZ (oMov eZ ?_))))
     rcases oite H with ⟨h84, H⟩ | ⟨h84, H⟩
     ·refine gDo eZ (cN h84) (oFaddrN (m := 4) (eR rfl) rfl (gDo (eR rfl) (cN h84) (oLoadV (q := 4) (c := (.d (.sl 4 (List.map d_TLock a1.Locks)))) eZ bZ rfl rfl (gDo (eR rfl) (cN h84) ?_))))
      obtain ⟨v85, h86, H⟩ := obind H
      refine oCall (u := (oB v85)) eC Cl.fn (c_spec_LocksOk h86) (Evs.cons eZ Evs.nil) (VDs.cons VD.plain VDs.nil) rfl (gDo (eR rfl) (cN h84) (oInv eZ (oPickF (eR rfl) (cN h84) eZ (oMov eZ ?_))))
      rcases oite H with ⟨h87, H⟩ | ⟨h87, H⟩
      ·refine gDo eZ (cN h87) (oFaddrN (m := 8) (eR rfl) rfl (gDo (eR rfl) (cN h87) (oLoadV (q := 8) (c := (dI a1.Rank)) eZ bZ rfl rfl (gDo (eR rfl) (cN h87) ?_))))
       obtain ⟨v88, h89, H⟩ := obind H
       exact oCall (u := (oB v88)) eC Cl.fn (c_spec_l1In h89) (Evs.cons eZ (Evs.cons eC (Evs.cons eC Evs.nil))) (VDs.cons VD.plain (VDs.cons VD.plain (VDs.cons VD.plain VDs.nil))) rfl (gDo (eR rfl) (cN h87) (oInv eZ (oPickF (eR rfl) (cN h87) eZ (xNil (TQ.qn ⟨(!v88), H, (wk_mk [] (kR rfl rfl (kR rfl rfl SL.nil)) (BL.keep rfl BL.nil) (BK.cons rfl bZ rfl rfl BK.nil))⟩)))))
      ·exact gSkip eZ (cN (nt h87)) rfl (gSkip (eR rfl) (cN (nt h87)) rfl (gSkip (eR rfl) (cN (nt h87)) rfl (gSkip (eR rfl) (cN (nt h87)) rfl (oPickT (eR rfl) (cN (nt h87)) eC (xNil (TQ.qn ⟨true, H, (wk_mk [] (kR rfl rfl (kR rfl rfl SL.nil)) (BL.keep rfl BL.nil) (BK.cons rfl bZ rfl rfl BK.nil))⟩))))))
     ·exact gSkip eZ (cN (nt h84)) rfl (gSkip (eR rfl) (cN (nt h84)) rfl (gSkip (eR rfl) (cN (nt h84)) rfl (gSkip (eR rfl) (cN (nt h84)) rfl (oPickT (eR rfl) (cN (nt h84)) eC (oMov eZ (gSkip eZ rfl rfl (gSkip (eR rfl) rfl rfl (gSkip (eR rfl) rfl rfl (gSkip (eR rfl) rfl rfl (oPickT (eR rfl) rfl eC (xNil (TQ.qn ⟨true, H, (wk_mk [] (kR rfl rfl (kR rfl rfl SL.nil)) (BL.keep rfl BL.nil) (BK.cons rfl bZ rfl rfl BK.nil))⟩))))))))))))
    ·exact gSkip eZ (cN (nt h81)) rfl (gSkip (eR rfl) (cN (nt h81)) rfl (gSkip (eR rfl) (cN (nt h81)) rfl (gSkip (eR rfl) (cN (nt h81)) rfl (oPickT (eR rfl) (cN (nt h81)) eC (oMov eZ (gSkip eZ rfl rfl (gSkip (eR rfl) rfl rfl (gSkip (eR rfl) rfl rfl (gSkip (eR rfl) rfl rfl (oPickT (eR rfl) rfl eC (oMov eZ (gSkip eZ rfl rfl (gSkip (eR rfl) rfl rfl (gSkip (eR rfl) rfl rfl (gSkip (eR rfl) rfl rfl (oPickT (eR rfl) rfl eC (xNil (TQ.qn ⟨true, H, (wk_mk [] (kR rfl rfl (kR rfl rfl SL.nil)) (BL.keep rfl BL.nil) (BK.cons rfl bZ rfl rfl BK.nil))⟩))))))))))))))))))
   ·exact gSkip eZ (cN (nt h78)) rfl (gSkip (eR rfl) (cN (nt h78)) rfl (gSkip (eR rfl) (cN (nt h78)) rfl (gSkip (eR rfl) (cN (nt h78)) rfl (oPickT (eR rfl) (cN (nt h78)) eC (oMov eZ (gSkip eZ rfl rfl (gSkip (eR rfl) rfl rfl (gSkip (eR rfl) rfl rfl (gSkip (eR rfl) rfl rfl (oPickT (eR rfl) rfl eC (oMov eZ (gSkip eZ rfl rfl (gSkip (eR rfl) rfl rfl (gSkip (eR rfl) rfl rfl (gSkip (eR rfl) rfl rfl (oPickT (eR rfl) rfl eC (oMov eZ (gSkip eZ rfl rfl (gSkip (eR rfl) rfl rfl (gSkip (eR rfl) rfl rfl (gSkip (eR rfl) rfl rfl (oPickT (eR rfl) rfl eC (xNil (TQ.qn ⟨true, H, (wk_mk [] (kR rfl rfl (kR rfl rfl SL.nil)) (BL.keep rfl BL.nil) (BK.cons rfl bZ rfl rfl BK.nil))⟩))))))))))))))))))))))))
  ·exact gSkip eZ (cN (nt h75)) rfl (gSkip (eR rfl) (cN (nt h75)) rfl (gSkip (eR rfl) (cN (nt h75)) rfl (gSkip (eR rfl) (cN (nt h75)) rfl (oPickT (eR rfl) (cN (nt h75)) eC (oMov eZ (gSkip eZ rfl rfl (gSkip (eR rfl) rfl rfl (gSkip (eR rfl) rfl rfl (gSkip (eR rfl) rfl rfl (oPickT (eR rfl) rfl eC (oMov eZ (gSkip eZ rfl rfl (gSkip (eR rfl) rfl rfl (gSkip (eR rfl) rfl rfl (gSkip (eR rfl) rfl rfl (oPickT (eR rfl) rfl eC (oMov eZ (gSkip eZ rfl rfl (gSkip (eR rfl) rfl rfl (gSkip (eR rfl) rfl rfl (gSkip (eR rfl) rfl rfl (oPickT (eR rfl) rfl eC (oMov eZ (gSkip eZ rfl rfl (gSkip (eR rfl) rfl rfl (gSkip (eR rfl) rfl rfl (gSkip (eR rfl) rfl rfl (oPickT (eR rfl) rfl eC (xNil (TQ.qn ⟨true, H, (wk_mk [] (kR rfl rfl (kR rfl rfl SL.nil)) (BL.keep rfl BL.nil) (BK.cons rfl bZ rfl rfl BK.nil))⟩))))))))))))))))))))))))))))))
theorem c_spec_NewShard {a1 : Int} {a2 : (List TRange)} {r : TShard} (H : m_spec_NewShard a1 a2 = some r) : Fn Tryz.prog 11 (lent [(.int .i64 a1), (.sl 2 (List.map d_TRange a2))]) true [(.agg (d_TShard r))] := by
 refine f11 (fle rfl) ?_
 rw [init_mk]
 refine AW.weaken (t := mk [(0, (oI a1)), (1, (.one (.d (.sl 2 (List.map d_TRange a2)))))] [] (lk [])) (wk_mk [] (kv 0 (oI a1) rfl rfl (kv 1 (.one (.d (.sl 2 (List.map d_TRange a2)))) rfl rfl SL.nil)) BL.nil BK.nil) ?_
 unfold m_spec_NewShard at H
 unfold i11
 refine aV (oVar (n := 256) (m := 9) rfl rfl nZ (xQ (aS (AW.regm (rmOne (oMov (eR rfl) (xNil (rmOne (oBsliceZ (m := 448) rfl (nS rfl nZ) (xNil (rmOne (oMov (eR rfl) (xNil (rmOne ?_))))))))))))))
 obtain ⟨h3, H⟩ := oguard H
 refine oAppZ (f := d_TRange) (m := 576) (own := true) (ys := a2) (q := a2.length) rfl rfl (eR rfl) eZ (El.lent fun _ _ => rfl) rfl h3 (by decide) (nS rfl nZ) (xNil (rmOne (oBuild (cs := [(dI a1), (.sl 576 0 a2.length), .zs, .zs, .zs, .zs, .zs, .zs, (dI 0)]) (PsCons (eR rfl) (PsCons eZ PsNil)) rfl (xNil (rmOne (oVar (n := 320) (m := 9) rfl rfl (nS rfl (nS rfl nZ)) (xNil (rmOne (oStoreV (es := [(dI a1), (.sl 576 0 a2.length), .zs, .zs, .zs, .zs, .zs, .zs, (dI 0)]) eZ (eR rfl) rfl rfl bZ rfl (xNil (rmRest (xQ (aS (aV (oLoadVA (es := [(dI a1), (.sl 576 0 a2.length), .zs, .zs, .zs, .zs, .zs, .zs, (dI 0)]) eZ bZ rfl ?_)))))))))))))))
 obtain ⟨v4, h5, H⟩ := obind H
 refine oCall (u := (oB v4)) eC Cl.fn (Fn.args (RdAs.cons (RdI.agg (RdIs.cons RdI.rfl rfl (RdIs.cons RdI.rfl rfl (RdIs.cons RdI.zs rfl (RdIs.cons RdI.zs rfl (RdIs.cons RdI.zs rfl (RdIs.cons RdI.zs rfl (RdIs.cons RdI.zs rfl (RdIs.cons RdI.zs rfl (RdIs.cons RdI.rfl rfl RdIs.nil)))))))))) RdAs.nil) (c_spec_ShardOk h5)) (Evs.cons eZ Evs.nil) (VDs.cons (VD.aggs (CDs.plain (CDs.sl (bS rfl (bS rfl bZ)) (List.length_map _) (CDs.zs (CDs.zs (CDs.zs (CDs.zs (CDs.zs (CDs.zs (CDs.plain CDs.nil)))))))))) VDs.nil) rfl (oInv eZ (xQ ?_))
 rcases oite H with ⟨h6, H⟩ | ⟨h6, H⟩
 ·refine AW.condF eZ (cN h6) (AW.skip (TQ.qn (aS (AW.regm (rmOne (oLoadVA (es := [(dI a1), (.sl 576 0 a2.length), .zs, .zs, .zs, .zs, .zs, .zs, (dI 0)]) (eR rfl) bZ rfl (xNil (rmOne (oStoreV (es := [(dI a1), (.sl 576 0 a2.length), .zs, .zs, .zs, .zs, .zs, .zs, (dI 0)]) (eR rfl) eZ rfl rfl (bS rfl (bS rfl (bS rfl bZ))) rfl (xNil (rmRest (xQ (AW.ret ?_)))))))))))))
  cases H
  exact endsR (RL.cons (RV.cellA (es := [(dI a1), (.sl 576 0 a2.length), .zs, .zs, .zs, .zs, .zs, .zs, (dI 0)]) (eR rfl) bZ rfl) (VO.aggs (VOs.cons (VO.flat rfl) (VOs.cons (VO.sl (bS rfl (bS rfl (bS rfl bZ))) (List.length_map _) (allFlat fun _ => rfl)) (VOs.cons VO.zs (VOs.cons VO.zs (VOs.cons VO.zs (VOs.cons VO.zs (VOs.cons VO.zs (VOs.cons VO.zs (VOs.cons (VO.flat rfl) VOs.nil)))))))))) RL.nil) (by decide)
 ·refine AW.condT eZ (cN (nt h6)) (aS (AW.regm (rmOne (oBuild (cs := [(dI 0), .zs, .zs, .zs, .zs, .zs, .zs, .zs, (dI 0)]) PsNil rfl (xNil (rmOne (oStoreV (es := [(dI 0), .zs, .zs, .zs, .zs, .zs, .zs, .zs, (dI 0)]) (eR rfl) eZ rfl rfl (bS rfl (bS rfl (bS rfl bZ))) rfl (xNil (rmRest (xQ (AW.ret (TQ.qr ?_))))))))))))
  cases H
  exact endsR (RL.cons (RV.cellA (es := [(dI 0), .zs, .zs, .zs, .zs, .zs, .zs, .zs, (dI 0)]) (eR rfl) bZ rfl) (VO.aggs (VOs.cons (VO.flat rfl) (VOs.cons VO.zs (VOs.cons VO.zs (VOs.cons VO.zs (VOs.cons VO.zs (VOs.cons VO.zs (VOs.cons VO.zs (VOs.cons VO.zs (VOs.cons (VO.flat rfl) VOs.nil)))))))))) RL.nil) List.nodup_nil
theorem c_slices_Clone_Range {a1 : (List TRange)} {r : (List TRange)} (H : m_slices_Clone_Range a1 = some r) : Fn Tryz.prog 65 (lent [(.sl 2 (List.map d_TRange a1))]) true [(.sl 2 (List.map d_TRange r))] := by
 refine f65 (fle rfl) ?_
 rw [init_mk]
 refine AW.weaken (wk_mk [] (kv 0 (.one (.d (.sl 2 (List.map d_TRange a1)))) rfl rfl SL.nil) BL.nil BK.nil) ?_
 unfold m_slices_Clone_Range at H
 unfold i65
 refine aV (oMov eC (xQ (AW.seqJ (fun t2 : Unit => (slices_Clone_Range_j2 a1) t2 = some r) (fun t2 => mk [(0, (.one (.d (.sl 2 (List.map d_TRange a1)))))] [] noG) ?_ ?_)))
 ·intro t2 H
  unfold slices_Clone_Range_j2 at H
  refine aV (oBsliceZ (m := 320) rfl nZ (oMov (eR rfl) ?_))
  obtain ⟨h4, H⟩ := oguard H
  refine oAppZ (f := d_TRange) (m := 448) (own := true) (ys := a1) (q := a1.length) rfl rfl (eR rfl) eZ (El.lent fun _ _ => rfl) rfl h4 (by decide) nZ (oMov eZ (xQ (AW.ret ?_)))
  cases H
  exact endsR (RL.cons (RV.tmp eZ) (VO.sl bZ (List.length_map _) (allFlat fun _ => rfl)) RL.nil) (by decide)
 ·refine aV (oMov (eR rfl) ?_)
  rcases oite H with ⟨h5, H⟩ | ⟨h5, H⟩
  ·refine oNilD0 eZ h5 (xQ (AW.condU eZ ?_ ?_))
   ·have H : (some ([] : (List TRange))) = some r := by rw [← H]; simp [List.eq_nil_of_length_eq_zero h5, slices_Clone_Range_j2]
    refine aV (oMov eC (xQ (AW.ret (TQ.qr ?_))))
    cases H
    exact endsR (RL.cons (RV.tmp eZ) VO.zs RL.nil) List.nodup_nil
   ·exact AW.skip (TQ.qn ⟨(), H, (wk_mk [] (kR rfl rfl SL.nil) BL.nil BK.nil)⟩)
  ·exact oNilD eZ h5 (xQ (AW.condF eZ rfl (AW.skip (TQ.qn ⟨(), H, (wk_mk [] (kR rfl rfl SL.nil) BL.nil BK.nil)⟩))))
theorem c_impl_from {a1 : Int} {a2 : Int} {a3 : Int} {r : Bool} (H : m_impl_from a1 a2 a3 = some r) : Fn Tryz.prog 43 (lent [(.int .i64 a1), (.int .i64 a2), (.int .i64 a3)]) true [(.bool r)] := by
 refine f43 (fle rfl) ?_
 rw [init_mk]
 refine AW.weaken (wk_mk [] (kv 0 (oI a1) rfl rfl (kv 1 (oI a2) rfl rfl (kv 2 (oI a3) rfl rfl SL.nil))) BL.nil BK.nil) ?_
 unfold m_impl_from at H
 unfold i43
 refine aV (oMov eC (xQ (aV (oMov (eR rfl) (oMov (eR rfl) (oGeq (eR rfl) eZ (oMov eZ ?_)))))))
 rcases oite H with ⟨h4, H⟩ | ⟨h4, H⟩
 ·refine gDo eZ (dT h4) (oMov (eR rfl) (gDo (eR rfl) (dT h4) (oMov (eR rfl) (gDo (eR rfl) (dT h4) (oLeq (eR rfl) eZ (oPickT (eR rfl) (dT h4) eZ (oMov eZ (xQ (AW.ret ?_)))))))))
  cases H
  exact eE rfl rfl
 ·refine gSkip eZ (dF h4) rfl (gSkip (eR rfl) (dF h4) rfl (gSkip (eR rfl) (dF h4) rfl (oPickF (eR rfl) (dF h4) eC (oMov eZ (xQ (AW.ret ?_))))))
  cases H
  exact eE rfl rfl
theorem c_impl_isGroup {a1 : Int} {r : Bool} (H : m_impl_isGroup a1 = some r) : Fn Tryz.prog 37 (lent [(.int .i64 a1)]) true [(.bool r)] := by
 refine f37 (fle rfl) ?_
 rw [init_mk]
 refine AW.weaken (wk_mk [] (kv 0 (oI a1) rfl rfl SL.nil) BL.nil BK.nil) ?_
 unfold m_impl_isGroup at H
 unfold i37
 refine aV (oMov eC (xQ (aV (oMov (eR rfl) ?_))))
 obtain ⟨v2, h3, H⟩ := obind H
 refine oCall (u := (oB v2)) eC Cl.fn (c_impl_from h3) (Evs.cons eZ (Evs.cons eC (Evs.cons eC Evs.nil))) (VDs.cons VD.plain (VDs.cons VD.plain (VDs.cons VD.plain VDs.nil))) rfl (oMov eZ (xQ (AW.ret ?_)))
 cases H
 exact eE rfl rfl
theorem c_impl_RangeOk {a1 : TRange} {r : Bool} (H : m_impl_RangeOk a1 = some r) : Fn Tryz.prog 89 (lent [(.agg (d_TRange a1))]) true [(.bool r)] := by
 refine f89 (fle rfl) ?_
 rw [init_mk]
 refine AW.weaken (wk_mk [] (kv 0 (.agg [(dI a1.Lo), (dI a1.Hi)]) rfl rfl SL.nil) BL.nil BK.nil) ?_
 unfold m_impl_RangeOk at H
 unfold i89
 refine aV (oBox (n := 64) (m := 2) (cs := [(dI a1.Lo), (dI a1.Hi)]) rfl eZ rfl rfl nZ (oMov eC (xQ (aV (oFaddrN (m := 0) (eR rfl) rfl (oLoadV (q := 0) (c := (dI a1.Lo)) eZ bZ rfl rfl (oGeq eZ eC (oMov eZ ?_))))))))
 rcases oite H with ⟨h2, H⟩ | ⟨h2, H⟩
 ·refine gDo eZ (dT h2) (oFaddrN (m := 0) (eR rfl) rfl (gDo (eR rfl) (dT h2) (oLoadV (q := 0) (c := (dI a1.Lo)) eZ bZ rfl rfl (gDo (eR rfl) (dT h2) (oFaddrN (m := 1) (eR rfl) rfl (gDo (eR rfl) (dT h2) (oLoadV (q := 1) (c := (dI a1.Hi)) eZ bZ rfl rfl (gDo (eR rfl) (dT h2) (oLss (eR rfl) eZ (oPickT (eR rfl) (dT h2) eZ (oMov eZ ?_)))))))))))
  rcases oite H with ⟨h3, H⟩ | ⟨h3, H⟩
  ·refine gDo eZ (dT h3) (oFaddrN (m := 1) (eR rfl) rfl (gDo (eR rfl) (dT h3) (oLoadV (q := 1) (c := (dI a1.Hi)) eZ bZ rfl rfl (gDo (eR rfl) (dT h3) (oLeq eZ eC (oPickT (eR rfl) (dT h3) eZ (oMov eZ (xQ (AW.weaken (wk_mk [64] (kr 2 rfl rfl SL.nil) (BL.drop rfl BL.nil) BK.nil) (AW.ret ?_))))))))))
   cases H
   exact eE rfl rfl
  ·refine gSkip eZ (dF h3) rfl (gSkip (eR rfl) (dF h3) rfl (gSkip (eR rfl) (dF h3) rfl (oPickF (eR rfl) (dF h3) eC (oMov eZ (xQ (AW.weaken (wk_mk [64] (kr 2 rfl rfl SL.nil) (BL.drop rfl BL.nil) BK.nil) (AW.ret ?_)))))))
   cases H
   exact eE rfl rfl
 ·refine gSkip eZ (dF h2) rfl (gSkip (eR rfl) (dF h2) rfl (gSkip (eR rfl) (dF h2) rfl (gSkip (eR rfl) (dF h2) rfl (gSkip (eR rfl) (dF h2) rfl (oPickF (eR rfl) (dF h2) eC (oMov eZ (gSkip eZ rfl rfl (gSkip (eR rfl) rfl rfl (gSkip (eR rfl) rfl rfl (oPickF (eR rfl) rfl eC (oMov eZ (xQ (AW.weaken (wk_mk [64] (kr 2 rfl rfl SL.nil) (BL.drop rfl BL.nil) BK.nil) (AW.ret ?_))))))))))))))
  cases H
  exact eE rfl rfl
theorem c_impl_RangesOk {a1 : (List TRange)} {r : Bool} (H : m_impl_RangesOk a1 = some r) : Fn Tryz.prog 38 (lent [(.sl 2 (List.map d_TRange a1))]) true [(.bool r)] := by
 refine f38 (fle rfl) ?_
 rw [init_mk]
 refine AW.weaken (wk_mk [] (kv 0 (.one (.d (.sl 2 (List.map d_TRange a1)))) rfl rfl SL.nil) BL.nil BK.nil) ?_
 unfold m_impl_RangesOk at H
 unfold i38
 refine aV (oMov eC (xQ (AW.seqJ (fun t2 : Unit => (impl_RangesOk_j2 a1) t2 = some r) (fun t2 => mk [(0, (.one (.d (.sl 2 (List.map d_TRange a1)))))] [] noG) ?_ ?_)))
 ·intro t2 H
  unfold impl_RangesOk_j2 at H
  refine aV (oMov eZ (oLenD eZ (n := a1.length) (List.length_map _) (oLeq eZ eC (oMov eZ (xQ (AW.ret ?_))))))
  cases H
  exact eE rfl rfl
 ·refine aV (oMov (eR rfl) (oLenD eZ (n := a1.length) (List.length_map _) (oMov eC (xQ (AW.block (AW.iter (fun s4 : Int => mk [(0, (.one (.d (.sl 2 (List.map d_TRange a1))))), (5, (.one (.d (.sl 2 (List.map d_TRange a1))))), (6, (oI (a1.length : Int))), (7, (oI s4))] [] noG) H (wk_mk [] (kR rfl rfl (kR rfl rfl (kR rfl rfl (kR rfl rfl SL.nil)))) BL.nil BK.nil) ?_))))))
  intro kb5 s4 H
  unfold impl_RangesOk_b4 at H
  refine aV (oLss (eR rfl) (eR rfl) (xQ (aS ?_)))
  rcases oite H with ⟨h6, H⟩ | ⟨h6, H⟩
  ·refine AW.condT eZ (dT h6) (AW.skip (TQ.qn (aS (AW.block (aV (oMov (eR rfl) ?_))))))
   obtain ⟨v7, h8, H⟩ := obind H
   refine oAtD (eR rfl) (eR rfl) h8 (oLoadBA (es := [(dI v7.Lo), (dI v7.Hi)]) eZ rfl (oVar (n := 256) (m := 2) rfl rfl nZ (oMov (eR rfl) (oStoreV (es := [(dI v7.Lo), (dI v7.Hi)]) (eR rfl) (eR rfl) rfl rfl bZ rfl (xQ (AW.seqJ (fun t9 : Bool => (impl_RangesOk_j9 kb5 s4) t9 = some r) (fun t9 => mk [(0, (.one (.d (.sl 2 (List.map d_TRange a1))))), (5, (.one (.d (.sl 2 (List.map d_TRange a1))))), (6, (oI (a1.length : Int))), (7, (oI s4)), (29, (oB t9))] [] noG) ?_ ?_))))))
   ·intro t9 H
    unfold impl_RangesOk_j9 at H
    rcases oite H with ⟨h11, H⟩ | ⟨h11, H⟩
    ·refine AW.condT (eR rfl) h11 (aV (oMov eC (xQ (AW.ret (BQ.qr (TQ.qr (TQ.qr (BQ.qr (TQ.qr ?_)))))))))
     cases H
     exact eE rfl rfl
    ·exact AW.condF (eR rfl) (nt h11) (AW.skip (BQ.qn (TQ.qn (aR (oAdd (eR rfl) eC (oMov eZ (xNil (TQ.qn ⟨(IntKind.wrap .i64 (s4 + 1)), H, (wk_mk [] (kR rfl rfl (kR rfl rfl (kR rfl rfl (kR rfl rfl SL.nil)))) BL.nil BK.nil)⟩))))))))
   ·refine AW.regd (oLoadVA (es := [(dI v7.Lo), (dI v7.Hi)]) (eR rfl) bZ rfl ?_)
    obtain ⟨v12, h13, H⟩ := obind H
    refine oCall (u := (oB v12)) eC Cl.fn (c_impl_RangeOk h13) (Evs.cons eZ Evs.nil) (VDs.cons (VD.agg rfl) VDs.nil) rfl (oInv eZ (oMov eZ ?_))
    rcases oite H with ⟨h14, H⟩ | ⟨h14, H⟩
    ·refine gDo eZ (cN h14) (oMov (eR rfl) (gDo (eR rfl) (cN h14) (oGtr eZ eC (gDo (eR rfl) (cN h14) (oMov eZ ?_)))))
     rcases oite H with ⟨h15, H⟩ | ⟨h15, H⟩
     ·refine gDo eZ (dT h15) (oFaddrN (m := 0) (eR rfl) rfl (gDo (eR rfl) (dT h15) (oLoadV (q := 0) (c := (dI v7.Lo)) eZ bZ rfl rfl (gDo (eR rfl) (dT h15) (oMov (eR rfl) (gDo (eR rfl) (dT h15) (oMov (eR rfl) (gDo (eR rfl) (dT h15) (oSub eZ eC (gDo (eR rfl) (dT h15) ?_))))))))))
      obtain ⟨v16, h17, H⟩ := obind H
      exact oAtD (eR rfl) eZ h17 (gDo (eR rfl) (dT h15) (oFaddrB (m := 1) eZ rfl (gDo (eR rfl) (dT h15) (oLoadB (e := (.int .i64 v16.Hi)) eZ rfl (gDo (eR rfl) (dT h15) (oLss (eR rfl) eZ (gDo (eR rfl) (cN h14) (oPickT (eR rfl) (dT h15) eZ (oPickF (eR rfl) (cN h14) eZ (xNil (TQ.qn ⟨(decide (v7.Lo < v16.Hi)), H, (wk_mk [256] (kR rfl rfl (kR rfl rfl (kR rfl rfl (kR rfl rfl (kR rfl rfl SL.nil))))) (BL.drop rfl (BL.drop rfl BL.nil)) BK.nil)⟩)))))))))))
     ·exact gSkip eZ (dF h15) rfl (gSkip (eR rfl) (dF h15) rfl (gSkip (eR rfl) (dF h15) rfl (gSkip (eR rfl) (dF h15) rfl (gSkip (eR rfl) (dF h15) rfl (gSkip (eR rfl) (dF h15) rfl (gSkip (eR rfl) (dF h15) rfl (gSkip (eR rfl) (dF h15) rfl (gSkip (eR rfl) (dF h15) rfl (gDo (eR rfl) (cN h14) (oPickF (eR rfl) (dF h15) eC (oPickF (eR rfl) (cN h14) eZ (xNil (TQ.qn ⟨false, H, (wk_mk [256] (kR rfl rfl (kR rfl rfl (kR rfl rfl (kR rfl rfl (kR rfl rfl SL.nil))))) (BL.drop rfl (BL.drop rfl BL.nil)) BK.nil)⟩)))))))))))))
    ·exact gSkip eZ (cN (nt h14)) rfl (gSkip (eR rfl) (cN (nt h14)) rfl (gSkip (eR rfl) (cN (nt h14)) rfl (gSkipU eZ rfl (gSkipU (eR rfl) rfl (gSkipU (eR rfl) rfl (gSkipU (eR rfl) rfl (gSkipU (eR rfl) rfl (gSkipU (eR rfl) rfl (gSkipU (eR rfl) rfl (gSkipU (eR rfl) rfl (gSkipU (eR rfl) rfl (gSkip (eR rfl) (cN (nt h14)) rfl (oPickT (eR rfl) (cN (nt h14)) eC (xNil (TQ.qn ⟨true, H, (wk_mk [256] (kR rfl rfl (kR rfl rfl (kR rfl rfl (kR rfl rfl (kR rfl rfl SL.nil))))) (BL.drop rfl (BL.drop rfl BL.nil)) BK.nil)⟩)))))))))))))))
  ·exact AW.condF eZ (dF h6) (AW.exit (TQ.qe (TQ.qe (BQ.qe (TQ.qn ⟨(), H, (wk_mk [] (kR rfl rfl SL.nil) BL.nil BK.nil)⟩)))))
theorem c_impl_isKey {a1 : Int} {r : Bool} (H : m_impl_isKey a1 = some r) : Fn Tryz.prog 90 (lent [(.int .i64 a1)]) true [(.bool r)] := by
 refine f90 (fle rfl) ?_
 rw [init_mk]
 refine AW.weaken (wk_mk [] (kv 0 (oI a1) rfl rfl SL.nil) BL.nil BK.nil) ?_
 unfold m_impl_isKey at H
 unfold i90
 refine aV (oMov eC (xQ (aV (oMov (eR rfl) ?_))))
 obtain ⟨v2, h3, H⟩ := obind H
 refine oCall (u := (oB v2)) eC Cl.fn (c_impl_from h3) (Evs.cons eZ (Evs.cons eC (Evs.cons eC Evs.nil))) (VDs.cons VD.plain (VDs.cons VD.plain (VDs.cons VD.plain VDs.nil))) rfl (oMov eZ (xQ (AW.ret ?_)))
 cases H
 exact eE rfl rfl
theorem c_impl_isWhole {a1 : Int} {r : Bool} (H : m_impl_isWhole a1 = some r) : Fn Tryz.prog 91 (lent [(.int .i64 a1)]) true [(.bool r)] := by
 refine f91 (fle rfl) ?_
 rw [init_mk]
 refine AW.weaken (wk_mk [] (kv 0 (oI a1) rfl rfl SL.nil) BL.nil BK.nil) ?_
 unfold m_impl_isWhole at H
 unfold i91
 refine aV (oMov eC (xQ (aV (oMov (eR rfl) ?_))))
 obtain ⟨v2, h3, H⟩ := obind H
 refine oCall (u := (oB v2)) eC Cl.fn (c_impl_from h3) (Evs.cons eZ (Evs.cons eC (Evs.cons eC Evs.nil))) (VDs.cons VD.plain (VDs.cons VD.plain (VDs.cons VD.plain VDs.nil))) rfl (oMov eZ (xQ (AW.ret ?_)))
 cases H
 exact eE rfl rfl
theorem c_impl_StoreOk {a1 : (List TCell)} {r : Bool} (H : m_impl_StoreOk a1 = some r) : Fn Tryz.prog 39 (lent [(.sl 2 (List.map d_TCell a1))]) true [(.bool r)] := by
 refine f39 (fle rfl) ?_
 rw [init_mk]
 refine AW.weaken (wk_mk [] (kv 0 (.one (.d (.sl 2 (List.map d_TCell a1)))) rfl rfl SL.nil) BL.nil BK.nil) ?_
 unfold m_impl_StoreOk at H
 unfold i39
 refine aV (oMov eC (xQ (AW.seqJ (fun t2 : Unit => (impl_StoreOk_j2 a1) t2 = some r) (fun t2 => mk [(0, (.one (.d (.sl 2 (List.map d_TCell a1)))))] [] noG) ?_ ?_)))
 ·intro t2 H
  unfold impl_StoreOk_j2 at H
  refine aV (oMov eZ (oLenD eZ (n := a1.length) (List.length_map _) (oLeq eZ eC (oMov eZ (xQ (AW.ret ?_))))))
  cases H
  exact eE rfl rfl
 ·refine aV (oMov (eR rfl) (oLenD eZ (n := a1.length) (List.length_map _) (oMov eC (xQ (AW.block (AW.iter (fun s4 : Int => mk [(0, (.one (.d (.sl 2 (List.map d_TCell a1))))), (5, (.one (.d (.sl 2 (List.map d_TCell a1))))), (6, (oI (a1.length : Int))), (7, (oI s4))] [] noG) H (wk_mk [] (kR rfl rfl (kR rfl rfl (kR rfl rfl (kR rfl rfl SL.nil)))) BL.nil BK.nil) ?_))))))
  intro kb5 s4 H
  unfold impl_StoreOk_b4 at H
  refine aV (oLss (eR rfl) (eR rfl) (xQ (aS ?_)))
  rcases oite H with ⟨h6, H⟩ | ⟨h6, H⟩
  ·refine AW.condT eZ (dT h6) (AW.skip (TQ.qn (aS (AW.block (aV (oMov (eR rfl) ?_))))))
   obtain ⟨v7, h8, H⟩ := obind H
   refine oAtD (eR rfl) (eR rfl) h8 (oLoadBA (es := [(dI v7.Key), (dI v7.Value)]) eZ rfl (oVar (n := 256) (m := 2) rfl rfl nZ (oMov (eR rfl) (oStoreV (es := [(dI v7.Key), (dI v7.Value)]) (eR rfl) (eR rfl) rfl rfl bZ rfl (xQ (AW.seqJ (fun t9 : Bool => (impl_StoreOk_j9 kb5 s4) t9 = some r) (fun t9 => mk [(0, (.one (.d (.sl 2 (List.map d_TCell a1))))), (5, (.one (.d (.sl 2 (List.map d_TCell a1))))), (6, (oI (a1.length : Int))), (7, (oI s4)), (36, (oB t9))] [] noG) ?_ ?_))))))
   ·intro t9 H
    unfold impl_StoreOk_j9 at H
    rcases oite H with ⟨h11, H⟩ | ⟨h11, H⟩
    ·refine AW.condT (eR rfl) h11 (aV (oMov eC (xQ (AW.ret (BQ.qr (TQ.qr (TQ.qr (BQ.qr (TQ.qr ?_)))))))))
     cases H
     exact eE rfl rfl
    ·exact AW.condF (eR rfl) (nt h11) (AW.skip (BQ.qn (TQ.qn (aR (oAdd (eR rfl) eC (oMov eZ (xNil (TQ.qn ⟨(IntKind.wrap .i64 (s4 + 1)), H, (wk_mk [] (kR rfl rfl (kR rfl rfl (kR rfl rfl (kR rfl rfl SL.nil)))) BL.nil BK.nil)⟩))))))))
   ·refine AW.regd (oFaddrN (m := 0) (eR rfl) rfl (oLoadV (q := 0) (c := (dI v7.Key)) eZ bZ rfl rfl ?_))
    obtain ⟨v12, h13, H⟩ := obind H
    refine oCall (u := (oB v12)) eC Cl.fn (c_impl_isKey h13) (Evs.cons eZ Evs.nil) (VDs.cons VD.plain VDs.nil) rfl (oInv eZ (oMov eZ ?_))
    rcases oite H with ⟨h14, H⟩ | ⟨h14, H⟩
    ·refine gDo eZ (cN h14) (oFaddrN (m := 1) (eR rfl) rfl (gDo (eR rfl) (cN h14) (oLoadV (q := 1) (c := (dI v7.Value)) eZ bZ rfl rfl (gDo (eR rfl) (cN h14) ?_))))
     obtain ⟨v15, h16, H⟩ := obind H
     refine oCall (u := (oB v15)) eC Cl.fn (c_impl_isWhole h16) (Evs.cons eZ Evs.nil) (VDs.cons VD.plain VDs.nil) rfl (gDo (eR rfl) (cN h14) (oInv eZ (oPickF (eR rfl) (cN h14) eZ (oMov eZ ?_))))
     rcases oite H with ⟨h17, H⟩ | ⟨h17, H⟩
     ·refine gDo eZ (cN h17) (oMov (eR rfl) (gDo (eR rfl) (cN h17) (oGtr eZ eC (gDo (eR rfl) (cN h17) (oMov eZ ?_)))))
      rcases oite H with ⟨h18, H⟩ | ⟨h18, H⟩
      ·refine gDo eZ (dT h18) (oMov (eR rfl) (gDo (eR rfl) (dT h18) (oMov (eR rfl) (gDo (eR rfl) (dT h18) (oSub eZ eC (gDo (eR rfl) (dT h18) ?_))))))
       obtain ⟨v19, h20, H⟩ := obind H
       exact oAtD (eR rfl) eZ h20 (gDo (eR rfl) (dT h18) (oFaddrB (m := 0) eZ rfl (gDo (eR rfl) (dT h18) (oLoadB (e := (.int .i64 v19.Key)) eZ rfl (gDo (eR rfl) (dT h18) (oFaddrN (m := 0) (eR rfl) rfl (gDo (eR rfl) (dT h18) (oLoadV (q := 0) (c := (dI v7.Key)) eZ bZ rfl rfl (gDo (eR rfl) (dT h18) (oGeq (eR rfl) eZ (gDo (eR rfl) (cN h17) (oPickT (eR rfl) (dT h18) eZ (oPickF (eR rfl) (cN h17) eZ (xNil (TQ.qn ⟨(decide (v7.Key ≤ v19.Key)), H, (wk_mk [256] (kR rfl rfl (kR rfl rfl (kR rfl rfl (kR rfl rfl (kR rfl rfl SL.nil))))) (BL.drop rfl (BL.drop rfl BL.nil)) BK.nil)⟩)))))))))))))))
      ·exact gSkip eZ (dF h18) rfl (gSkip (eR rfl) (dF h18) rfl (gSkip (eR rfl) (dF h18) rfl (gSkip (eR rfl) (dF h18) rfl (gSkip (eR rfl) (dF h18) rfl (gSkip (eR rfl) (dF h18) rfl (gSkip (eR rfl) (dF h18) rfl (gSkip (eR rfl) (dF h18) rfl (gSkip (eR rfl) (dF h18) rfl (gDo (eR rfl) (cN h17) (oPickF (eR rfl) (dF h18) eC (oPickF (eR rfl) (cN h17) eZ (xNil (TQ.qn ⟨false, H, (wk_mk [256] (kR rfl rfl (kR rfl rfl (kR rfl rfl (kR rfl rfl (kR rfl rfl SL.nil))))) (BL.drop rfl (BL.drop rfl BL.nil)) BK.nil)⟩)))))))))))))
     ·exact gSkip eZ (cN (nt h17)) rfl (gSkip (eR rfl) (cN (nt h17)) rfl (gSkip (eR rfl) (cN (nt h17)) rfl (gSkipU eZ rfl (gSkipU (eR rfl) rfl (gSkipU (eR rfl) rfl (gSkipU (eR rfl) rfl (gSkipU (eR rfl) rfl (gSkipU (eR rfl) rfl (gSkipU (eR rfl) rfl (gSkipU (eR rfl) rfl (gSkipU (eR rfl) rfl (gSkip (eR rfl) (cN (nt h17)) rfl (oPickT (eR rfl) (cN (nt h17)) eC (xNil (TQ.qn ⟨true, H, (wk_mk [256] (kR rfl rfl (kR rfl rfl (kR rfl rfl (kR rfl rfl (kR rfl rfl SL.nil))))) (BL.drop rfl (BL.drop rfl BL.nil)) BK.nil)⟩)))))))))))))))
    ·exact gSkip eZ (cN (nt h14)) rfl (gSkip (eR rfl) (cN (nt h14)) rfl (gSkip (eR rfl) (cN (nt h14)) rfl (gSkip (eR rfl) (cN (nt h14)) rfl (oPickT (eR rfl) (cN (nt h14)) eC (oMov eZ (gSkip eZ rfl rfl (gSkip (eR rfl) rfl rfl (gSkip (eR rfl) rfl rfl (gSkipU eZ rfl (gSkipU (eR rfl) rfl (gSkipU (eR rfl) rfl (gSkipU (eR rfl) rfl (gSkipU (eR rfl) rfl (gSkipU (eR rfl) rfl (gSkipU (eR rfl) rfl (gSkipU (eR rfl) rfl (gSkipU (eR rfl) rfl (gSkip (eR rfl) rfl rfl (oPickT (eR rfl) rfl eC (xNil (TQ.qn ⟨true, H, (wk_mk [256] (kR rfl rfl (kR rfl rfl (kR rfl rfl (kR rfl rfl (kR rfl rfl SL.nil))))) (BL.drop rfl (BL.drop rfl BL.nil)) BK.nil)⟩)))))))))))))))))))))
  ·exact AW.condF eZ (dF h6) (AW.exit (TQ.qe (TQ.qe (BQ.qe (TQ.qn ⟨(), H, (wk_mk [] (kR rfl rfl SL.nil) BL.nil BK.nil)⟩)))))
theorem c_impl_isTx {a1 : Int} {r : Bool} (H : m_impl_isTx a1 = some r) : Fn Tryz.prog 92 (lent [(.int .i64 a1)]) true [(.bool r)] := by
 refine f92 (fle rfl) ?_
 rw [init_mk]
 refine AW.weaken (wk_mk [] (kv 0 (oI a1) rfl rfl SL.nil) BL.nil BK.nil) ?_
 unfold m_impl_isTx at H
 unfold i92
 refine aV (oMov eC (xQ (aV (oMov (eR rfl) ?_))))
 obtain ⟨v2, h3, H⟩ := obind H
 refine oCall (u := (oB v2)) eC Cl.fn (c_impl_from h3) (Evs.cons eZ (Evs.cons eC (Evs.cons eC Evs.nil))) (VDs.cons VD.plain (VDs.cons VD.plain (VDs.cons VD.plain VDs.nil))) rfl (oMov eZ (xQ (AW.ret ?_)))
 cases H
 exact eE rfl rfl
theorem c_impl_Lock_keys {a1 : TLock} {r : TRange} (H : m_impl_Lock_keys a1 = some r) : Fn Tryz.prog 53 (lent [(.agg (d_TLock a1))]) true [(.agg (d_TRange r))] := by
 refine f53 (fle rfl) ?_
 rw [init_mk]
 refine AW.weaken (wk_mk [] (kv 0 (.agg [(dI a1.Tx), (dI a1.Lo), (dI a1.Hi), (dI a1.Mode)]) rfl rfl SL.nil) BL.nil BK.nil) ?_
 unfold m_impl_Lock_keys at H
 unfold i53
 refine aV (oBox (n := 64) (m := 4) (cs := [(dI a1.Tx), (dI a1.Lo), (dI a1.Hi), (dI a1.Mode)]) rfl eZ rfl rfl nZ (oVar (n := 128) (m := 2) rfl rfl (nS rfl nZ) (xQ (aV (oFaddrN (m := 1) (eR rfl) rfl (oLoadV (q := 1) (c := (dI a1.Lo)) eZ (bS rfl bZ) rfl rfl (oFaddrN (m := 2) (eR rfl) rfl (oLoadV (q := 2) (c := (dI a1.Hi)) eZ (bS rfl bZ) rfl rfl (oBuild (cs := [(dI a1.Lo), (dI a1.Hi)]) (PsCons (eR rfl) (PsCons eZ PsNil)) rfl (oStoreV (es := [(dI a1.Lo), (dI a1.Hi)]) (eR rfl) eZ rfl rfl bZ rfl (xQ (AW.ret ?_))))))))))))
 cases H
 exact endsR (RL.cons (RV.cellA (es := [(dI a1.Lo), (dI a1.Hi)]) (eR rfl) bZ rfl) (VO.agg (ds := [(.int .i64 a1.Lo), (.int .i64 a1.Hi)]) rfl rfl) RL.nil) List.nodup_nil
theorem c_impl_isMode {a1 : Int} {r : Bool} (H : m_impl_isMode a1 = some r) : Fn Tryz.prog 93 (lent [(.int .i64 a1)]) true [(.bool r)] := by
 refine f93 (fle rfl) ?_
 rw [init_mk]
 refine AW.weaken (wk_mk [] (kv 0 (oI a1) rfl rfl SL.nil) BL.nil BK.nil) ?_
 unfold m_impl_isMode at H
 unfold i93
 refine aV (oMov eC (xQ (aV (oMov (eR rfl) (oEql eZ eC (oMov eZ ?_))))))
 rcases oite H with ⟨h2, H⟩ | ⟨h2, H⟩
 ·refine gSkip eZ (dT h2) rfl (gSkip (eR rfl) (dT h2) rfl (oPickT (eR rfl) (dT h2) eC (oMov eZ (xQ (AW.ret ?_)))))
  cases H
  exact eE rfl rfl
 ·refine gDo eZ (dF h2) (oMov (eR rfl) (gDo (eR rfl) (dF h2) (oEql eZ eC (oPickF (eR rfl) (dF h2) eZ (oMov eZ (xQ (AW.ret ?_)))))))
  cases H
  exact eE rfl rfl
end Go.AW
