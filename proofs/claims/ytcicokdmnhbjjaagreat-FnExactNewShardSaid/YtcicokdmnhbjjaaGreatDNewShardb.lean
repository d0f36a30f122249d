/- That functions of the program compute what the plain functions say: printed by a program of the prover's own (tool/dec.py). Conditions: each theorem's own. -/
import Derived.Test.YtcicokdmnhbjjaaGreatMNewShard
import Derived.Test.YtcicokdmnhbjjaaGreatGNewShard
import Derived.Test.YtcicokdmnhbjjaaGreatSNewShard
import Derived.Test.YtcicokdmnhbjjaaGreatYt
import Derived.KernelRfl
import Derived.Test.YtcicokdmnhbjjaaGreatDNewSharda
set_option linter.unusedVariables false
set_option linter.unusedSimpArgs false
set_option maxRecDepth 100000
namespace Go.AW
open Go.Proofs
theorem c_impl_meets {a1 : TRange} {a2 : TRange} {r : Bool} (H : m_impl_meets a1 a2 = some r) : Fn Tryz.prog 118 (lent [(.agg (d_TRange a1)), (.agg (d_TRange a2))]) true [(.bool r)] := by
 refine f118 (fle rfl) ?_
 rw [init_mk]
 refine AW.weaken (wk_mk [] (kv 0 (.agg [(dI a1.Lo), (dI a1.Hi)]) rfl rfl (kv 1 (.agg [(dI a2.Lo), (dI a2.Hi)]) rfl rfl SL.nil)) BL.nil BK.nil) ?_
 unfold m_impl_meets at H
 unfold i118
 refine aV (oBox (n := 128) (m := 2) (cs := [(dI a1.Lo), (dI a1.Hi)]) rfl eZ rfl rfl nZ (oBox (n := 192) (m := 2) (cs := [(dI a2.Lo), (dI a2.Hi)]) rfl (eR rfl) rfl rfl (nS rfl nZ) (oMov eC (xQ (aV (oFaddrN (m := 0) (eR rfl) rfl (oLoadV (q := 0) (c := (dI a1.Lo)) eZ (bS rfl bZ) rfl rfl (oFaddrN (m := 1) (eR rfl) rfl (oLoadV (q := 1) (c := (dI a2.Hi)) eZ bZ rfl rfl (oLss (eR rfl) eZ (oMov eZ ?_)))))))))))
 rcases oite H with ⟨h3, H⟩ | ⟨h3, H⟩
 ·refine gDo eZ (dT h3) (oFaddrN (m := 0) (eR rfl) rfl (gDo (eR rfl) (dT h3) (oLoadV (q := 0) (c := (dI a2.Lo)) eZ bZ rfl rfl (gDo (eR rfl) (dT h3) (oFaddrN (m := 1) (eR rfl) rfl (gDo (eR rfl) (dT h3) (oLoadV (q := 1) (c := (dI a1.Hi)) eZ (bS rfl bZ) rfl rfl (gDo (eR rfl) (dT h3) (oLss (eR rfl) eZ (oPickT (eR rfl) (dT h3) eZ (oMov eZ (xQ (AW.weaken (wk_mk [192, 128] (kr 4 rfl rfl SL.nil) (BL.drop rfl (BL.drop rfl BL.nil)) BK.nil) (AW.ret ?_))))))))))))))
  cases H
  exact eE rfl rfl
 ·refine gSkip eZ (dF h3) rfl (gSkip (eR rfl) (dF h3) rfl (gSkip (eR rfl) (dF h3) rfl (gSkip (eR rfl) (dF h3) rfl (gSkip (eR rfl) (dF h3) rfl (oPickF (eR rfl) (dF h3) eC (oMov eZ (xQ (AW.weaken (wk_mk [192, 128] (kr 4 rfl rfl SL.nil) (BL.drop rfl (BL.drop rfl BL.nil)) BK.nil) (AW.ret ?_)))))))))
  cases H
  exact eE rfl rfl
theorem c_impl_clash {a1 : TLock} {a2 : TLock} {r : Bool} (H : m_impl_clash a1 a2 = some r) : Fn Tryz.prog 95 (lent [(.agg (d_TLock a1)), (.agg (d_TLock a2))]) true [(.bool r)] := by
 refine f95 (fle rfl) ?_
 rw [init_mk]
 refine AW.weaken (wk_mk [] (kv 0 (.agg [(dI a1.Tx), (dI a1.Lo), (dI a1.Hi), (dI a1.Mode)]) rfl rfl (kv 1 (.agg [(dI a2.Tx), (dI a2.Lo), (dI a2.Hi), (dI a2.Mode)]) rfl rfl SL.nil)) BL.nil BK.nil) ?_
 unfold m_impl_clash at H
 unfold i95
 refine aV (oBox (n := 128) (m := 4) (cs := [(dI a1.Tx), (dI a1.Lo), (dI a1.Hi), (dI a1.Mode)]) rfl eZ rfl rfl nZ (oBox (n := 192) (m := 4) (cs := [(dI a2.Tx), (dI a2.Lo), (dI a2.Hi), (dI a2.Mode)]) rfl (eR rfl) rfl rfl (nS rfl nZ) (oMov eC (xQ (aS (AW.regd (oFaddrN (m := 0) (eR rfl) rfl (oLoadV (q := 0) (c := (dI a1.Tx)) eZ (bS rfl bZ) rfl rfl (oFaddrN (m := 0) (eR rfl) rfl (oLoadV (q := 0) (c := (dI a2.Tx)) eZ bZ rfl rfl (oNeq (eR rfl) eZ (oMov eZ ?_))))))))))))
 rcases oite H with ⟨h3, H⟩ | ⟨h3, H⟩
 ·refine gDo eZ (dT h3) (oFaddrN (m := 3) (eR rfl) rfl (gDo (eR rfl) (dT h3) (oLoadV (q := 3) (c := (dI a1.Mode)) eZ (bS rfl bZ) rfl rfl (gDo (eR rfl) (dT h3) (oEql eZ eC (gDo (eR rfl) (dT h3) (oMov eZ ?_)))))))
  rcases oite H with ⟨h4, H⟩ | ⟨h4, H⟩
  ·refine gSkip eZ (dT h4) rfl (gSkip (eR rfl) (dT h4) rfl (gSkip (eR rfl) (dT h4) rfl (gDo (eR rfl) (dT h3) (oPickT (eR rfl) (dT h4) eC (oPickT (eR rfl) (dT h3) eZ (oMov eZ (gDo eZ rfl (oLoadVA (es := [(dI a1.Tx), (dI a1.Lo), (dI a1.Hi), (dI a1.Mode)]) (eR rfl) (bS rfl bZ) rfl (gDo (eR rfl) rfl ?_)))))))))
   obtain ⟨v5, h6, H⟩ := obind H
   refine oCall (u := (.agg [(dI v5.Lo), (dI v5.Hi)])) eC Cl.fn (c_impl_Lock_keys h6) (Evs.cons eZ Evs.nil) (VDs.cons (VD.agg rfl) VDs.nil) rfl (gDo (eR rfl) rfl (oLoadVA (es := [(dI a2.Tx), (dI a2.Lo), (dI a2.Hi), (dI a2.Mode)]) (eR rfl) (hB rfl bZ) rfl (gDo (eR rfl) rfl ?_)))
   obtain ⟨v7, h8, H⟩ := obind H
   refine oCall (u := (.agg [(dI v7.Lo), (dI v7.Hi)])) eC Cl.fn (c_impl_Lock_keys h8) (Evs.cons eZ Evs.nil) (VDs.cons (VD.agg rfl) VDs.nil) rfl (gDo (eR rfl) rfl ?_)
   obtain ⟨v9, h10, H⟩ := obind H
   refine oCall (u := (oB v9)) eC Cl.fn (c_impl_meets h10) (Evs.cons (eR rfl) (Evs.cons eZ Evs.nil)) (VDs.cons (VD.agg rfl) (VDs.cons (VD.agg rfl) VDs.nil)) rfl (oPickT (eR rfl) rfl eZ (oMov eZ (xQ (AW.weaken (wk_mk [192, 128] (kr 4 rfl rfl SL.nil) (BL.drop rfl (BL.drop rfl BL.nil)) BK.nil) (AW.ret ?_)))))
   cases H
   exact eE rfl rfl
  ·refine gDo eZ (dF h4) (oFaddrN (m := 3) (eR rfl) rfl (gDo (eR rfl) (dF h4) (oLoadV (q := 3) (c := (dI a2.Mode)) eZ bZ rfl rfl (gDo (eR rfl) (dF h4) (oEql eZ eC (gDo (eR rfl) (dT h3) (oPickF (eR rfl) (dF h4) eZ (oPickT (eR rfl) (dT h3) eZ (oMov eZ ?_)))))))))
   rcases oite H with ⟨h11, H⟩ | ⟨h11, H⟩
   ·refine gDo eZ (dT h11) (oLoadVA (es := [(dI a1.Tx), (dI a1.Lo), (dI a1.Hi), (dI a1.Mode)]) (eR rfl) (bS rfl bZ) rfl (gDo (eR rfl) (dT h11) ?_))
    obtain ⟨v12, h13, H⟩ := obind H
    refine oCall (u := (.agg [(dI v12.Lo), (dI v12.Hi)])) eC Cl.fn (c_impl_Lock_keys h13) (Evs.cons eZ Evs.nil) (VDs.cons (VD.agg rfl) VDs.nil) rfl (gDo (eR rfl) (dT h11) (oLoadVA (es := [(dI a2.Tx), (dI a2.Lo), (dI a2.Hi), (dI a2.Mode)]) (eR rfl) (hB rfl bZ) rfl (gDo (eR rfl) (dT h11) ?_)))
    obtain ⟨v14, h15, H⟩ := obind H
    refine oCall (u := (.agg [(dI v14.Lo), (dI v14.Hi)])) eC Cl.fn (c_impl_Lock_keys h15) (Evs.cons eZ Evs.nil) (VDs.cons (VD.agg rfl) VDs.nil) rfl (gDo (eR rfl) (dT h11) ?_)
    obtain ⟨v16, h17, H⟩ := obind H
    refine oCall (u := (oB v16)) eC Cl.fn (c_impl_meets h17) (Evs.cons (eR rfl) (Evs.cons eZ Evs.nil)) (VDs.cons (VD.agg rfl) (VDs.cons (VD.agg rfl) VDs.nil)) rfl (oPickT (eR rfl) (dT h11) eZ (oMov eZ (xQ (AW.weaken (wk_mk [192, 128] (kr 4 rfl rfl SL.nil) (BL.drop rfl (BL.drop rfl BL.nil)) BK.nil) (AW.ret ?_)))))
    cases H
    exact eE rfl rfl
   ·refine gSkip eZ (dF h11) rfl (gSkip (eR rfl) (dF h11) rfl (gSkip (eR rfl) (dF h11) rfl (gSkip (eR rfl) (dF h11) rfl (gSkip (eR rfl) (dF h11) rfl (oPickF (eR rfl) (dF h11) eC (oMov eZ (xQ (AW.weaken (wk_mk [192, 128] (kr 4 rfl rfl SL.nil) (BL.drop rfl (BL.drop rfl BL.nil)) BK.nil) (AW.ret ?_)))))))))
    cases H
    exact eE rfl rfl
 ·refine gSkip eZ (dF h3) rfl (gSkip (eR rfl) (dF h3) rfl (gSkip (eR rfl) (dF h3) rfl (gSkip (eR rfl) (dF h3) rfl (gSkipU eZ rfl (gSkipU (eR rfl) rfl (gSkipU (eR rfl) rfl (gSkip (eR rfl) (dF h3) rfl (oPickF (eR rfl) (dF h3) eC (oMov eZ (gSkip eZ rfl rfl (gSkip (eR rfl) rfl rfl (gSkip (eR rfl) rfl rfl (gSkip (eR rfl) rfl rfl (gSkip (eR rfl) rfl rfl (oPickF (eR rfl) rfl eC (oMov eZ (xQ (AW.weaken (wk_mk [192, 128] (kr 4 rfl rfl SL.nil) (BL.drop rfl (BL.drop rfl BL.nil)) BK.nil) (AW.ret ?_)))))))))))))))))))
  cases H
  exact eE rfl rfl
theorem c_impl_LocksOk_1 {a1 : TLock} {a2 : TLock} {r : Bool} (H : m_impl_LocksOk_1 a1 a2 = some r) : Fn Tryz.prog 94 (lent [(.agg (d_TLock a1)), (.ptr (d_TLock a2))]) true [(.bool r)] := by
 refine f94 (fle rfl) ?_
 rw [init_mk]
 refine AW.weaken (wk_mk [] (kv 0 (.agg [(dI a1.Tx), (dI a1.Lo), (dI a1.Hi), (dI a1.Mode)]) rfl rfl (SL.cons (v := (.one (.ptr (.bd (d_TLock a2) 0)))) (eS rfl eZ) rfl (VWk.one CWk.ptr) SL.nil)) BL.nil BK.nil) ?_
 unfold m_impl_LocksOk_1 at H
 unfold i94
 refine aV (oBox (n := 128) (m := 4) (cs := [(dI a1.Tx), (dI a1.Lo), (dI a1.Hi), (dI a1.Mode)]) rfl eZ rfl rfl nZ (oMov eC (xQ (aV (oLoadBA (es := [(dI a2.Tx), (dI a2.Lo), (dI a2.Hi), (dI a2.Mode)]) (eR rfl) rfl (oLoadVA (es := [(dI a1.Tx), (dI a1.Lo), (dI a1.Hi), (dI a1.Mode)]) (eR rfl) bZ rfl ?_))))))
 obtain ⟨v3, h4, H⟩ := obind H
 refine oCall (u := (oB v3)) eC Cl.fn (c_impl_clash h4) (Evs.cons (eR rfl) (Evs.cons eZ Evs.nil)) (VDs.cons (VD.agg rfl) (VDs.cons (VD.agg rfl) VDs.nil)) rfl (oMov eZ (xQ (AW.ret ?_)))
 cases H
 exact eE rfl rfl
theorem c_slices_IndexFunc_Lock__LocksOk_1 {a1 : (List TLock)} {a2 : TLock} {r : Int} (H : m_slices_IndexFunc_Lock__LocksOk_1 a1 a2 = some r) : Fn Tryz.prog 103 (lent [(.sl 4 (List.map d_TLock a1)), (.fn 94 [.ptr (d_TLock a2)])]) true [(.int .i64 r)] := by
 refine f103 (fle rfl) ?_
 rw [init_mk]
 refine AW.weaken (wk_mk [] (kv 0 (.one (.d (.sl 4 (List.map d_TLock a1)))) rfl rfl (SL.cons (v := (.one (.fn 94 [(.bd (d_TLock a2) 0)]))) (eS rfl eZ) rfl (VWk.one (CWk.fn (css := [d_TLock a2]))) SL.nil)) BL.nil BK.nil) ?_
 unfold m_slices_IndexFunc_Lock__LocksOk_1 at H
 unfold i103
 refine aV (oMov eC (xQ (AW.seqJ (fun t3 : Unit => slices_IndexFunc_Lock__LocksOk_1_j3 t3 = some r) (fun t3 => mk [] [] noG) ?_ ?_)))
 ·intro t3 H
  unfold slices_IndexFunc_Lock__LocksOk_1_j3 at H
  refine aV (oMov eC (xQ (AW.ret ?_)))
  cases H
  exact eE rfl rfl
 ·refine aV (oMov (eR rfl) (oLenD eZ (n := a1.length) (List.length_map _) (oMov eC (xQ (AW.block (AW.iter (fun s5 : Int => mk [(0, (.one (.d (.sl 4 (List.map d_TLock a1))))), (1, (.one (.fn 94 [(.bd (d_TLock a2) 0)]))), (7, (oI (a1.length : Int))), (8, (oI s5))] [] noG) H (wk_mk [] (kR rfl rfl (kR rfl rfl (kR rfl rfl (kR rfl rfl SL.nil)))) BL.nil BK.nil) ?_))))))
  intro kb6 s5 H
  unfold slices_IndexFunc_Lock__LocksOk_1_b5 at H
  refine aV (oLss (eR rfl) (eR rfl) (xQ (aS ?_)))
  rcases oite H with ⟨h7, H⟩ | ⟨h7, H⟩
  ·refine AW.condT eZ (dT h7) (AW.skip (TQ.qn (aS (AW.block (aV (oMov (eR rfl) (oMov eZ (xQ (aV (oMov (eR rfl) (oMov (eR rfl) (oMov (eR rfl) ?_))))))))))))
   obtain ⟨v8, h9, H⟩ := obind H
   refine oAtD (eR rfl) eZ h9 (oLoadBA (es := [(dI v8.Tx), (dI v8.Lo), (dI v8.Hi), (dI v8.Mode)]) eZ rfl ?_)
   obtain ⟨v10, h11, H⟩ := obind H
   refine oCall (u := (oB v10)) (eR rfl) Cl.fn (c_impl_LocksOk_1 h11) (Evs.cons eZ Evs.nil) (VDs.cons (VD.agg rfl) (VDs.cons VD.ptrB VDs.nil)) rfl (xQ ?_)
   rcases oite H with ⟨h12, H⟩ | ⟨h12, H⟩
   ·refine AW.condT eZ h12 (aV (oMov (eR rfl) (oMov eZ (xQ (AW.ret (BQ.qr (TQ.qr (TQ.qr (BQ.qr (TQ.qr ?_))))))))))
    cases H
    exact eE rfl rfl
   ·exact AW.condF eZ (nt h12) (AW.skip (BQ.qn (TQ.qn (aR (oAdd (eR rfl) eC (oMov eZ (xNil (TQ.qn ⟨(IntKind.wrap .i64 (s5 + 1)), H, (wk_mk [] (kR rfl rfl (kR rfl rfl (kR rfl rfl (kR rfl rfl SL.nil)))) BL.nil BK.nil)⟩))))))))
  ·exact AW.condF eZ (dF h7) (AW.exit (TQ.qe (TQ.qe (BQ.qe (TQ.qn ⟨(), H, (wk_mk [] SL.nil BL.nil BK.nil)⟩)))))
theorem c_slices_ContainsFunc_Lock__LocksOk_1 {a1 : (List TLock)} {a2 : TLock} {r : Bool} (H : m_slices_ContainsFunc_Lock__LocksOk_1 a1 a2 = some r) : Fn Tryz.prog 51 (lent [(.sl 4 (List.map d_TLock a1)), (.fn 94 [.ptr (d_TLock a2)])]) true [(.bool r)] := by
 refine f51 (fle rfl) ?_
 rw [init_mk]
 refine AW.weaken (wk_mk [] (kv 0 (.one (.d (.sl 4 (List.map d_TLock a1)))) rfl rfl (SL.cons (v := (.one (.fn 94 [(.bd (d_TLock a2) 0)]))) (eS rfl eZ) rfl (VWk.one (CWk.fn (css := [d_TLock a2]))) SL.nil)) BL.nil BK.nil) ?_
 unfold m_slices_ContainsFunc_Lock__LocksOk_1 at H
 unfold i51
 refine aV (oMov eC (xQ (aV (oMov (eR rfl) (oMov (eR rfl) ?_)))))
 obtain ⟨v3, h4, H⟩ := obind H
 refine oCall (u := (oI v3)) eC Cl.fn (c_slices_IndexFunc_Lock__LocksOk_1 h4) (Evs.cons (eR rfl) (Evs.cons eZ Evs.nil)) (VDs.cons VD.plain (VDs.cons (VD.fn (PDs.cons VD.ptrB PDs.nil)) VDs.nil)) rfl (oGeq eZ eC (oMov eZ (xQ (AW.ret ?_))))
 cases H
 exact eE rfl rfl
theorem c_impl_LocksOk {a1 : (List TLock)} {r : Bool} (H : m_impl_LocksOk a1 = some r) : Fn Tryz.prog 40 (lent [(.sl 4 (List.map d_TLock a1))]) true [(.bool r)] := by
 refine f40 (fle rfl) ?_
 rw [init_mk]
 refine AW.weaken (wk_mk [] (kv 0 (.one (.d (.sl 4 (List.map d_TLock a1)))) rfl rfl SL.nil) BL.nil BK.nil) ?_
 unfold m_impl_LocksOk at H
 unfold i40
 refine aV (oMov eC (xQ (AW.seqJ (fun t2 : Unit => (impl_LocksOk_j2 a1) t2 = some r) (fun t2 => mk [(0, (.one (.d (.sl 4 (List.map d_TLock a1)))))] [] noG) ?_ ?_)))
 ·intro t2 H
  unfold impl_LocksOk_j2 at H
  refine aV (oMov eZ (oLenD eZ (n := a1.length) (List.length_map _) (oLeq eZ eC (oMov eZ (xQ (AW.ret ?_))))))
  cases H
  exact eE rfl rfl
 ·refine aV (oMov (eR rfl) (oLenD eZ (n := a1.length) (List.length_map _) (oMov eC (xQ (AW.block (AW.iter (fun s4 : Int => mk [(0, (.one (.d (.sl 4 (List.map d_TLock a1))))), (5, (.one (.d (.sl 4 (List.map d_TLock a1))))), (6, (oI (a1.length : Int))), (7, (oI s4))] [] noG) H (wk_mk [] (kR rfl rfl (kR rfl rfl (kR rfl rfl (kR rfl rfl SL.nil)))) BL.nil BK.nil) ?_))))))
  intro kb5 s4 H
  unfold impl_LocksOk_b4 at H
  refine aV (oLss (eR rfl) (eR rfl) (xQ (aS ?_)))
  rcases oite H with ⟨h6, H⟩ | ⟨h6, H⟩
  ·refine AW.condT eZ (dT h6) (AW.skip (TQ.qn (aS (AW.block (aV (oMov (eR rfl) ?_))))))
   obtain ⟨v7, h8, H⟩ := obind H
   refine oAtD (eR rfl) (eR rfl) h8 (oLoadBA (es := [(dI v7.Tx), (dI v7.Lo), (dI v7.Hi), (dI v7.Mode)]) eZ rfl (oVar (n := 256) (m := 4) rfl rfl nZ (oMov (eR rfl) (oStoreV (es := [(dI v7.Tx), (dI v7.Lo), (dI v7.Hi), (dI v7.Mode)]) (eR rfl) (eR rfl) rfl rfl bZ rfl (xQ (AW.seqJ (fun t9 : Bool => (impl_LocksOk_j9 kb5 s4) t9 = some r) (fun t9 => mk [(0, (.one (.d (.sl 4 (List.map d_TLock a1))))), (5, (.one (.d (.sl 4 (List.map d_TLock a1))))), (6, (oI (a1.length : Int))), (7, (oI s4)), (34, (oB t9))] [] noG) ?_ ?_))))))
   ·intro t9 H
    unfold impl_LocksOk_j9 at H
    rcases oite H with ⟨h11, H⟩ | ⟨h11, H⟩
    ·refine AW.condT (eR rfl) h11 (aV (oMov eC (xQ (AW.ret (BQ.qr (TQ.qr (TQ.qr (BQ.qr (TQ.qr ?_)))))))))
     cases H
     exact eE rfl rfl
    ·exact AW.condF (eR rfl) (nt h11) (AW.skip (BQ.qn (TQ.qn (aR (oAdd (eR rfl) eC (oMov eZ (xNil (TQ.qn ⟨(IntKind.wrap .i64 (s4 + 1)), H, (wk_mk [] (kR rfl rfl (kR rfl rfl (kR rfl rfl (kR rfl rfl SL.nil)))) BL.nil BK.nil)⟩))))))))
   ·refine aR (oFaddrN (m := 0) (eR rfl) rfl (oLoadV (q := 0) (c := (dI v7.Tx)) eZ bZ rfl rfl ?_))
    obtain ⟨v12, h13, H⟩ := obind H
    refine oCall (u := (oB v12)) eC Cl.fn (c_impl_isTx h13) (Evs.cons eZ Evs.nil) (VDs.cons VD.plain VDs.nil) rfl (oInv eZ (oMov eZ ?_))
    rcases oite H with ⟨h14, H⟩ | ⟨h14, H⟩
    ·refine gDo eZ (cN h14) (oLoadVA (es := [(dI v7.Tx), (dI v7.Lo), (dI v7.Hi), (dI v7.Mode)]) (eR rfl) bZ rfl (gDo (eR rfl) (cN h14) ?_))
     obtain ⟨v15, h16, H⟩ := obind H
     refine oCall (u := (.agg [(dI v15.Lo), (dI v15.Hi)])) eC Cl.fn (c_impl_Lock_keys h16) (Evs.cons eZ Evs.nil) (VDs.cons (VD.agg rfl) VDs.nil) rfl (gDo (eR rfl) (cN h14) ?_)
     obtain ⟨v17, h18, H⟩ := obind H
     refine oCall (u := (oB v17)) eC Cl.fn (c_impl_RangeOk h18) (Evs.cons eZ Evs.nil) (VDs.cons (VD.agg rfl) VDs.nil) rfl (gDo (eR rfl) (cN h14) (oInv eZ (oPickF (eR rfl) (cN h14) eZ (oMov eZ ?_))))
     rcases oite H with ⟨h19, H⟩ | ⟨h19, H⟩
     ·refine gDo eZ (cN h19) (oFaddrN (m := 3) (eR rfl) rfl (gDo (eR rfl) (cN h19) (oLoadV (q := 3) (c := (dI v7.Mode)) eZ bZ rfl rfl (gDo (eR rfl) (cN h19) ?_))))
      obtain ⟨v20, h21, H⟩ := obind H
      refine oCall (u := (oB v20)) eC Cl.fn (c_impl_isMode h21) (Evs.cons eZ Evs.nil) (VDs.cons VD.plain VDs.nil) rfl (gDo (eR rfl) (cN h19) (oInv eZ (oPickF (eR rfl) (cN h19) eZ (oMov eZ ?_))))
      rcases oite H with ⟨h22, H⟩ | ⟨h22, H⟩
      ·refine gDo eZ (cN h22) (oMov (eR rfl) (gDo (eR rfl) (cN h22) (oMov (eR rfl) (gDo (eR rfl) (cN h22) ?_))))
       obtain ⟨v23, h24, H⟩ := obind H
       refine oCutD (eR rfl) Bd.no (n := (a1.length : Int)) rfl (Bd.at eZ) h24 (gDo (eR rfl) (cN h22) (oMkfn (ps := [(.nm 256 0 0)]) (Evs.cons (eR rfl) Evs.nil) (gDo (eR rfl) (cN h22) ?_)))
       obtain ⟨v25, h26, H⟩ := obind H
       exact oCall (u := (oB v25)) eC Cl.fn (c_slices_ContainsFunc_Lock__LocksOk_1 h26) (Evs.cons (eR rfl) (Evs.cons eZ Evs.nil)) (VDs.cons VD.plain (VDs.cons (VD.fn (PDs.cons (VD.ptrN bZ (CDs.plain (CDs.plain (CDs.plain (CDs.plain CDs.nil))))) PDs.nil)) VDs.nil)) rfl (oPickF (eR rfl) (cN h22) eZ (xNil (TQ.qn ⟨v25, H, (wk_mk [256] (kR rfl rfl (kR rfl rfl (kR rfl rfl (kR rfl rfl (kR rfl rfl SL.nil))))) (BL.drop rfl (BL.drop rfl BL.nil)) BK.nil)⟩)))
      ·exact gSkip eZ (cN (nt h22)) rfl (gSkip (eR rfl) (cN (nt h22)) rfl (gSkip (eR rfl) (cN (nt h22)) rfl (gSkip (eR rfl) (cN (nt h22)) rfl (gSkip (eR rfl) (cN (nt h22)) rfl (oPickT (eR rfl) (cN (nt h22)) eC (xNil (TQ.qn ⟨true, H, (wk_mk [256] (kR rfl rfl (kR rfl rfl (kR rfl rfl (kR rfl rfl (kR rfl rfl SL.nil))))) (BL.drop rfl (BL.drop rfl BL.nil)) BK.nil)⟩)))))))
     ·exact gSkip eZ (cN (nt h19)) rfl (gSkip (eR rfl) (cN (nt h19)) rfl (gSkip (eR rfl) (cN (nt h19)) rfl (gSkip (eR rfl) (cN (nt h19)) rfl (oPickT (eR rfl) (cN (nt h19)) eC (oMov eZ (gSkip eZ rfl rfl (gSkip (eR rfl) rfl rfl (gSkip (eR rfl) rfl rfl (gSkip (eR rfl) rfl rfl (gSkip (eR rfl) rfl rfl (oPickT (eR rfl) rfl eC (xNil (TQ.qn ⟨true, H, (wk_mk [256] (kR rfl rfl (kR rfl rfl (kR rfl rfl (kR rfl rfl (kR rfl rfl SL.nil))))) (BL.drop rfl (BL.drop rfl BL.nil)) BK.nil)⟩)))))))))))))
    ·exact gSkip eZ (cN (nt h14)) rfl (gSkip (eR rfl) (cN (nt h14)) rfl (gSkip (eR rfl) (cN (nt h14)) rfl (gSkip (eR rfl) (cN (nt h14)) rfl (oPickT (eR rfl) (cN (nt h14)) eC (oMov eZ (gSkip eZ rfl rfl (gSkip (eR rfl) rfl rfl (gSkip (eR rfl) rfl rfl (gSkip (eR rfl) rfl rfl (oPickT (eR rfl) rfl eC (oMov eZ (gSkip eZ rfl rfl (gSkip (eR rfl) rfl rfl (gSkip (eR rfl) rfl rfl (gSkip (eR rfl) rfl rfl (gSkip (eR rfl) rfl rfl (oPickT (eR rfl) rfl eC (xNil (TQ.qn ⟨true, H, (wk_mk [256] (kR rfl rfl (kR rfl rfl (kR rfl rfl (kR rfl rfl (kR rfl rfl SL.nil))))) (BL.drop rfl (BL.drop rfl BL.nil)) BK.nil)⟩)))))))))))))))))))
  ·exact AW.condF eZ (dF h6) (AW.exit (TQ.qe (TQ.qe (BQ.qe (TQ.qn ⟨(), H, (wk_mk [] (kR rfl rfl SL.nil) BL.nil BK.nil)⟩)))))
theorem c_impl_isAnswer {a1 : Int} {r : Bool} (H : m_impl_isAnswer a1 = some r) : Fn Tryz.prog 119 (lent [(.int .i64 a1)]) true [(.bool r)] := by
 refine f119 (fle rfl) ?_
 rw [init_mk]
 refine AW.weaken (wk_mk [] (kv 0 (oI a1) rfl rfl SL.nil) BL.nil BK.nil) ?_
 unfold m_impl_isAnswer at H
 unfold i119
 refine aV (oMov eC (xQ (aV (oMov (eR rfl) ?_))))
 obtain ⟨v2, h3, H⟩ := obind H
 refine oCall (u := (oB v2)) eC Cl.fn (c_impl_from h3) (Evs.cons eZ (Evs.cons eC (Evs.cons eC Evs.nil))) (VDs.cons VD.plain (VDs.cons VD.plain (VDs.cons VD.plain VDs.nil))) rfl (oMov eZ (xQ (AW.ret ?_)))
 cases H
 exact eE rfl rfl
theorem c_impl_WritesOk {a1 : (List TCell)} {r : Bool} (H : m_impl_WritesOk a1 = some r) : Fn Tryz.prog 96 (lent [(.sl 2 (List.map d_TCell a1))]) true [(.bool r)] := by
 refine f96 (fle rfl) ?_
 rw [init_mk]
 refine AW.weaken (wk_mk [] (kv 0 (.one (.d (.sl 2 (List.map d_TCell a1)))) rfl rfl SL.nil) BL.nil BK.nil) ?_
 unfold m_impl_WritesOk at H
 unfold i96
 refine aV (oMov eC (xQ (AW.seqJ (fun t2 : Unit => (impl_WritesOk_j2 a1) t2 = some r) (fun t2 => mk [(0, (.one (.d (.sl 2 (List.map d_TCell a1)))))] [] noG) ?_ ?_)))
 ·intro t2 H
  unfold impl_WritesOk_j2 at H
  refine aV (oMov eZ (oLenD eZ (n := a1.length) (List.length_map _) (oLeq eZ eC (oMov eZ (xQ (AW.ret ?_))))))
  cases H
  exact eE rfl rfl
 ·refine aV (oMov (eR rfl) (oLenD eZ (n := a1.length) (List.length_map _) (oMov eC (xQ (AW.block (AW.iter (fun s4 : Int => mk [(0, (.one (.d (.sl 2 (List.map d_TCell a1))))), (5, (.one (.d (.sl 2 (List.map d_TCell a1))))), (6, (oI (a1.length : Int))), (7, (oI s4))] [] noG) H (wk_mk [] (kR rfl rfl (kR rfl rfl (kR rfl rfl (kR rfl rfl SL.nil)))) BL.nil BK.nil) ?_))))))
  intro kb5 s4 H
  unfold impl_WritesOk_b4 at H
  refine aV (oLss (eR rfl) (eR rfl) (xQ (aS ?_)))
  rcases oite H with ⟨h6, H⟩ | ⟨h6, H⟩
  ·refine AW.condT eZ (dT h6) (AW.skip (TQ.qn (aS (AW.block (aV (oMov (eR rfl) ?_))))))
   obtain ⟨v7, h8, H⟩ := obind H
   refine oAtD (eR rfl) (eR rfl) h8 (oLoadBA (es := [(dI v7.Key), (dI v7.Value)]) eZ rfl (oVar (n := 256) (m := 2) rfl rfl nZ (oMov (eR rfl) (oStoreV (es := [(dI v7.Key), (dI v7.Value)]) (eR rfl) (eR rfl) rfl rfl bZ rfl (xQ (AW.seqJ (fun t9 : Bool => (impl_WritesOk_j9 kb5 s4) t9 = some r) (fun t9 => mk [(0, (.one (.d (.sl 2 (List.map d_TCell a1))))), (5, (.one (.d (.sl 2 (List.map d_TCell a1))))), (6, (oI (a1.length : Int))), (7, (oI s4)), (36, (oB t9))] [] noG) ?_ ?_))))))
   ·intro t9 H
    unfold impl_WritesOk_j9 at H
    rcases oite H with ⟨h11, H⟩ | ⟨h11, H⟩
    ·refine AW.condT (eR rfl) h11 (aV (oMov eC (xQ (AW.ret (BQ.qr (TQ.qr (TQ.qr (BQ.qr (TQ.qr ?_)))))))))
     cases H
     exact eE rfl rfl
    ·exact AW.condF (eR rfl) (nt h11) (AW.skip (BQ.qn (TQ.qn (aR (oAdd (eR rfl) eC (oMov eZ (xNil (TQ.qn ⟨(IntKind.wrap .i64 (s4 + 1)), H, (wk_mk [] (kR rfl rfl (kR rfl rfl (kR rfl rfl (kR rfl rfl SL.nil)))) BL.nil BK.nil)⟩))))))))
   ·refine AW.regd (oFaddrN (m := 0) (eR rfl) rfl (oLoadV (q := 0) (c := (dI v7.Key)) eZ bZ rfl rfl ?_))
    obtain ⟨v12, h13, H⟩ := obind H
    refine oCall (u := (oB v12)) eC Cl.fn (c_impl_isKey h13) (Evs.cons eZ Evs.nil) (VDs.cons VD.plain VDs.nil) rfl (oInv eZ (oMov eZ ?_))
    rcases oite H with ⟨h14, H⟩ | ⟨h14, H⟩
    ·refine gDo eZ (cN h14) (oFaddrN (m := 1) (eR rfl) rfl (gDo (eR rfl) (cN h14) (oLoadV (q := 1) (c := (dI v7.Value)) eZ bZ rfl rfl (gDo (eR rfl) (cN h14) ?_))))
     obtain ⟨v15, h16, H⟩ := obind H
     refine oCall (u := (oB v15)) eC Cl.fn (c_impl_isAnswer h16) (Evs.cons eZ Evs.nil) (VDs.cons VD.plain VDs.nil) rfl (gDo (eR rfl) (cN h14) (oInv eZ (oPickF (eR rfl) (cN h14) eZ (oMov eZ ?_))))
     rcases oite H with ⟨h17, H⟩ | ⟨h17, H⟩
     ·refine gDo eZ (cN h17) (oMov (eR rfl) (gDo (eR rfl) (cN h17) (oGtr eZ eC (gDo (eR rfl) (cN h17) (oMov eZ ?_)))))
      rcases oite H with ⟨h18, H⟩ | ⟨h18, H⟩
      ·refine gDo eZ (dT h18) (oMov (eR rfl) (gDo (eR rfl) (dT h18) (oMov (eR rfl) (gDo (eR rfl) (dT h18) (oSub eZ eC (gDo (eR rfl) (dT h18) ?_))))))
       obtain ⟨v19, h20, H⟩ := obind H
       exact oAtD (eR rfl) eZ h20 (gDo (eR rfl) (dT h18) (oFaddrB (m := 0) eZ rfl (gDo (eR rfl) (dT h18) (oLoadB (e := (.int .i64 v19.Key)) eZ rfl (gDo (eR rfl) (dT h18) (oFaddrN (m := 0) (eR rfl) rfl (gDo (eR rfl) (dT h18) (oLoadV (q := 0) (c := (dI v7.Key)) eZ bZ rfl rfl (gDo (eR rfl) (dT h18) (oGeq (eR rfl) eZ (gDo (eR rfl) (cN h17) (oPickT (eR rfl) (dT h18) eZ (oPickF (eR rfl) (cN h17) eZ (xNil (TQ.qn ⟨(decide (v7.Key ≤ v19.Key)), H, (wk_mk [256] (kR rfl rfl (kR rfl rfl (kR rfl rfl (kR rfl rfl (kR rfl rfl SL.nil))))) (BL.drop rfl (BL.drop rfl BL.nil)) BK.nil)⟩)))))))))))))))
      ·exact gSkip eZ (dF h18) rfl (gSkip (eR rfl) (dF h18) rfl (gSkip (eR rfl) (dF h18) rfl (gSkip (eR rfl) (dF h18) rfl (gSkip (eR rfl) (dF h18) rfl (gSkip (eR rfl) (dF h18) rfl (gSkip (eR rfl) (dF h18) rfl (gSkip (eR rfl) (dF h18) rfl (gSkip (eR rfl) (dF h18) rfl (gDo (eR rfl) (cN h17) (oPickF (eR rfl) (dF h18) eC (oPickF (eR rfl) (cN h17) eZ (xNil (TQ.qn ⟨false, H, (wk_mk [256] (kR rfl rfl (kR rfl rfl (kR rfl rfl (kR rfl rfl (kR rfl rfl SL.nil))))) (BL.drop rfl (BL.drop rfl BL.nil)) BK.nil)⟩)))))))))))))
     ·exact gSkip eZ (cN (nt h17)) rfl (gSkip (eR rfl) (cN (nt h17)) rfl (gSkip (eR rfl) (cN (nt h17)) rfl (gSkipU eZ rfl (gSkipU (eR rfl) rfl (gSkipU (eR rfl) rfl (gSkipU (eR rfl) rfl (gSkipU (eR rfl) rfl (gSkipU (eR rfl) rfl (gSkipU (eR rfl) rfl (gSkipU (eR rfl) rfl (gSkipU (eR rfl) rfl (gSkip (eR rfl) (cN (nt h17)) rfl (oPickT (eR rfl) (cN (nt h17)) eC (xNil (TQ.qn ⟨true, H, (wk_mk [256] (kR rfl rfl (kR rfl rfl (kR rfl rfl (kR rfl rfl (kR rfl rfl SL.nil))))) (BL.drop rfl (BL.drop rfl BL.nil)) BK.nil)⟩)))))))))))))))
    ·exact gSkip eZ (cN (nt h14)) rfl (gSkip (eR rfl) (cN (nt h14)) rfl (gSkip (eR rfl) (cN (nt h14)) rfl (gSkip (eR rfl) (cN (nt h14)) rfl (oPickT (eR rfl) (cN (nt h14)) eC (oMov eZ (gSkip eZ rfl rfl (gSkip (eR rfl) rfl rfl (gSkip (eR rfl) rfl rfl (gSkipU eZ rfl (gSkipU (eR rfl) rfl (gSkipU (eR rfl) rfl (gSkipU (eR rfl) rfl (gSkipU (eR rfl) rfl (gSkipU (eR rfl) rfl (gSkipU (eR rfl) rfl (gSkipU (eR rfl) rfl (gSkipU (eR rfl) rfl (gSkip (eR rfl) rfl rfl (oPickT (eR rfl) rfl eC (xNil (TQ.qn ⟨true, H, (wk_mk [256] (kR rfl rfl (kR rfl rfl (kR rfl rfl (kR rfl rfl (kR rfl rfl SL.nil))))) (BL.drop rfl (BL.drop rfl BL.nil)) BK.nil)⟩)))))))))))))))))))))
  ·exact AW.condF eZ (dF h6) (AW.exit (TQ.qe (TQ.qe (BQ.qe (TQ.qn ⟨(), H, (wk_mk [] (kR rfl rfl SL.nil) BL.nil BK.nil)⟩)))))
theorem c_impl_one {a1 : Int} {r : TRange} (H : m_impl_one a1 = some r) : Fn Tryz.prog 49 (lent [(.int .i64 a1)]) true [(.agg (d_TRange r))] := by
 refine f49 (fle rfl) ?_
 rw [init_mk]
 refine AW.weaken (wk_mk [] (kv 0 (oI a1) rfl rfl SL.nil) BL.nil BK.nil) ?_
 unfold m_impl_one at H
 unfold i49
 refine aV (oVar (n := 128) (m := 2) rfl rfl nZ (xQ (aV (oMov (eR rfl) (oMov (eR rfl) (oAdd eZ eC (oBuild (cs := [(dI a1), (dI (IntKind.wrap .i64 (a1 + 1)))]) (PsCons (eR rfl) (PsCons eZ PsNil)) rfl (oStoreV (es := [(dI a1), (dI (IntKind.wrap .i64 (a1 + 1)))]) (eR rfl) eZ rfl rfl bZ rfl (xQ (AW.ret ?_))))))))))
 cases H
 exact endsR (RL.cons (RV.cellA (es := [(dI a1), (dI (IntKind.wrap .i64 (a1 + 1)))]) (eR rfl) bZ rfl) (VO.agg (ds := [(.int .i64 a1), (.int .i64 (IntKind.wrap .i64 (a1 + 1)))]) rfl rfl) RL.nil) List.nodup_nil
theorem c_impl_LocksHold_1 {a1 : TLock} {a2 : Int} {a3 : Int} {a4 : TRange} {r : Bool} (H : m_impl_LocksHold_1 a1 a2 a3 a4 = some r) : Fn Tryz.prog 121 (lent [(.agg (d_TLock a1)), (.ptr (d_i64 a2)), (.ptr (d_i64 a3)), (.ptr (d_TRange a4))]) true [(.bool r)] := by
 refine f121 (fle rfl) ?_
 rw [init_mk]
 refine AW.weaken (wk_mk [] (kv 0 (.agg [(dI a1.Tx), (dI a1.Lo), (dI a1.Hi), (dI a1.Mode)]) rfl rfl (SL.cons (v := (.one (.ptr (.bd (d_i64 a2) 0)))) (eS rfl eZ) rfl (VWk.one CWk.ptr) (SL.cons (v := (.one (.ptr (.bd (d_i64 a3) 0)))) (eS rfl (eS rfl eZ)) rfl (VWk.one CWk.ptr) (SL.cons (v := (.one (.ptr (.bd (d_TRange a4) 0)))) (eS rfl (eS rfl (eS rfl eZ))) rfl (VWk.one CWk.ptr) SL.nil)))) BL.nil BK.nil) ?_
 unfold m_impl_LocksHold_1 at H
 unfold i121
 refine aV (oBox (n := 256) (m := 4) (cs := [(dI a1.Tx), (dI a1.Lo), (dI a1.Hi), (dI a1.Mode)]) rfl eZ rfl rfl nZ (oMov eC (xQ (aV (oFaddrN (m := 0) (eR rfl) rfl (oLoadV (q := 0) (c := (dI a1.Tx)) eZ bZ rfl rfl (oLoadB (e := (.int .i64 a2)) (eR rfl) rfl (oEql (eR rfl) eZ (oMov eZ ?_)))))))))
 rcases oite H with ⟨h5, H⟩ | ⟨h5, H⟩
 ·refine gDo eZ (dT h5) (oFaddrN (m := 3) (eR rfl) rfl (gDo (eR rfl) (dT h5) (oLoadV (q := 3) (c := (dI a1.Mode)) eZ bZ rfl rfl (gDo (eR rfl) (dT h5) (oLoadB (e := (.int .i64 a3)) (eR rfl) rfl (gDo (eR rfl) (dT h5) (oEql (eR rfl) eZ (gDo (eR rfl) (dT h5) (oMov eZ ?_)))))))))
  rcases oite H with ⟨h6, H⟩ | ⟨h6, H⟩
  ·refine gSkip eZ (dT h6) rfl (gSkip (eR rfl) (dT h6) rfl (gSkip (eR rfl) (dT h6) rfl (gDo (eR rfl) (dT h5) (oPickT (eR rfl) (dT h6) eC (oPickT (eR rfl) (dT h5) eZ (oMov eZ (gDo eZ rfl (oFaddrN (m := 1) (eR rfl) rfl (gDo (eR rfl) rfl (oLoadV (q := 1) (c := (dI a1.Lo)) eZ bZ rfl rfl (gDo (eR rfl) rfl (oFaddrB (m := 0) (eR rfl) rfl (gDo (eR rfl) rfl (oLoadB (e := (.int .i64 a4.Lo)) eZ rfl (gDo (eR rfl) rfl (oLeq (eR rfl) eZ (oPickT (eR rfl) rfl eZ (oMov eZ ?_))))))))))))))))))
   rcases oite H with ⟨h7, H⟩ | ⟨h7, H⟩
   ·refine gDo eZ (dT h7) (oFaddrB (m := 1) (eR rfl) rfl (gDo (eR rfl) (dT h7) (oLoadB (e := (.int .i64 a4.Hi)) eZ rfl (gDo (eR rfl) (dT h7) (oFaddrN (m := 2) (eR rfl) rfl (gDo (eR rfl) (dT h7) (oLoadV (q := 2) (c := (dI a1.Hi)) eZ bZ rfl rfl (gDo (eR rfl) (dT h7) (oLeq (eR rfl) eZ (oPickT (eR rfl) (dT h7) eZ (oMov eZ (xQ (AW.weaken (wk_mk [256] (kr 5 rfl rfl SL.nil) (BL.drop rfl BL.nil) BK.nil) (AW.ret ?_))))))))))))))
    cases H
    exact eE rfl rfl
   ·refine gSkip eZ (dF h7) rfl (gSkip (eR rfl) (dF h7) rfl (gSkip (eR rfl) (dF h7) rfl (gSkip (eR rfl) (dF h7) rfl (gSkip (eR rfl) (dF h7) rfl (oPickF (eR rfl) (dF h7) eC (oMov eZ (xQ (AW.weaken (wk_mk [256] (kr 5 rfl rfl SL.nil) (BL.drop rfl BL.nil) BK.nil) (AW.ret ?_)))))))))
    cases H
    exact eE rfl rfl
  ·refine gDo eZ (dF h6) (oFaddrN (m := 3) (eR rfl) rfl (gDo (eR rfl) (dF h6) (oLoadV (q := 3) (c := (dI a1.Mode)) eZ bZ rfl rfl (gDo (eR rfl) (dF h6) (oEql eZ eC (gDo (eR rfl) (dT h5) (oPickF (eR rfl) (dF h6) eZ (oPickT (eR rfl) (dT h5) eZ (oMov eZ ?_)))))))))
   rcases oite H with ⟨h8, H⟩ | ⟨h8, H⟩
   ·refine gDo eZ (dT h8) (oFaddrN (m := 1) (eR rfl) rfl (gDo (eR rfl) (dT h8) (oLoadV (q := 1) (c := (dI a1.Lo)) eZ bZ rfl rfl (gDo (eR rfl) (dT h8) (oFaddrB (m := 0) (eR rfl) rfl (gDo (eR rfl) (dT h8) (oLoadB (e := (.int .i64 a4.Lo)) eZ rfl (gDo (eR rfl) (dT h8) (oLeq (eR rfl) eZ (oPickT (eR rfl) (dT h8) eZ (oMov eZ ?_)))))))))))
    rcases oite H with ⟨h9, H⟩ | ⟨h9, H⟩
    ·refine gDo eZ (dT h9) (oFaddrB (m := 1) (eR rfl) rfl (gDo (eR rfl) (dT h9) (oLoadB (e := (.int .i64 a4.Hi)) eZ rfl (gDo (eR rfl) (dT h9) (oFaddrN (m := 2) (eR rfl) rfl (gDo (eR rfl) (dT h9) (oLoadV (q := 2) (c := (dI a1.Hi)) eZ bZ rfl rfl (gDo (eR rfl) (dT h9) (oLeq (eR rfl) eZ (oPickT (eR rfl) (dT h9) eZ (oMov eZ (xQ (AW.weaken (wk_mk [256] (kr 5 rfl rfl SL.nil) (BL.drop rfl BL.nil) BK.nil) (AW.ret ?_))))))))))))))
     cases H
     exact eE rfl rfl
    ·refine gSkip eZ (dF h9) rfl (gSkip (eR rfl) (dF h9) rfl (gSkip (eR rfl) (dF h9) rfl (gSkip (eR rfl) (dF h9) rfl (gSkip (eR rfl) (dF h9) rfl (oPickF (eR rfl) (dF h9) eC (oMov eZ (xQ (AW.weaken (wk_mk [256] (kr 5 rfl rfl SL.nil) (BL.drop rfl BL.nil) BK.nil) (AW.ret ?_)))))))))
     cases H
     exact eE rfl rfl
   ·refine gSkip eZ (dF h8) rfl (gSkip (eR rfl) (dF h8) rfl (gSkip (eR rfl) (dF h8) rfl (gSkip (eR rfl) (dF h8) rfl (gSkip (eR rfl) (dF h8) rfl (oPickF (eR rfl) (dF h8) eC (oMov eZ (gSkip eZ rfl rfl (gSkip (eR rfl) rfl rfl (gSkip (eR rfl) rfl rfl (gSkip (eR rfl) rfl rfl (gSkip (eR rfl) rfl rfl (oPickF (eR rfl) rfl eC (oMov eZ (xQ (AW.weaken (wk_mk [256] (kr 5 rfl rfl SL.nil) (BL.drop rfl BL.nil) BK.nil) (AW.ret ?_))))))))))))))))
    cases H
    exact eE rfl rfl
 ·refine gSkip eZ (dF h5) rfl (gSkip (eR rfl) (dF h5) rfl (gSkip (eR rfl) (dF h5) rfl (gSkip (eR rfl) (dF h5) rfl (gSkip (eR rfl) (dF h5) rfl (gSkipU eZ rfl (gSkipU (eR rfl) rfl (gSkipU (eR rfl) rfl (gSkip (eR rfl) (dF h5) rfl (oPickF (eR rfl) (dF h5) eC (oMov eZ (gSkip eZ rfl rfl (gSkip (eR rfl) rfl rfl (gSkip (eR rfl) rfl rfl (gSkip (eR rfl) rfl rfl (gSkip (eR rfl) rfl rfl (oPickF (eR rfl) rfl eC (oMov eZ (gSkip eZ rfl rfl (gSkip (eR rfl) rfl rfl (gSkip (eR rfl) rfl rfl (gSkip (eR rfl) rfl rfl (gSkip (eR rfl) rfl rfl (oPickF (eR rfl) rfl eC (oMov eZ (xQ (AW.weaken (wk_mk [256] (kr 5 rfl rfl SL.nil) (BL.drop rfl BL.nil) BK.nil) (AW.ret ?_)))))))))))))))))))))))))))
  cases H
  exact eE rfl rfl
theorem c_slices_IndexFunc_Lock__LocksHold_1 {a1 : (List TLock)} {a2 : Int} {a3 : Int} {a4 : TRange} {r : Int} (H : m_slices_IndexFunc_Lock__LocksHold_1 a1 a2 a3 a4 = some r) : Fn Tryz.prog 103 (lent [(.sl 4 (List.map d_TLock a1)), (.fn 121 [.ptr (d_i64 a2), .ptr (d_i64 a3), .ptr (d_TRange a4)])]) true [(.int .i64 r)] := by
 refine f103 (fle rfl) ?_
 rw [init_mk]
 refine AW.weaken (wk_mk [] (kv 0 (.one (.d (.sl 4 (List.map d_TLock a1)))) rfl rfl (SL.cons (v := (.one (.fn 121 [(.bd (d_i64 a2) 0), (.bd (d_i64 a3) 0), (.bd (d_TRange a4) 0)]))) (eS rfl eZ) rfl (VWk.one (CWk.fn (css := [d_i64 a2, d_i64 a3, d_TRange a4]))) SL.nil)) BL.nil BK.nil) ?_
 unfold m_slices_IndexFunc_Lock__LocksHold_1 at H
 unfold i103
 refine aV (oMov eC (xQ (AW.seqJ (fun t5 : Unit => slices_IndexFunc_Lock__LocksHold_1_j5 t5 = some r) (fun t5 => mk [] [] noG) ?_ ?_)))
 ·intro t5 H
  unfold slices_IndexFunc_Lock__LocksHold_1_j5 at H
  refine aV (oMov eC (xQ (AW.ret ?_)))
  cases H
  exact eE rfl rfl
 ·refine aV (oMov (eR rfl) (oLenD eZ (n := a1.length) (List.length_map _) (oMov eC (xQ (AW.block (AW.iter (fun s7 : Int => mk [(0, (.one (.d (.sl 4 (List.map d_TLock a1))))), (1, (.one (.fn 121 [(.bd (d_i64 a2) 0), (.bd (d_i64 a3) 0), (.bd (d_TRange a4) 0)]))), (7, (oI (a1.length : Int))), (8, (oI s7))] [] noG) H (wk_mk [] (kR rfl rfl (kR rfl rfl (kR rfl rfl (kR rfl rfl SL.nil)))) BL.nil BK.nil) ?_))))))
  intro kb8 s7 H
  unfold slices_IndexFunc_Lock__LocksHold_1_b7 at H
  refine aV (oLss (eR rfl) (eR rfl) (xQ (aS ?_)))
  rcases oite H with ⟨h9, H⟩ | ⟨h9, H⟩
  ·refine AW.condT eZ (dT h9) (AW.skip (TQ.qn (aS (AW.block (aV (oMov (eR rfl) (oMov eZ (xQ (aV (oMov (eR rfl) (oMov (eR rfl) (oMov (eR rfl) ?_))))))))))))
   obtain ⟨v10, h11, H⟩ := obind H
   refine oAtD (eR rfl) eZ h11 (oLoadBA (es := [(dI v10.Tx), (dI v10.Lo), (dI v10.Hi), (dI v10.Mode)]) eZ rfl ?_)
   obtain ⟨v12, h13, H⟩ := obind H
   refine oCall (u := (oB v12)) (eR rfl) Cl.fn (c_impl_LocksHold_1 h13) (Evs.cons eZ Evs.nil) (VDs.cons (VD.agg rfl) (VDs.cons VD.ptrB (VDs.cons VD.ptrB (VDs.cons VD.ptrB VDs.nil)))) rfl (xQ ?_)
   rcases oite H with ⟨h14, H⟩ | ⟨h14, H⟩
   ·refine AW.condT eZ h14 (aV (oMov (eR rfl) (oMov eZ (xQ (AW.ret (BQ.qr (TQ.qr (TQ.qr (BQ.qr (TQ.qr ?_))))))))))
    cases H
    exact eE rfl rfl
   ·exact AW.condF eZ (nt h14) (AW.skip (BQ.qn (TQ.qn (aR (oAdd (eR rfl) eC (oMov eZ (xNil (TQ.qn ⟨(IntKind.wrap .i64 (s7 + 1)), H, (wk_mk [] (kR rfl rfl (kR rfl rfl (kR rfl rfl (kR rfl rfl SL.nil)))) BL.nil BK.nil)⟩))))))))
  ·exact AW.condF eZ (dF h9) (AW.exit (TQ.qe (TQ.qe (BQ.qe (TQ.qn ⟨(), H, (wk_mk [] SL.nil BL.nil BK.nil)⟩)))))
theorem c_slices_ContainsFunc_Lock__LocksHold_1 {a1 : (List TLock)} {a2 : Int} {a3 : Int} {a4 : TRange} {r : Bool} (H : m_slices_ContainsFunc_Lock__LocksHold_1 a1 a2 a3 a4 = some r) : Fn Tryz.prog 51 (lent [(.sl 4 (List.map d_TLock a1)), (.fn 121 [.ptr (d_i64 a2), .ptr (d_i64 a3), .ptr (d_TRange a4)])]) true [(.bool r)] := by
 refine f51 (fle rfl) ?_
 rw [init_mk]
 refine AW.weaken (wk_mk [] (kv 0 (.one (.d (.sl 4 (List.map d_TLock a1)))) rfl rfl (SL.cons (v := (.one (.fn 121 [(.bd (d_i64 a2) 0), (.bd (d_i64 a3) 0), (.bd (d_TRange a4) 0)]))) (eS rfl eZ) rfl (VWk.one (CWk.fn (css := [d_i64 a2, d_i64 a3, d_TRange a4]))) SL.nil)) BL.nil BK.nil) ?_
 unfold m_slices_ContainsFunc_Lock__LocksHold_1 at H
 unfold i51
 refine aV (oMov eC (xQ (aV (oMov (eR rfl) (oMov (eR rfl) ?_)))))
 obtain ⟨v5, h6, H⟩ := obind H
 refine oCall (u := (oI v5)) eC Cl.fn (c_slices_IndexFunc_Lock__LocksHold_1 h6) (Evs.cons (eR rfl) (Evs.cons eZ Evs.nil)) (VDs.cons VD.plain (VDs.cons (VD.fn (PDs.cons VD.ptrB (PDs.cons VD.ptrB (PDs.cons VD.ptrB PDs.nil)))) VDs.nil)) rfl (oGeq eZ eC (oMov eZ (xQ (AW.ret ?_))))
 cases H
 exact eE rfl rfl
theorem c_impl_LocksHold {a1 : (List TLock)} {a2 : Int} {a3 : TRange} {a4 : Int} {r : Bool} (H : m_impl_LocksHold a1 a2 a3 a4 = some r) : Fn Tryz.prog 99 (lent [(.sl 4 (List.map d_TLock a1)), (.int .i64 a2), (.agg (d_TRange a3)), (.int .i64 a4)]) true [(.bool r)] := by
 refine f99 (fle rfl) ?_
 rw [init_mk]
 refine AW.weaken (wk_mk [] (kv 0 (.one (.d (.sl 4 (List.map d_TLock a1)))) rfl rfl (kv 1 (oI a2) rfl rfl (kv 2 (.agg [(dI a3.Lo), (dI a3.Hi)]) rfl rfl (kv 3 (oI a4) rfl rfl SL.nil)))) BL.nil BK.nil) ?_
 unfold m_impl_LocksHold at H
 unfold i99
 refine aV (oBox (n := 320) (m := 1) (cs := [(dI a2)]) rfl (eR rfl) rfl rfl nZ (oBox (n := 384) (m := 2) (cs := [(dI a3.Lo), (dI a3.Hi)]) rfl (eR rfl) rfl rfl (nS rfl nZ) (oBox (n := 448) (m := 1) (cs := [(dI a4)]) rfl (eR rfl) rfl rfl (nS rfl (nS rfl nZ)) (oMov eC (xQ (aV (oMov (eR rfl) ?_)))))))
 obtain ⟨v5, h6, H⟩ := obind H
 refine oCall (u := (oB v5)) eC Cl.fn (c_impl_LocksOk h6) (Evs.cons eZ Evs.nil) (VDs.cons VD.plain VDs.nil) rfl (oMov eZ ?_)
 rcases oite H with ⟨h7, H⟩ | ⟨h7, H⟩
 ·refine gDo eZ h7 (oLoadVA (es := [(dI a3.Lo), (dI a3.Hi)]) (eR rfl) (bS rfl bZ) rfl (gDo (eR rfl) h7 ?_))
  obtain ⟨v8, h9, H⟩ := obind H
  refine oCall (u := (oB v8)) eC Cl.fn (c_impl_RangeOk h9) (Evs.cons eZ Evs.nil) (VDs.cons (VD.agg rfl) VDs.nil) rfl (oPickT (eR rfl) h7 eZ (oMov eZ ?_))
  rcases oite H with ⟨h10, H⟩ | ⟨h10, H⟩
  ·refine gDo eZ h10 (oLoadV (q := 0) (c := (dI a4)) (eR rfl) bZ rfl rfl (gDo (eR rfl) h10 ?_))
   obtain ⟨v11, h12, H⟩ := obind H
   refine oCall (u := (oB v11)) eC Cl.fn (c_impl_isMode h12) (Evs.cons eZ Evs.nil) (VDs.cons VD.plain VDs.nil) rfl (oPickT (eR rfl) h10 eZ (oMov eZ ?_))
   rcases oite H with ⟨h13, H⟩ | ⟨h13, H⟩
   ·refine gDo eZ h13 (oMov (eR rfl) (gDo (eR rfl) h13 (oMkfn (ps := [(.nm 320 0 0), (.nm 448 0 0), (.nm 384 0 0)]) (Evs.cons (eR rfl) (Evs.cons (eR rfl) (Evs.cons (eR rfl) Evs.nil))) (gDo (eR rfl) h13 ?_))))
    obtain ⟨v14, h15, H⟩ := obind H
    refine oCall (u := (oB v14)) eC Cl.fn (c_slices_ContainsFunc_Lock__LocksHold_1 h15) (Evs.cons (eR rfl) (Evs.cons eZ Evs.nil)) (VDs.cons VD.plain (VDs.cons (VD.fn (PDs.cons (VD.ptrN (bS rfl (bS rfl bZ)) (CDs.plain CDs.nil)) (PDs.cons (VD.ptrN bZ (CDs.plain CDs.nil)) (PDs.cons (VD.ptrN (bS rfl bZ) (CDs.plain (CDs.plain CDs.nil))) PDs.nil)))) VDs.nil)) rfl (oPickT (eR rfl) h13 eZ (oMov eZ (xQ (AW.weaken (wk_mk [448, 384, 320] (kr 8 rfl rfl SL.nil) (BL.drop rfl (BL.drop rfl (BL.drop rfl BL.nil))) BK.nil) (AW.ret ?_)))))
    cases H
    exact eE rfl rfl
   ·refine gSkip eZ (nt h13) rfl (gSkip (eR rfl) (nt h13) rfl (gSkip (eR rfl) (nt h13) rfl (oPickF (eR rfl) (nt h13) eC (oMov eZ (xQ (AW.weaken (wk_mk [448, 384, 320] (kr 8 rfl rfl SL.nil) (BL.drop rfl (BL.drop rfl (BL.drop rfl BL.nil))) BK.nil) (AW.ret ?_)))))))
    cases H
    exact eE rfl rfl
  ·refine gSkip eZ (nt h10) rfl (gSkip (eR rfl) (nt h10) rfl (oPickF (eR rfl) (nt h10) eC (oMov eZ (gSkip eZ rfl rfl (gSkip (eR rfl) rfl rfl (gSkip (eR rfl) rfl rfl (oPickF (eR rfl) rfl eC (oMov eZ (xQ (AW.weaken (wk_mk [448, 384, 320] (kr 8 rfl rfl SL.nil) (BL.drop rfl (BL.drop rfl (BL.drop rfl BL.nil))) BK.nil) (AW.ret ?_)))))))))))
   cases H
   exact eE rfl rfl
 ·refine gSkip eZ (nt h7) rfl (gSkip (eR rfl) (nt h7) rfl (oPickF (eR rfl) (nt h7) eC (oMov eZ (gSkip eZ rfl rfl (gSkip (eR rfl) rfl rfl (oPickF (eR rfl) rfl eC (oMov eZ (gSkip eZ rfl rfl (gSkip (eR rfl) rfl rfl (gSkip (eR rfl) rfl rfl (oPickF (eR rfl) rfl eC (oMov eZ (xQ (AW.weaken (wk_mk [448, 384, 320] (kr 8 rfl rfl SL.nil) (BL.drop rfl (BL.drop rfl (BL.drop rfl BL.nil))) BK.nil) (AW.ret ?_)))))))))))))))
  cases H
  exact eE rfl rfl
theorem c_impl_heldsOk_1 {a1 : TCell} {a2 : TShard} {a3 : THeld} {r : Bool} (H : m_impl_heldsOk_1 a1 a2 a3 = some r) : Fn Tryz.prog 98 (lent [(.agg (d_TCell a1)), (.ptr (d_TShard a2)), (.ptr (d_THeld a3))]) true [(.bool r)] := by
 refine f98 (fle rfl) ?_
 rw [init_mk]
 refine AW.weaken (wk_mk [] (kv 0 (.agg [(dI a1.Key), (dI a1.Value)]) rfl rfl (SL.cons (v := (.one (.ptr (.bd (d_TShard a2) 0)))) (eS rfl eZ) rfl (VWk.one CWk.ptr) (SL.cons (v := (.one (.ptr (.bd (d_THeld a3) 0)))) (eS rfl (eS rfl eZ)) rfl (VWk.one CWk.ptr) SL.nil))) BL.nil BK.nil) ?_
 unfold m_impl_heldsOk_1 at H
 unfold i98
 refine aV (oBox (n := 192) (m := 2) (cs := [(dI a1.Key), (dI a1.Value)]) rfl eZ rfl rfl nZ (oMov eC (xQ (aS (AW.regd (oFaddrB (m := 4) (eR rfl) rfl (oLoadB (e := (.sl 4 (List.map d_TLock a2.Locks))) eZ rfl (oFaddrB (m := 0) (eR rfl) rfl (oLoadB (e := (.int .i64 a3.Tx)) eZ rfl (oFaddrN (m := 0) (eR rfl) rfl (oLoadV (q := 0) (c := (dI a1.Key)) eZ bZ rfl rfl ?_)))))))))))
 obtain ⟨v4, h5, H⟩ := obind H
 refine oCall (u := (.agg [(dI v4.Lo), (dI v4.Hi)])) eC Cl.fn (c_impl_one h5) (Evs.cons eZ Evs.nil) (VDs.cons VD.plain VDs.nil) rfl ?_
 obtain ⟨v6, h7, H⟩ := obind H
 refine oCall (u := (oB v6)) eC Cl.fn (c_impl_LocksHold h7) (Evs.cons (eR rfl) (Evs.cons (eR rfl) (Evs.cons eZ (Evs.cons eC Evs.nil)))) (VDs.cons VD.plain (VDs.cons VD.plain (VDs.cons (VD.agg rfl) (VDs.cons VD.plain VDs.nil)))) rfl (oInv eZ (oMov eZ (xQ (AW.ret ?_))))
 cases H
 exact eE rfl rfl
theorem c_slices_IndexFunc_Write__heldsOk_1 {a1 : (List TCell)} {a2 : TShard} {a3 : THeld} {r : Int} (H : m_slices_IndexFunc_Write__heldsOk_1 a1 a2 a3 = some r) : Fn Tryz.prog 120 (lent [(.sl 2 (List.map d_TCell a1)), (.fn 98 [.ptr (d_TShard a2), .ptr (d_THeld a3)])]) true [(.int .i64 r)] := by
 refine f120 (fle rfl) ?_
 rw [init_mk]
 refine AW.weaken (wk_mk [] (kv 0 (.one (.d (.sl 2 (List.map d_TCell a1)))) rfl rfl (SL.cons (v := (.one (.fn 98 [(.bd (d_TShard a2) 0), (.bd (d_THeld a3) 0)]))) (eS rfl eZ) rfl (VWk.one (CWk.fn (css := [d_TShard a2, d_THeld a3]))) SL.nil)) BL.nil BK.nil) ?_
 unfold m_slices_IndexFunc_Write__heldsOk_1 at H
 unfold i120
 refine aV (oMov eC (xQ (AW.seqJ (fun t4 : Unit => slices_IndexFunc_Write__heldsOk_1_j4 t4 = some r) (fun t4 => mk [] [] noG) ?_ ?_)))
 ·intro t4 H
  unfold slices_IndexFunc_Write__heldsOk_1_j4 at H
  refine aV (oMov eC (xQ (AW.ret ?_)))
  cases H
  exact eE rfl rfl
 ·refine aV (oMov (eR rfl) (oLenD eZ (n := a1.length) (List.length_map _) (oMov eC (xQ (AW.block (AW.iter (fun s6 : Int => mk [(0, (.one (.d (.sl 2 (List.map d_TCell a1))))), (1, (.one (.fn 98 [(.bd (d_TShard a2) 0), (.bd (d_THeld a3) 0)]))), (7, (oI (a1.length : Int))), (8, (oI s6))] [] noG) H (wk_mk [] (kR rfl rfl (kR rfl rfl (kR rfl rfl (kR rfl rfl SL.nil)))) BL.nil BK.nil) ?_))))))
  intro kb7 s6 H
  unfold slices_IndexFunc_Write__heldsOk_1_b6 at H
  refine aV (oLss (eR rfl) (eR rfl) (xQ (aS ?_)))
  rcases oite H with ⟨h8, H⟩ | ⟨h8, H⟩
  ·refine AW.condT eZ (dT h8) (AW.skip (TQ.qn (aS (AW.block (aV (oMov (eR rfl) (oMov eZ (xQ (aV (oMov (eR rfl) (oMov (eR rfl) (oMov (eR rfl) ?_))))))))))))
   obtain ⟨v9, h10, H⟩ := obind H
   refine oAtD (eR rfl) eZ h10 (oLoadBA (es := [(dI v9.Key), (dI v9.Value)]) eZ rfl ?_)
   obtain ⟨v11, h12, H⟩ := obind H
   refine oCall (u := (oB v11)) (eR rfl) Cl.fn (c_impl_heldsOk_1 h12) (Evs.cons eZ Evs.nil) (VDs.cons (VD.agg rfl) (VDs.cons VD.ptrB (VDs.cons VD.ptrB VDs.nil))) rfl (xQ ?_)
   rcases oite H with ⟨h13, H⟩ | ⟨h13, H⟩
   ·refine AW.condT eZ h13 (aV (oMov (eR rfl) (oMov eZ (xQ (AW.ret (BQ.qr (TQ.qr (TQ.qr (BQ.qr (TQ.qr ?_))))))))))
    cases H
    exact eE rfl rfl
   ·exact AW.condF eZ (nt h13) (AW.skip (BQ.qn (TQ.qn (aR (oAdd (eR rfl) eC (oMov eZ (xNil (TQ.qn ⟨(IntKind.wrap .i64 (s6 + 1)), H, (wk_mk [] (kR rfl rfl (kR rfl rfl (kR rfl rfl (kR rfl rfl SL.nil)))) BL.nil BK.nil)⟩))))))))
  ·exact AW.condF eZ (dF h8) (AW.exit (TQ.qe (TQ.qe (BQ.qe (TQ.qn ⟨(), H, (wk_mk [] SL.nil BL.nil BK.nil)⟩)))))
theorem c_slices_ContainsFunc_Write__heldsOk_1 {a1 : (List TCell)} {a2 : TShard} {a3 : THeld} {r : Bool} (H : m_slices_ContainsFunc_Write__heldsOk_1 a1 a2 a3 = some r) : Fn Tryz.prog 97 (lent [(.sl 2 (List.map d_TCell a1)), (.fn 98 [.ptr (d_TShard a2), .ptr (d_THeld a3)])]) true [(.bool r)] := by
 refine f97 (fle rfl) ?_
 rw [init_mk]
 refine AW.weaken (wk_mk [] (kv 0 (.one (.d (.sl 2 (List.map d_TCell a1)))) rfl rfl (SL.cons (v := (.one (.fn 98 [(.bd (d_TShard a2) 0), (.bd (d_THeld a3) 0)]))) (eS rfl eZ) rfl (VWk.one (CWk.fn (css := [d_TShard a2, d_THeld a3]))) SL.nil)) BL.nil BK.nil) ?_
 unfold m_slices_ContainsFunc_Write__heldsOk_1 at H
 unfold i97
 refine aV (oMov eC (xQ (aV (oMov (eR rfl) (oMov (eR rfl) ?_)))))
 obtain ⟨v4, h5, H⟩ := obind H
 refine oCall (u := (oI v4)) eC Cl.fn (c_slices_IndexFunc_Write__heldsOk_1 h5) (Evs.cons (eR rfl) (Evs.cons eZ Evs.nil)) (VDs.cons VD.plain (VDs.cons (VD.fn (PDs.cons VD.ptrB (PDs.cons VD.ptrB PDs.nil))) VDs.nil)) rfl (oGeq eZ eC (oMov eZ (xQ (AW.ret ?_))))
 cases H
 exact eE rfl rfl
theorem c_impl_txsOf {a1 : (List THeld)} {r : (List Int)} (H : m_impl_txsOf a1 = some r) : Fn Tryz.prog 55 (lent [(.sl 2 (List.map d_THeld a1))]) true [(.sl 1 (List.map d_i64 r))] := by
 refine f55 (fle rfl) ?_
 rw [init_mk]
 refine AW.weaken (t := mk [(0, (.one (.d (.sl 2 (List.map d_THeld a1)))))] [] (lk [])) (wk_mk [] (kv 0 (.one (.d (.sl 2 (List.map d_THeld a1)))) rfl rfl SL.nil) BL.nil BK.nil) ?_
 unfold m_impl_txsOf at H
 unfold i55
 refine aV (oMov eC (xQ (aV (oBsliceZ (m := 384) rfl nZ (oMov eZ (xQ (AW.seqJ (fun t2 : (List Int) => impl_txsOf_j2 t2 = some r) (fun t2 => mk [(3, (.one (.sl 320128 0 t2.length)))] [(320128, (.data 1 (List.map d_i64 t2) true none))] (lk [])) ?_ ?_)))))))
 ·intro t2 H
  unfold impl_txsOf_j2 at H
  refine aV (oMov eZ (oMov eZ (xQ (AW.ret ?_))))
  cases H
  exact endsR (RL.cons (RV.tmp eZ) (VO.sl bZ (List.length_map _) (allFlat fun _ => rfl)) RL.nil) (by decide)
 ·refine aV (oMov (eR rfl) (oLenD eZ (n := a1.length) (List.length_map _) (oMov eC (xQ (AW.block (AW.iter (fun s4 : ((List Int) × Int) => mk [(3, (.one (.sl 320192 0 s4.1.length))), (7, (.one (.d (.sl 2 (List.map d_THeld a1))))), (8, (oI (a1.length : Int))), (9, (oI s4.2))] [(320192, (.data 1 (List.map d_i64 s4.1) true none))] (lk [])) H ((wk_mkG [] (SL.cons eZ rfl (VWk.one (CWk.len (by first | (simp; done) | (simp; omega) | omega | (simp only [List.length_map]; omega)))) (kR rfl rfl (kR rfl rfl (kR rfl rfl SL.nil)))) (BL.keep rfl BL.nil) (BK.cons rfl bZ rfl rfl BK.nil) GK.nil).trans (wk_zs0 320192 1 3 true (eR rfl) nZ)) ?_))))))
  intro kb5 s4 H
  unfold impl_txsOf_b4 at H
  refine aV (oLss (eR rfl) (eR rfl) (xQ (aS ?_)))
  rcases oite H with ⟨h6, H⟩ | ⟨h6, H⟩
  ·refine AW.condT eZ (dT h6) (AW.skip (TQ.qn (aS (AW.block (aS (AW.regm (rmOne ?_)))))))
   obtain ⟨v7, h8, H⟩ := obind H
   refine oAtD (eR rfl) (eR rfl) h8 (xNil (rmOne (oLoadBA (es := [(dI v7.Tx), (.d (.sl 2 (List.map d_TCell v7.Writes)))]) eZ rfl (xNil (rmOne (oVar (n := 320) (m := 2) rfl rfl (nS rfl nZ) (xNil (rmOne (oStoreV (es := [(dI v7.Tx), (.d (.sl 2 (List.map d_TCell v7.Writes)))]) eZ (eR rfl) rfl rfl bZ rfl (xNil (rmRest (xQ (aR (oMov (eR rfl) (oFaddrN (m := 0) (eR rfl) rfl (oLoadV (q := 0) (c := (dI v7.Tx)) eZ bZ rfl rfl (oBslice (m := 1024) (q := 1) (cs := [(dI v7.Tx)]) rfl (PsCons eZ PsNil) rfl (List.cons_ne_nil _ _) (by simp) (nS rfl (nS rfl (nS rfl nZ))) ?_)))))))))))))))))
   obtain ⟨h9, H⟩ := oguard H
   exact oAppNG (f := d_i64) (xs := s4.1) (ys := [v7.Tx]) (q := (s4.1 ++ ([v7.Tx])).length) (eR rfl) eZ (bS rfl (bS rfl (bS rfl bZ))) rfl (El.one (f := d_i64) (t := v7.Tx) (es := [(.int .i64 v7.Tx)]) bZ rfl rfl rfl) rfl h9 (by decide) (by decide) (erL.cons (v' := (.one (.sl 1024 0 1))) rfl (erL.cons (v' := (oI v7.Tx)) rfl (erL.cons (v' := (.one (.ptr (.nm 320 0 0)))) rfl (erL.cons (v' := (.one .any)) rfl (erL.cons (v' := (.one (.ptr (.nm 320 0 0)))) rfl (erL.cons (v' := (.agg [(dI v7.Tx), (.d (.sl 2 (List.map d_TCell v7.Writes)))])) rfl (erL.cons (v' := (.one (.ptr (.bd (d_THeld v7) 0)))) rfl (erL.cons (v' := (oB (decide (s4.2 < (a1.length : Int))))) rfl (erL.cons (v' := (.one .any)) rfl (erL.cons (v' := (.one (.d (.sl 2 (List.map d_THeld a1))))) rfl (erL.cons (v' := (oI (a1.length : Int))) rfl (erL.cons (v' := (oI s4.2)) rfl erL.nil)))))))))))) (erH.cons (v' := (.vars 1 [(dI v7.Tx)])) rfl rfl (erH.cons (v' := (.vars 2 [(dI v7.Tx), (.d (.sl 2 (List.map d_TCell v7.Writes)))])) rfl rfl (erH.cons (v' := (.vars 2 [(dI 0), .zs])) rfl rfl (erH.drop rfl erH.nil)))) GK.nil (oMov eZ (xNil (BQ.qn (TQ.qn (aR (oAdd (eR rfl) eC (oMov eZ (xNil (TQ.qn ⟨((s4.1 ++ ([v7.Tx])), (IntKind.wrap .i64 (s4.2 + 1))), H, (wk_mkG [1024, 320] (kR rfl rfl (kR rfl rfl (kR rfl rfl (kR rfl rfl SL.nil)))) (BL.keep rfl (BL.drop rfl (BL.drop rfl (BL.drop rfl BL.nil)))) (BK.cons rfl bZ rfl rfl BK.nil) GK.nil)⟩)))))))))
  ·exact AW.condF eZ (dF h6) (AW.exit (TQ.qe (TQ.qe (BQ.qe (TQ.qn ⟨s4.1, H, ((wk_mkG [] (kR rfl rfl SL.nil) (BL.keep rfl BL.nil) (BK.cons rfl bZ rfl rfl BK.nil) GK.nil).trans (wk_renG 320192 320128 rfl rfl (nS rfl nZ) GR.nil))⟩)))))
theorem c_impl_ascending {a1 : (List Int)} {r : Bool} (H : m_impl_ascending a1 = some r) : Fn Tryz.prog 42 (lent [(.sl 1 (List.map d_i64 a1))]) true [(.bool r)] := by
 refine f42 (fle rfl) ?_
 rw [init_mk]
 refine AW.weaken (wk_mk [] (kv 0 (.one (.d (.sl 1 (List.map d_i64 a1)))) rfl rfl SL.nil) BL.nil BK.nil) ?_
 unfold m_impl_ascending at H
 unfold i42
 refine aV (oMov eC (xQ (AW.seqJ (fun t2 : Unit => impl_ascending_j2 t2 = some r) (fun t2 => mk [] [] noG) ?_ ?_)))
 ·intro t2 H
  unfold impl_ascending_j2 at H
  refine aV (oMov eC (xQ (AW.ret ?_)))
  cases H
  exact eE rfl rfl
 ·refine aV (oMov (eR rfl) (oLenD eZ (n := a1.length) (List.length_map _) (oMov eC (xQ (AW.block (AW.iter (fun s4 : Int => mk [(0, (.one (.d (.sl 1 (List.map d_i64 a1))))), (5, (.one (.d (.sl 1 (List.map d_i64 a1))))), (6, (oI (a1.length : Int))), (7, (oI s4))] [] noG) H (wk_mk [] (kR rfl rfl (kR rfl rfl (kR rfl rfl (kR rfl rfl SL.nil)))) BL.nil BK.nil) ?_))))))
  intro kb5 s4 H
  unfold impl_ascending_b4 at H
  refine aV (oLss (eR rfl) (eR rfl) (xQ (aS ?_)))
  rcases oite H with ⟨h6, H⟩ | ⟨h6, H⟩
  ·refine AW.condT eZ (dT h6) (AW.skip (TQ.qn (aS (AW.block (aV (oMov (eR rfl) ?_))))))
   obtain ⟨v7, h8, H⟩ := obind H
   refine oAtD (eR rfl) (eR rfl) h8 (oLoadB (e := (.int .i64 v7)) eZ rfl (oMov (eR rfl) (oMov (eR rfl) (xQ (AW.seqJ (fun t9 : Bool => (impl_ascending_j9 kb5 s4) t9 = some r) (fun t9 => mk [(0, (.one (.d (.sl 1 (List.map d_i64 a1))))), (5, (.one (.d (.sl 1 (List.map d_i64 a1))))), (6, (oI (a1.length : Int))), (7, (oI s4)), (27, (oB t9))] [] noG) ?_ ?_)))))
   ·intro t9 H
    unfold impl_ascending_j9 at H
    rcases oite H with ⟨h11, H⟩ | ⟨h11, H⟩
    ·refine AW.condT (eR rfl) h11 (aV (oMov eC (xQ (AW.ret (BQ.qr (TQ.qr (TQ.qr (BQ.qr (TQ.qr ?_)))))))))
     cases H
     exact eE rfl rfl
    ·exact AW.condF (eR rfl) (nt h11) (AW.skip (BQ.qn (TQ.qn (aR (oAdd (eR rfl) eC (oMov eZ (xNil (TQ.qn ⟨(IntKind.wrap .i64 (s4 + 1)), H, (wk_mk [] (kR rfl rfl (kR rfl rfl (kR rfl rfl (kR rfl rfl SL.nil)))) BL.nil BK.nil)⟩))))))))
   ·refine aR (oMov eZ ?_)
    obtain ⟨v12, h13, H⟩ := obind H
    refine oCall (u := (oB v12)) eC Cl.fn (c_impl_isTx h13) (Evs.cons eZ Evs.nil) (VDs.cons VD.plain VDs.nil) rfl (oInv eZ (oMov eZ ?_))
    rcases oite H with ⟨h14, H⟩ | ⟨h14, H⟩
    ·refine gDo eZ (cN h14) (oMov (eR rfl) (gDo (eR rfl) (cN h14) (oGtr eZ eC (gDo (eR rfl) (cN h14) (oMov eZ ?_)))))
     rcases oite H with ⟨h15, H⟩ | ⟨h15, H⟩
     ·refine gDo eZ (dT h15) (oMov (eR rfl) (gDo (eR rfl) (dT h15) (oMov (eR rfl) (gDo (eR rfl) (dT h15) (oSub eZ eC (gDo (eR rfl) (dT h15) ?_))))))
      obtain ⟨v16, h17, H⟩ := obind H
      exact oAtD (eR rfl) eZ h17 (gDo (eR rfl) (dT h15) (oLoadB (e := (.int .i64 v16)) eZ rfl (gDo (eR rfl) (dT h15) (oMov (eR rfl) (gDo (eR rfl) (dT h15) (oGeq (eR rfl) eZ (gDo (eR rfl) (cN h14) (oPickT (eR rfl) (dT h15) eZ (oPickF (eR rfl) (cN h14) eZ (xNil (TQ.qn ⟨(decide (v7 ≤ v16)), H, (wk_mk [] (kR rfl rfl (kR rfl rfl (kR rfl rfl (kR rfl rfl (kR rfl rfl SL.nil))))) BL.nil BK.nil)⟩)))))))))))
     ·exact gSkip eZ (dF h15) rfl (gSkip (eR rfl) (dF h15) rfl (gSkip (eR rfl) (dF h15) rfl (gSkip (eR rfl) (dF h15) rfl (gSkip (eR rfl) (dF h15) rfl (gSkip (eR rfl) (dF h15) rfl (gSkip (eR rfl) (dF h15) rfl (gDo (eR rfl) (cN h14) (oPickF (eR rfl) (dF h15) eC (oPickF (eR rfl) (cN h14) eZ (xNil (TQ.qn ⟨false, H, (wk_mk [] (kR rfl rfl (kR rfl rfl (kR rfl rfl (kR rfl rfl (kR rfl rfl SL.nil))))) BL.nil BK.nil)⟩)))))))))))
    ·exact gSkip eZ (cN (nt h14)) rfl (gSkip (eR rfl) (cN (nt h14)) rfl (gSkip (eR rfl) (cN (nt h14)) rfl (gSkipU eZ rfl (gSkipU (eR rfl) rfl (gSkipU (eR rfl) rfl (gSkipU (eR rfl) rfl (gSkipU (eR rfl) rfl (gSkipU (eR rfl) rfl (gSkipU (eR rfl) rfl (gSkip (eR rfl) (cN (nt h14)) rfl (oPickT (eR rfl) (cN (nt h14)) eC (xNil (TQ.qn ⟨true, H, (wk_mk [] (kR rfl rfl (kR rfl rfl (kR rfl rfl (kR rfl rfl (kR rfl rfl SL.nil))))) BL.nil BK.nil)⟩)))))))))))))
  ·exact AW.condF eZ (dF h6) (AW.exit (TQ.qe (TQ.qe (BQ.qe (TQ.qn ⟨(), H, (wk_mk [] SL.nil BL.nil BK.nil)⟩)))))
theorem c_impl_heldsOk {a1 : TShard} {r : Bool} (H : m_impl_heldsOk a1 = some r) : Fn Tryz.prog 41 (lent [(.agg (d_TShard a1))]) true [(.bool r)] := by
 refine f41 (fle rfl) ?_
 rw [init_mk]
 refine AW.weaken (t := mk [(0, (.agg [(dI a1.Me), (.d (.sl 2 (List.map d_TRange a1.Own))), (.d (.sl 2 (List.map d_TRange a1.Frozen))), (.d (.sl 2 (List.map d_TCell a1.Cells))), (.d (.sl 4 (List.map d_TLock a1.Locks))), (.d (.sl 2 (List.map d_THeld a1.Helds))), (.d (.sl 1 (List.map d_i64 a1.Wounded))), (.d (.sl 1 (List.map d_i64 a1.Ended))), (dI a1.Rank)]))] [] (lk [])) (wk_mk [] (kv 0 (.agg [(dI a1.Me), (.d (.sl 2 (List.map d_TRange a1.Own))), (.d (.sl 2 (List.map d_TRange a1.Frozen))), (.d (.sl 2 (List.map d_TCell a1.Cells))), (.d (.sl 4 (List.map d_TLock a1.Locks))), (.d (.sl 2 (List.map d_THeld a1.Helds))), (.d (.sl 1 (List.map d_i64 a1.Wounded))), (.d (.sl 1 (List.map d_i64 a1.Ended))), (dI a1.Rank)]) rfl rfl SL.nil) BL.nil BK.nil) ?_
 unfold m_impl_heldsOk at H
 unfold i41
 refine aV (oBox (n := 64) (m := 9) (cs := [(dI a1.Me), (.d (.sl 2 (List.map d_TRange a1.Own))), (.d (.sl 2 (List.map d_TRange a1.Frozen))), (.d (.sl 2 (List.map d_TCell a1.Cells))), (.d (.sl 4 (List.map d_TLock a1.Locks))), (.d (.sl 2 (List.map d_THeld a1.Helds))), (.d (.sl 1 (List.map d_i64 a1.Wounded))), (.d (.sl 1 (List.map d_i64 a1.Ended))), (dI a1.Rank)]) rfl eZ rfl rfl nZ (oMov eC (xQ (AW.seqJ (fun t2 : Unit => (impl_heldsOk_j2 a1) t2 = some r) (fun t2 => mk [(1, (.one (.ptr (.nm 64 0 0))))] [(64, (.vars 9 [(dI a1.Me), (.d (.sl 2 (List.map d_TRange a1.Own))), (.d (.sl 2 (List.map d_TRange a1.Frozen))), (.d (.sl 2 (List.map d_TCell a1.Cells))), (.d (.sl 4 (List.map d_TLock a1.Locks))), (.d (.sl 2 (List.map d_THeld a1.Helds))), (.d (.sl 1 (List.map d_i64 a1.Wounded))), (.d (.sl 1 (List.map d_i64 a1.Ended))), (dI a1.Rank)]))] (lk [])) ?_ ?_))))
 ·intro t2 H
  unfold impl_heldsOk_j2 at H
  refine aV (oFaddrN (m := 5) eZ rfl (oLoadV (q := 5) (c := (.d (.sl 2 (List.map d_THeld a1.Helds)))) eZ bZ rfl rfl ?_))
  obtain ⟨v4, h5, H⟩ := obind H
  refine oCall (u := (.one (.d (.sl 1 (List.map d_i64 v4))))) eC Cl.fn (c_impl_txsOf h5) (Evs.cons eZ Evs.nil) (VDs.cons VD.plain VDs.nil) rfl ?_
  obtain ⟨v6, h7, H⟩ := obind H
  refine oCall (u := (oB v6)) eC Cl.fn (c_impl_ascending h7) (Evs.cons eZ Evs.nil) (VDs.cons VD.plain VDs.nil) rfl (oMov eZ (xQ (AW.ret ?_)))
  cases H
  exact eE rfl rfl
 ·refine aV (oFaddrN (m := 5) (eR rfl) rfl (oLoadV (q := 5) (c := (.d (.sl 2 (List.map d_THeld a1.Helds)))) eZ bZ rfl rfl (oLenD eZ (n := a1.Helds.length) (List.length_map _) (oMov eC (xQ (AW.block (AW.iter (fun s8 : Int => mk [(1, (.one (.ptr (.nm 64 0 0)))), (6, (.one (.d (.sl 2 (List.map d_THeld a1.Helds))))), (7, (oI (a1.Helds.length : Int))), (8, (oI s8))] [(64, (.vars 9 [(dI a1.Me), (.d (.sl 2 (List.map d_TRange a1.Own))), (.d (.sl 2 (List.map d_TRange a1.Frozen))), (.d (.sl 2 (List.map d_TCell a1.Cells))), (.d (.sl 4 (List.map d_TLock a1.Locks))), (.d (.sl 2 (List.map d_THeld a1.Helds))), (.d (.sl 1 (List.map d_i64 a1.Wounded))), (.d (.sl 1 (List.map d_i64 a1.Ended))), (dI a1.Rank)]))] (lk [])) H (wk_mkG [] (kR rfl rfl (kR rfl rfl (kR rfl rfl (kR rfl rfl SL.nil)))) (BL.keep rfl BL.nil) (BK.cons rfl bZ rfl rfl BK.nil) GK.nil) ?_)))))))
  intro kb9 s8 H
  unfold impl_heldsOk_b8 at H
  refine aV (oLss (eR rfl) (eR rfl) (xQ (aS ?_)))
  rcases oite H with ⟨h10, H⟩ | ⟨h10, H⟩
  ·refine AW.condT eZ (dT h10) (AW.skip (TQ.qn (aS (AW.block (aS (AW.regm (rmOne ?_)))))))
   obtain ⟨v11, h12, H⟩ := obind H
   refine oAtD (eR rfl) (eR rfl) h12 (xNil (rmOne (oLoadBA (es := [(dI v11.Tx), (.d (.sl 2 (List.map d_TCell v11.Writes)))]) eZ rfl (xNil (rmOne (oVar (n := 256) (m := 2) rfl rfl (nS rfl nZ) (xNil (rmOne (oStoreV (es := [(dI v11.Tx), (.d (.sl 2 (List.map d_TCell v11.Writes)))]) eZ (eR rfl) rfl rfl bZ rfl (xNil (rmRest (xQ (AW.seqJ (fun t13 : Bool => (impl_heldsOk_j13 kb9 s8) t13 = some r) (fun t13 => mk [(1, (.one (.ptr (.nm 64 0 0)))), (6, (.one (.d (.sl 2 (List.map d_THeld a1.Helds))))), (7, (oI (a1.Helds.length : Int))), (8, (oI s8)), (21, (oB t13))] [(64, (.vars 9 [(dI a1.Me), (.d (.sl 2 (List.map d_TRange a1.Own))), (.d (.sl 2 (List.map d_TRange a1.Frozen))), (.d (.sl 2 (List.map d_TCell a1.Cells))), (.d (.sl 4 (List.map d_TLock a1.Locks))), (.d (.sl 2 (List.map d_THeld a1.Helds))), (.d (.sl 1 (List.map d_i64 a1.Wounded))), (.d (.sl 1 (List.map d_i64 a1.Ended))), (dI a1.Rank)]))] (lk [])) ?_ ?_)))))))))))))
   ·intro t13 H
    unfold impl_heldsOk_j13 at H
    rcases oite H with ⟨h15, H⟩ | ⟨h15, H⟩
    ·refine AW.condT (eR rfl) h15 (aV (oMov eC (xQ (AW.ret (BQ.qr (TQ.qr (TQ.qr (BQ.qr (TQ.qr ?_)))))))))
     cases H
     exact eE rfl rfl
    ·exact AW.condF (eR rfl) (nt h15) (AW.skip (BQ.qn (TQ.qn (aR (oAdd (eR rfl) eC (oMov eZ (xNil (TQ.qn ⟨(IntKind.wrap .i64 (s8 + 1)), H, (wk_mkG [] (kR rfl rfl (kR rfl rfl (kR rfl rfl (kR rfl rfl SL.nil)))) (BL.keep rfl BL.nil) (BK.cons rfl bZ rfl rfl BK.nil) GK.nil)⟩))))))))
   ·refine aR (oFaddrN (m := 1) eZ rfl (oLoadV (q := 1) (c := (.d (.sl 2 (List.map d_TCell v11.Writes)))) eZ bZ rfl rfl ?_))
    obtain ⟨v16, h17, H⟩ := obind H
    refine oCall (u := (oB v16)) eC Cl.fn (c_impl_WritesOk h17) (Evs.cons eZ Evs.nil) (VDs.cons VD.plain VDs.nil) rfl (oInv eZ (oMov eZ ?_))
    rcases oite H with ⟨h18, H⟩ | ⟨h18, H⟩
    ·refine gDo eZ (cN h18) (oFaddrN (m := 1) (eR rfl) rfl (gDo (eR rfl) (cN h18) (oLoadV (q := 1) (c := (.d (.sl 2 (List.map d_TCell v11.Writes)))) eZ bZ rfl rfl (gDo (eR rfl) (cN h18) (oMkfn (ps := [(.nm 64 0 0), (.nm 256 0 0)]) (Evs.cons (eR rfl) (Evs.cons (eR rfl) Evs.nil)) (gDo (eR rfl) (cN h18) ?_))))))
     obtain ⟨v19, h20, H⟩ := obind H
     exact oCall (u := (oB v19)) eC Cl.fn (c_slices_ContainsFunc_Write__heldsOk_1 h20) (Evs.cons (eR rfl) (Evs.cons eZ Evs.nil)) (VDs.cons VD.plain (VDs.cons (VD.fn (PDs.cons (VD.ptrN (bS rfl (bS rfl bZ)) (CDs.plain (CDs.plain (CDs.plain (CDs.plain (CDs.plain (CDs.plain (CDs.plain (CDs.plain (CDs.plain CDs.nil)))))))))) (PDs.cons (VD.ptrN bZ (CDs.plain (CDs.plain CDs.nil))) PDs.nil))) VDs.nil)) rfl (oPickF (eR rfl) (cN h18) eZ (xNil (TQ.qn ⟨v19, H, (wk_mkG [256] (kR rfl rfl (kR rfl rfl (kR rfl rfl (kR rfl rfl (kR rfl rfl SL.nil))))) (BL.drop rfl (BL.drop rfl (BL.keep rfl BL.nil))) (BK.cons rfl (bS rfl (bS rfl bZ)) rfl rfl BK.nil) GK.nil)⟩)))
    ·exact gSkip eZ (cN (nt h18)) rfl (gSkip (eR rfl) (cN (nt h18)) rfl (gSkip (eR rfl) (cN (nt h18)) rfl (gSkip (eR rfl) (cN (nt h18)) rfl (oPickT (eR rfl) (cN (nt h18)) eC (xNil (TQ.qn ⟨true, H, (wk_mkG [256] (kR rfl rfl (kR rfl rfl (kR rfl rfl (kR rfl rfl (kR rfl rfl SL.nil))))) (BL.drop rfl (BL.drop rfl (BL.keep rfl BL.nil))) (BK.cons rfl (bS rfl (bS rfl bZ)) rfl rfl BK.nil) GK.nil)⟩))))))
  ·exact AW.condF eZ (dF h10) (AW.exit (TQ.qe (TQ.qe (BQ.qe (TQ.qn ⟨(), H, (wk_mkG [] (kR rfl rfl SL.nil) (BL.keep rfl BL.nil) (BK.cons rfl bZ rfl rfl BK.nil) GK.nil)⟩)))))
theorem c_impl_haveAll {a1 : (List TRange)} {a2 : TRange} {r : Bool} (H : m_impl_haveAll a1 a2 = some r) : Fn Tryz.prog 46 (lent [(.sl 2 (List.map d_TRange a1)), (.agg (d_TRange a2))]) true [(.bool r)] := by
 refine f46 (fle rfl) ?_
 rw [init_mk]
 refine AW.weaken (wk_mk [] (kv 0 (.one (.d (.sl 2 (List.map d_TRange a1)))) rfl rfl (kv 1 (.agg [(dI a2.Lo), (dI a2.Hi)]) rfl rfl SL.nil)) BL.nil BK.nil) ?_
 unfold m_impl_haveAll at H
 unfold i46
 refine aV (oBox (n := 192) (m := 2) (cs := [(dI a2.Lo), (dI a2.Hi)]) rfl (eR rfl) rfl rfl nZ (oMov eC (xQ (aV (oFaddrN (m := 0) (eR rfl) rfl (oLoadV (q := 0) (c := (dI a2.Lo)) eZ bZ rfl rfl (oMov eZ (xQ (AW.seqJ (fun t3 : Int => (impl_haveAll_j3 a2) t3 = some r) (fun t3 => mk [(3, (.one (.ptr (.nm 192 0 0)))), (5, (oI t3))] [(192, (.vars 2 [(dI a2.Lo), (dI a2.Hi)]))] noG) ?_ ?_)))))))))
 ·intro t3 H
  unfold impl_haveAll_j3 at H
  refine aV (oMov (eR rfl) (oFaddrN (m := 1) (eR rfl) rfl (oLoadV (q := 1) (c := (dI a2.Hi)) eZ bZ rfl rfl (oGeq (eR rfl) eZ (oMov eZ (xQ (AW.ret ?_)))))))
  cases H
  exact eE rfl rfl
 ·refine aV (oMov (eR rfl) (oLenD eZ (n := a1.length) (List.length_map _) (oMov eC (xQ (AW.block (AW.iter (fun s5 : (Int × Int) => mk [(3, (.one (.ptr (.nm 192 0 0)))), (5, (oI s5.1)), (10, (.one (.d (.sl 2 (List.map d_TRange a1))))), (11, (oI (a1.length : Int))), (12, (oI s5.2))] [(192, (.vars 2 [(dI a2.Lo), (dI a2.Hi)]))] noG) H (wk_mk [] (kR rfl rfl (kR rfl rfl (kR rfl rfl (kR rfl rfl (kR rfl rfl SL.nil))))) (BL.keep rfl BL.nil) (BK.cons rfl bZ rfl rfl BK.nil)) ?_))))))
  intro kb6 s5 H
  unfold impl_haveAll_b5 at H
  refine aV (oLss (eR rfl) (eR rfl) (xQ (aS ?_)))
  rcases oite H with ⟨h7, H⟩ | ⟨h7, H⟩
  ·refine AW.condT eZ (dT h7) (AW.skip (TQ.qn (aS (AW.block (aV ?_)))))
   obtain ⟨v8, h9, H⟩ := obind H
   refine oAtD (eR rfl) (eR rfl) h9 (oLoadBA (es := [(dI v8.Lo), (dI v8.Hi)]) eZ rfl (oVar (n := 448) (m := 2) rfl rfl (nS rfl nZ) (oStoreV (es := [(dI v8.Lo), (dI v8.Hi)]) eZ (eR rfl) rfl rfl bZ rfl (xQ (AW.seqJ (fun t10 : Bool => (impl_haveAll_j10 kb6 v8 s5) t10 = some r) (fun t10 => mk [(3, (.one (.ptr (.nm 192 0 0)))), (5, (oI s5.1)), (7, (.one (.ptr (.nm 448 0 0)))), (10, (.one (.d (.sl 2 (List.map d_TRange a1))))), (11, (oI (a1.length : Int))), (12, (oI s5.2)), (25, (oB t10))] [(192, (.vars 2 [(dI a2.Lo), (dI a2.Hi)])), (448, (.vars 2 [(dI v8.Lo), (dI v8.Hi)]))] noG) ?_ ?_)))))
   ·intro t10 H
    unfold impl_haveAll_j10 at H
    rcases oite H with ⟨h12, H⟩ | ⟨h12, H⟩
    ·exact AW.condT (eR rfl) h12 (aR (oFaddrN (m := 1) (eR rfl) rfl (oLoadV (q := 1) (c := (dI v8.Hi)) eZ (bS rfl bZ) rfl rfl (oMov eZ (xNil (BQ.qn (TQ.qn (aR (oAdd (eR rfl) eC (oMov eZ (xNil (TQ.qn ⟨(v8.Hi, (IntKind.wrap .i64 (s5.2 + 1))), H, (wk_mk [448] (kR rfl rfl (kR rfl rfl (kR rfl rfl (kR rfl rfl (kR rfl rfl SL.nil))))) (BL.keep rfl (BL.drop rfl BL.nil)) (BK.cons rfl bZ rfl rfl BK.nil))⟩))))))))))))
    ·exact AW.condF (eR rfl) (nt h12) (AW.skip (BQ.qn (TQ.qn (aR (oAdd (eR rfl) eC (oMov eZ (xNil (TQ.qn ⟨(s5.1, (IntKind.wrap .i64 (s5.2 + 1))), H, (wk_mk [448] (kR rfl rfl (kR rfl rfl (kR rfl rfl (kR rfl rfl (kR rfl rfl SL.nil))))) (BL.keep rfl (BL.drop rfl BL.nil)) (BK.cons rfl bZ rfl rfl BK.nil))⟩))))))))
   ·refine aR (oFaddrN (m := 0) eZ rfl (oLoadV (q := 0) (c := (dI v8.Lo)) eZ bZ rfl rfl (oMov (eR rfl) (oLeq (eR rfl) eZ (oMov eZ ?_)))))
    rcases oite H with ⟨h13, H⟩ | ⟨h13, H⟩
    ·exact gDo eZ (dT h13) (oMov (eR rfl) (gDo (eR rfl) (dT h13) (oFaddrN (m := 1) (eR rfl) rfl (gDo (eR rfl) (dT h13) (oLoadV (q := 1) (c := (dI v8.Hi)) eZ bZ rfl rfl (gDo (eR rfl) (dT h13) (oLss (eR rfl) eZ (oPickT (eR rfl) (dT h13) eZ (xNil (TQ.qn ⟨(decide (s5.1 < v8.Hi)), H, (wk_mk [] (kR rfl rfl (kR rfl rfl (kR rfl rfl (kR rfl rfl (kR rfl rfl (kR rfl rfl (kR rfl rfl SL.nil))))))) (BL.keep rfl (BL.keep rfl (BL.keep rfl BL.nil))) (BK.cons rfl (bS rfl (bS rfl bZ)) rfl rfl (BK.cons rfl bZ rfl rfl BK.nil)))⟩))))))))))
    ·exact gSkip eZ (dF h13) rfl (gSkip (eR rfl) (dF h13) rfl (gSkip (eR rfl) (dF h13) rfl (gSkip (eR rfl) (dF h13) rfl (oPickF (eR rfl) (dF h13) eC (xNil (TQ.qn ⟨false, H, (wk_mk [] (kR rfl rfl (kR rfl rfl (kR rfl rfl (kR rfl rfl (kR rfl rfl (kR rfl rfl (kR rfl rfl SL.nil))))))) (BL.keep rfl (BL.keep rfl (BL.keep rfl BL.nil))) (BK.cons rfl (bS rfl (bS rfl bZ)) rfl rfl (BK.cons rfl bZ rfl rfl BK.nil)))⟩))))))
  ·exact AW.condF eZ (dF h7) (AW.exit (TQ.qe (TQ.qe (BQ.qe (TQ.qn ⟨s5.1, H, (wk_mk [] (kR rfl rfl (kR rfl rfl SL.nil)) (BL.keep rfl BL.nil) (BK.cons rfl bZ rfl rfl BK.nil))⟩)))))
theorem c_impl_ShardOk_1 {a1 : TRange} {a2 : TShard} {r : Bool} (H : m_impl_ShardOk_1 a1 a2 = some r) : Fn Tryz.prog 45 (lent [(.agg (d_TRange a1)), (.ptr (d_TShard a2))]) true [(.bool r)] := by
 refine f45 (fle rfl) ?_
 rw [init_mk]
 refine AW.weaken (wk_mk [] (kv 0 (.agg [(dI a1.Lo), (dI a1.Hi)]) rfl rfl (SL.cons (v := (.one (.ptr (.bd (d_TShard a2) 0)))) (eS rfl eZ) rfl (VWk.one CWk.ptr) SL.nil)) BL.nil BK.nil) ?_
 unfold m_impl_ShardOk_1 at H
 unfold i45
 refine aV (oBox (n := 128) (m := 2) (cs := [(dI a1.Lo), (dI a1.Hi)]) rfl eZ rfl rfl nZ (oMov eC (xQ (aV (oFaddrB (m := 1) (eR rfl) rfl (oLoadB (e := (.sl 2 (List.map d_TRange a2.Own))) eZ rfl (oLoadVA (es := [(dI a1.Lo), (dI a1.Hi)]) (eR rfl) bZ rfl ?_)))))))
 obtain ⟨v3, h4, H⟩ := obind H
 refine oCall (u := (oB v3)) eC Cl.fn (c_impl_haveAll h4) (Evs.cons (eR rfl) (Evs.cons eZ Evs.nil)) (VDs.cons VD.plain (VDs.cons (VD.agg rfl) VDs.nil)) rfl (oInv eZ (oMov eZ (xQ (AW.ret ?_))))
 cases H
 exact eE rfl rfl
theorem c_slices_IndexFunc_Range__ShardOk_1 {a1 : (List TRange)} {a2 : TShard} {r : Int} (H : m_slices_IndexFunc_Range__ShardOk_1 a1 a2 = some r) : Fn Tryz.prog 100 (lent [(.sl 2 (List.map d_TRange a1)), (.fn 45 [.ptr (d_TShard a2)])]) true [(.int .i64 r)] := by
 refine f100 (fle rfl) ?_
 rw [init_mk]
 refine AW.weaken (wk_mk [] (kv 0 (.one (.d (.sl 2 (List.map d_TRange a1)))) rfl rfl (SL.cons (v := (.one (.fn 45 [(.bd (d_TShard a2) 0)]))) (eS rfl eZ) rfl (VWk.one (CWk.fn (css := [d_TShard a2]))) SL.nil)) BL.nil BK.nil) ?_
 unfold m_slices_IndexFunc_Range__ShardOk_1 at H
 unfold i100
 refine aV (oMov eC (xQ (AW.seqJ (fun t3 : Unit => slices_IndexFunc_Range__ShardOk_1_j3 t3 = some r) (fun t3 => mk [] [] noG) ?_ ?_)))
 ·intro t3 H
  unfold slices_IndexFunc_Range__ShardOk_1_j3 at H
  refine aV (oMov eC (xQ (AW.ret ?_)))
  cases H
  exact eE rfl rfl
 ·refine aV (oMov (eR rfl) (oLenD eZ (n := a1.length) (List.length_map _) (oMov eC (xQ (AW.block (AW.iter (fun s5 : Int => mk [(0, (.one (.d (.sl 2 (List.map d_TRange a1))))), (1, (.one (.fn 45 [(.bd (d_TShard a2) 0)]))), (7, (oI (a1.length : Int))), (8, (oI s5))] [] noG) H (wk_mk [] (kR rfl rfl (kR rfl rfl (kR rfl rfl (kR rfl rfl SL.nil)))) BL.nil BK.nil) ?_))))))
  intro kb6 s5 H
  unfold slices_IndexFunc_Range__ShardOk_1_b5 at H
  refine aV (oLss (eR rfl) (eR rfl) (xQ (aS ?_)))
  rcases oite H with ⟨h7, H⟩ | ⟨h7, H⟩
  ·refine AW.condT eZ (dT h7) (AW.skip (TQ.qn (aS (AW.block (aV (oMov (eR rfl) (oMov eZ (xQ (aV (oMov (eR rfl) (oMov (eR rfl) (oMov (eR rfl) ?_))))))))))))
   obtain ⟨v8, h9, H⟩ := obind H
   refine oAtD (eR rfl) eZ h9 (oLoadBA (es := [(dI v8.Lo), (dI v8.Hi)]) eZ rfl ?_)
   obtain ⟨v10, h11, H⟩ := obind H
   refine oCall (u := (oB v10)) (eR rfl) Cl.fn (c_impl_ShardOk_1 h11) (Evs.cons eZ Evs.nil) (VDs.cons (VD.agg rfl) (VDs.cons VD.ptrB VDs.nil)) rfl (xQ ?_)
   rcases oite H with ⟨h12, H⟩ | ⟨h12, H⟩
   ·refine AW.condT eZ h12 (aV (oMov (eR rfl) (oMov eZ (xQ (AW.ret (BQ.qr (TQ.qr (TQ.qr (BQ.qr (TQ.qr ?_))))))))))
    cases H
    exact eE rfl rfl
   ·exact AW.condF eZ (nt h12) (AW.skip (BQ.qn (TQ.qn (aR (oAdd (eR rfl) eC (oMov eZ (xNil (TQ.qn ⟨(IntKind.wrap .i64 (s5 + 1)), H, (wk_mk [] (kR rfl rfl (kR rfl rfl (kR rfl rfl (kR rfl rfl SL.nil)))) BL.nil BK.nil)⟩))))))))
  ·exact AW.condF eZ (dF h7) (AW.exit (TQ.qe (TQ.qe (BQ.qe (TQ.qn ⟨(), H, (wk_mk [] SL.nil BL.nil BK.nil)⟩)))))
theorem c_slices_ContainsFunc_Range__ShardOk_1 {a1 : (List TRange)} {a2 : TShard} {r : Bool} (H : m_slices_ContainsFunc_Range__ShardOk_1 a1 a2 = some r) : Fn Tryz.prog 44 (lent [(.sl 2 (List.map d_TRange a1)), (.fn 45 [.ptr (d_TShard a2)])]) true [(.bool r)] := by
 refine f44 (fle rfl) ?_
 rw [init_mk]
 refine AW.weaken (wk_mk [] (kv 0 (.one (.d (.sl 2 (List.map d_TRange a1)))) rfl rfl (SL.cons (v := (.one (.fn 45 [(.bd (d_TShard a2) 0)]))) (eS rfl eZ) rfl (VWk.one (CWk.fn (css := [d_TShard a2]))) SL.nil)) BL.nil BK.nil) ?_
 unfold m_slices_ContainsFunc_Range__ShardOk_1 at H
 unfold i44
 refine aV (oMov eC (xQ (aV (oMov (eR rfl) (oMov (eR rfl) ?_)))))
 obtain ⟨v3, h4, H⟩ := obind H
 refine oCall (u := (oI v3)) eC Cl.fn (c_slices_IndexFunc_Range__ShardOk_1 h4) (Evs.cons (eR rfl) (Evs.cons eZ Evs.nil)) (VDs.cons VD.plain (VDs.cons (VD.fn (PDs.cons VD.ptrB PDs.nil)) VDs.nil)) rfl (oGeq eZ eC (oMov eZ (xQ (AW.ret ?_))))
 cases H
 exact eE rfl rfl
theorem c_impl_ShardOk_2 {a1 : TCell} {a2 : TShard} {r : Bool} (H : m_impl_ShardOk_2 a1 a2 = some r) : Fn Tryz.prog 48 (lent [(.agg (d_TCell a1)), (.ptr (d_TShard a2))]) true [(.bool r)] := by
 refine f48 (fle rfl) ?_
 rw [init_mk]
 refine AW.weaken (wk_mk [] (kv 0 (.agg [(dI a1.Key), (dI a1.Value)]) rfl rfl (SL.cons (v := (.one (.ptr (.bd (d_TShard a2) 0)))) (eS rfl eZ) rfl (VWk.one CWk.ptr) SL.nil)) BL.nil BK.nil) ?_
 unfold m_impl_ShardOk_2 at H
 unfold i48
 refine aV (oBox (n := 128) (m := 2) (cs := [(dI a1.Key), (dI a1.Value)]) rfl eZ rfl rfl nZ (oMov eC (xQ (aS (AW.regd (oFaddrB (m := 1) (eR rfl) rfl (oLoadB (e := (.sl 2 (List.map d_TRange a2.Own))) eZ rfl (oFaddrN (m := 0) (eR rfl) rfl (oLoadV (q := 0) (c := (dI a1.Key)) eZ bZ rfl rfl ?_)))))))))
 obtain ⟨v3, h4, H⟩ := obind H
 refine oCall (u := (.agg [(dI v3.Lo), (dI v3.Hi)])) eC Cl.fn (c_impl_one h4) (Evs.cons eZ Evs.nil) (VDs.cons VD.plain VDs.nil) rfl ?_
 obtain ⟨v5, h6, H⟩ := obind H
 refine oCall (u := (oB v5)) eC Cl.fn (c_impl_haveAll h6) (Evs.cons (eR rfl) (Evs.cons eZ Evs.nil)) (VDs.cons VD.plain (VDs.cons (VD.agg rfl) VDs.nil)) rfl (oInv eZ (oMov eZ (xQ (AW.ret ?_))))
 cases H
 exact eE rfl rfl
theorem c_slices_IndexFunc_Cell__ShardOk_2 {a1 : (List TCell)} {a2 : TShard} {r : Int} (H : m_slices_IndexFunc_Cell__ShardOk_2 a1 a2 = some r) : Fn Tryz.prog 101 (lent [(.sl 2 (List.map d_TCell a1)), (.fn 48 [.ptr (d_TShard a2)])]) true [(.int .i64 r)] := by
 refine f101 (fle rfl) ?_
 rw [init_mk]
 refine AW.weaken (wk_mk [] (kv 0 (.one (.d (.sl 2 (List.map d_TCell a1)))) rfl rfl (SL.cons (v := (.one (.fn 48 [(.bd (d_TShard a2) 0)]))) (eS rfl eZ) rfl (VWk.one (CWk.fn (css := [d_TShard a2]))) SL.nil)) BL.nil BK.nil) ?_
 unfold m_slices_IndexFunc_Cell__ShardOk_2 at H
 unfold i101
 refine aV (oMov eC (xQ (AW.seqJ (fun t3 : Unit => slices_IndexFunc_Cell__ShardOk_2_j3 t3 = some r) (fun t3 => mk [] [] noG) ?_ ?_)))
 ·intro t3 H
  unfold slices_IndexFunc_Cell__ShardOk_2_j3 at H
  refine aV (oMov eC (xQ (AW.ret ?_)))
  cases H
  exact eE rfl rfl
 ·refine aV (oMov (eR rfl) (oLenD eZ (n := a1.length) (List.length_map _) (oMov eC (xQ (AW.block (AW.iter (fun s5 : Int => mk [(0, (.one (.d (.sl 2 (List.map d_TCell a1))))), (1, (.one (.fn 48 [(.bd (d_TShard a2) 0)]))), (7, (oI (a1.length : Int))), (8, (oI s5))] [] noG) H (wk_mk [] (kR rfl rfl (kR rfl rfl (kR rfl rfl (kR rfl rfl SL.nil)))) BL.nil BK.nil) ?_))))))
  intro kb6 s5 H
  unfold slices_IndexFunc_Cell__ShardOk_2_b5 at H
  refine aV (oLss (eR rfl) (eR rfl) (xQ (aS ?_)))
  rcases oite H with ⟨h7, H⟩ | ⟨h7, H⟩
  ·refine AW.condT eZ (dT h7) (AW.skip (TQ.qn (aS (AW.block (aV (oMov (eR rfl) (oMov eZ (xQ (aV (oMov (eR rfl) (oMov (eR rfl) (oMov (eR rfl) ?_))))))))))))
   obtain ⟨v8, h9, H⟩ := obind H
   refine oAtD (eR rfl) eZ h9 (oLoadBA (es := [(dI v8.Key), (dI v8.Value)]) eZ rfl ?_)
   obtain ⟨v10, h11, H⟩ := obind H
   refine oCall (u := (oB v10)) (eR rfl) Cl.fn (c_impl_ShardOk_2 h11) (Evs.cons eZ Evs.nil) (VDs.cons (VD.agg rfl) (VDs.cons VD.ptrB VDs.nil)) rfl (xQ ?_)
   rcases oite H with ⟨h12, H⟩ | ⟨h12, H⟩
   ·refine AW.condT eZ h12 (aV (oMov (eR rfl) (oMov eZ (xQ (AW.ret (BQ.qr (TQ.qr (TQ.qr (BQ.qr (TQ.qr ?_))))))))))
    cases H
    exact eE rfl rfl
   ·exact AW.condF eZ (nt h12) (AW.skip (BQ.qn (TQ.qn (aR (oAdd (eR rfl) eC (oMov eZ (xNil (TQ.qn ⟨(IntKind.wrap .i64 (s5 + 1)), H, (wk_mk [] (kR rfl rfl (kR rfl rfl (kR rfl rfl (kR rfl rfl SL.nil)))) BL.nil BK.nil)⟩))))))))
  ·exact AW.condF eZ (dF h7) (AW.exit (TQ.qe (TQ.qe (BQ.qe (TQ.qn ⟨(), H, (wk_mk [] SL.nil BL.nil BK.nil)⟩)))))
theorem c_slices_ContainsFunc_Cell__ShardOk_2 {a1 : (List TCell)} {a2 : TShard} {r : Bool} (H : m_slices_ContainsFunc_Cell__ShardOk_2 a1 a2 = some r) : Fn Tryz.prog 47 (lent [(.sl 2 (List.map d_TCell a1)), (.fn 48 [.ptr (d_TShard a2)])]) true [(.bool r)] := by
 refine f47 (fle rfl) ?_
 rw [init_mk]
 refine AW.weaken (wk_mk [] (kv 0 (.one (.d (.sl 2 (List.map d_TCell a1)))) rfl rfl (SL.cons (v := (.one (.fn 48 [(.bd (d_TShard a2) 0)]))) (eS rfl eZ) rfl (VWk.one (CWk.fn (css := [d_TShard a2]))) SL.nil)) BL.nil BK.nil) ?_
 unfold m_slices_ContainsFunc_Cell__ShardOk_2 at H
 unfold i47
 refine aV (oMov eC (xQ (aV (oMov (eR rfl) (oMov (eR rfl) ?_)))))
 obtain ⟨v3, h4, H⟩ := obind H
 refine oCall (u := (oI v3)) eC Cl.fn (c_slices_IndexFunc_Cell__ShardOk_2 h4) (Evs.cons (eR rfl) (Evs.cons eZ Evs.nil)) (VDs.cons VD.plain (VDs.cons (VD.fn (PDs.cons VD.ptrB PDs.nil)) VDs.nil)) rfl (oGeq eZ eC (oMov eZ (xQ (AW.ret ?_))))
 cases H
 exact eE rfl rfl
theorem c_slices_Grow_int {a1 r : List Int} {a2 : Int} (H : m_slices_Grow_int a1 a2 = some r) : Fn Tryz.prog 102 [⟨(.sl 1 []), .z⟩, ⟨(.int .i64 a2), .b⟩] true [(.sl 1 (List.map d_i64 r))] := by
 obtain ⟨⟨h1, h2⟩, H⟩ := oguard H
 cases H
 obtain ⟨n, rfl⟩ : ∃ n : Nat, a2 = (n : Int) := ⟨Int.toNat a2, by omega⟩
 exact grow_ok Tryz.grow102 (by kernel_rfl) (by kernel_rfl) (by kernel_rfl) n (by omega)
theorem c_slices_Concat_int {a1 : (List (List Int))} {r : (List Int)} (H : m_slices_Concat_int a1 = some r) : Fn Tryz.prog 50 (lent [(.sl 1 (List.map dS_i64 a1))]) true [(.sl 1 (List.map d_i64 r))] := by
 refine f50 (fle rfl) ?_
 rw [init_mk]
 refine AW.weaken (t := mk [(0, (.one (.d (.sl 1 (List.map dS_i64 a1)))))] [] (lk [])) (wk_mk [] (kv 0 (.one (.d (.sl 1 (List.map dS_i64 a1)))) rfl rfl SL.nil) BL.nil BK.nil) ?_
 unfold m_slices_Concat_int at H
 unfold i50
 refine aV (oMov eC (xQ (aV (oMov eC (xQ (AW.seqJ (fun t2 : Int => (slices_Concat_int_j2 a1) t2 = some r) (fun t2 => mk [(0, (.one (.d (.sl 1 (List.map dS_i64 a1))))), (3, (oI t2))] [] (lk [])) ?_ ?_))))))
 ·intro t2 H
  unfold slices_Concat_int_j2 at H
  refine aS (AW.regm (rmOne (oMov (eR rfl) (xNil ?_))))
  obtain ⟨v4, h5, H⟩ := obind H
  refine rmCall (ON := []) (ls := []) (G := []) (E := []) (MB := []) (u := (.one (.sl 1536 0 v4.length))) (bs := [(1536, (.data 1 (List.map d_i64 v4) true none))]) eC Cl.fn (c_slices_Grow_int h5) (Evs.cons eC (Evs.cons eZ Evs.nil)) (AO.zs (AO.lent VD.plain rfl AO.nil)) rfl rfl rfl SZ.nil (erL.cons (v' := (oI t2)) rfl (erL.cons (v' := (.one (.d (.sl 1 (List.map dS_i64 a1))))) rfl (erL.cons (v' := (oI t2)) rfl erL.nil))) erH.nil erL.nil (by simp [bindR, bindV, bindVs, bindC, bindCs]) rfl (fC nZ rfl (fC nZ rfl fN)) (rmRest (oMov eZ (xQ (AW.seqJ (fun t6 : (List Int) => slices_Concat_int_j6 t6 = some r) (fun t6 => mk [(6, (.one (.sl 320128 0 t6.length)))] [(320128, (.data 1 (List.map d_i64 t6) true none))] (lk [])) ?_ ?_))))
  ·intro t6 H
   unfold slices_Concat_int_j6 at H
   refine aV (oMov eZ (oMov eZ (xQ (AW.ret ?_))))
   cases H
   exact endsR (RL.cons (RV.tmp eZ) (VO.sl bZ (List.length_map _) (allFlat fun _ => rfl)) RL.nil) (by decide)
  ·refine aV (oMov (eR rfl) (oLenD eZ (n := a1.length) (List.length_map _) (oMov eC (xQ (AW.block (AW.iter (fun s8 : ((List Int) × Int) => mk [(6, (.one (.sl 320192 0 s8.1.length))), (25, (.one (.d (.sl 1 (List.map dS_i64 a1))))), (26, (oI (a1.length : Int))), (27, (oI s8.2))] [(320192, (.data 1 (List.map d_i64 s8.1) true none))] (lk [])) H ((wk_mkG [] (kR rfl rfl (kR rfl rfl (kR rfl rfl (kR rfl rfl SL.nil)))) (BL.keep rfl BL.nil) (BK.cons rfl bZ rfl rfl BK.nil) GK.nil).trans (wk_renG 1536 320192 rfl rfl (nS rfl nZ) GR.nil)) ?_))))))
   intro kb9 s8 H
   unfold slices_Concat_int_b8 at H
   refine aV (oLss (eR rfl) (eR rfl) (xQ (aS ?_)))
   rcases oite H with ⟨h10, H⟩ | ⟨h10, H⟩
   ·refine AW.condT eZ (dT h10) (AW.skip (TQ.qn (aS (AW.block (aV ?_)))))
    obtain ⟨v11, h12, H⟩ := obind H
    refine oAtD (eR rfl) (eR rfl) h12 (oLoadB (e := (.sl 1 (List.map d_i64 v11))) eZ rfl (oMov eZ (xQ (aR (oMov (eR rfl) (oMov (eR rfl) ?_))))))
    obtain ⟨h13, H⟩ := oguard H
    exact oAppNG (f := d_i64) (xs := s8.1) (ys := v11) (q := (s8.1 ++ v11).length) (eR rfl) eZ bZ rfl (El.lent fun _ _ => rfl) rfl h13 (by decide) (by decide) (erL.cons (v' := (.one (.d (.sl 1 (List.map d_i64 v11))))) rfl (erL.cons (v' := (.one .any)) rfl (erL.cons (v' := (.one (.d (.sl 1 (List.map d_i64 v11))))) rfl (erL.cons (v' := (.one (.d (.sl 1 (List.map d_i64 v11))))) rfl (erL.cons (v' := (.one (.ptr (.bd (dS_i64 v11) 0)))) rfl (erL.cons (v' := (oB (decide (s8.2 < (a1.length : Int))))) rfl (erL.cons (v' := (.one .any)) rfl (erL.cons (v' := (.one (.d (.sl 1 (List.map dS_i64 a1))))) rfl (erL.cons (v' := (oI (a1.length : Int))) rfl (erL.cons (v' := (oI s8.2)) rfl erL.nil)))))))))) (erH.drop rfl erH.nil) GK.nil (oMov eZ (xNil (BQ.qn (TQ.qn (aR (oAdd (eR rfl) eC (oMov eZ (xNil (TQ.qn ⟨((s8.1 ++ v11), (IntKind.wrap .i64 (s8.2 + 1))), H, (wk_mkG [] (kR rfl rfl (kR rfl rfl (kR rfl rfl (kR rfl rfl SL.nil)))) (BL.keep rfl BL.nil) (BK.cons rfl bZ rfl rfl BK.nil) GK.nil)⟩)))))))))
   ·exact AW.condF eZ (dF h10) (AW.exit (TQ.qe (TQ.qe (BQ.qe (TQ.qn ⟨s8.1, H, ((wk_mkG [] (kR rfl rfl SL.nil) (BL.keep rfl BL.nil) (BK.cons rfl bZ rfl rfl BK.nil) GK.nil).trans (wk_renG 320192 320128 rfl rfl (nS rfl nZ) GR.nil))⟩)))))
 ·refine aV (oMov (eR rfl) (oLenD eZ (n := a1.length) (List.length_map _) (oMov eC (xQ (AW.block (AW.iter (fun s14 : (Int × Int) => mk [(0, (.one (.d (.sl 1 (List.map dS_i64 a1))))), (3, (oI s14.1)), (9, (.one (.d (.sl 1 (List.map dS_i64 a1))))), (10, (oI (a1.length : Int))), (11, (oI s14.2))] [] (lk [])) H (wk_mkG [] (kR rfl rfl (kR rfl rfl (kR rfl rfl (kR rfl rfl (kR rfl rfl SL.nil))))) BL.nil BK.nil GK.nil) ?_))))))
  intro kb15 s14 H
  unfold slices_Concat_int_b14 at H
  refine aV (oLss (eR rfl) (eR rfl) (xQ (aS ?_)))
  rcases oite H with ⟨h16, H⟩ | ⟨h16, H⟩
  ·refine AW.condT eZ (dT h16) (AW.skip (TQ.qn (aS (AW.block (aV ?_)))))
   obtain ⟨v17, h18, H⟩ := obind H
   refine oAtD (eR rfl) (eR rfl) h18 (oLoadB (e := (.sl 1 (List.map d_i64 v17))) eZ rfl (oMov eZ (xQ (aV (oMov (eR rfl) (oMov (eR rfl) (oLenD eZ (n := v17.length) (List.length_map _) (oAdd (eR rfl) eZ (oMov eZ (xQ (aV (oMov eZ (oLss eZ eC (xQ (AW.weaken (wk_mkG [] (kr 20 rfl rfl (kr 3 rfl rfl (kr 0 rfl rfl (kr 9 rfl rfl (kr 10 rfl rfl (kr 11 rfl rfl SL.nil)))))) BL.nil BK.nil GK.nil) ?_)))))))))))))))
   rcases oite H with ⟨h19, H⟩ | ⟨h19, H⟩
   ·refine AW.condT eZ (dT h19) (aR ?_)
    cases H
   ·exact AW.condF eZ (dF h19) (AW.skip (BQ.qn (TQ.qn (aR (oAdd (eR rfl) eC (oMov eZ (xNil (TQ.qn ⟨((IntKind.wrap .i64 (s14.1 + (v17.length : Int))), (IntKind.wrap .i64 (s14.2 + 1))), H, (wk_mkG [] (kR rfl rfl (kR rfl rfl (kR rfl rfl (kR rfl rfl (kR rfl rfl SL.nil))))) BL.nil BK.nil GK.nil)⟩))))))))
  ·exact AW.condF eZ (dF h16) (AW.exit (TQ.qe (TQ.qe (BQ.qe (TQ.qn ⟨s14.1, H, (wk_mkG [] (kR rfl rfl (kR rfl rfl SL.nil)) BL.nil BK.nil GK.nil)⟩)))))
theorem c_slices_Index_int {a1 : (List Int)} {a2 : Int} {r : Int} (H : m_slices_Index_int a1 a2 = some r) : Fn Tryz.prog 104 (lent [(.sl 1 (List.map d_i64 a1)), (.int .i64 a2)]) true [(.int .i64 r)] := by
 refine f104 (fle rfl) ?_
 rw [init_mk]
 refine AW.weaken (wk_mk [] (kv 0 (.one (.d (.sl 1 (List.map d_i64 a1)))) rfl rfl (kv 1 (oI a2) rfl rfl SL.nil)) BL.nil BK.nil) ?_
 unfold m_slices_Index_int at H
 unfold i104
 refine aV (oMov eC (xQ (AW.seqJ (fun t3 : Unit => slices_Index_int_j3 t3 = some r) (fun t3 => mk [] [] noG) ?_ ?_)))
 ·intro t3 H
  unfold slices_Index_int_j3 at H
  refine aV (oMov eC (xQ (AW.ret ?_)))
  cases H
  exact eE rfl rfl
 ·refine aV (oMov (eR rfl) (oLenD eZ (n := a1.length) (List.length_map _) (oMov eC (xQ (AW.block (AW.iter (fun s5 : Int => mk [(0, (.one (.d (.sl 1 (List.map d_i64 a1))))), (1, (oI a2)), (7, (oI (a1.length : Int))), (8, (oI s5))] [] noG) H (wk_mk [] (kR rfl rfl (kR rfl rfl (kR rfl rfl (kR rfl rfl SL.nil)))) BL.nil BK.nil) ?_))))))
  intro kb6 s5 H
  unfold slices_Index_int_b5 at H
  refine aV (oLss (eR rfl) (eR rfl) (xQ (aS ?_)))
  rcases oite H with ⟨h7, H⟩ | ⟨h7, H⟩
  ·refine AW.condT eZ (dT h7) (AW.skip (TQ.qn (aS (AW.block (aV (oMov (eR rfl) (oMov eZ (xQ (aV (oMov (eR rfl) (oMov (eR rfl) (oMov (eR rfl) ?_))))))))))))
   obtain ⟨v8, h9, H⟩ := obind H
   refine oAtD (eR rfl) eZ h9 (oLoadB (e := (.int .i64 v8)) eZ rfl (oEql (eR rfl) eZ (xQ ?_)))
   rcases oite H with ⟨h10, H⟩ | ⟨h10, H⟩
   ·refine AW.condT eZ (dT h10) (aV (oMov (eR rfl) (oMov eZ (xQ (AW.ret (BQ.qr (TQ.qr (TQ.qr (BQ.qr (TQ.qr ?_))))))))))
    cases H
    exact eE rfl rfl
   ·exact AW.condF eZ (dF h10) (AW.skip (BQ.qn (TQ.qn (aR (oAdd (eR rfl) eC (oMov eZ (xNil (TQ.qn ⟨(IntKind.wrap .i64 (s5 + 1)), H, (wk_mk [] (kR rfl rfl (kR rfl rfl (kR rfl rfl (kR rfl rfl SL.nil)))) BL.nil BK.nil)⟩))))))))
  ·exact AW.condF eZ (dF h7) (AW.exit (TQ.qe (TQ.qe (BQ.qe (TQ.qn ⟨(), H, (wk_mk [] SL.nil BL.nil BK.nil)⟩)))))
theorem c_slices_Contains_int {a1 : (List Int)} {a2 : Int} {r : Bool} (H : m_slices_Contains_int a1 a2 = some r) : Fn Tryz.prog 54 (lent [(.sl 1 (List.map d_i64 a1)), (.int .i64 a2)]) true [(.bool r)] := by
 refine f54 (fle rfl) ?_
 rw [init_mk]
 refine AW.weaken (wk_mk [] (kv 0 (.one (.d (.sl 1 (List.map d_i64 a1)))) rfl rfl (kv 1 (oI a2) rfl rfl SL.nil)) BL.nil BK.nil) ?_
 unfold m_slices_Contains_int at H
 unfold i54
 refine aV (oMov eC (xQ (aV (oMov (eR rfl) (oMov (eR rfl) ?_)))))
 obtain ⟨v3, h4, H⟩ := obind H
 refine oCall (u := (oI v3)) eC Cl.fn (c_slices_Index_int h4) (Evs.cons (eR rfl) (Evs.cons eZ Evs.nil)) (VDs.cons VD.plain (VDs.cons VD.plain VDs.nil)) rfl (oGeq eZ eC (oMov eZ (xQ (AW.ret ?_))))
 cases H
 exact eE rfl rfl
theorem c_impl_ShardOk_3 {a1 : TLock} {a2 : TShard} {a3 : (List Int)} {r : Bool} (H : m_impl_ShardOk_3 a1 a2 a3 = some r) : Fn Tryz.prog 52 (lent [(.agg (d_TLock a1)), (.ptr (d_TShard a2)), (.ptr (dS_i64 a3))]) true [(.bool r)] := by
 refine f52 (fle rfl) ?_
 rw [init_mk]
 refine AW.weaken (wk_mk [] (kv 0 (.agg [(dI a1.Tx), (dI a1.Lo), (dI a1.Hi), (dI a1.Mode)]) rfl rfl (SL.cons (v := (.one (.ptr (.bd (d_TShard a2) 0)))) (eS rfl eZ) rfl (VWk.one CWk.ptr) (SL.cons (v := (.one (.ptr (.bd (dS_i64 a3) 0)))) (eS rfl (eS rfl eZ)) rfl (VWk.one CWk.ptr) SL.nil))) BL.nil BK.nil) ?_
 unfold m_impl_ShardOk_3 at H
 unfold i52
 refine aV (oBox (n := 192) (m := 4) (cs := [(dI a1.Tx), (dI a1.Lo), (dI a1.Hi), (dI a1.Mode)]) rfl eZ rfl rfl nZ (oMov eC (xQ (aS (AW.regd (oFaddrB (m := 1) (eR rfl) rfl (oLoadB (e := (.sl 2 (List.map d_TRange a2.Own))) eZ rfl (oLoadVA (es := [(dI a1.Tx), (dI a1.Lo), (dI a1.Hi), (dI a1.Mode)]) (eR rfl) bZ rfl ?_))))))))
 obtain ⟨v4, h5, H⟩ := obind H
 refine oCall (u := (.agg [(dI v4.Lo), (dI v4.Hi)])) eC Cl.fn (c_impl_Lock_keys h5) (Evs.cons eZ Evs.nil) (VDs.cons (VD.agg rfl) VDs.nil) rfl ?_
 obtain ⟨v6, h7, H⟩ := obind H
 refine oCall (u := (oB v6)) eC Cl.fn (c_impl_haveAll h7) (Evs.cons (eR rfl) (Evs.cons eZ Evs.nil)) (VDs.cons VD.plain (VDs.cons (VD.agg rfl) VDs.nil)) rfl (oInv eZ (oMov eZ ?_))
 rcases oite H with ⟨h8, H⟩ | ⟨h8, H⟩
 ·refine gDo eZ (cN h8) (oLoadB (e := (.sl 1 (List.map d_i64 a3))) (eR rfl) rfl (gDo (eR rfl) (cN h8) (oFaddrN (m := 0) (eR rfl) rfl (gDo (eR rfl) (cN h8) (oLoadV (q := 0) (c := (dI a1.Tx)) eZ bZ rfl rfl (gDo (eR rfl) (cN h8) ?_))))))
  obtain ⟨v9, h10, H⟩ := obind H
  refine oCall (u := (oB v9)) eC Cl.fn (c_slices_Contains_int h10) (Evs.cons (eR rfl) (Evs.cons eZ Evs.nil)) (VDs.cons VD.plain (VDs.cons VD.plain VDs.nil)) rfl (oPickF (eR rfl) (cN h8) eZ (oMov eZ (xQ (AW.weaken (wk_mk [192] (kr 4 rfl rfl SL.nil) (BL.drop rfl BL.nil) BK.nil) (AW.ret ?_)))))
  cases H
  exact eE rfl rfl
 ·refine gSkip eZ (cN (nt h8)) rfl (gSkip (eR rfl) (cN (nt h8)) rfl (gSkip (eR rfl) (cN (nt h8)) rfl (gSkip (eR rfl) (cN (nt h8)) rfl (oPickT (eR rfl) (cN (nt h8)) eC (oMov eZ (xQ (AW.weaken (wk_mk [192] (kr 4 rfl rfl SL.nil) (BL.drop rfl BL.nil) BK.nil) (AW.ret ?_))))))))
  cases H
  exact eE rfl rfl
theorem c_slices_IndexFunc_Lock__ShardOk_3 {a1 : (List TLock)} {a2 : TShard} {a3 : (List Int)} {r : Int} (H : m_slices_IndexFunc_Lock__ShardOk_3 a1 a2 a3 = some r) : Fn Tryz.prog 103 (lent [(.sl 4 (List.map d_TLock a1)), (.fn 52 [.ptr (d_TShard a2), .ptr (dS_i64 a3)])]) true [(.int .i64 r)] := by
 refine f103 (fle rfl) ?_
 rw [init_mk]
 refine AW.weaken (wk_mk [] (kv 0 (.one (.d (.sl 4 (List.map d_TLock a1)))) rfl rfl (SL.cons (v := (.one (.fn 52 [(.bd (d_TShard a2) 0), (.bd (dS_i64 a3) 0)]))) (eS rfl eZ) rfl (VWk.one (CWk.fn (css := [d_TShard a2, dS_i64 a3]))) SL.nil)) BL.nil BK.nil) ?_
 unfold m_slices_IndexFunc_Lock__ShardOk_3 at H
 unfold i103
 refine aV (oMov eC (xQ (AW.seqJ (fun t4 : Unit => slices_IndexFunc_Lock__ShardOk_3_j4 t4 = some r) (fun t4 => mk [] [] noG) ?_ ?_)))
 ·intro t4 H
  unfold slices_IndexFunc_Lock__ShardOk_3_j4 at H
  refine aV (oMov eC (xQ (AW.ret ?_)))
  cases H
  exact eE rfl rfl
 ·refine aV (oMov (eR rfl) (oLenD eZ (n := a1.length) (List.length_map _) (oMov eC (xQ (AW.block (AW.iter (fun s6 : Int => mk [(0, (.one (.d (.sl 4 (List.map d_TLock a1))))), (1, (.one (.fn 52 [(.bd (d_TShard a2) 0), (.bd (dS_i64 a3) 0)]))), (7, (oI (a1.length : Int))), (8, (oI s6))] [] noG) H (wk_mk [] (kR rfl rfl (kR rfl rfl (kR rfl rfl (kR rfl rfl SL.nil)))) BL.nil BK.nil) ?_))))))
  intro kb7 s6 H
  unfold slices_IndexFunc_Lock__ShardOk_3_b6 at H
  refine aV (oLss (eR rfl) (eR rfl) (xQ (aS ?_)))
  rcases oite H with ⟨h8, H⟩ | ⟨h8, H⟩
  ·refine AW.condT eZ (dT h8) (AW.skip (TQ.qn (aS (AW.block (aV (oMov (eR rfl) (oMov eZ (xQ (aV (oMov (eR rfl) (oMov (eR rfl) (oMov (eR rfl) ?_))))))))))))
   obtain ⟨v9, h10, H⟩ := obind H
   refine oAtD (eR rfl) eZ h10 (oLoadBA (es := [(dI v9.Tx), (dI v9.Lo), (dI v9.Hi), (dI v9.Mode)]) eZ rfl ?_)
   obtain ⟨v11, h12, H⟩ := obind H
   refine oCall (u := (oB v11)) (eR rfl) Cl.fn (c_impl_ShardOk_3 h12) (Evs.cons eZ Evs.nil) (VDs.cons (VD.agg rfl) (VDs.cons VD.ptrB (VDs.cons VD.ptrB VDs.nil))) rfl (xQ ?_)
   rcases oite H with ⟨h13, H⟩ | ⟨h13, H⟩
   ·refine AW.condT eZ h13 (aV (oMov (eR rfl) (oMov eZ (xQ (AW.ret (BQ.qr (TQ.qr (TQ.qr (BQ.qr (TQ.qr ?_))))))))))
    cases H
    exact eE rfl rfl
   ·exact AW.condF eZ (nt h13) (AW.skip (BQ.qn (TQ.qn (aR (oAdd (eR rfl) eC (oMov eZ (xNil (TQ.qn ⟨(IntKind.wrap .i64 (s6 + 1)), H, (wk_mk [] (kR rfl rfl (kR rfl rfl (kR rfl rfl (kR rfl rfl SL.nil)))) BL.nil BK.nil)⟩))))))))
  ·exact AW.condF eZ (dF h8) (AW.exit (TQ.qe (TQ.qe (BQ.qe (TQ.qn ⟨(), H, (wk_mk [] SL.nil BL.nil BK.nil)⟩)))))
theorem c_slices_ContainsFunc_Lock__ShardOk_3 {a1 : (List TLock)} {a2 : TShard} {a3 : (List Int)} {r : Bool} (H : m_slices_ContainsFunc_Lock__ShardOk_3 a1 a2 a3 = some r) : Fn Tryz.prog 51 (lent [(.sl 4 (List.map d_TLock a1)), (.fn 52 [.ptr (d_TShard a2), .ptr (dS_i64 a3)])]) true [(.bool r)] := by
 refine f51 (fle rfl) ?_
 rw [init_mk]
 refine AW.weaken (wk_mk [] (kv 0 (.one (.d (.sl 4 (List.map d_TLock a1)))) rfl rfl (SL.cons (v := (.one (.fn 52 [(.bd (d_TShard a2) 0), (.bd (dS_i64 a3) 0)]))) (eS rfl eZ) rfl (VWk.one (CWk.fn (css := [d_TShard a2, dS_i64 a3]))) SL.nil)) BL.nil BK.nil) ?_
 unfold m_slices_ContainsFunc_Lock__ShardOk_3 at H
 unfold i51
 refine aV (oMov eC (xQ (aV (oMov (eR rfl) (oMov (eR rfl) ?_)))))
 obtain ⟨v4, h5, H⟩ := obind H
 refine oCall (u := (oI v4)) eC Cl.fn (c_slices_IndexFunc_Lock__ShardOk_3 h5) (Evs.cons (eR rfl) (Evs.cons eZ Evs.nil)) (VDs.cons VD.plain (VDs.cons (VD.fn (PDs.cons VD.ptrB (PDs.cons VD.ptrB PDs.nil))) VDs.nil)) rfl (oGeq eZ eC (oMov eZ (xQ (AW.ret ?_))))
 cases H
 exact eE rfl rfl
theorem c_slices_Sort_int {a1 r : List Int} (H : m_slices_Sort_int a1 = some r) : Fn Tryz.prog 56 [⟨(.sl 1 (List.map d_i64 a1)), .m (.sl 1 (List.map d_i64 r))⟩] true [] := by
 obtain ⟨h, H⟩ := oguard H
 cases H
 exact sort_fn Tryz.lays189 (by kernel_rfl) (by kernel_rfl) a1 (by omega)
theorem c_slices_Clone_int {a1 : (List Int)} {r : (List Int)} (H : m_slices_Clone_int a1 = some r) : Fn Tryz.prog 58 (lent [(.sl 1 (List.map d_i64 a1))]) true [(.sl 1 (List.map d_i64 r))] := by
 refine f58 (fle rfl) ?_
 rw [init_mk]
 refine AW.weaken (wk_mk [] (kv 0 (.one (.d (.sl 1 (List.map d_i64 a1)))) rfl rfl SL.nil) BL.nil BK.nil) ?_
 unfold m_slices_Clone_int at H
 unfold i58
 refine aV (oMov eC (xQ (AW.seqJ (fun t2 : Unit => (slices_Clone_int_j2 a1) t2 = some r) (fun t2 => mk [(0, (.one (.d (.sl 1 (List.map d_i64 a1)))))] [] noG) ?_ ?_)))
 ·intro t2 H
  unfold slices_Clone_int_j2 at H
  refine aV (oBsliceZ (m := 320) rfl nZ (oMov (eR rfl) ?_))
  obtain ⟨h4, H⟩ := oguard H
  refine oAppZ (f := d_i64) (m := 448) (own := true) (ys := a1) (q := a1.length) rfl rfl (eR rfl) eZ (El.lent fun _ _ => rfl) rfl h4 (by decide) nZ (oMov eZ (xQ (AW.ret ?_)))
  cases H
  exact endsR (RL.cons (RV.tmp eZ) (VO.sl bZ (List.length_map _) (allFlat fun _ => rfl)) RL.nil) (by decide)
 ·refine aV (oMov (eR rfl) ?_)
  rcases oite H with ⟨h5, H⟩ | ⟨h5, H⟩
  ·refine oNilD0 eZ h5 (xQ (AW.condU eZ ?_ ?_))
   ·have H : (some ([] : (List Int))) = some r := by rw [← H]; simp [List.eq_nil_of_length_eq_zero h5, slices_Clone_int_j2]
    refine aV (oMov eC (xQ (AW.ret (TQ.qr ?_))))
    cases H
    exact endsR (RL.cons (RV.tmp eZ) VO.zs RL.nil) List.nodup_nil
   ·exact AW.skip (TQ.qn ⟨(), H, (wk_mk [] (kR rfl rfl SL.nil) BL.nil BK.nil)⟩)
  ·exact oNilD eZ h5 (xQ (AW.condF eZ rfl (AW.skip (TQ.qn ⟨(), H, (wk_mk [] (kR rfl rfl SL.nil) BL.nil BK.nil)⟩))))
theorem c_slices_Compact_int {a1 r : List Int} (H : m_slices_Compact_int a1 = some r) : Fn Tryz.prog 57 [⟨(.sl 1 (List.map d_i64 a1)), .g⟩] true [(.sl 1 (List.map d_i64 r))] := by
 obtain ⟨h, H⟩ := oguard H
 cases H
 exact compact_fn Tryz.laysNm220 (by kernel_rfl) (by kernel_rfl) a1 (by omega)
theorem c_impl_cellFor_1 {a1 : TCell} {a2 : Int} {r : Int} (H : m_impl_cellFor_1 a1 a2 = some r) : Fn Tryz.prog 148 (lent [(.agg (d_TCell a1)), (.int .i64 a2)]) true [(.int .i64 r)] := by
 refine f148 (fle rfl) ?_
 rw [init_mk]
 refine AW.weaken (wk_mk [] (kv 0 (.agg [(dI a1.Key), (dI a1.Value)]) rfl rfl (kv 1 (oI a2) rfl rfl SL.nil)) BL.nil BK.nil) ?_
 unfold m_impl_cellFor_1 at H
 unfold i148
 refine aV (oBox (n := 128) (m := 2) (cs := [(dI a1.Key), (dI a1.Value)]) rfl eZ rfl rfl nZ (oMov eC (xQ (aV (oFaddrN (m := 0) (eR rfl) rfl (oLoadV (q := 0) (c := (dI a1.Key)) eZ bZ rfl rfl (oMov (eR rfl) (oSub (eR rfl) eZ (oMov eZ (xQ (AW.ret ?_)))))))))))
 cases H
 exact eE rfl rfl
theorem c_slices_BinarySearchFunc_Cell_int__cellFor_1 {a1 : (List TCell)} {a2 : Int} {r : (Int × Bool)} (H : m_slices_BinarySearchFunc_Cell_int__cellFor_1 a1 a2 = some r) : Fn Tryz.prog 147 (lent [(.sl 2 (List.map d_TCell a1)), (.int .i64 a2), (.fn 148 [])]) true [(.int .i64 r.1), (.bool r.2)] := by
 refine f147 (fle rfl) ?_
 rw [init_mk]
 refine AW.weaken (wk_mk [] (kv 0 (.one (.d (.sl 2 (List.map d_TCell a1)))) rfl rfl (kv 1 (oI a2) rfl rfl (SL.cons (v := (.one (.fn 148 []))) (eS rfl (eS rfl eZ)) rfl (VWk.one (CWk.fn (css := []))) SL.nil))) BL.nil BK.nil) ?_
 unfold m_slices_BinarySearchFunc_Cell_int__cellFor_1 at H
 unfold i147
 refine aV (oMov eC (oMov eC (xQ (aV (oMov (eR rfl) (oLenD eZ (n := a1.length) (List.length_map _) (oMov eZ (xQ (aV (oMov eZ (oMov eC (oMov (eR rfl) (xQ (AW.seqJ (fun t3 : Int => (slices_BinarySearchFunc_Cell_int__cellFor_1_j3 a1 a2) t3 = some r) (fun t3 => mk [(0, (.one (.d (.sl 2 (List.map d_TCell a1))))), (1, (oI a2)), (2, (.one (.fn 148 []))), (8, (oI (a1.length : Int))), (9, (oI t3))] [] noG) ?_ ?_))))))))))))))
 ·intro t3 H
  unfold slices_BinarySearchFunc_Cell_int__cellFor_1_j3 at H
  refine aV (oMov (eR rfl) (oMov (eR rfl) (oMov (eR rfl) (oLss (eR rfl) eZ (oMov eZ ?_)))))
  rcases oite H with ⟨h5, H⟩ | ⟨h5, H⟩
  ·refine gDo eZ (dT h5) (oMov (eR rfl) (gDo (eR rfl) (dT h5) (oMov (eR rfl) (gDo (eR rfl) (dT h5) (oMov (eR rfl) (gDo (eR rfl) (dT h5) ?_))))))
   obtain ⟨v6, h7, H⟩ := obind H
   refine oAtD (eR rfl) eZ h7 (gDo (eR rfl) (dT h5) (oLoadBA (es := [(dI v6.Key), (dI v6.Value)]) eZ rfl (gDo (eR rfl) (dT h5) (oMov (eR rfl) (gDo (eR rfl) (dT h5) ?_)))))
   obtain ⟨v8, h9, H⟩ := obind H
   refine oCall (u := (oI v8)) (eR rfl) Cl.fn (c_impl_cellFor_1 h9) (Evs.cons (eR rfl) (Evs.cons eZ Evs.nil)) (VDs.cons (VD.agg rfl) (VDs.cons VD.plain VDs.nil)) rfl (gDo (eR rfl) (dT h5) (oEql eZ eC (oPickT (eR rfl) (dT h5) eZ (oMov (eR rfl) (oMov (eR rfl) (xQ (AW.weaken (wk_mk [] (kr 7 rfl rfl (kr 6 rfl rfl SL.nil)) BL.nil BK.nil) (AW.ret ?_))))))))
   cases H
   exact endsR (RL.cons (RV.tmp (eR rfl)) (VO.flat rfl) (RL.cons (RV.tmp eZ) (VO.flat rfl) RL.nil)) List.nodup_nil
  ·refine gSkip eZ (dF h5) rfl (gSkip (eR rfl) (dF h5) rfl (gSkip (eR rfl) (dF h5) rfl (gSkip (eR rfl) (dF h5) rfl (gSkip (eR rfl) (dF h5) rfl (gSkip (eR rfl) (dF h5) rfl (gSkip (eR rfl) (dF h5) rfl (gSkip (eR rfl) (dF h5) rfl (oPickF (eR rfl) (dF h5) eC (oMov (eR rfl) (oMov (eR rfl) (xQ (AW.weaken (wk_mk [] (kr 7 rfl rfl (kr 6 rfl rfl SL.nil)) BL.nil BK.nil) (AW.ret ?_)))))))))))))
   cases H
   exact endsR (RL.cons (RV.tmp (eR rfl)) (VO.flat rfl) (RL.cons (RV.tmp eZ) (VO.flat rfl) RL.nil)) List.nodup_nil
 ·refine AW.block (AW.iter (fun s10 : (Int × Int) => mk [(0, (.one (.d (.sl 2 (List.map d_TCell a1))))), (1, (oI a2)), (2, (.one (.fn 148 []))), (8, (oI (a1.length : Int))), (9, (oI s10.1)), (10, (oI s10.2))] [] noG) H (wk_mk [] (kR rfl rfl (kR rfl rfl (kR rfl rfl (kR rfl rfl (kR rfl rfl (kR rfl rfl SL.nil)))))) BL.nil BK.nil) ?_)
  intro kb11 s10 H
  unfold slices_BinarySearchFunc_Cell_int__cellFor_1_b10 at H
  refine aS (aV (oMov (eR rfl) (oMov (eR rfl) (oLss (eR rfl) eZ (xQ ?_)))))
  rcases oite H with ⟨h12, H⟩ | ⟨h12, H⟩
  ·refine AW.condT eZ (dT h12) (AW.skip (TQ.qn (AW.block (aV (oMov (eR rfl) (oMov (eR rfl) (oAdd (eR rfl) eZ (oConv eZ (oShr eZ eC (by decide) (oConv eZ (oMov eZ (xQ (AW.weaken (wk_mk [] (kr 11 rfl rfl (kr 0 rfl rfl (kr 1 rfl rfl (kr 2 rfl rfl (kr 8 rfl rfl (kr 9 rfl rfl (kr 10 rfl rfl SL.nil))))))) BL.nil BK.nil) (aV (oMov (eR rfl) (oMov (eR rfl) (oMov (eR rfl) ?_)))))))))))))))))
   obtain ⟨v13, h14, H⟩ := obind H
   refine oAtD (eR rfl) eZ h14 (oLoadBA (es := [(dI v13.Key), (dI v13.Value)]) eZ rfl (oMov (eR rfl) ?_))
   obtain ⟨v15, h16, H⟩ := obind H
   refine oCall (u := (oI v15)) (eR rfl) Cl.fn (c_impl_cellFor_1 h16) (Evs.cons (eR rfl) (Evs.cons eZ Evs.nil)) (VDs.cons (VD.agg rfl) (VDs.cons VD.plain VDs.nil)) rfl (oLss eZ eC (xQ ?_))
   rcases oite H with ⟨h17, H⟩ | ⟨h17, H⟩
   ·exact AW.condT eZ (dT h17) (aR (oMov (eR rfl) (oAdd eZ eC (oMov eZ (xNil (BQ.qn (TQ.qn ⟨((IntKind.wrap .i64 ((IntKind.wrap .i64 (Int.fdiv (IntKind.wrap .u64 (IntKind.wrap .i64 (s10.1 + s10.2))) (2 ^ (min (Int.toNat 1) (IntKind.bits .u64))))) + 1)), s10.2), H, (wk_mk [] (kR rfl rfl (kR rfl rfl (kR rfl rfl (kR rfl rfl (kR rfl rfl (kR rfl rfl SL.nil)))))) BL.nil BK.nil)⟩)))))))
   ·exact AW.condF eZ (dF h17) (aR (oMov (eR rfl) (oMov eZ (xNil (BQ.qn (TQ.qn ⟨(s10.1, (IntKind.wrap .i64 (Int.fdiv (IntKind.wrap .u64 (IntKind.wrap .i64 (s10.1 + s10.2))) (2 ^ (min (Int.toNat 1) (IntKind.bits .u64)))))), H, (wk_mk [] (kR rfl rfl (kR rfl rfl (kR rfl rfl (kR rfl rfl (kR rfl rfl (kR rfl rfl SL.nil)))))) BL.nil BK.nil)⟩))))))
  ·exact AW.condF eZ (dF h12) (AW.exit (TQ.qe (TQ.qe (BQ.qe (TQ.qn ⟨s10.1, H, (wk_mk [] (kR rfl rfl (kR rfl rfl (kR rfl rfl (kR rfl rfl (kR rfl rfl SL.nil))))) BL.nil BK.nil)⟩)))))
theorem c_impl_cellFor {a1 : (List TCell)} {a2 : Int} {r : (Int × Bool)} (H : m_impl_cellFor a1 a2 = some r) : Fn Tryz.prog 144 (lent [(.sl 2 (List.map d_TCell a1)), (.int .i64 a2)]) true [(.int .i64 r.1), (.bool r.2)] := by
 refine f144 (fle rfl) ?_
 rw [init_mk]
 refine AW.weaken (wk_mk [] (kv 0 (.one (.d (.sl 2 (List.map d_TCell a1)))) rfl rfl (kv 1 (oI a2) rfl rfl SL.nil)) BL.nil BK.nil) ?_
 unfold m_impl_cellFor at H
 unfold i144
 refine aV (oMov eC (oMov eC (xQ (aV (oMov (eR rfl) (oMov (eR rfl) ?_))))))
 obtain ⟨v3, h4, H⟩ := obind H
 refine oCall (u := (.tup [(oI v3.1), (oB v3.2)])) eC Cl.fn (c_slices_BinarySearchFunc_Cell_int__cellFor_1 h4) (Evs.cons (eR rfl) (Evs.cons eZ (Evs.cons eC Evs.nil))) (VDs.cons VD.plain (VDs.cons VD.plain (VDs.cons (VD.fn PDs.nil) VDs.nil))) rfl (oExt (v := (oI v3.1)) eZ rfl (oExt (v := (oB v3.2)) (eR rfl) rfl (oMov (eR rfl) (oMov (eR rfl) (xQ (AW.ret ?_))))))
 cases H
 exact endsR (RL.cons (RV.tmp (eR rfl)) (VO.flat rfl) (RL.cons (RV.tmp eZ) (VO.flat rfl) RL.nil)) List.nodup_nil
theorem c_impl_valueOf {a1 : (List TCell)} {a2 : Int} {r : Int} (H : m_impl_valueOf a1 a2 = some r) : Fn Tryz.prog 133 (lent [(.sl 2 (List.map d_TCell a1)), (.int .i64 a2)]) true [(.int .i64 r)] := by
 refine f133 (fle rfl) ?_
 rw [init_mk]
 refine AW.weaken (wk_mk [] (kv 0 (.one (.d (.sl 2 (List.map d_TCell a1)))) rfl rfl (kv 1 (oI a2) rfl rfl SL.nil)) BL.nil BK.nil) ?_
 unfold m_impl_valueOf at H
 unfold i133
 refine aV (oMov eC (xQ (aV (oMov (eR rfl) (oMov (eR rfl) ?_)))))
 obtain ⟨v3, h4, H⟩ := obind H
 refine oCall (u := (.tup [(oI v3.1), (oB v3.2)])) eC Cl.fn (c_impl_cellFor h4) (Evs.cons (eR rfl) (Evs.cons eZ Evs.nil)) (VDs.cons VD.plain (VDs.cons VD.plain VDs.nil)) rfl (oMov eZ (oExt (v := (oI v3.1)) eZ rfl (oExt (v := (oB v3.2)) (eR rfl) rfl (oMov (eR rfl) (oMov (eR rfl) (xQ (aS (aV (oMov eZ (oInv eZ (xQ ?_)))))))))))
 rcases oite H with ⟨h5, H⟩ | ⟨h5, H⟩
 ·refine AW.condF eZ (cN h5) (AW.skip (TQ.qn (aV (oMov (eR rfl) (oMov (eR rfl) ?_)))))
  obtain ⟨v6, h7, H⟩ := obind H
  refine oAtD (eR rfl) eZ h7 (oFaddrB (m := 1) eZ rfl (oLoadB (e := (.int .i64 v6.Value)) eZ rfl (oMov eZ (xQ (AW.weaken (wk_mk [] (kr 4 rfl rfl SL.nil) BL.nil BK.nil) (AW.ret ?_))))))
  cases H
  exact eE rfl rfl
 ·refine AW.condT eZ (cN (nt h5)) (aV (oMov eC (xQ (AW.ret (TQ.qr ?_)))))
  cases H
  exact eE rfl rfl
theorem c_impl_StoreNew {a1 : (List TCell)} {a2 : (List TCell)} {r : Int} (H : m_impl_StoreNew a1 a2 = some r) : Fn Tryz.prog 107 (lent [(.sl 2 (List.map d_TCell a1)), (.sl 2 (List.map d_TCell a2))]) true [(.int .i64 r)] := by
 refine f107 (fle rfl) ?_
 rw [init_mk]
 refine AW.weaken (wk_mk [] (kv 0 (.one (.d (.sl 2 (List.map d_TCell a1)))) rfl rfl (kv 1 (.one (.d (.sl 2 (List.map d_TCell a2)))) rfl rfl SL.nil)) BL.nil BK.nil) ?_
 unfold m_impl_StoreNew at H
 unfold i107
 refine aV (oMov eC (xQ (aS (AW.seqJ (fun t3 : Bool => (impl_StoreNew_j3 a2 a1) t3 = some r) (fun t3 => mk [(0, (.one (.d (.sl 2 (List.map d_TCell a1))))), (1, (.one (.d (.sl 2 (List.map d_TCell a2))))), (15, (oB t3))] [] noG) ?_ ?_))))
 ·intro t3 H
  unfold impl_StoreNew_j3 at H
  rcases oite H with ⟨h5, H⟩ | ⟨h5, H⟩
  ·refine AW.condT (eR rfl) h5 (aV (oMov eC (xQ (AW.ret (TQ.qr ?_)))))
   cases H
   exact eE rfl rfl
  ·refine AW.condF (eR rfl) (nt h5) (AW.skip (TQ.qn (aV (oMov eC (xQ (AW.seqJ (fun t6 : Int => impl_StoreNew_j6 t6 = some r) (fun t6 => mk [(5, (oI t6))] [] noG) ?_ ?_))))))
   ·intro t6 H
    unfold impl_StoreNew_j6 at H
    refine aV (oMov eZ (oMov eZ (xQ (AW.ret ?_))))
    cases H
    exact eE rfl rfl
   ·refine aV (oMov (eR rfl) (oLenD eZ (n := a2.length) (List.length_map _) (oMov eC (xQ (AW.block (AW.iter (fun s8 : (Int × Int) => mk [(0, (.one (.d (.sl 2 (List.map d_TCell a1))))), (5, (oI s8.1)), (16, (.one (.d (.sl 2 (List.map d_TCell a2))))), (17, (oI (a2.length : Int))), (18, (oI s8.2))] [] noG) H (wk_mk [] (kR rfl rfl (kR rfl rfl (kR rfl rfl (kR rfl rfl (kR rfl rfl SL.nil))))) BL.nil BK.nil) ?_))))))
    intro kb9 s8 H
    unfold impl_StoreNew_b8 at H
    refine aV (oLss (eR rfl) (eR rfl) (xQ (aS ?_)))
    rcases oite H with ⟨h10, H⟩ | ⟨h10, H⟩
    ·refine AW.condT eZ (dT h10) (AW.skip (TQ.qn (aS (AW.block (aV ?_)))))
     obtain ⟨v11, h12, H⟩ := obind H
     refine oAtD (eR rfl) (eR rfl) h12 (oLoadBA (es := [(dI v11.Key), (dI v11.Value)]) eZ rfl (oVar (n := 448) (m := 2) rfl rfl nZ (oStoreV (es := [(dI v11.Key), (dI v11.Value)]) eZ (eR rfl) rfl rfl bZ rfl (xQ (AW.seqJ (fun t13 : Bool => (impl_StoreNew_j13 kb9 s8) t13 = some r) (fun t13 => mk [(0, (.one (.d (.sl 2 (List.map d_TCell a1))))), (5, (oI s8.1)), (16, (.one (.d (.sl 2 (List.map d_TCell a2))))), (17, (oI (a2.length : Int))), (18, (oI s8.2)), (31, (oB t13))] [] noG) ?_ ?_)))))
     ·intro t13 H
      unfold impl_StoreNew_j13 at H
      rcases oite H with ⟨h15, H⟩ | ⟨h15, H⟩
      ·exact AW.condT (eR rfl) h15 (aR (oMov (eR rfl) (oAdd eZ eC (oMov eZ (xNil (BQ.qn (TQ.qn (aR (oAdd (eR rfl) eC (oMov eZ (xNil (TQ.qn ⟨((IntKind.wrap .i64 (s8.1 + 1)), (IntKind.wrap .i64 (s8.2 + 1))), H, (wk_mk [] (kR rfl rfl (kR rfl rfl (kR rfl rfl (kR rfl rfl (kR rfl rfl SL.nil))))) BL.nil BK.nil)⟩))))))))))))
      ·exact AW.condF (eR rfl) (nt h15) (AW.skip (BQ.qn (TQ.qn (aR (oAdd (eR rfl) eC (oMov eZ (xNil (TQ.qn ⟨(s8.1, (IntKind.wrap .i64 (s8.2 + 1))), H, (wk_mk [] (kR rfl rfl (kR rfl rfl (kR rfl rfl (kR rfl rfl (kR rfl rfl SL.nil))))) BL.nil BK.nil)⟩))))))))
     ·refine aR (oFaddrN (m := 1) eZ rfl (oLoadV (q := 1) (c := (dI v11.Value)) eZ bZ rfl rfl (oNeq eZ eC (oMov eZ ?_))))
      rcases oite H with ⟨h16, H⟩ | ⟨h16, H⟩
      ·refine gDo eZ (dT h16) (oMov (eR rfl) (gDo (eR rfl) (dT h16) (oFaddrN (m := 0) (eR rfl) rfl (gDo (eR rfl) (dT h16) (oLoadV (q := 0) (c := (dI v11.Key)) eZ bZ rfl rfl (gDo (eR rfl) (dT h16) ?_))))))
       obtain ⟨v17, h18, H⟩ := obind H
       exact oCall (u := (oI v17)) eC Cl.fn (c_impl_valueOf h18) (Evs.cons (eR rfl) (Evs.cons eZ Evs.nil)) (VDs.cons VD.plain (VDs.cons VD.plain VDs.nil)) rfl (gDo (eR rfl) (dT h16) (oLss eZ eC (oPickT (eR rfl) (dT h16) eZ (xNil (TQ.qn ⟨(decide (v17 < 0)), H, (wk_mk [448] (kR rfl rfl (kR rfl rfl (kR rfl rfl (kR rfl rfl (kR rfl rfl (kR rfl rfl SL.nil)))))) (BL.drop rfl (BL.drop rfl BL.nil)) BK.nil)⟩)))))
      ·exact gSkip eZ (dF h16) rfl (gSkip (eR rfl) (dF h16) rfl (gSkip (eR rfl) (dF h16) rfl (gSkip (eR rfl) (dF h16) rfl (gSkip (eR rfl) (dF h16) rfl (oPickF (eR rfl) (dF h16) eC (xNil (TQ.qn ⟨false, H, (wk_mk [448] (kR rfl rfl (kR rfl rfl (kR rfl rfl (kR rfl rfl (kR rfl rfl (kR rfl rfl SL.nil)))))) (BL.drop rfl (BL.drop rfl BL.nil)) BK.nil)⟩)))))))
    ·exact AW.condF eZ (dF h10) (AW.exit (TQ.qe (TQ.qe (BQ.qe (TQ.qn ⟨s8.1, H, (wk_mk [] (kR rfl rfl SL.nil) BL.nil BK.nil)⟩)))))
 ·refine aR (oMov (eR rfl) ?_)
  obtain ⟨v19, h20, H⟩ := obind H
  refine oCall (u := (oB v19)) eC Cl.fn (c_impl_StoreOk h20) (Evs.cons eZ Evs.nil) (VDs.cons VD.plain VDs.nil) rfl (oInv eZ (oMov eZ ?_))
  rcases oite H with ⟨h21, H⟩ | ⟨h21, H⟩
  ·refine gDo eZ (cN h21) (oMov (eR rfl) (gDo (eR rfl) (cN h21) ?_))
   obtain ⟨v22, h23, H⟩ := obind H
   exact oCall (u := (oB v22)) eC Cl.fn (c_impl_WritesOk h23) (Evs.cons eZ Evs.nil) (VDs.cons VD.plain VDs.nil) rfl (gDo (eR rfl) (cN h21) (oInv eZ (oPickF (eR rfl) (cN h21) eZ (xNil (TQ.qn ⟨(!v22), H, (wk_mk [] (kR rfl rfl (kR rfl rfl (kR rfl rfl SL.nil))) BL.nil BK.nil)⟩)))))
  ·exact gSkip eZ (cN (nt h21)) rfl (gSkip (eR rfl) (cN (nt h21)) rfl (gSkip (eR rfl) (cN (nt h21)) rfl (oPickT (eR rfl) (cN (nt h21)) eC (xNil (TQ.qn ⟨true, H, (wk_mk [] (kR rfl rfl (kR rfl rfl (kR rfl rfl SL.nil))) BL.nil BK.nil)⟩)))))
theorem c_impl_room {a1 : TShard} {r : Int} (H : m_impl_room a1 = some r) : Fn Tryz.prog 59 (lent [(.agg (d_TShard a1))]) true [(.int .i64 r)] := by
 refine f59 (fle rfl) ?_
 rw [init_mk]
 refine AW.weaken (t := mk [(0, (.agg [(dI a1.Me), (.d (.sl 2 (List.map d_TRange a1.Own))), (.d (.sl 2 (List.map d_TRange a1.Frozen))), (.d (.sl 2 (List.map d_TCell a1.Cells))), (.d (.sl 4 (List.map d_TLock a1.Locks))), (.d (.sl 2 (List.map d_THeld a1.Helds))), (.d (.sl 1 (List.map d_i64 a1.Wounded))), (.d (.sl 1 (List.map d_i64 a1.Ended))), (dI a1.Rank)]))] [] (lk [])) (wk_mk [] (kv 0 (.agg [(dI a1.Me), (.d (.sl 2 (List.map d_TRange a1.Own))), (.d (.sl 2 (List.map d_TRange a1.Frozen))), (.d (.sl 2 (List.map d_TCell a1.Cells))), (.d (.sl 4 (List.map d_TLock a1.Locks))), (.d (.sl 2 (List.map d_THeld a1.Helds))), (.d (.sl 1 (List.map d_i64 a1.Wounded))), (.d (.sl 1 (List.map d_i64 a1.Ended))), (dI a1.Rank)]) rfl rfl SL.nil) BL.nil BK.nil) ?_
 unfold m_impl_room at H
 unfold i59
 refine aV (oBox (n := 64) (m := 9) (cs := [(dI a1.Me), (.d (.sl 2 (List.map d_TRange a1.Own))), (.d (.sl 2 (List.map d_TRange a1.Frozen))), (.d (.sl 2 (List.map d_TCell a1.Cells))), (.d (.sl 4 (List.map d_TLock a1.Locks))), (.d (.sl 2 (List.map d_THeld a1.Helds))), (.d (.sl 1 (List.map d_i64 a1.Wounded))), (.d (.sl 1 (List.map d_i64 a1.Ended))), (dI a1.Rank)]) rfl eZ rfl rfl nZ (oMov eC (xQ (aV (oFaddrN (m := 3) (eR rfl) rfl (oLoadV (q := 3) (c := (.d (.sl 2 (List.map d_TCell a1.Cells)))) eZ bZ rfl rfl (oLenD eZ (n := a1.Cells.length) (List.length_map _) (oMov eZ (xQ (AW.seqJ (fun t2 : Int => impl_room_j2 t2 = some r) (fun t2 => mk [(3, (oI t2))] [] (lk [])) ?_ ?_))))))))))
 ·intro t2 H
  unfold impl_room_j2 at H
  refine aV (oMov eZ (oMov eZ (xQ (AW.ret ?_))))
  cases H
  exact eE rfl rfl
 ·refine aV (oFaddrN (m := 5) (eR rfl) rfl (oLoadV (q := 5) (c := (.d (.sl 2 (List.map d_THeld a1.Helds)))) eZ bZ rfl rfl (oLenD eZ (n := a1.Helds.length) (List.length_map _) (oMov eC (xQ (AW.block (AW.iter (fun s4 : (Int × Int) => mk [(1, (.one (.ptr (.nm 64 0 0)))), (3, (oI s4.1)), (10, (.one (.d (.sl 2 (List.map d_THeld a1.Helds))))), (11, (oI (a1.Helds.length : Int))), (12, (oI s4.2))] [(64, (.vars 9 [(dI a1.Me), (.d (.sl 2 (List.map d_TRange a1.Own))), (.d (.sl 2 (List.map d_TRange a1.Frozen))), (.d (.sl 2 (List.map d_TCell a1.Cells))), (.d (.sl 4 (List.map d_TLock a1.Locks))), (.d (.sl 2 (List.map d_THeld a1.Helds))), (.d (.sl 1 (List.map d_i64 a1.Wounded))), (.d (.sl 1 (List.map d_i64 a1.Ended))), (dI a1.Rank)]))] (lk [])) H (wk_mkG [] (kR rfl rfl (kR rfl rfl (kR rfl rfl (kR rfl rfl (kR rfl rfl SL.nil))))) (BL.keep rfl BL.nil) (BK.cons rfl bZ rfl rfl BK.nil) GK.nil) ?_)))))))
  intro kb5 s4 H
  unfold impl_room_b4 at H
  refine aV (oLss (eR rfl) (eR rfl) (xQ (aS ?_)))
  rcases oite H with ⟨h6, H⟩ | ⟨h6, H⟩
  ·refine AW.condT eZ (dT h6) (AW.skip (TQ.qn (aS (AW.block (aS (AW.regm (rmOne ?_)))))))
   obtain ⟨v7, h8, H⟩ := obind H
   refine oAtD (eR rfl) (eR rfl) h8 (xNil (rmOne (oLoadBA (es := [(dI v7.Tx), (.d (.sl 2 (List.map d_TCell v7.Writes)))]) eZ rfl (xNil (rmOne (oVar (n := 320) (m := 2) rfl rfl (nS rfl nZ) (xNil (rmOne (oStoreV (es := [(dI v7.Tx), (.d (.sl 2 (List.map d_TCell v7.Writes)))]) eZ (eR rfl) rfl rfl bZ rfl (xNil (rmRest (xQ (aR (oMov (eR rfl) (oFaddrN (m := 3) (eR rfl) rfl (oLoadV (q := 3) (c := (.d (.sl 2 (List.map d_TCell a1.Cells)))) eZ (bS rfl (bS rfl bZ)) rfl rfl (oFaddrN (m := 1) (eR rfl) rfl (oLoadV (q := 1) (c := (.d (.sl 2 (List.map d_TCell v7.Writes)))) eZ bZ rfl rfl ?_))))))))))))))))))
   obtain ⟨v9, h10, H⟩ := obind H
   exact oCall (u := (oI v9)) eC Cl.fn (c_impl_StoreNew h10) (Evs.cons (eR rfl) (Evs.cons eZ Evs.nil)) (VDs.cons VD.plain (VDs.cons VD.plain VDs.nil)) rfl (oAdd (eR rfl) eZ (oMov eZ (xNil (BQ.qn (TQ.qn (AW.weaken (wk_mkG [320] (kr 3 rfl rfl (kr 1 rfl rfl (kr 10 rfl rfl (kr 11 rfl rfl (kr 12 rfl rfl SL.nil))))) (BL.drop rfl (BL.drop rfl (BL.keep rfl BL.nil))) (BK.cons (n := 64) rfl (bS rfl (bS rfl bZ)) rfl rfl BK.nil) GK.nil) (aR (oAdd (eR rfl) eC (oMov eZ (xNil (TQ.qn ⟨((IntKind.wrap .i64 (s4.1 + v9)), (IntKind.wrap .i64 (s4.2 + 1))), H, (wk_mkG [] (kR rfl rfl (kR rfl rfl (kR rfl rfl (kR rfl rfl (kR rfl rfl SL.nil))))) (BL.keep rfl BL.nil) (BK.cons rfl bZ rfl rfl BK.nil) GK.nil)⟩)))))))))))
  ·exact AW.condF eZ (dF h6) (AW.exit (TQ.qe (TQ.qe (BQ.qe (TQ.qn ⟨s4.1, H, (wk_mkG [64] (kR rfl rfl SL.nil) (BL.drop rfl BL.nil) BK.nil GK.nil)⟩)))))
theorem c_impl_ShardOk {a1 : TShard} {r : Bool} (H : m_impl_ShardOk a1 = some r) : Fn Tryz.prog 8 (lent [(.agg (d_TShard a1))]) true [(.bool r)] := by
 refine f8 (fle rfl) ?_
 rw [init_mk]
 refine AW.weaken (t := mk [(0, (.agg [(dI a1.Me), (.d (.sl 2 (List.map d_TRange a1.Own))), (.d (.sl 2 (List.map d_TRange a1.Frozen))), (.d (.sl 2 (List.map d_TCell a1.Cells))), (.d (.sl 4 (List.map d_TLock a1.Locks))), (.d (.sl 2 (List.map d_THeld a1.Helds))), (.d (.sl 1 (List.map d_i64 a1.Wounded))), (.d (.sl 1 (List.map d_i64 a1.Ended))), (dI a1.Rank)]))] [] (lk [])) (wk_mk [] (kv 0 (.agg [(dI a1.Me), (.d (.sl 2 (List.map d_TRange a1.Own))), (.d (.sl 2 (List.map d_TRange a1.Frozen))), (.d (.sl 2 (List.map d_TCell a1.Cells))), (.d (.sl 4 (List.map d_TLock a1.Locks))), (.d (.sl 2 (List.map d_THeld a1.Helds))), (.d (.sl 1 (List.map d_i64 a1.Wounded))), (.d (.sl 1 (List.map d_i64 a1.Ended))), (dI a1.Rank)]) rfl rfl SL.nil) BL.nil BK.nil) ?_
 unfold m_impl_ShardOk at H
 unfold i8
 refine aV (oBox (n := 64) (m := 9) (cs := [(dI a1.Me), (.d (.sl 2 (List.map d_TRange a1.Own))), (.d (.sl 2 (List.map d_TRange a1.Frozen))), (.d (.sl 2 (List.map d_TCell a1.Cells))), (.d (.sl 4 (List.map d_TLock a1.Locks))), (.d (.sl 2 (List.map d_THeld a1.Helds))), (.d (.sl 1 (List.map d_i64 a1.Wounded))), (.d (.sl 1 (List.map d_i64 a1.Ended))), (dI a1.Rank)]) rfl eZ rfl rfl nZ (oMov eC (xQ (aS (AW.seqJ (fun t2 : Bool => (impl_ShardOk_j2 a1) t2 = some r) (fun t2 => mk [(1, (.one (.ptr (.nm 64 0 0)))), (55, (oB t2))] [(64, (.vars 9 [(dI a1.Me), (.d (.sl 2 (List.map d_TRange a1.Own))), (.d (.sl 2 (List.map d_TRange a1.Frozen))), (.d (.sl 2 (List.map d_TCell a1.Cells))), (.d (.sl 4 (List.map d_TLock a1.Locks))), (.d (.sl 2 (List.map d_THeld a1.Helds))), (.d (.sl 1 (List.map d_i64 a1.Wounded))), (.d (.sl 1 (List.map d_i64 a1.Ended))), (dI a1.Rank)]))] (lk [])) ?_ ?_)))))
 ·intro t2 H
  unfold impl_ShardOk_j2 at H
  rcases oite H with ⟨h4, H⟩ | ⟨h4, H⟩
  ·refine AW.condT (eR rfl) h4 (aV (oMov eC (xQ (AW.ret (TQ.qr ?_)))))
   cases H
   exact eE rfl rfl
  ·refine AW.condF (eR rfl) (nt h4) (AW.skip (TQ.qn (aS (AW.seqJ (fun t5 : Bool => (impl_ShardOk_j5 a1) t5 = some r) (fun t5 => mk [(1, (.one (.ptr (.nm 64 0 0)))), (65, (oB t5))] [(64, (.vars 9 [(dI a1.Me), (.d (.sl 2 (List.map d_TRange a1.Own))), (.d (.sl 2 (List.map d_TRange a1.Frozen))), (.d (.sl 2 (List.map d_TCell a1.Cells))), (.d (.sl 4 (List.map d_TLock a1.Locks))), (.d (.sl 2 (List.map d_THeld a1.Helds))), (.d (.sl 1 (List.map d_i64 a1.Wounded))), (.d (.sl 1 (List.map d_i64 a1.Ended))), (dI a1.Rank)]))] (lk [])) ?_ ?_))))
   ·intro t5 H
    unfold impl_ShardOk_j5 at H
    rcases oite H with ⟨h7, H⟩ | ⟨h7, H⟩
    ·refine AW.condT (eR rfl) h7 (aV (oMov eC (xQ (AW.ret (TQ.qr ?_)))))
     cases H
     exact eE rfl rfl
    ·refine AW.condF (eR rfl) (nt h7) (AW.skip (TQ.qn (aS (AW.regm (rmOne (oFaddrN (m := 6) eZ rfl (xNil (rmOne (oLoadV (q := 6) (c := (.d (.sl 1 (List.map d_i64 a1.Wounded)))) eZ bZ rfl rfl (xNil (rmOne (oFaddrN (m := 7) (eR rfl) rfl (xNil (rmOne (oLoadV (q := 7) (c := (.d (.sl 1 (List.map d_i64 a1.Ended)))) eZ bZ rfl rfl (xNil (rmOne (oBslice (m := 4480) (q := 2) (cs := [(.d (.sl 1 (List.map d_i64 a1.Wounded))), (.d (.sl 1 (List.map d_i64 a1.Ended)))]) rfl (PsCons (eR rfl) (PsCons eZ PsNil)) rfl (List.cons_ne_nil _ _) (by simp) (nS rfl nZ) (xNil (rmOne ?_))))))))))))))))))))
     obtain ⟨v8, h9, H⟩ := obind H
     refine oCall (u := (.one (.d (.sl 1 (List.map d_i64 v8))))) eC Cl.fn (c_slices_Concat_int h9) (Evs.cons eZ Evs.nil) (VDs.cons (VD.vars [(.sl 1 (List.map d_i64 a1.Wounded)), (.sl 1 (List.map d_i64 a1.Ended))] bZ rfl rfl) VDs.nil) rfl (xNil (rmOne (oVar (n := 192) (m := 1) rfl rfl (nS rfl (nS rfl nZ)) (xNil (rmOne (oStoreV (es := [(.d (.sl 1 (List.map d_i64 v8)))]) eZ (eR rfl) rfl rfl bZ rfl (xNil (rmRest (xQ (aS (aV (oFaddrN (m := 4) (eR rfl) rfl (oLoadV (q := 4) (c := (.d (.sl 4 (List.map d_TLock a1.Locks)))) eZ (bS rfl (bS rfl (bS rfl bZ))) rfl rfl (oMkfn (ps := [(.nm 64 0 0), (.nm 192 0 0)]) (Evs.cons (eR rfl) (Evs.cons (eR rfl) Evs.nil)) ?_))))))))))))))
     obtain ⟨v10, h11, H⟩ := obind H
     refine oCall (u := (oB v10)) eC Cl.fn (c_slices_ContainsFunc_Lock__ShardOk_3 h11) (Evs.cons (eR rfl) (Evs.cons eZ Evs.nil)) (VDs.cons VD.plain (VDs.cons (VD.fn (PDs.cons (VD.ptrN (bS rfl (bS rfl (bS rfl bZ))) (CDs.plain (CDs.plain (CDs.plain (CDs.plain (CDs.plain (CDs.plain (CDs.plain (CDs.plain (CDs.plain CDs.nil)))))))))) (PDs.cons (VD.ptrN bZ (CDs.plain CDs.nil)) PDs.nil))) VDs.nil)) rfl (xQ ?_)
     rcases oite H with ⟨h12, H⟩ | ⟨h12, H⟩
     ·refine AW.condT eZ h12 (aV (oMov eC (xQ (AW.ret (TQ.qr ?_)))))
      cases H
      exact eE rfl rfl
     ·refine AW.condF eZ (nt h12) (AW.skip (TQ.qn (aS (AW.regd (oFaddrN (m := 5) (eR rfl) rfl (oLoadV (q := 5) (c := (.d (.sl 2 (List.map d_THeld a1.Helds)))) eZ (bS rfl (bS rfl (bS rfl bZ))) rfl rfl ?_))))))
      obtain ⟨v13, h14, H⟩ := obind H
      refine oCallN (u := (.one (.sl 4992 0 v13.length))) (bs := [(4992, (.data 1 (List.map d_i64 v13) true none))]) eC Cl.fn (c_impl_txsOf h14) (Evs.cons eZ Evs.nil) (VDs.cons VD.plain VDs.nil) (by simp [bindR, bindV, bindVs, bindC, bindCs]) rfl (fC (nS rfl (nS rfl (nS rfl (nS rfl nZ)))) rfl (fC (nS rfl (nS rfl (nS rfl (nS rfl nZ)))) rfl fN)) (oLoadV (q := 0) (c := (.d (.sl 1 (List.map d_i64 v8)))) (eR rfl) (hB rfl (bS rfl bZ)) rfl rfl ?_)
      obtain ⟨h15, H⟩ := oguard H
      refine oAppNG (f := d_i64) (xs := v13) (ys := v8) (q := (v13 ++ v8).length) (eR rfl) eZ bZ rfl (El.lent fun _ _ => rfl) rfl h15 (by decide) (by decide) (erL.cons (v' := (.one (.d (.sl 1 (List.map d_i64 v8))))) rfl (erL.cons (v' := (.one .any)) rfl (erL.cons (v' := (.one (.d (.sl 2 (List.map d_THeld a1.Helds))))) rfl (erL.cons (v' := (.one (.ptr (.nm 64 0 5)))) rfl (erL.cons (v' := (oB v10)) rfl (erL.cons (v' := (.one (.fn 52 [(.nm 64 0 0), (.nm 192 0 0)]))) rfl (erL.cons (v' := (.one (.d (.sl 4 (List.map d_TLock a1.Locks))))) rfl (erL.cons (v' := (.one (.ptr (.nm 64 0 4)))) rfl (erL.cons (v' := (.one (.ptr (.nm 192 0 0)))) rfl (erL.cons (v' := (.one (.d (.sl 1 (List.map d_i64 v8))))) rfl (erL.cons (v' := (.one (.sl 4480 0 2))) rfl (erL.cons (v' := (.one (.d (.sl 1 (List.map d_i64 a1.Ended))))) rfl (erL.cons (v' := (.one (.ptr (.nm 64 0 7)))) rfl (erL.cons (v' := (.one (.d (.sl 1 (List.map d_i64 a1.Wounded))))) rfl (erL.cons (v' := (.one (.ptr (.nm 64 0 6)))) rfl (erL.cons (v' := (.one (.ptr (.nm 64 0 0)))) rfl (erL.cons (v' := (oB t5)) rfl erL.nil))))))))))))))))) (erH.drop rfl (erH.cons (v' := (.vars 1 [(.d (.sl 1 (List.map d_i64 v8)))])) rfl rfl (erH.cons (v' := (.vars 1 [.zs])) rfl rfl (erH.cons (v' := (.vars 1 [(.d (.sl 1 (List.map d_i64 a1.Wounded))), (.d (.sl 1 (List.map d_i64 a1.Ended)))])) rfl rfl (erH.cons (v' := (.vars 9 [(dI a1.Me), (.d (.sl 2 (List.map d_TRange a1.Own))), (.d (.sl 2 (List.map d_TRange a1.Frozen))), (.d (.sl 2 (List.map d_TCell a1.Cells))), (.d (.sl 4 (List.map d_TLock a1.Locks))), (.d (.sl 2 (List.map d_THeld a1.Helds))), (.d (.sl 1 (List.map d_i64 a1.Wounded))), (.d (.sl 1 (List.map d_i64 a1.Ended))), (dI a1.Rank)])) rfl rfl erH.nil))))) GK.nil (oMov eZ (xQ (AW.weaken (wk_mkG [192, 4480] (kr 4 rfl rfl (kr 1 rfl rfl SL.nil)) (BL.keep rfl (BL.drop rfl (BL.drop rfl (BL.drop rfl (BL.keep rfl BL.nil))))) (BK.cons (n := 4992) rfl bZ rfl rfl (BK.cons (n := 64) rfl (bS rfl (bS rfl (bS rfl (bS rfl bZ)))) rfl rfl BK.nil)) GK.nil) (aS (AW.regm (rmOne (oMov eZ (xNil ?_))))))))
      obtain ⟨v16, h17, H⟩ := obind H
      obtain ⟨h18, H⟩ := oguard H
      refine rmCallI (ON := [4992]) (ls := []) (G := []) (E := [subKey 4992]) (MB := [(4992, (.data 1 (List.map d_i64 v16) true none))]) (u := (.tup [])) eC Cl.fn (c_slices_Sort_int h17) (Evs.cons eZ Evs.nil) (AO.mut (VO.sl bZ (List.length_map _) (allFlat fun _ => rfl)) AO.nil) rfl rfl rfl (SZ.cons bZ SZ.nil) (erL.cons (v' := (.one (.sl 4992 0 ((v13 ++ v8).length)))) rfl (erL.cons (v' := (.one (.sl 4992 0 ((v13 ++ v8).length)))) rfl (erL.cons (v' := (.one (.ptr (.nm 64 0 0)))) rfl erL.nil))) (erH.cons (v' := (.data 1 (List.map d_i64 (v13 ++ v8)) true none)) rfl rfl (erH.cons (v' := (.vars 9 [(dI a1.Me), (.d (.sl 2 (List.map d_TRange a1.Own))), (.d (.sl 2 (List.map d_TRange a1.Frozen))), (.d (.sl 2 (List.map d_TCell a1.Cells))), (.d (.sl 4 (List.map d_TLock a1.Locks))), (.d (.sl 2 (List.map d_THeld a1.Helds))), (.d (.sl 1 (List.map d_i64 a1.Wounded))), (.d (.sl 1 (List.map d_i64 a1.Ended))), (dI a1.Rank)])) rfl rfl erH.nil)) erL.nil rfl rfl (rmRest (xQ (aS (AW.regm (rmOne (oMov (eR rfl) (xNil (rmOne ?_))))))))
      obtain ⟨v19, h20, H⟩ := obind H
      refine oCallN (u := (.one (.sl 5376 0 v19.length))) (bs := [(5376, (.data 1 (List.map d_i64 v19) true none))]) eC Cl.fn (c_slices_Clone_int h20) (Evs.cons eZ Evs.nil) (VDs.cons (VD.sl bZ (by first | (simp; done) | (simp; omega) | omega | (simp only [List.length_map]; omega))) VDs.nil) (by simp [bindR, bindV, bindVs, bindC, bindCs]) rfl (fC (nS rfl (nS rfl (nS rfl nZ))) rfl (fC (nS rfl (nS rfl (nS rfl nZ))) rfl fN)) (xNil ?_)
      obtain ⟨v21, h22, H⟩ := obind H
      refine rmCallI (ON := [5376]) (ls := []) (G := [5376]) (E := [5376]) (MB := []) (u := (.one (.d (.sl 1 (List.map d_i64 v21))))) eC Cl.fn (c_slices_Compact_int h22) (Evs.cons eZ Evs.nil) (AO.give (VO.sl bZ (List.length_map _) (allFlat fun _ => rfl)) AO.nil) rfl rfl rfl SZ.nil (erL.cons (v' := (.one .any)) rfl (erL.cons (v' := (.one (.sl 4992 0 ((v13 ++ v8).length)))) rfl (erL.cons (v' := (.tup [])) rfl (erL.cons (v' := (.one (.sl 4992 0 ((v13 ++ v8).length)))) rfl (erL.cons (v' := (.one (.sl 4992 0 ((v13 ++ v8).length)))) rfl (erL.cons (v' := (.one (.ptr (.nm 64 0 0)))) rfl erL.nil)))))) (erH.drop rfl (erH.cons (v' := (.data 1 (List.map d_i64 v16) true none)) rfl rfl (erH.cons (v' := (.data 1 (List.map d_i64 (v13 ++ v8)) true none)) rfl rfl (erH.cons (v' := (.vars 9 [(dI a1.Me), (.d (.sl 2 (List.map d_TRange a1.Own))), (.d (.sl 2 (List.map d_TRange a1.Frozen))), (.d (.sl 2 (List.map d_TCell a1.Cells))), (.d (.sl 4 (List.map d_TLock a1.Locks))), (.d (.sl 2 (List.map d_THeld a1.Helds))), (.d (.sl 1 (List.map d_i64 a1.Wounded))), (.d (.sl 1 (List.map d_i64 a1.Ended))), (dI a1.Rank)])) rfl rfl erH.nil)))) erL.nil rfl rfl (rmRest (oLenD eZ (n := v21.length) (List.length_map _) (oMov (eR rfl) (oLenN eZ (oEql (eR rfl) eZ (oMov eZ ?_))))))
      rcases oite H with ⟨h23, H⟩ | ⟨h23, H⟩
      ·refine gDo eZ (dT h23) (oLoadVA (es := [(dI a1.Me), (.d (.sl 2 (List.map d_TRange a1.Own))), (.d (.sl 2 (List.map d_TRange a1.Frozen))), (.d (.sl 2 (List.map d_TCell a1.Cells))), (.d (.sl 4 (List.map d_TLock a1.Locks))), (.d (.sl 2 (List.map d_THeld a1.Helds))), (.d (.sl 1 (List.map d_i64 a1.Wounded))), (.d (.sl 1 (List.map d_i64 a1.Ended))), (dI a1.Rank)]) (eR rfl) (bS rfl (bS rfl bZ)) rfl (gDo (eR rfl) (dT h23) ?_))
       obtain ⟨v24, h25, H⟩ := obind H
       refine oCall (u := (oI v24)) eC Cl.fn (c_impl_room h25) (Evs.cons eZ Evs.nil) (VDs.cons (VD.agg rfl) VDs.nil) rfl (gDo (eR rfl) (dT h23) (oLeq eZ eC (oPickT (eR rfl) (dT h23) eZ (oMov eZ (xQ (AW.weaken (wk_mkG [4992, 64] (kr 2 rfl rfl SL.nil) (BL.drop rfl (BL.drop rfl (BL.drop rfl BL.nil))) BK.nil GK.nil) (AW.ret ?_)))))))
       cases H
       exact eE rfl rfl
      ·refine gSkip eZ (dF h23) rfl (gSkip (eR rfl) (dF h23) rfl (gSkip (eR rfl) (dF h23) rfl (oPickF (eR rfl) (dF h23) eC (oMov eZ (xQ (AW.weaken (wk_mkG [4992, 64] (kr 2 rfl rfl SL.nil) (BL.drop rfl (BL.drop rfl (BL.drop rfl BL.nil))) BK.nil GK.nil) (AW.ret ?_)))))))
       cases H
       exact eE rfl rfl
   ·refine aR (oFaddrN (m := 2) eZ rfl (oLoadV (q := 2) (c := (.d (.sl 2 (List.map d_TRange a1.Frozen)))) eZ bZ rfl rfl (oMkfn (ps := [(.nm 64 0 0)]) (Evs.cons (eR rfl) Evs.nil) ?_)))
    obtain ⟨v26, h27, H⟩ := obind H
    refine oCall (u := (oB v26)) eC Cl.fn (c_slices_ContainsFunc_Range__ShardOk_1 h27) (Evs.cons (eR rfl) (Evs.cons eZ Evs.nil)) (VDs.cons VD.plain (VDs.cons (VD.fn (PDs.cons (VD.ptrN bZ (CDs.plain (CDs.plain (CDs.plain (CDs.plain (CDs.plain (CDs.plain (CDs.plain (CDs.plain (CDs.plain CDs.nil)))))))))) PDs.nil)) VDs.nil)) rfl (oMov eZ ?_)
    rcases oite H with ⟨h28, H⟩ | ⟨h28, H⟩
    ·exact gSkip eZ h28 rfl (gSkip (eR rfl) h28 rfl (gSkip (eR rfl) h28 rfl (gSkip (eR rfl) h28 rfl (oPickT (eR rfl) h28 eC (xNil (TQ.qn ⟨true, H, (wk_mkG [] (kR rfl rfl (kR rfl rfl SL.nil)) (BL.keep rfl BL.nil) (BK.cons rfl bZ rfl rfl BK.nil) GK.nil)⟩))))))
    ·refine gDo eZ (nt h28) (oFaddrN (m := 3) (eR rfl) rfl (gDo (eR rfl) (nt h28) (oLoadV (q := 3) (c := (.d (.sl 2 (List.map d_TCell a1.Cells)))) eZ bZ rfl rfl (gDo (eR rfl) (nt h28) (oMkfn (ps := [(.nm 64 0 0)]) (Evs.cons (eR rfl) Evs.nil) (gDo (eR rfl) (nt h28) ?_))))))
     obtain ⟨v29, h30, H⟩ := obind H
     exact oCall (u := (oB v29)) eC Cl.fn (c_slices_ContainsFunc_Cell__ShardOk_2 h30) (Evs.cons (eR rfl) (Evs.cons eZ Evs.nil)) (VDs.cons VD.plain (VDs.cons (VD.fn (PDs.cons (VD.ptrN bZ (CDs.plain (CDs.plain (CDs.plain (CDs.plain (CDs.plain (CDs.plain (CDs.plain (CDs.plain (CDs.plain CDs.nil)))))))))) PDs.nil)) VDs.nil)) rfl (oPickF (eR rfl) (nt h28) eZ (xNil (TQ.qn ⟨v29, H, (wk_mkG [] (kR rfl rfl (kR rfl rfl SL.nil)) (BL.keep rfl BL.nil) (BK.cons rfl bZ rfl rfl BK.nil) GK.nil)⟩)))
 ·refine aR (oFaddrN (m := 0) (eR rfl) rfl (oLoadV (q := 0) (c := (dI a1.Me)) eZ bZ rfl rfl ?_))
  obtain ⟨v31, h32, H⟩ := obind H
  refine oCall (u := (oB v31)) eC Cl.fn (c_impl_isGroup h32) (Evs.cons eZ Evs.nil) (VDs.cons VD.plain VDs.nil) rfl (oInv eZ (oMov eZ ?_))
  rcases oite H with ⟨h33, H⟩ | ⟨h33, H⟩
  ·refine gDo eZ (cN h33) (oFaddrN (m := 1) (eR rfl) rfl (gDo (eR rfl) (cN h33) (oLoadV (q := 1) (c := (.d (.sl 2 (List.map d_TRange a1.Own)))) eZ bZ rfl rfl (gDo (eR rfl) (cN h33) ?_))))
   obtain ⟨v34, h35, H⟩ := obind H
   refine oCall (u := (oB v34)) eC Cl.fn (c_impl_RangesOk h35) (Evs.cons eZ Evs.nil) (VDs.cons VD.plain VDs.nil) rfl (gDo (eR rfl) (cN h33) (oInv eZ (oPickF (eR rfl) (cN h33) eZ (oMov eZ ?_))))
   rcases oite H with ⟨h36, H⟩ | ⟨h36, H⟩
   ·refine gDo eZ (cN h36) (oFaddrN (m := 2) (eR rfl) rfl (gDo (eR rfl) (cN h36) (oLoadV (q := 2) (c := (.d (.sl 2 (List.map d_TRange a1.Frozen)))) eZ bZ rfl rfl (gDo (eR rfl) (cN h36) ?_))))
    obtain ⟨v37, h38, H⟩ := obind H
    refine oCall (u := (oB v37)) eC Cl.fn (c_impl_RangesOk h38) (Evs.cons eZ Evs.nil) (VDs.cons VD.plain VDs.nil) rfl (gDo (eR rfl) (cN h36) (oInv eZ (oPickF (eR rfl) (cN h36) eZ (oMov eZ ?_))))
    rcases oite H with ⟨h39, H⟩ | ⟨h39, H⟩
    ·refine gDo eZ (cN h39) (oFaddrN (m := 3) (eR rfl) rfl (gDo (eR rfl) (cN h39) (oLoadV (q := 3) (c := (.d (.sl 2 (List.map d_TCell a1.Cells)))) eZ bZ rfl rfl (gDo (eR rfl) (cN h39) ?_))))
     obtain ⟨v40, h41, H⟩ := obind H
     refine oCall (u := (oB v40)) eC Cl.fn (c_impl_StoreOk h41) (Evs.cons eZ Evs.nil) (VDs.cons VD.plain VDs.nil) rfl (gDo (eR rfl) (cN h39) (oInv eZ (oPickF (eR rfl) (cN h39) eZ (oMov eZ ?_))))
     rcases oite H with ⟨h42, H⟩ | ⟨h42, H⟩
     ·refine gDo eZ (cN h42) (oFaddrN (m := 4) (eR rfl) rfl (gDo (eR rfl) (cN h42) (oLoadV (q := 4) (c := (.d (.sl 4 (List.map d_TLock a1.Locks)))) eZ bZ rfl rfl (gDo (eR rfl) (cN h42) ?_))))
      obtain ⟨v43, h44, H⟩ := obind H
      refine oCall (u := (oB v43)) eC Cl.fn (c_impl_LocksOk h44) (Evs.cons eZ Evs.nil) (VDs.cons VD.plain VDs.nil) rfl (gDo (eR rfl) (cN h42) (oInv eZ (oPickF (eR rfl) (cN h42) eZ (oMov eZ ?_))))
      rcases oite H with ⟨h45, H⟩ | ⟨h45, H⟩
      ·refine gDo eZ (cN h45) (oLoadVA (es := [(dI a1.Me), (.d (.sl 2 (List.map d_TRange a1.Own))), (.d (.sl 2 (List.map d_TRange a1.Frozen))), (.d (.sl 2 (List.map d_TCell a1.Cells))), (.d (.sl 4 (List.map d_TLock a1.Locks))), (.d (.sl 2 (List.map d_THeld a1.Helds))), (.d (.sl 1 (List.map d_i64 a1.Wounded))), (.d (.sl 1 (List.map d_i64 a1.Ended))), (dI a1.Rank)]) (eR rfl) bZ rfl (gDo (eR rfl) (cN h45) ?_))
       obtain ⟨v46, h47, H⟩ := obind H
       refine oCall (u := (oB v46)) eC Cl.fn (c_impl_heldsOk h47) (Evs.cons eZ Evs.nil) (VDs.cons (VD.agg rfl) VDs.nil) rfl (gDo (eR rfl) (cN h45) (oInv eZ (oPickF (eR rfl) (cN h45) eZ (oMov eZ ?_))))
       rcases oite H with ⟨h48, H⟩ | ⟨h48, H⟩
       ·refine gDo eZ (cN h48) (oFaddrN (m := 6) (eR rfl) rfl (gDo (eR rfl) (cN h48) (oLoadV (q := 6) (c := (.d (.sl 1 (List.map d_i64 a1.Wounded)))) eZ bZ rfl rfl (gDo (eR rfl) (cN h48) ?_))))
        obtain ⟨v49, h50, H⟩ := obind H
        refine oCall (u := (oB v49)) eC Cl.fn (c_impl_ascending h50) (Evs.cons eZ Evs.nil) (VDs.cons VD.plain VDs.nil) rfl (gDo (eR rfl) (cN h48) (oInv eZ (oPickF (eR rfl) (cN h48) eZ (oMov eZ ?_))))
        rcases oite H with ⟨h51, H⟩ | ⟨h51, H⟩
        ·refine gDo eZ (cN h51) (oFaddrN (m := 7) (eR rfl) rfl (gDo (eR rfl) (cN h51) (oLoadV (q := 7) (c := (.d (.sl 1 (List.map d_i64 a1.Ended)))) eZ bZ rfl rfl (gDo (eR rfl) (cN h51) ?_))))
         obtain ⟨v52, h53, H⟩ := obind H
         refine oCall (u := (oB v52)) eC Cl.fn (c_impl_ascending h53) (Evs.cons eZ Evs.nil) (VDs.cons VD.plain VDs.nil) rfl (gDo (eR rfl) (cN h51) (oInv eZ (oPickF (eR rfl) (cN h51) eZ (oMov eZ ?_))))
         rcases oite H with ⟨h54, H⟩ | ⟨h54, H⟩
         ·refine gDo eZ (cN h54) (oFaddrN (m := 8) (eR rfl) rfl (gDo (eR rfl) (cN h54) (oLoadV (q := 8) (c := (dI a1.Rank)) eZ bZ rfl rfl (gDo (eR rfl) (cN h54) ?_))))
          obtain ⟨v55, h56, H⟩ := obind H
          exact oCall (u := (oB v55)) eC Cl.fn (c_impl_from h56) (Evs.cons eZ (Evs.cons eC (Evs.cons eC Evs.nil))) (VDs.cons VD.plain (VDs.cons VD.plain (VDs.cons VD.plain VDs.nil))) rfl (gDo (eR rfl) (cN h54) (oInv eZ (oPickF (eR rfl) (cN h54) eZ (xNil (TQ.qn ⟨(!v55), H, (wk_mkG [] (kR rfl rfl (kR rfl rfl SL.nil)) (BL.keep rfl BL.nil) (BK.cons rfl bZ rfl rfl BK.nil) GK.nil)⟩)))))
         ·exact gSkip eZ (cN (nt h54)) rfl (gSkip (eR rfl) (cN (nt h54)) rfl (gSkip (eR rfl) (cN (nt h54)) rfl (gSkip (eR rfl) (cN (nt h54)) rfl (oPickT (eR rfl) (cN (nt h54)) eC (xNil (TQ.qn ⟨true, H, (wk_mkG [] (kR rfl rfl (kR rfl rfl SL.nil)) (BL.keep rfl BL.nil) (BK.cons rfl bZ rfl rfl BK.nil) GK.nil)⟩))))))
        ·exact gSkip eZ (cN (nt h51)) rfl (gSkip (eR rfl) (cN (nt h51)) rfl (gSkip (eR rfl) (cN (nt h51)) rfl (gSkip (eR rfl) (cN (nt h51)) rfl (oPickT (eR rfl) (cN (nt h51)) eC (oMov eZ (gSkip eZ rfl rfl (gSkip (eR rfl) rfl rfl (gSkip (eR rfl) rfl rfl (gSkip (eR rfl) rfl rfl (oPickT (eR rfl) rfl eC (xNil (TQ.qn ⟨true, H, (wk_mkG [] (kR rfl rfl (kR rfl rfl SL.nil)) (BL.keep rfl BL.nil) (BK.cons rfl bZ rfl rfl BK.nil) GK.nil)⟩))))))))))))
       ·exact gSkip eZ (cN (nt h48)) rfl (gSkip (eR rfl) (cN (nt h48)) rfl (gSkip (eR rfl) (cN (nt h48)) rfl (gSkip (eR rfl) (cN (nt h48)) rfl (oPickT (eR rfl) (cN (nt h48)) eC (oMov eZ (gSkip eZ rfl rfl (gSkip (eR rfl) rfl rfl (gSkip (eR rfl) rfl rfl (gSkip (eR rfl) rfl rfl (oPickT (eR rfl) rfl eC (oMov eZ (gSkip eZ rfl rfl (gSkip (eR rfl) rfl rfl (gSkip (eR rfl) rfl rfl (gSkip (eR rfl) rfl rfl (oPickT (eR rfl) rfl eC (xNil (TQ.qn ⟨true, H, (wk_mkG [] (kR rfl rfl (kR rfl rfl SL.nil)) (BL.keep rfl BL.nil) (BK.cons rfl bZ rfl rfl BK.nil) GK.nil)⟩))))))))))))))))))
      ·exact gSkip eZ (cN (nt h45)) rfl (gSkip (eR rfl) (cN (nt h45)) rfl (gSkip (eR rfl) (cN (nt h45)) rfl (oPickT (eR rfl) (cN (nt h45)) eC (oMov eZ (gSkip eZ rfl rfl (gSkip (eR rfl) rfl rfl (gSkip (eR rfl) rfl rfl (gSkip (eR rfl) rfl rfl (oPickT (eR rfl) rfl eC (oMov eZ (gSkip eZ rfl rfl (gSkip (eR rfl) rfl rfl (gSkip (eR rfl) rfl rfl (gSkip (eR rfl) rfl rfl (oPickT (eR rfl) rfl eC (oMov eZ (gSkip eZ rfl rfl (gSkip (eR rfl) rfl rfl (gSkip (eR rfl) rfl rfl (gSkip (eR rfl) rfl rfl (oPickT (eR rfl) rfl eC (xNil (TQ.qn ⟨true, H, (wk_mkG [] (kR rfl rfl (kR rfl rfl SL.nil)) (BL.keep rfl BL.nil) (BK.cons rfl bZ rfl rfl BK.nil) GK.nil)⟩)))))))))))))))))))))))
     ·exact gSkip eZ (cN (nt h42)) rfl (gSkip (eR rfl) (cN (nt h42)) rfl (gSkip (eR rfl) (cN (nt h42)) rfl (gSkip (eR rfl) (cN (nt h42)) rfl (oPickT (eR rfl) (cN (nt h42)) eC (oMov eZ (gSkip eZ rfl rfl (gSkip (eR rfl) rfl rfl (gSkip (eR rfl) rfl rfl (oPickT (eR rfl) rfl eC (oMov eZ (gSkip eZ rfl rfl (gSkip (eR rfl) rfl rfl (gSkip (eR rfl) rfl rfl (gSkip (eR rfl) rfl rfl (oPickT (eR rfl) rfl eC (oMov eZ (gSkip eZ rfl rfl (gSkip (eR rfl) rfl rfl (gSkip (eR rfl) rfl rfl (gSkip (eR rfl) rfl rfl (oPickT (eR rfl) rfl eC (oMov eZ (gSkip eZ rfl rfl (gSkip (eR rfl) rfl rfl (gSkip (eR rfl) rfl rfl (gSkip (eR rfl) rfl rfl (oPickT (eR rfl) rfl eC (xNil (TQ.qn ⟨true, H, (wk_mkG [] (kR rfl rfl (kR rfl rfl SL.nil)) (BL.keep rfl BL.nil) (BK.cons rfl bZ rfl rfl BK.nil) GK.nil)⟩)))))))))))))))))))))))))))))
    ·exact gSkip eZ (cN (nt h39)) rfl (gSkip (eR rfl) (cN (nt h39)) rfl (gSkip (eR rfl) (cN (nt h39)) rfl (gSkip (eR rfl) (cN (nt h39)) rfl (oPickT (eR rfl) (cN (nt h39)) eC (oMov eZ (gSkip eZ rfl rfl (gSkip (eR rfl) rfl rfl (gSkip (eR rfl) rfl rfl (gSkip (eR rfl) rfl rfl (oPickT (eR rfl) rfl eC (oMov eZ (gSkip eZ rfl rfl (gSkip (eR rfl) rfl rfl (gSkip (eR rfl) rfl rfl (oPickT (eR rfl) rfl eC (oMov eZ (gSkip eZ rfl rfl (gSkip (eR rfl) rfl rfl (gSkip (eR rfl) rfl rfl (gSkip (eR rfl) rfl rfl (oPickT (eR rfl) rfl eC (oMov eZ (gSkip eZ rfl rfl (gSkip (eR rfl) rfl rfl (gSkip (eR rfl) rfl rfl (gSkip (eR rfl) rfl rfl (oPickT (eR rfl) rfl eC (oMov eZ (gSkip eZ rfl rfl (gSkip (eR rfl) rfl rfl (gSkip (eR rfl) rfl rfl (gSkip (eR rfl) rfl rfl (oPickT (eR rfl) rfl eC (xNil (TQ.qn ⟨true, H, (wk_mkG [] (kR rfl rfl (kR rfl rfl SL.nil)) (BL.keep rfl BL.nil) (BK.cons rfl bZ rfl rfl BK.nil) GK.nil)⟩)))))))))))))))))))))))))))))))))))
   ·refine gSkip eZ (cN (nt h36)) rfl (gSkip (eR rfl) (cN (nt h36)) rfl (gSkip (eR rfl) (cN (nt h36)) rfl (gSkip (eR rfl) (cN (nt h36)) rfl (oPickT (eR rfl) (cN (nt h36)) eC (oMov eZ (gSkip eZ rfl rfl (gSkip (eR rfl) rfl rfl (gSkip (eR rfl) rfl rfl (gSkip (eR rfl) rfl rfl (oPickT (eR rfl) rfl eC (oMov eZ (gSkip eZ rfl rfl (gSkip (eR rfl) rfl rfl (gSkip (eR rfl) rfl rfl (gSkip (eR rfl) rfl rfl (oPickT (eR rfl) rfl eC (oMov eZ (gSkip eZ rfl rfl (gSkip (eR rfl) rfl rfl (gSkip (eR rfl) rfl rfl (oPickT (eR rfl) rfl eC (oMov eZ (gSkip eZ rfl rfl (gSkip (eR rfl) rfl rfl (gSkip (eR rfl) rfl rfl (gSkip (eR rfl) rfl rfl (oPickT (eR rfl) rfl eC (oMov eZ (gSkip eZ rfl rfl (gSkip (eR rfl) rfl rfl (gSkip (eR rfl) rfl rfl (gSkip (eR rfl) rfl rfl (oPickT (eR rfl) rfl eC (oMov eZ (gSkip eZ rfl rfl (gSkip (eR rfl) rfl rfl (gSkip (eR rfl) rfl rfl (gSkip (eR rfl) rfl rfl (oPickT (eR rfl) rfl eC ?_)))))))))))))))))))))))))))))))))))))))
    exact xNil (TQ.qn ⟨true, H, (wk_mkG [] (kR rfl rfl (kR rfl rfl SL.nil)) (BL.keep rfl BL.nil) (BK.cons rfl bZ rfl rfl BK.nil) GK.nil)⟩)
  ·refine gSkip eZ (cN (nt h33)) rfl (gSkip (eR rfl) (cN (nt h33)) rfl (gSkip (eR rfl) (cN (nt h33)) rfl (gSkip (eR rfl) (cN (nt h33)) rfl (oPickT (eR rfl) (cN (nt h33)) eC (oMov eZ (gSkip eZ rfl rfl (gSkip (eR rfl) rfl rfl (gSkip (eR rfl) rfl rfl (gSkip (eR rfl) rfl rfl (oPickT (eR rfl) rfl eC (oMov eZ (gSkip eZ rfl rfl (gSkip (eR rfl) rfl rfl (gSkip (eR rfl) rfl rfl (gSkip (eR rfl) rfl rfl (oPickT (eR rfl) rfl eC (oMov eZ (gSkip eZ rfl rfl (gSkip (eR rfl) rfl rfl (gSkip (eR rfl) rfl rfl (gSkip (eR rfl) rfl rfl (oPickT (eR rfl) rfl eC (oMov eZ (gSkip eZ rfl rfl (gSkip (eR rfl) rfl rfl (gSkip (eR rfl) rfl rfl (oPickT (eR rfl) rfl eC (oMov eZ (gSkip eZ rfl rfl (gSkip (eR rfl) rfl rfl (gSkip (eR rfl) rfl rfl (gSkip (eR rfl) rfl rfl (oPickT (eR rfl) rfl eC (oMov eZ (gSkip eZ rfl rfl (gSkip (eR rfl) rfl rfl (gSkip (eR rfl) rfl rfl (gSkip (eR rfl) rfl rfl (oPickT (eR rfl) rfl eC ?_)))))))))))))))))))))))))))))))))))))))
   exact oMov eZ (gSkip eZ rfl rfl (gSkip (eR rfl) rfl rfl (gSkip (eR rfl) rfl rfl (gSkip (eR rfl) rfl rfl (oPickT (eR rfl) rfl eC (xNil (TQ.qn ⟨true, H, (wk_mkG [] (kR rfl rfl (kR rfl rfl SL.nil)) (BL.keep rfl BL.nil) (BK.cons rfl bZ rfl rfl BK.nil) GK.nil)⟩)))))))
theorem c_impl_NewShard {a1 : Int} {a2 : (List TRange)} {r : TShard} (H : m_impl_NewShard a1 a2 = some r) : Fn Tryz.prog 13 (lent [(.int .i64 a1), (.sl 2 (List.map d_TRange a2))]) true [(.agg (d_TShard r))] := by
 refine f13 (fle rfl) ?_
 rw [init_mk]
 refine AW.weaken (t := mk [(0, (oI a1)), (1, (.one (.d (.sl 2 (List.map d_TRange a2)))))] [] (lk [])) (wk_mk [] (kv 0 (oI a1) rfl rfl (kv 1 (.one (.d (.sl 2 (List.map d_TRange a2)))) rfl rfl SL.nil)) BL.nil BK.nil) ?_
 unfold m_impl_NewShard at H
 unfold i13
 refine aV (oVar (n := 256) (m := 9) rfl rfl nZ (xQ (aS (AW.regm (rmOne (oMov (eR rfl) (xNil (rmOne (oMov (eR rfl) (xNil (rmOne ?_)))))))))))
 obtain ⟨v3, h4, H⟩ := obind H
 refine oCallN (u := (.one (.sl 512 0 v3.length))) (bs := [(512, (.data 2 (List.map d_TRange v3) true none))]) eC Cl.fn (c_slices_Clone_Range h4) (Evs.cons eZ Evs.nil) (VDs.cons VD.plain VDs.nil) (by simp [bindR, bindV, bindVs, bindC, bindCs]) rfl (fC (nS rfl nZ) rfl (fC (nS rfl nZ) rfl fN)) (xNil (rmOne (oBuild (cs := [(dI a1), (.sl 512 0 v3.length), .zs, .zs, .zs, .zs, .zs, .zs, (dI 0)]) (PsCons (eR rfl) (PsCons eZ PsNil)) rfl (xNil (rmOne (oVar (n := 320) (m := 9) rfl rfl (nS rfl (nS rfl nZ)) (xNil (rmOne (oStoreV (es := [(dI a1), (.sl 512 0 v3.length), .zs, .zs, .zs, .zs, .zs, .zs, (dI 0)]) eZ (eR rfl) rfl rfl bZ rfl (xNil (rmRest (xQ (aS (aV (oLoadVA (es := [(dI a1), (.sl 512 0 v3.length), .zs, .zs, .zs, .zs, .zs, .zs, (dI 0)]) eZ bZ rfl ?_)))))))))))))))
 obtain ⟨v5, h6, H⟩ := obind H
 refine oCall (u := (oB v5)) eC Cl.fn (Fn.args (RdAs.cons (RdI.agg (RdIs.cons RdI.rfl rfl (RdIs.cons RdI.rfl rfl (RdIs.cons RdI.zs rfl (RdIs.cons RdI.zs rfl (RdIs.cons RdI.zs rfl (RdIs.cons RdI.zs rfl (RdIs.cons RdI.zs rfl (RdIs.cons RdI.zs rfl (RdIs.cons RdI.rfl rfl RdIs.nil)))))))))) RdAs.nil) (c_impl_ShardOk h6)) (Evs.cons eZ Evs.nil) (VDs.cons (VD.aggs (CDs.plain (CDs.sl (bS rfl (bS rfl bZ)) (List.length_map _) (CDs.zs (CDs.zs (CDs.zs (CDs.zs (CDs.zs (CDs.zs (CDs.plain CDs.nil)))))))))) VDs.nil) rfl (oInv eZ (xQ ?_))
 rcases oite H with ⟨h7, H⟩ | ⟨h7, H⟩
 ·refine AW.condF eZ (cN h7) (AW.skip (TQ.qn (aS (AW.regm (rmOne (oLoadVA (es := [(dI a1), (.sl 512 0 v3.length), .zs, .zs, .zs, .zs, .zs, .zs, (dI 0)]) (eR rfl) bZ rfl (xNil (rmOne (oStoreV (es := [(dI a1), (.sl 512 0 v3.length), .zs, .zs, .zs, .zs, .zs, .zs, (dI 0)]) (eR rfl) eZ rfl rfl (bS rfl (bS rfl (bS rfl bZ))) rfl (xNil (rmRest (xQ (AW.ret ?_)))))))))))))
  cases H
  exact endsR (RL.cons (RV.cellA (es := [(dI a1), (.sl 512 0 v3.length), .zs, .zs, .zs, .zs, .zs, .zs, (dI 0)]) (eR rfl) bZ rfl) (VO.aggs (VOs.cons (VO.flat rfl) (VOs.cons (VO.sl (bS rfl (bS rfl (bS rfl bZ))) (List.length_map _) (allFlat fun _ => rfl)) (VOs.cons VO.zs (VOs.cons VO.zs (VOs.cons VO.zs (VOs.cons VO.zs (VOs.cons VO.zs (VOs.cons VO.zs (VOs.cons (VO.flat rfl) VOs.nil)))))))))) RL.nil) (by decide)
 ·refine AW.condT eZ (cN (nt h7)) (aS (AW.regm (rmOne (oBuild (cs := [(dI 0), .zs, .zs, .zs, .zs, .zs, .zs, .zs, (dI 0)]) PsNil rfl (xNil (rmOne (oStoreV (es := [(dI 0), .zs, .zs, .zs, .zs, .zs, .zs, .zs, (dI 0)]) (eR rfl) eZ rfl rfl (bS rfl (bS rfl (bS rfl bZ))) rfl (xNil (rmRest (xQ (AW.ret (TQ.qr ?_))))))))))))
  cases H
  exact endsR (RL.cons (RV.cellA (es := [(dI 0), .zs, .zs, .zs, .zs, .zs, .zs, .zs, (dI 0)]) (eR rfl) bZ rfl) (VO.aggs (VOs.cons (VO.flat rfl) (VOs.cons VO.zs (VOs.cons VO.zs (VOs.cons VO.zs (VOs.cons VO.zs (VOs.cons VO.zs (VOs.cons VO.zs (VOs.cons VO.zs (VOs.cons (VO.flat rfl) VOs.nil)))))))))) RL.nil) List.nodup_nil
theorem c_laws_eqRange {a1 : TRange} {a2 : TRange} {r : Bool} (H : m_laws_eqRange a1 a2 = some r) : Fn Tryz.prog 66 (lent [(.agg (d_TRange a1)), (.agg (d_TRange a2))]) true [(.bool r)] := by
 refine f66 (fle rfl) ?_
 rw [init_mk]
 refine AW.weaken (wk_mk [] (kv 0 (.agg [(dI a1.Lo), (dI a1.Hi)]) rfl rfl (kv 1 (.agg [(dI a2.Lo), (dI a2.Hi)]) rfl rfl SL.nil)) BL.nil BK.nil) ?_
 unfold m_laws_eqRange at H
 unfold i66
 refine aV (oBox (n := 128) (m := 2) (cs := [(dI a1.Lo), (dI a1.Hi)]) rfl eZ rfl rfl nZ (oBox (n := 192) (m := 2) (cs := [(dI a2.Lo), (dI a2.Hi)]) rfl (eR rfl) rfl rfl (nS rfl nZ) (oMov eC (xQ (aS (aV (oFaddrN (m := 0) (eR rfl) rfl (oLoadV (q := 0) (c := (dI a1.Lo)) eZ (bS rfl bZ) rfl rfl (oFaddrN (m := 0) (eR rfl) rfl (oLoadV (q := 0) (c := (dI a2.Lo)) eZ bZ rfl rfl (oNeq (eR rfl) eZ (xQ ?_))))))))))))
 rcases oite H with ⟨h3, H⟩ | ⟨h3, H⟩
 ·refine AW.condT eZ (dT h3) (aV (oMov eC (xQ (AW.ret (TQ.qr ?_)))))
  cases H
  exact eE rfl rfl
 ·refine AW.condF eZ (dF h3) (AW.skip (TQ.qn (aS (aV (oFaddrN (m := 1) (eR rfl) rfl (oLoadV (q := 1) (c := (dI a1.Hi)) eZ (bS rfl bZ) rfl rfl (oFaddrN (m := 1) (eR rfl) rfl (oLoadV (q := 1) (c := (dI a2.Hi)) eZ bZ rfl rfl (oNeq (eR rfl) eZ (xQ ?_))))))))))
  rcases oite H with ⟨h4, H⟩ | ⟨h4, H⟩
  ·refine AW.condT eZ (dT h4) (aV (oMov eC (xQ (AW.weaken (wk_mk [192, 128] (kr 4 rfl rfl SL.nil) (BL.drop rfl (BL.drop rfl BL.nil)) BK.nil) (AW.ret (TQ.qr ?_))))))
   cases H
   exact eE rfl rfl
  ·refine AW.condF eZ (dF h4) (AW.skip (TQ.qn (aV (oMov eC (xQ (AW.weaken (wk_mk [192, 128] (kr 4 rfl rfl SL.nil) (BL.drop rfl (BL.drop rfl BL.nil)) BK.nil) (AW.ret ?_)))))))
   cases H
   exact eE rfl rfl
theorem c_laws_eqRangeS {a1 : (List TRange)} {a2 : (List TRange)} {r : Bool} (H : m_laws_eqRangeS a1 a2 = some r) : Fn Tryz.prog 14 (lent [(.sl 2 (List.map d_TRange a1)), (.sl 2 (List.map d_TRange a2))]) true [(.bool r)] := by
 refine f14 (fle rfl) ?_
 rw [init_mk]
 refine AW.weaken (wk_mk [] (kv 0 (.one (.d (.sl 2 (List.map d_TRange a1)))) rfl rfl (kv 1 (.one (.d (.sl 2 (List.map d_TRange a2)))) rfl rfl SL.nil)) BL.nil BK.nil) ?_
 unfold m_laws_eqRangeS at H
 unfold i14
 refine aV (oMov eC (xQ (aS (aV (oMov (eR rfl) (oLenD eZ (n := a1.length) (List.length_map _) (oMov (eR rfl) (oLenD eZ (n := a2.length) (List.length_map _) (oNeq (eR rfl) eZ (xQ ?_))))))))))
 rcases oite H with ⟨h3, H⟩ | ⟨h3, H⟩
 ·refine AW.condT eZ (dT h3) (aV (oMov eC (xQ (AW.ret (TQ.qr ?_)))))
  cases H
  exact eE rfl rfl
 ·refine AW.condF eZ (dF h3) (AW.skip (TQ.qn (AW.seqJ (fun t4 : Unit => laws_eqRangeS_j4 t4 = some r) (fun t4 => mk [] [] noG) ?_ ?_)))
  ·intro t4 H
   unfold laws_eqRangeS_j4 at H
   refine aV (oMov eC (xQ (AW.ret ?_)))
   cases H
   exact eE rfl rfl
  ·refine aV (oMov eC (xQ (AW.block (AW.iter (fun s6 : Int => mk [(0, (.one (.d (.sl 2 (List.map d_TRange a1))))), (1, (.one (.d (.sl 2 (List.map d_TRange a2))))), (5, (oI s6))] [] noG) H (wk_mk [] (kR rfl rfl (kR rfl rfl (kR rfl rfl SL.nil))) BL.nil BK.nil) ?_))))
   intro kb7 s6 H
   unfold laws_eqRangeS_b6 at H
   refine aS (aV (oMov (eR rfl) (oMov (eR rfl) (oLenD eZ (n := a1.length) (List.length_map _) (oLss (eR rfl) eZ (xQ ?_))))))
   rcases oite H with ⟨h8, H⟩ | ⟨h8, H⟩
   ·refine AW.condT eZ (dT h8) (AW.skip (TQ.qn (aS (AW.block (aS (AW.regd (oMov (eR rfl) (oMov (eR rfl) ?_))))))))
    obtain ⟨v9, h10, H⟩ := obind H
    refine oAtD (eR rfl) eZ h10 (oLoadBA (es := [(dI v9.Lo), (dI v9.Hi)]) eZ rfl (oMov (eR rfl) (oMov (eR rfl) ?_)))
    obtain ⟨v11, h12, H⟩ := obind H
    refine oAtD (eR rfl) eZ h12 (oLoadBA (es := [(dI v11.Lo), (dI v11.Hi)]) eZ rfl ?_)
    obtain ⟨v13, h14, H⟩ := obind H
    refine oCall (u := (oB v13)) eC Cl.fn (c_laws_eqRange h14) (Evs.cons (eR rfl) (Evs.cons eZ Evs.nil)) (VDs.cons (VD.agg rfl) (VDs.cons (VD.agg rfl) VDs.nil)) rfl (oInv eZ (xQ (AW.weaken (wk_mk [] (kr 26 rfl rfl (kr 0 rfl rfl (kr 1 rfl rfl (kr 5 rfl rfl SL.nil)))) BL.nil BK.nil) ?_)))
    rcases oite H with ⟨h15, H⟩ | ⟨h15, H⟩
    ·exact AW.condF eZ (cN h15) (AW.skip (BQ.qn (TQ.qn (aR (oMov (eR rfl) (oAdd eZ eC (oMov eZ (xNil (TQ.qn ⟨(IntKind.wrap .i64 (s6 + 1)), H, (wk_mk [] (kR rfl rfl (kR rfl rfl (kR rfl rfl SL.nil))) BL.nil BK.nil)⟩)))))))))
    ·refine AW.condT eZ (cN (nt h15)) (aV (oMov eC (xQ (AW.ret (BQ.qr (TQ.qr (TQ.qr (BQ.qr (TQ.qr ?_)))))))))
     cases H
     exact eE rfl rfl
   ·exact AW.condF eZ (dF h8) (AW.exit (TQ.qe (TQ.qe (BQ.qe (TQ.qn ⟨(), H, (wk_mk [] SL.nil BL.nil BK.nil)⟩)))))
theorem c_laws_eqCell {a1 : TCell} {a2 : TCell} {r : Bool} (H : m_laws_eqCell a1 a2 = some r) : Fn Tryz.prog 108 (lent [(.agg (d_TCell a1)), (.agg (d_TCell a2))]) true [(.bool r)] := by
 refine f108 (fle rfl) ?_
 rw [init_mk]
 refine AW.weaken (wk_mk [] (kv 0 (.agg [(dI a1.Key), (dI a1.Value)]) rfl rfl (kv 1 (.agg [(dI a2.Key), (dI a2.Value)]) rfl rfl SL.nil)) BL.nil BK.nil) ?_
 unfold m_laws_eqCell at H
 unfold i108
 refine aV (oBox (n := 128) (m := 2) (cs := [(dI a1.Key), (dI a1.Value)]) rfl eZ rfl rfl nZ (oBox (n := 192) (m := 2) (cs := [(dI a2.Key), (dI a2.Value)]) rfl (eR rfl) rfl rfl (nS rfl nZ) (oMov eC (xQ (aS (aV (oFaddrN (m := 0) (eR rfl) rfl (oLoadV (q := 0) (c := (dI a1.Key)) eZ (bS rfl bZ) rfl rfl (oFaddrN (m := 0) (eR rfl) rfl (oLoadV (q := 0) (c := (dI a2.Key)) eZ bZ rfl rfl (oNeq (eR rfl) eZ (xQ ?_))))))))))))
 rcases oite H with ⟨h3, H⟩ | ⟨h3, H⟩
 ·refine AW.condT eZ (dT h3) (aV (oMov eC (xQ (AW.ret (TQ.qr ?_)))))
  cases H
  exact eE rfl rfl
 ·refine AW.condF eZ (dF h3) (AW.skip (TQ.qn (aS (aV (oFaddrN (m := 1) (eR rfl) rfl (oLoadV (q := 1) (c := (dI a1.Value)) eZ (bS rfl bZ) rfl rfl (oFaddrN (m := 1) (eR rfl) rfl (oLoadV (q := 1) (c := (dI a2.Value)) eZ bZ rfl rfl (oNeq (eR rfl) eZ (xQ ?_))))))))))
  rcases oite H with ⟨h4, H⟩ | ⟨h4, H⟩
  ·refine AW.condT eZ (dT h4) (aV (oMov eC (xQ (AW.weaken (wk_mk [192, 128] (kr 4 rfl rfl SL.nil) (BL.drop rfl (BL.drop rfl BL.nil)) BK.nil) (AW.ret (TQ.qr ?_))))))
   cases H
   exact eE rfl rfl
  ·refine AW.condF eZ (dF h4) (AW.skip (TQ.qn (aV (oMov eC (xQ (AW.weaken (wk_mk [192, 128] (kr 4 rfl rfl SL.nil) (BL.drop rfl (BL.drop rfl BL.nil)) BK.nil) (AW.ret ?_)))))))
   cases H
   exact eE rfl rfl
theorem c_laws_eqCellS {a1 : (List TCell)} {a2 : (List TCell)} {r : Bool} (H : m_laws_eqCellS a1 a2 = some r) : Fn Tryz.prog 60 (lent [(.sl 2 (List.map d_TCell a1)), (.sl 2 (List.map d_TCell a2))]) true [(.bool r)] := by
 refine f60 (fle rfl) ?_
 rw [init_mk]
 refine AW.weaken (wk_mk [] (kv 0 (.one (.d (.sl 2 (List.map d_TCell a1)))) rfl rfl (kv 1 (.one (.d (.sl 2 (List.map d_TCell a2)))) rfl rfl SL.nil)) BL.nil BK.nil) ?_
 unfold m_laws_eqCellS at H
 unfold i60
 refine aV (oMov eC (xQ (aS (aV (oMov (eR rfl) (oLenD eZ (n := a1.length) (List.length_map _) (oMov (eR rfl) (oLenD eZ (n := a2.length) (List.length_map _) (oNeq (eR rfl) eZ (xQ ?_))))))))))
 rcases oite H with ⟨h3, H⟩ | ⟨h3, H⟩
 ·refine AW.condT eZ (dT h3) (aV (oMov eC (xQ (AW.ret (TQ.qr ?_)))))
  cases H
  exact eE rfl rfl
 ·refine AW.condF eZ (dF h3) (AW.skip (TQ.qn (AW.seqJ (fun t4 : Unit => laws_eqCellS_j4 t4 = some r) (fun t4 => mk [] [] noG) ?_ ?_)))
  ·intro t4 H
   unfold laws_eqCellS_j4 at H
   refine aV (oMov eC (xQ (AW.ret ?_)))
   cases H
   exact eE rfl rfl
  ·refine aV (oMov eC (xQ (AW.block (AW.iter (fun s6 : Int => mk [(0, (.one (.d (.sl 2 (List.map d_TCell a1))))), (1, (.one (.d (.sl 2 (List.map d_TCell a2))))), (5, (oI s6))] [] noG) H (wk_mk [] (kR rfl rfl (kR rfl rfl (kR rfl rfl SL.nil))) BL.nil BK.nil) ?_))))
   intro kb7 s6 H
   unfold laws_eqCellS_b6 at H
   refine aS (aV (oMov (eR rfl) (oMov (eR rfl) (oLenD eZ (n := a1.length) (List.length_map _) (oLss (eR rfl) eZ (xQ ?_))))))
   rcases oite H with ⟨h8, H⟩ | ⟨h8, H⟩
   ·refine AW.condT eZ (dT h8) (AW.skip (TQ.qn (aS (AW.block (aS (AW.regd (oMov (eR rfl) (oMov (eR rfl) ?_))))))))
    obtain ⟨v9, h10, H⟩ := obind H
    refine oAtD (eR rfl) eZ h10 (oLoadBA (es := [(dI v9.Key), (dI v9.Value)]) eZ rfl (oMov (eR rfl) (oMov (eR rfl) ?_)))
    obtain ⟨v11, h12, H⟩ := obind H
    refine oAtD (eR rfl) eZ h12 (oLoadBA (es := [(dI v11.Key), (dI v11.Value)]) eZ rfl ?_)
    obtain ⟨v13, h14, H⟩ := obind H
    refine oCall (u := (oB v13)) eC Cl.fn (c_laws_eqCell h14) (Evs.cons (eR rfl) (Evs.cons eZ Evs.nil)) (VDs.cons (VD.agg rfl) (VDs.cons (VD.agg rfl) VDs.nil)) rfl (oInv eZ (xQ (AW.weaken (wk_mk [] (kr 26 rfl rfl (kr 0 rfl rfl (kr 1 rfl rfl (kr 5 rfl rfl SL.nil)))) BL.nil BK.nil) ?_)))
    rcases oite H with ⟨h15, H⟩ | ⟨h15, H⟩
    ·exact AW.condF eZ (cN h15) (AW.skip (BQ.qn (TQ.qn (aR (oMov (eR rfl) (oAdd eZ eC (oMov eZ (xNil (TQ.qn ⟨(IntKind.wrap .i64 (s6 + 1)), H, (wk_mk [] (kR rfl rfl (kR rfl rfl (kR rfl rfl SL.nil))) BL.nil BK.nil)⟩)))))))))
    ·refine AW.condT eZ (cN (nt h15)) (aV (oMov eC (xQ (AW.ret (BQ.qr (TQ.qr (TQ.qr (BQ.qr (TQ.qr ?_)))))))))
     cases H
     exact eE rfl rfl
   ·exact AW.condF eZ (dF h8) (AW.exit (TQ.qe (TQ.qe (BQ.qe (TQ.qn ⟨(), H, (wk_mk [] SL.nil BL.nil BK.nil)⟩)))))
theorem c_laws_eqLock {a1 : TLock} {a2 : TLock} {r : Bool} (H : m_laws_eqLock a1 a2 = some r) : Fn Tryz.prog 109 (lent [(.agg (d_TLock a1)), (.agg (d_TLock a2))]) true [(.bool r)] := by
 refine f109 (fle rfl) ?_
 rw [init_mk]
 refine AW.weaken (wk_mk [] (kv 0 (.agg [(dI a1.Tx), (dI a1.Lo), (dI a1.Hi), (dI a1.Mode)]) rfl rfl (kv 1 (.agg [(dI a2.Tx), (dI a2.Lo), (dI a2.Hi), (dI a2.Mode)]) rfl rfl SL.nil)) BL.nil BK.nil) ?_
 unfold m_laws_eqLock at H
 unfold i109
 refine aV (oBox (n := 128) (m := 4) (cs := [(dI a1.Tx), (dI a1.Lo), (dI a1.Hi), (dI a1.Mode)]) rfl eZ rfl rfl nZ (oBox (n := 192) (m := 4) (cs := [(dI a2.Tx), (dI a2.Lo), (dI a2.Hi), (dI a2.Mode)]) rfl (eR rfl) rfl rfl (nS rfl nZ) (oMov eC (xQ (aS (aV (oFaddrN (m := 0) (eR rfl) rfl (oLoadV (q := 0) (c := (dI a1.Tx)) eZ (bS rfl bZ) rfl rfl (oFaddrN (m := 0) (eR rfl) rfl (oLoadV (q := 0) (c := (dI a2.Tx)) eZ bZ rfl rfl (oNeq (eR rfl) eZ (xQ ?_))))))))))))
 rcases oite H with ⟨h3, H⟩ | ⟨h3, H⟩
 ·refine AW.condT eZ (dT h3) (aV (oMov eC (xQ (AW.ret (TQ.qr ?_)))))
  cases H
  exact eE rfl rfl
 ·refine AW.condF eZ (dF h3) (AW.skip (TQ.qn (aS (aV (oFaddrN (m := 1) (eR rfl) rfl (oLoadV (q := 1) (c := (dI a1.Lo)) eZ (bS rfl bZ) rfl rfl (oFaddrN (m := 1) (eR rfl) rfl (oLoadV (q := 1) (c := (dI a2.Lo)) eZ bZ rfl rfl (oNeq (eR rfl) eZ (xQ ?_))))))))))
  rcases oite H with ⟨h4, H⟩ | ⟨h4, H⟩
  ·refine AW.condT eZ (dT h4) (aV (oMov eC (xQ (AW.weaken (wk_mk [192, 128] (kr 4 rfl rfl SL.nil) (BL.drop rfl (BL.drop rfl BL.nil)) BK.nil) (AW.ret (TQ.qr ?_))))))
   cases H
   exact eE rfl rfl
  ·refine AW.condF eZ (dF h4) (AW.skip (TQ.qn (aS (aV (oFaddrN (m := 2) (eR rfl) rfl (oLoadV (q := 2) (c := (dI a1.Hi)) eZ (bS rfl bZ) rfl rfl (oFaddrN (m := 2) (eR rfl) rfl (oLoadV (q := 2) (c := (dI a2.Hi)) eZ bZ rfl rfl (oNeq (eR rfl) eZ (xQ (AW.weaken (wk_mk [] (kr 19 rfl rfl (kr 3 rfl rfl (kr 2 rfl rfl SL.nil))) (BL.keep rfl (BL.keep rfl BL.nil)) (BK.cons (n := 192) rfl bZ rfl rfl (BK.cons (n := 128) rfl (bS rfl bZ) rfl rfl BK.nil))) ?_)))))))))))
   rcases oite H with ⟨h5, H⟩ | ⟨h5, H⟩
   ·refine AW.condT eZ (dT h5) (aV (oMov eC (xQ (AW.ret (TQ.qr ?_)))))
    cases H
    exact eE rfl rfl
   ·refine AW.condF eZ (dF h5) (AW.skip (TQ.qn (aS (aV (oFaddrN (m := 3) (eR rfl) rfl (oLoadV (q := 3) (c := (dI a1.Mode)) eZ (bS rfl bZ) rfl rfl (oFaddrN (m := 3) (eR rfl) rfl (oLoadV (q := 3) (c := (dI a2.Mode)) eZ bZ rfl rfl (oNeq (eR rfl) eZ (xQ ?_))))))))))
    rcases oite H with ⟨h6, H⟩ | ⟨h6, H⟩
    ·refine AW.condT eZ (dT h6) (aV (oMov eC (xQ (AW.ret (TQ.qr ?_)))))
     cases H
     exact eE rfl rfl
    ·refine AW.condF eZ (dF h6) (AW.skip (TQ.qn (aV (oMov eC (xQ (AW.ret ?_))))))
     cases H
     exact eE rfl rfl
theorem c_laws_eqLockS {a1 : (List TLock)} {a2 : (List TLock)} {r : Bool} (H : m_laws_eqLockS a1 a2 = some r) : Fn Tryz.prog 61 (lent [(.sl 4 (List.map d_TLock a1)), (.sl 4 (List.map d_TLock a2))]) true [(.bool r)] := by
 refine f61 (fle rfl) ?_
 rw [init_mk]
 refine AW.weaken (wk_mk [] (kv 0 (.one (.d (.sl 4 (List.map d_TLock a1)))) rfl rfl (kv 1 (.one (.d (.sl 4 (List.map d_TLock a2)))) rfl rfl SL.nil)) BL.nil BK.nil) ?_
 unfold m_laws_eqLockS at H
 unfold i61
 refine aV (oMov eC (xQ (aS (aV (oMov (eR rfl) (oLenD eZ (n := a1.length) (List.length_map _) (oMov (eR rfl) (oLenD eZ (n := a2.length) (List.length_map _) (oNeq (eR rfl) eZ (xQ ?_))))))))))
 rcases oite H with ⟨h3, H⟩ | ⟨h3, H⟩
 ·refine AW.condT eZ (dT h3) (aV (oMov eC (xQ (AW.ret (TQ.qr ?_)))))
  cases H
  exact eE rfl rfl
 ·refine AW.condF eZ (dF h3) (AW.skip (TQ.qn (AW.seqJ (fun t4 : Unit => laws_eqLockS_j4 t4 = some r) (fun t4 => mk [] [] noG) ?_ ?_)))
  ·intro t4 H
   unfold laws_eqLockS_j4 at H
   refine aV (oMov eC (xQ (AW.ret ?_)))
   cases H
   exact eE rfl rfl
  ·refine aV (oMov eC (xQ (AW.block (AW.iter (fun s6 : Int => mk [(0, (.one (.d (.sl 4 (List.map d_TLock a1))))), (1, (.one (.d (.sl 4 (List.map d_TLock a2))))), (5, (oI s6))] [] noG) H (wk_mk [] (kR rfl rfl (kR rfl rfl (kR rfl rfl SL.nil))) BL.nil BK.nil) ?_))))
   intro kb7 s6 H
   unfold laws_eqLockS_b6 at H
   refine aS (aV (oMov (eR rfl) (oMov (eR rfl) (oLenD eZ (n := a1.length) (List.length_map _) (oLss (eR rfl) eZ (xQ ?_))))))
   rcases oite H with ⟨h8, H⟩ | ⟨h8, H⟩
   ·refine AW.condT eZ (dT h8) (AW.skip (TQ.qn (aS (AW.block (aS (AW.regd (oMov (eR rfl) (oMov (eR rfl) ?_))))))))
    obtain ⟨v9, h10, H⟩ := obind H
    refine oAtD (eR rfl) eZ h10 (oLoadBA (es := [(dI v9.Tx), (dI v9.Lo), (dI v9.Hi), (dI v9.Mode)]) eZ rfl (oMov (eR rfl) (oMov (eR rfl) ?_)))
    obtain ⟨v11, h12, H⟩ := obind H
    refine oAtD (eR rfl) eZ h12 (oLoadBA (es := [(dI v11.Tx), (dI v11.Lo), (dI v11.Hi), (dI v11.Mode)]) eZ rfl ?_)
    obtain ⟨v13, h14, H⟩ := obind H
    refine oCall (u := (oB v13)) eC Cl.fn (c_laws_eqLock h14) (Evs.cons (eR rfl) (Evs.cons eZ Evs.nil)) (VDs.cons (VD.agg rfl) (VDs.cons (VD.agg rfl) VDs.nil)) rfl (oInv eZ (xQ (AW.weaken (wk_mk [] (kr 26 rfl rfl (kr 0 rfl rfl (kr 1 rfl rfl (kr 5 rfl rfl SL.nil)))) BL.nil BK.nil) ?_)))
    rcases oite H with ⟨h15, H⟩ | ⟨h15, H⟩
    ·exact AW.condF eZ (cN h15) (AW.skip (BQ.qn (TQ.qn (aR (oMov (eR rfl) (oAdd eZ eC (oMov eZ (xNil (TQ.qn ⟨(IntKind.wrap .i64 (s6 + 1)), H, (wk_mk [] (kR rfl rfl (kR rfl rfl (kR rfl rfl SL.nil))) BL.nil BK.nil)⟩)))))))))
    ·refine AW.condT eZ (cN (nt h15)) (aV (oMov eC (xQ (AW.ret (BQ.qr (TQ.qr (TQ.qr (BQ.qr (TQ.qr ?_)))))))))
     cases H
     exact eE rfl rfl
   ·exact AW.condF eZ (dF h8) (AW.exit (TQ.qe (TQ.qe (BQ.qe (TQ.qn ⟨(), H, (wk_mk [] SL.nil BL.nil BK.nil)⟩)))))
theorem c_laws_eqWrite {a1 : TCell} {a2 : TCell} {r : Bool} (H : m_laws_eqWrite a1 a2 = some r) : Fn Tryz.prog 145 (lent [(.agg (d_TCell a1)), (.agg (d_TCell a2))]) true [(.bool r)] := by
 refine f145 (fle rfl) ?_
 rw [init_mk]
 refine AW.weaken (wk_mk [] (kv 0 (.agg [(dI a1.Key), (dI a1.Value)]) rfl rfl (kv 1 (.agg [(dI a2.Key), (dI a2.Value)]) rfl rfl SL.nil)) BL.nil BK.nil) ?_
 unfold m_laws_eqWrite at H
 unfold i145
 refine aV (oBox (n := 128) (m := 2) (cs := [(dI a1.Key), (dI a1.Value)]) rfl eZ rfl rfl nZ (oBox (n := 192) (m := 2) (cs := [(dI a2.Key), (dI a2.Value)]) rfl (eR rfl) rfl rfl (nS rfl nZ) (oMov eC (xQ (aS (aV (oFaddrN (m := 0) (eR rfl) rfl (oLoadV (q := 0) (c := (dI a1.Key)) eZ (bS rfl bZ) rfl rfl (oFaddrN (m := 0) (eR rfl) rfl (oLoadV (q := 0) (c := (dI a2.Key)) eZ bZ rfl rfl (oNeq (eR rfl) eZ (xQ ?_))))))))))))
 rcases oite H with ⟨h3, H⟩ | ⟨h3, H⟩
 ·refine AW.condT eZ (dT h3) (aV (oMov eC (xQ (AW.ret (TQ.qr ?_)))))
  cases H
  exact eE rfl rfl
 ·refine AW.condF eZ (dF h3) (AW.skip (TQ.qn (aS (aV (oFaddrN (m := 1) (eR rfl) rfl (oLoadV (q := 1) (c := (dI a1.Value)) eZ (bS rfl bZ) rfl rfl (oFaddrN (m := 1) (eR rfl) rfl (oLoadV (q := 1) (c := (dI a2.Value)) eZ bZ rfl rfl (oNeq (eR rfl) eZ (xQ ?_))))))))))
  rcases oite H with ⟨h4, H⟩ | ⟨h4, H⟩
  ·refine AW.condT eZ (dT h4) (aV (oMov eC (xQ (AW.weaken (wk_mk [192, 128] (kr 4 rfl rfl SL.nil) (BL.drop rfl (BL.drop rfl BL.nil)) BK.nil) (AW.ret (TQ.qr ?_))))))
   cases H
   exact eE rfl rfl
  ·refine AW.condF eZ (dF h4) (AW.skip (TQ.qn (aV (oMov eC (xQ (AW.weaken (wk_mk [192, 128] (kr 4 rfl rfl SL.nil) (BL.drop rfl (BL.drop rfl BL.nil)) BK.nil) (AW.ret ?_)))))))
   cases H
   exact eE rfl rfl
theorem c_laws_eqWriteS {a1 : (List TCell)} {a2 : (List TCell)} {r : Bool} (H : m_laws_eqWriteS a1 a2 = some r) : Fn Tryz.prog 134 (lent [(.sl 2 (List.map d_TCell a1)), (.sl 2 (List.map d_TCell a2))]) true [(.bool r)] := by
 refine f134 (fle rfl) ?_
 rw [init_mk]
 refine AW.weaken (wk_mk [] (kv 0 (.one (.d (.sl 2 (List.map d_TCell a1)))) rfl rfl (kv 1 (.one (.d (.sl 2 (List.map d_TCell a2)))) rfl rfl SL.nil)) BL.nil BK.nil) ?_
 unfold m_laws_eqWriteS at H
 unfold i134
 refine aV (oMov eC (xQ (aS (aV (oMov (eR rfl) (oLenD eZ (n := a1.length) (List.length_map _) (oMov (eR rfl) (oLenD eZ (n := a2.length) (List.length_map _) (oNeq (eR rfl) eZ (xQ ?_))))))))))
 rcases oite H with ⟨h3, H⟩ | ⟨h3, H⟩
 ·refine AW.condT eZ (dT h3) (aV (oMov eC (xQ (AW.ret (TQ.qr ?_)))))
  cases H
  exact eE rfl rfl
 ·refine AW.condF eZ (dF h3) (AW.skip (TQ.qn (AW.seqJ (fun t4 : Unit => laws_eqWriteS_j4 t4 = some r) (fun t4 => mk [] [] noG) ?_ ?_)))
  ·intro t4 H
   unfold laws_eqWriteS_j4 at H
   refine aV (oMov eC (xQ (AW.ret ?_)))
   cases H
   exact eE rfl rfl
  ·refine aV (oMov eC (xQ (AW.block (AW.iter (fun s6 : Int => mk [(0, (.one (.d (.sl 2 (List.map d_TCell a1))))), (1, (.one (.d (.sl 2 (List.map d_TCell a2))))), (5, (oI s6))] [] noG) H (wk_mk [] (kR rfl rfl (kR rfl rfl (kR rfl rfl SL.nil))) BL.nil BK.nil) ?_))))
   intro kb7 s6 H
   unfold laws_eqWriteS_b6 at H
   refine aS (aV (oMov (eR rfl) (oMov (eR rfl) (oLenD eZ (n := a1.length) (List.length_map _) (oLss (eR rfl) eZ (xQ ?_))))))
   rcases oite H with ⟨h8, H⟩ | ⟨h8, H⟩
   ·refine AW.condT eZ (dT h8) (AW.skip (TQ.qn (aS (AW.block (aS (AW.regd (oMov (eR rfl) (oMov (eR rfl) ?_))))))))
    obtain ⟨v9, h10, H⟩ := obind H
    refine oAtD (eR rfl) eZ h10 (oLoadBA (es := [(dI v9.Key), (dI v9.Value)]) eZ rfl (oMov (eR rfl) (oMov (eR rfl) ?_)))
    obtain ⟨v11, h12, H⟩ := obind H
    refine oAtD (eR rfl) eZ h12 (oLoadBA (es := [(dI v11.Key), (dI v11.Value)]) eZ rfl ?_)
    obtain ⟨v13, h14, H⟩ := obind H
    refine oCall (u := (oB v13)) eC Cl.fn (c_laws_eqWrite h14) (Evs.cons (eR rfl) (Evs.cons eZ Evs.nil)) (VDs.cons (VD.agg rfl) (VDs.cons (VD.agg rfl) VDs.nil)) rfl (oInv eZ (xQ (AW.weaken (wk_mk [] (kr 26 rfl rfl (kr 0 rfl rfl (kr 1 rfl rfl (kr 5 rfl rfl SL.nil)))) BL.nil BK.nil) ?_)))
    rcases oite H with ⟨h15, H⟩ | ⟨h15, H⟩
    ·exact AW.condF eZ (cN h15) (AW.skip (BQ.qn (TQ.qn (aR (oMov (eR rfl) (oAdd eZ eC (oMov eZ (xNil (TQ.qn ⟨(IntKind.wrap .i64 (s6 + 1)), H, (wk_mk [] (kR rfl rfl (kR rfl rfl (kR rfl rfl SL.nil))) BL.nil BK.nil)⟩)))))))))
    ·refine AW.condT eZ (cN (nt h15)) (aV (oMov eC (xQ (AW.ret (BQ.qr (TQ.qr (TQ.qr (BQ.qr (TQ.qr ?_)))))))))
     cases H
     exact eE rfl rfl
   ·exact AW.condF eZ (dF h8) (AW.exit (TQ.qe (TQ.qe (BQ.qe (TQ.qn ⟨(), H, (wk_mk [] SL.nil BL.nil BK.nil)⟩)))))
theorem c_laws_eqHeld {a1 : THeld} {a2 : THeld} {r : Bool} (H : m_laws_eqHeld a1 a2 = some r) : Fn Tryz.prog 110 (lent [(.agg (d_THeld a1)), (.agg (d_THeld a2))]) true [(.bool r)] := by
 refine f110 (fle rfl) ?_
 rw [init_mk]
 refine AW.weaken (wk_mk [] (kv 0 (.agg [(dI a1.Tx), (.d (.sl 2 (List.map d_TCell a1.Writes)))]) rfl rfl (kv 1 (.agg [(dI a2.Tx), (.d (.sl 2 (List.map d_TCell a2.Writes)))]) rfl rfl SL.nil)) BL.nil BK.nil) ?_
 unfold m_laws_eqHeld at H
 unfold i110
 refine aV (oBox (n := 128) (m := 2) (cs := [(dI a1.Tx), (.d (.sl 2 (List.map d_TCell a1.Writes)))]) rfl eZ rfl rfl nZ (oBox (n := 192) (m := 2) (cs := [(dI a2.Tx), (.d (.sl 2 (List.map d_TCell a2.Writes)))]) rfl (eR rfl) rfl rfl (nS rfl nZ) (oMov eC (xQ (aS (aV (oFaddrN (m := 0) (eR rfl) rfl (oLoadV (q := 0) (c := (dI a1.Tx)) eZ (bS rfl bZ) rfl rfl (oFaddrN (m := 0) (eR rfl) rfl (oLoadV (q := 0) (c := (dI a2.Tx)) eZ bZ rfl rfl (oNeq (eR rfl) eZ (xQ ?_))))))))))))
 rcases oite H with ⟨h3, H⟩ | ⟨h3, H⟩
 ·refine AW.condT eZ (dT h3) (aV (oMov eC (xQ (AW.ret (TQ.qr ?_)))))
  cases H
  exact eE rfl rfl
 ·refine AW.condF eZ (dF h3) (AW.skip (TQ.qn (aS (aV (oFaddrN (m := 1) (eR rfl) rfl (oLoadV (q := 1) (c := (.d (.sl 2 (List.map d_TCell a1.Writes)))) eZ (bS rfl bZ) rfl rfl (oFaddrN (m := 1) (eR rfl) rfl (oLoadV (q := 1) (c := (.d (.sl 2 (List.map d_TCell a2.Writes)))) eZ bZ rfl rfl ?_))))))))
  obtain ⟨v4, h5, H⟩ := obind H
  refine oCall (u := (oB v4)) eC Cl.fn (c_laws_eqWriteS h5) (Evs.cons (eR rfl) (Evs.cons eZ Evs.nil)) (VDs.cons VD.plain (VDs.cons VD.plain VDs.nil)) rfl (oInv eZ (xQ (AW.weaken (wk_mk [192, 128] (kr 15 rfl rfl SL.nil) (BL.drop rfl (BL.drop rfl BL.nil)) BK.nil) ?_)))
  rcases oite H with ⟨h6, H⟩ | ⟨h6, H⟩
  ·refine AW.condF eZ (cN h6) (AW.skip (TQ.qn (aV (oMov eC (xQ (AW.ret ?_))))))
   cases H
   exact eE rfl rfl
  ·refine AW.condT eZ (cN (nt h6)) (aV (oMov eC (xQ (AW.ret (TQ.qr ?_)))))
   cases H
   exact eE rfl rfl
end Go.AW
