/- That functions of the program compute what the plain functions say. Conditions: each theorem's own. -/
import Derived.Test.YtnpbflgkgjnljaaMFnWaits
import Derived.Test.YtnpbflgkgjnljaaGFnWaits
set_option linter.unusedVariables false
set_option linter.unusedSimpArgs false
set_option maxRecDepth 100000
namespace Go.AW
open Go.Proofs
theorem c_laws_big {a1 : (List Int)} {r : Bool} (H : m_laws_big a1 = some r) : Fn Try.prog 7 (lent [(.sl 1 (List.map d_u8 a1))]) true [(.bool r)] := by
 refine f7 (fle rfl) ?_
 rw [init_mk]
 refine AW.weaken (wk_mk [] (kv 0 (.one (.d (.sl 1 (List.map d_u8 a1)))) rfl rfl SL.nil) BL.nil BK.nil) ?_
 unfold m_laws_big at H
 unfold i7
 refine aV (oMov eC (xQ (aV (oMov (eR rfl) (oLenD eZ (n := a1.length) (List.length_map _) (oGtr eZ eC (oMov eZ (xQ (AW.ret ?_)))))))))
 cases H
 exact eE rfl rfl
theorem c_spec_l1New {pv : Value} {cb1 : (List Int)} {r : (Int × Int)} (H : m_spec_l1New cb1 = some r) : FnC Try.prog pv (.sl 1 (List.map d_u8 cb1)) 36 [⟨(.pin pv), .b⟩] [(.ptr [(.pin pv), (.int .i64 r.1), (.int .i64 r.2)])] := by
 refine n36 (fle rfl) (fle rfl) trivial rfl ?_
 rw [initC_mk]
 refine AW.weaken (t := mk [(0, (.one (.d (.pin pv))))] [] (lk [(63, (.one (.d (.both pv (.sl 1 (List.map d_u8 cb1))))))])) (wk_mkG (gl := [(63, (.one (.d (.both pv (.sl 1 (List.map d_u8 cb1))))))]) [] (kv 0 (.one (.d (.pin pv))) rfl rfl SL.nil) BL.nil BK.nil (GK.cons rfl GK.nil)) ?_
 unfold m_spec_l1New at H
 unfold i36
 refine AW.weaken (wk_both 0 (by exact rfl) (by exact rfl)) (aV (oMov eC (xQ (aV (oMov (eR rfl) (oLenB eZ (n := cb1.length) (List.length_map _) (oAdd eC eZ (oMov eZ (xQ (AW.seqJ (fun t2 : Int => spec_l1New_j2 t2 = some r) (fun t2 => mk [(0, (.one (.d (.both pv (.sl 1 (List.map d_u8 cb1)))))), (3, (oI t2))] [] (lk [(63, (.one (.d (.both pv (.sl 1 (List.map d_u8 cb1))))))])) ?_ ?_))))))))))
 ·intro t2 H
  unfold spec_l1New_j2 at H
  refine aV (oMov eZ (oMov (eR rfl) (oBuild (cs := [(.d (.both pv (.sl 1 (List.map d_u8 cb1)))), (dI 0), (dI t2)]) (PsCons (eR rfl) (PsCons eZ PsNil)) rfl (oBox (n := 1984) (m := 3) (cs := [(.d (.both pv (.sl 1 (List.map d_u8 cb1)))), (dI 0), (dI t2)]) rfl eZ rfl rfl nZ (oMov eZ (xQ (AW.weaken (wk_cellP (by exact rfl) bZ) (AW.ret ?_))))))))
  cases H
  exact endsRM (RL.cons (RV.tmp eZ) (VO.ptr (es := [(.pin pv), (.int .i64 0), (.int .i64 t2)]) bZ rfl rfl rfl) RL.nil) (ML.lent ML.nil) (by decide)
 ·refine aV (oMov eC (xQ (AW.block (AW.iter (fun s4 : (Int × Int) => mk [(0, (.one (.d (.both pv (.sl 1 (List.map d_u8 cb1)))))), (3, (oI s4.1)), (4, (oI s4.2))] [] (lk [(63, (.one (.d (.both pv (.sl 1 (List.map d_u8 cb1))))))])) H (wk_mkG [] (kR rfl rfl (kR rfl rfl (kR rfl rfl SL.nil))) BL.nil BK.nil (GK.cons rfl GK.nil)) ?_))))
  intro kb5 s4 H
  unfold spec_l1New_b4 at H
  refine aS (aV (oMov (eR rfl) (oMov (eR rfl) (oLenB eZ (n := cb1.length) (List.length_map _) (oLss (eR rfl) eZ (oMov eZ ?_))))))
  rcases oite H with ⟨h6, H⟩ | ⟨h6, H⟩
  ·refine gDo eZ (dT h6) (oMov (eR rfl) (gDo (eR rfl) (dT h6) (oLss eZ eC (oPickT (eR rfl) (dT h6) eZ (xQ ?_)))))
   rcases oite H with ⟨h7, H⟩ | ⟨h7, H⟩
   ·refine AW.condT eZ (dT h7) (AW.skip (TQ.qn (aS (AW.block (aR (oMov (eR rfl) (oMul eZ eC (oMov (eR rfl) (oMov (eR rfl) ?_)))))))))
    obtain ⟨v8, h9, H⟩ := obind H
    exact oAtB (eR rfl) eZ h9 (oLoadB (e := (.int .u8 v8)) eZ rfl (oConv eZ (oAdd (eR rfl) eZ (oAdd eZ eC (oAnd eZ eC (oMov eZ (xNil (BQ.qn (TQ.qn (AW.weaken (wk_mkG [] (kr 3 rfl rfl (kr 0 rfl rfl (kr 4 rfl rfl SL.nil))) BL.nil BK.nil (GK.cons rfl GK.nil)) (aR (oMov (eR rfl) (oAdd eZ eC (oMov eZ (xNil (TQ.qn ⟨((IntKind.wrap .i64 (BitVec.ofInt (IntKind.bits .i64) (IntKind.wrap .i64 ((IntKind.wrap .i64 ((IntKind.wrap .i64 (s4.1 * 131)) + (IntKind.wrap .i64 v8))) + 7)) &&& BitVec.ofInt (IntKind.bits .i64) 1073741823).toNat), (IntKind.wrap .i64 (s4.2 + 1))), H, (wk_mkG [] (kR rfl rfl (kR rfl rfl (kR rfl rfl SL.nil))) BL.nil BK.nil (GK.cons rfl GK.nil))⟩))))))))))))))))
   ·exact AW.condF eZ (dF h7) (AW.exit (TQ.qe (TQ.qe (BQ.qe (TQ.qn ⟨s4.1, H, (wk_mkG [] (kR rfl rfl (kR rfl rfl SL.nil)) BL.nil BK.nil (GK.cons rfl GK.nil))⟩)))))
  ·exact gSkip eZ (dF h6) rfl (gSkip (eR rfl) (dF h6) rfl (oPickF (eR rfl) (dF h6) eC (xQ (AW.condF eZ rfl (AW.exit (TQ.qe (TQ.qe (BQ.qe (TQ.qn ⟨s4.1, H, (wk_mkG [] (kR rfl rfl (kR rfl rfl SL.nil)) BL.nil BK.nil (GK.cons rfl GK.nil))⟩)))))))))
theorem c_spec_l1Size {pv : Value} {cb1 : (List Int)} {a2 : Int} {r : Int} (H : m_spec_l1Size cb1 a2 = some r) : FnC Try.prog pv (.sl 1 (List.map d_u8 cb1)) 38 [⟨(.pin pv), .b⟩, ⟨(.int .i64 a2), .b⟩] [(.int .i64 r)] := by
 refine n38 (fle rfl) (fle rfl) trivial rfl ?_
 rw [initC_mk]
 refine AW.weaken (t := mk [(0, (.one (.d (.pin pv)))), (1, (oI a2))] [] (lk [(63, (.one (.d (.both pv (.sl 1 (List.map d_u8 cb1))))))])) (wk_mkG (gl := [(63, (.one (.d (.both pv (.sl 1 (List.map d_u8 cb1))))))]) [] (kv 0 (.one (.d (.pin pv))) rfl rfl (kv 1 (oI a2) rfl rfl SL.nil)) BL.nil BK.nil (GK.cons rfl GK.nil)) ?_
 unfold m_spec_l1Size at H
 unfold i38
 refine AW.weaken (wk_both 0 (by exact rfl) (by exact rfl)) (aV (oMov eC (xQ (aV (oMov (eR rfl) (oLenB eZ (n := cb1.length) (List.length_map _) (oQuo eZ eC (by decide) (oAdd eC eZ (oMov eZ (xQ (aS (aV (oMov eZ (oMov (eR rfl) (oGtr (eR rfl) eZ (xQ ?_))))))))))))))))
 rcases oite H with ⟨h3, H⟩ | ⟨h3, H⟩
 ·refine AW.condT eZ (dT h3) (aV (oMov (eR rfl) (oMov eZ (xQ (AW.ret (TQ.qr ?_))))))
  cases H
  exact endsRM (RL.cons (RV.tmp eZ) (VO.flat rfl) RL.nil) (ML.lent (ML.lent ML.nil)) (by decide)
 ·refine AW.condF eZ (dF h3) (AW.skip (TQ.qn (aV (oMov (eR rfl) (oMov eZ (xQ (AW.ret ?_)))))))
  cases H
  exact endsRM (RL.cons (RV.tmp eZ) (VO.flat rfl) RL.nil) (ML.lent (ML.lent ML.nil)) (by decide)
theorem c_spec_l1Byte {pv : Value} {cb1 : (List Int)} {a2 : (Int × Int)} {r : (Int × (Int × Int))} (H : m_spec_l1Byte cb1 a2 = some r) : FnC Try.prog pv (.sl 1 (List.map d_u8 cb1)) 94 [⟨(.ptr [(.pin pv), (.int .i64 a2.1), (.int .i64 a2.2)]), .m (.ptr [(.pin pv), (.int .i64 r.2.1), (.int .i64 r.2.2)])⟩] [(.int .i64 r.1)] := by
 refine n94 (fle rfl) (fle rfl) (fC nZ rfl fN) rfl ?_
 rw [initC_mk]
 refine AW.weaken (t := mk [(0, (.one (.ptr (.nm 0 0 0))))] [(0, (.vars 3 [(.d (.pin pv)), (dI a2.1), (dI a2.2)]))] (lk [(63, (.one (.d (.both pv (.sl 1 (List.map d_u8 cb1)))))), (0, (.one (.ptr (.nm 0 0 0))))])) (wk_mkG (gl := [(63, (.one (.d (.both pv (.sl 1 (List.map d_u8 cb1)))))), (0, (.one (.ptr (.nm 0 0 0))))]) [] (kv 0 (.one (.ptr (.nm 0 0 0))) rfl rfl SL.nil) (BL.keep rfl BL.nil) (BK.cons (n := 0) rfl bZ rfl rfl BK.nil) (GK.cons rfl (GK.cons rfl GK.nil))) ?_
 unfold m_spec_l1Byte at H
 unfold i94
 refine AW.weaken (wk_cellB (by exact rfl) bZ) (aV (oMov eC (xQ (aV (oMov (eR rfl) (oMov (eR rfl) (oNilchk eZ (oFaddrN (m := 2) eZ rfl (oLoadV (q := 2) (c := (dI a2.2)) eZ bZ rfl rfl (oMul eZ eC (oAdd eZ eC (oNilchk (eR rfl) (oFaddrN (m := 2) eZ rfl (oStoreV (es := [(.d (.both pv (.sl 1 (List.map d_u8 cb1)))), (dI a2.1), (dI (IntKind.wrap .i64 ((IntKind.wrap .i64 (a2.2 * 6364136223846793005)) + 1442695040888963407)))]) eZ (eR rfl) rfl rfl bZ rfl (xQ (aS (AW.regd (oMov (eR rfl) (oNilchk eZ (oFaddrN (m := 2) eZ rfl (oLoadV (q := 2) (c := (dI (IntKind.wrap .i64 ((IntKind.wrap .i64 (a2.2 * 6364136223846793005)) + 1442695040888963407)))) eZ bZ rfl rfl (oShr eZ eC (by decide) (oMov (eR rfl) (oNilchk eZ (oFaddrN (m := 2) eZ rfl (oLoadV (q := 2) (c := (dI (IntKind.wrap .i64 ((IntKind.wrap .i64 (a2.2 * 6364136223846793005)) + 1442695040888963407)))) eZ bZ rfl rfl (oShr eZ eC (by decide) (oXor (eR rfl) eZ (oAnd eZ eC (oMov eZ (xQ (AW.weaken (wk_mkG [] (kr 3 rfl rfl (kr 0 rfl rfl SL.nil)) (BL.keep rfl (BL.keep rfl (BL.keep rfl BL.nil))) (BK.cons (n := 0) rfl bZ rfl rfl BK.nil) (GK.cons rfl (GK.cons rfl GK.nil))) (aS (aS ?_))))))))))))))))))))))))))))))))))
 refine AW.regd (oMov (eR rfl) (oNilchk eZ (oFaddrN (m := 1) eZ rfl (oLoadV (q := 1) (c := (dI a2.1)) eZ bZ rfl rfl (oMov (eR rfl) (oNilchk eZ (oFaddrN (m := 0) eZ rfl (oLoadV (q := 0) (c := (.d (.both pv (.sl 1 (List.map d_u8 cb1))))) eZ bZ rfl rfl (oLenB eZ (n := cb1.length) (List.length_map _) (oLss (eR rfl) eZ (xQ ?_)))))))))))
 rcases oite H with ⟨h3, H⟩ | ⟨h3, H⟩
 ·refine AW.condT eZ (dT h3) (aS (AW.regd (oMov (eR rfl) (oMov (eR rfl) (oNilchk eZ (oFaddrN (m := 0) eZ rfl (oLoadV (q := 0) (c := (.d (.both pv (.sl 1 (List.map d_u8 cb1))))) eZ bZ rfl rfl (oMov (eR rfl) (oNilchk eZ (oFaddrN (m := 1) eZ rfl (oLoadV (q := 1) (c := (dI a2.1)) eZ bZ rfl rfl ?_)))))))))))
  obtain ⟨v4, h5, H⟩ := obind H
  refine oAtB (eR rfl) eZ h5 (oLoadB (e := (.int .u8 v4)) eZ rfl (oConv eZ (oAdd (eR rfl) eZ (oAnd eZ eC (oMov eZ (xQ (AW.weaken (wk_mkG [] (kr 3 rfl rfl (kr 0 rfl rfl SL.nil)) (BL.keep rfl BL.nil) (BK.cons (n := 0) rfl bZ rfl rfl BK.nil) (GK.cons rfl (GK.cons rfl GK.nil))) (aR (oMov (eR rfl) (oMov (eR rfl) (oNilchk eZ (oFaddrN (m := 1) eZ rfl (oLoadV (q := 1) (c := (dI a2.1)) eZ bZ rfl rfl (oAdd eZ eC (oNilchk (eR rfl) (oFaddrN (m := 1) eZ rfl (oStoreV (es := [(.d (.both pv (.sl 1 (List.map d_u8 cb1)))), (dI (IntKind.wrap .i64 (a2.1 + 1))), (dI (IntKind.wrap .i64 ((IntKind.wrap .i64 (a2.2 * 6364136223846793005)) + 1442695040888963407)))]) eZ (eR rfl) rfl rfl bZ rfl (xQ (aV (oMov (eR rfl) (oMov eZ (xQ (AW.weaken (wk_cellP (by exact rfl) bZ) (AW.ret ?_))))))))))))))))))))))))
  cases H
  exact endsRM (RL.cons (RV.tmp eZ) (VO.flat rfl) RL.nil) (ML.mut (eS rfl eZ) (VO.ptr (es := [(.pin pv), (.int .i64 (IntKind.wrap .i64 (a2.1 + 1))), (.int .i64 (IntKind.wrap .i64 ((IntKind.wrap .i64 (a2.2 * 6364136223846793005)) + 1442695040888963407)))]) bZ rfl rfl rfl) ML.nil) (by decide)
 ·refine AW.condF eZ (dF h3) (AW.skip (TQ.qn (aV (oMov (eR rfl) (oMov eZ (xQ (AW.weaken (wk_cellP (by exact rfl) bZ) (AW.ret ?_))))))))
  cases H
  exact endsRM (RL.cons (RV.tmp eZ) (VO.flat rfl) RL.nil) (ML.mut (eS rfl eZ) (VO.ptr (es := [(.pin pv), (.int .i64 a2.1), (.int .i64 (IntKind.wrap .i64 ((IntKind.wrap .i64 (a2.2 * 6364136223846793005)) + 1442695040888963407)))]) bZ rfl rfl rfl) ML.nil) (by decide)
theorem c_spec_l1Below {pv : Value} {cb1 : (List Int)} {a2 : (Int × Int)} {a3 : Int} {r : (Int × (Int × Int))} (H : m_spec_l1Below cb1 a2 a3 = some r) : FnC Try.prog pv (.sl 1 (List.map d_u8 cb1)) 50 [⟨(.ptr [(.pin pv), (.int .i64 a2.1), (.int .i64 a2.2)]), .m (.ptr [(.pin pv), (.int .i64 r.2.1), (.int .i64 r.2.2)])⟩, ⟨(.int .i64 a3), .b⟩] [(.int .i64 r.1)] := by
 refine n50 (fle rfl) (fle rfl) (fC nZ rfl fN) rfl ?_
 rw [initC_mk]
 refine AW.weaken (t := mk [(0, (.one (.ptr (.nm 0 0 0)))), (1, (oI a3))] [(0, (.vars 3 [(.d (.pin pv)), (dI a2.1), (dI a2.2)]))] (lk [(63, (.one (.d (.both pv (.sl 1 (List.map d_u8 cb1)))))), (0, (.one (.ptr (.nm 0 0 0))))])) (wk_mkG (gl := [(63, (.one (.d (.both pv (.sl 1 (List.map d_u8 cb1)))))), (0, (.one (.ptr (.nm 0 0 0))))]) [] (kv 0 (.one (.ptr (.nm 0 0 0))) rfl rfl (kv 1 (oI a3) rfl rfl SL.nil)) (BL.keep rfl BL.nil) (BK.cons (n := 0) rfl bZ rfl rfl BK.nil) (GK.cons rfl (GK.cons rfl GK.nil))) ?_
 unfold m_spec_l1Below at H
 unfold i50
 refine aV (oMov eC (xQ (aS (aV (oMov (eR rfl) (oLeq eZ eC (xQ ?_)))))))
 rcases oite H with ⟨h4, H⟩ | ⟨h4, H⟩
 ·refine AW.condT eZ (dT h4) (aV (oMov eC (xQ (AW.ret (TQ.qr ?_)))))
  cases H
  exact endsRM (RL.cons (RV.tmp eZ) (VO.flat rfl) RL.nil) (ML.mut (eS rfl eZ) (VO.ptr (es := [(.pin pv), (.int .i64 a2.1), (.int .i64 a2.2)]) bZ rfl rfl rfl) (ML.lent ML.nil)) (by decide)
 ·refine AW.condF eZ (dF h4) (AW.skip (TQ.qn (aS (aV (oMov (eR rfl) (oLeq eZ eC (xQ ?_)))))))
  rcases oite H with ⟨h5, H⟩ | ⟨h5, H⟩
  ·refine AW.condT eZ (dT h5) (aS (AW.regm (rmOne (oMov (eR rfl) (xNil ?_)))))
   obtain ⟨v6, h7, H⟩ := obind H
   refine rmCallIC (v0 := pv) (hg := by exact rfl) (ON := [0]) (ls := []) (G := []) (E := [subKey 0]) (MB := [(0, (.vars 3 [(.d (.pin pv)), (dI v6.2.1), (dI v6.2.2)]))]) (u := (oI v6.1)) eC Cl.fn (c_spec_l1Byte h7) (Evs.cons eZ Evs.nil) (AO.mut (VO.ptr (es := [(.pin pv), (.int .i64 a2.1), (.int .i64 a2.2)]) bZ rfl rfl rfl) AO.nil) rfl rfl rfl (SZ.consP bZ rfl SZ.nil) (erL.cons (v' := (.one (.ptr (.nm 0 0 0)))) rfl (erL.cons (v' := (oB (decide (a3 ≤ 256)))) rfl (erL.cons (v' := (oI a3)) rfl (erL.cons (v' := (oB (decide (a3 ≤ 0)))) rfl (erL.cons (v' := (oI a3)) rfl (erL.cons (v' := (oI 0)) rfl (erL.cons (v' := (.one (.ptr (.nm 0 0 0)))) rfl (erL.cons (v' := (oI a3)) rfl erL.nil)))))))) (erH.cons (v' := (.vars 3 [(.d (.pin pv)), (dI a2.1), (dI a2.2)])) rfl rfl erH.nil) (erL.cons (v' := (.one (.d (.both pv (.sl 1 (List.map d_u8 cb1)))))) rfl (erL.cons (v' := (.one (.ptr (.nm 0 0 0)))) rfl erL.nil)) rfl rfl (rmRest (oMov (eR rfl) ?_))
   obtain ⟨h8, H⟩ := oguard H
   refine oRem (eR rfl) eZ h8 (oMov eZ (xQ (AW.ret (TQ.qr ?_))))
   cases H
   exact endsRM (RL.cons (RV.tmp eZ) (VO.flat rfl) RL.nil) (ML.mut (eS rfl eZ) (VO.ptr (es := [(.pin pv), (.int .i64 v6.2.1), (.int .i64 v6.2.2)]) bZ rfl rfl rfl) (ML.lent ML.nil)) (by decide)
  ·refine AW.condF eZ (dF h5) (AW.skip (TQ.qn (aS (AW.regm (rmOne (oMov (eR rfl) (xNil ?_)))))))
   obtain ⟨v9, h10, H⟩ := obind H
   refine rmCallIC (v0 := pv) (hg := by exact rfl) (ON := [0]) (ls := []) (G := []) (E := [subKey 0]) (MB := [(0, (.vars 3 [(.d (.pin pv)), (dI v9.2.1), (dI v9.2.2)]))]) (u := (oI v9.1)) eC Cl.fn (c_spec_l1Byte h10) (Evs.cons eZ Evs.nil) (AO.mut (VO.ptr (es := [(.pin pv), (.int .i64 a2.1), (.int .i64 a2.2)]) bZ rfl rfl rfl) AO.nil) rfl rfl rfl (SZ.consP bZ rfl SZ.nil) (erL.cons (v' := (.one (.ptr (.nm 0 0 0)))) rfl (erL.cons (v' := (oB (decide (a3 ≤ 256)))) rfl (erL.cons (v' := (oI a3)) rfl (erL.cons (v' := (oB (decide (a3 ≤ 0)))) rfl (erL.cons (v' := (oI a3)) rfl (erL.cons (v' := (oI 0)) rfl (erL.cons (v' := (.one (.ptr (.nm 0 0 0)))) rfl (erL.cons (v' := (oI a3)) rfl erL.nil)))))))) (erH.cons (v' := (.vars 3 [(.d (.pin pv)), (dI a2.1), (dI a2.2)])) rfl rfl erH.nil) (erL.cons (v' := (.one (.d (.both pv (.sl 1 (List.map d_u8 cb1)))))) rfl (erL.cons (v' := (.one (.ptr (.nm 0 0 0)))) rfl erL.nil)) rfl rfl (rmRest (oMov eZ (xQ (aS (AW.regm (rmOne (oMov (eR rfl) (xNil ?_))))))))
   obtain ⟨v11, h12, H⟩ := obind H
   refine rmCallIC (v0 := pv) (hg := by exact rfl) (ON := [0]) (ls := []) (G := []) (E := [subKey 0]) (MB := [(0, (.vars 3 [(.d (.pin pv)), (dI v11.2.1), (dI v11.2.2)]))]) (u := (oI v11.1)) eC Cl.fn (c_spec_l1Byte h12) (Evs.cons eZ Evs.nil) (AO.mut (VO.ptr (es := [(.pin pv), (.int .i64 v9.2.1), (.int .i64 v9.2.2)]) bZ rfl rfl rfl) AO.nil) rfl rfl rfl (SZ.consP bZ rfl SZ.nil) (erL.cons (v' := (.one (.ptr (.nm 0 0 0)))) rfl (erL.cons (v' := (oI v9.1)) rfl (erL.cons (v' := (oI v9.1)) rfl (erL.cons (v' := (.one (.ptr (.nm 0 0 0)))) rfl (erL.cons (v' := (oB (decide (a3 ≤ 256)))) rfl (erL.cons (v' := (oI a3)) rfl (erL.cons (v' := (oB (decide (a3 ≤ 0)))) rfl (erL.cons (v' := (oI a3)) rfl (erL.cons (v' := (oI 0)) rfl (erL.cons (v' := (.one (.ptr (.nm 0 0 0)))) rfl (erL.cons (v' := (oI a3)) rfl erL.nil))))))))))) (erH.cons (v' := (.vars 3 [(.d (.pin pv)), (dI v9.2.1), (dI v9.2.2)])) rfl rfl (erH.cons (v' := (.vars 3 [(.d (.pin pv)), (dI a2.1), (dI a2.2)])) rfl rfl erH.nil)) (erL.cons (v' := (.one (.d (.both pv (.sl 1 (List.map d_u8 cb1)))))) rfl (erL.cons (v' := (.one (.ptr (.nm 0 0 0)))) rfl erL.nil)) rfl rfl (rmRest (oMov eZ (xQ (aS (AW.regm (rmOne (oMov (eR rfl) (xNil ?_))))))))
   obtain ⟨v13, h14, H⟩ := obind H
   refine rmCallIC (v0 := pv) (hg := by exact rfl) (ON := [0]) (ls := []) (G := []) (E := [subKey 0]) (MB := [(0, (.vars 3 [(.d (.pin pv)), (dI v13.2.1), (dI v13.2.2)]))]) (u := (oI v13.1)) eC Cl.fn (c_spec_l1Byte h14) (Evs.cons eZ Evs.nil) (AO.mut (VO.ptr (es := [(.pin pv), (.int .i64 v11.2.1), (.int .i64 v11.2.2)]) bZ rfl rfl rfl) AO.nil) rfl rfl rfl (SZ.consP bZ rfl SZ.nil) (erL.cons (v' := (.one (.ptr (.nm 0 0 0)))) rfl (erL.cons (v' := (oI v11.1)) rfl (erL.cons (v' := (oI v11.1)) rfl (erL.cons (v' := (.one (.ptr (.nm 0 0 0)))) rfl (erL.cons (v' := (oI v9.1)) rfl (erL.cons (v' := (oI v9.1)) rfl (erL.cons (v' := (.one (.ptr (.nm 0 0 0)))) rfl (erL.cons (v' := (oB (decide (a3 ≤ 256)))) rfl (erL.cons (v' := (oI a3)) rfl (erL.cons (v' := (oB (decide (a3 ≤ 0)))) rfl (erL.cons (v' := (oI a3)) rfl (erL.cons (v' := (oI 0)) rfl (erL.cons (v' := (.one (.ptr (.nm 0 0 0)))) rfl (erL.cons (v' := (oI a3)) rfl erL.nil)))))))))))))) (erH.cons (v' := (.vars 3 [(.d (.pin pv)), (dI v11.2.1), (dI v11.2.2)])) rfl rfl (erH.cons (v' := (.vars 3 [(.d (.pin pv)), (dI v9.2.1), (dI v9.2.2)])) rfl rfl (erH.cons (v' := (.vars 3 [(.d (.pin pv)), (dI a2.1), (dI a2.2)])) rfl rfl erH.nil))) (erL.cons (v' := (.one (.d (.both pv (.sl 1 (List.map d_u8 cb1)))))) rfl (erL.cons (v' := (.one (.ptr (.nm 0 0 0)))) rfl erL.nil)) rfl rfl (rmRest (oMov eZ (xQ (AW.weaken (wk_mkG [] (kr 7 rfl rfl (kr 6 rfl rfl (kr 5 rfl rfl (kr 0 rfl rfl (kr 1 rfl rfl SL.nil))))) (BL.keep rfl (BL.keep rfl (BL.keep rfl (BL.keep rfl BL.nil)))) (BK.cons (n := 0) rfl bZ rfl rfl BK.nil) (GK.cons rfl (GK.cons rfl GK.nil))) (aS (AW.regm (rmOne (oMov (eR rfl) (xNil ?_)))))))))
   obtain ⟨v15, h16, H⟩ := obind H
   refine rmCallIC (v0 := pv) (hg := by exact rfl) (ON := [0]) (ls := []) (G := []) (E := [subKey 0]) (MB := [(0, (.vars 3 [(.d (.pin pv)), (dI v15.2.1), (dI v15.2.2)]))]) (u := (oI v15.1)) eC Cl.fn (c_spec_l1Byte h16) (Evs.cons eZ Evs.nil) (AO.mut (VO.ptr (es := [(.pin pv), (.int .i64 v13.2.1), (.int .i64 v13.2.2)]) bZ rfl rfl rfl) AO.nil) rfl rfl rfl (SZ.consP bZ rfl SZ.nil) (erL.cons (v' := (.one (.ptr (.nm 0 0 0)))) rfl (erL.cons (v' := (oI v13.1)) rfl (erL.cons (v' := (oI v11.1)) rfl (erL.cons (v' := (oI v9.1)) rfl (erL.cons (v' := (.one (.ptr (.nm 0 0 0)))) rfl (erL.cons (v' := (oI a3)) rfl erL.nil)))))) (erH.cons (v' := (.vars 3 [(.d (.pin pv)), (dI v13.2.1), (dI v13.2.2)])) rfl rfl erH.nil) (erL.cons (v' := (.one (.d (.both pv (.sl 1 (List.map d_u8 cb1)))))) rfl (erL.cons (v' := (.one (.ptr (.nm 0 0 0)))) rfl erL.nil)) rfl rfl (rmRest (oMov eZ (xQ (aV (oMov (eR rfl) (oMul eZ eC (oMov (eR rfl) (oMul eZ eC (oAdd (eR rfl) eZ (oMov (eR rfl) (oMul eZ eC (oAdd (eR rfl) eZ (oMov (eR rfl) (oAdd (eR rfl) eZ (oMov (eR rfl) ?_)))))))))))))))
   obtain ⟨h17, H⟩ := oguard H
   refine oRem (eR rfl) eZ h17 (oMov eZ (xQ (AW.weaken (wk_mkG [] (kr 4 rfl rfl SL.nil) (BL.keep rfl (BL.keep rfl BL.nil)) (BK.cons (n := 0) rfl bZ rfl rfl BK.nil) (GK.cons rfl (GK.cons rfl GK.nil))) (AW.ret ?_))))
   cases H
   exact endsRM (RL.cons (RV.tmp eZ) (VO.flat rfl) RL.nil) (ML.mut (eS rfl eZ) (VO.ptr (es := [(.pin pv), (.int .i64 v15.2.1), (.int .i64 v15.2.2)]) bZ rfl rfl rfl) (ML.lent ML.nil)) (by decide)
theorem c_spec_l1Once {pv : Value} {cb1 : (List Int)} {a2 : (Int × Int)} {a3 : Int} {r : (Bool × (Int × Int))} (H : m_spec_l1Once cb1 a2 a3 = some r) : FnC Try.prog pv (.sl 1 (List.map d_u8 cb1)) 83 [⟨(.ptr [(.pin pv), (.int .i64 a2.1), (.int .i64 a2.2)]), .m (.ptr [(.pin pv), (.int .i64 r.2.1), (.int .i64 r.2.2)])⟩, ⟨(.int .i64 a3), .b⟩] [(.bool r.1)] := by
 refine n83 (fle rfl) (fle rfl) (fC nZ rfl fN) rfl ?_
 rw [initC_mk]
 refine AW.weaken (t := mk [(0, (.one (.ptr (.nm 0 0 0)))), (1, (oI a3))] [(0, (.vars 3 [(.d (.pin pv)), (dI a2.1), (dI a2.2)]))] (lk [(63, (.one (.d (.both pv (.sl 1 (List.map d_u8 cb1)))))), (0, (.one (.ptr (.nm 0 0 0))))])) (wk_mkG (gl := [(63, (.one (.d (.both pv (.sl 1 (List.map d_u8 cb1)))))), (0, (.one (.ptr (.nm 0 0 0))))]) [] (kv 0 (.one (.ptr (.nm 0 0 0))) rfl rfl (kv 1 (oI a3) rfl rfl SL.nil)) (BL.keep rfl BL.nil) (BK.cons (n := 0) rfl bZ rfl rfl BK.nil) (GK.cons rfl (GK.cons rfl GK.nil))) ?_
 unfold m_spec_l1Once at H
 unfold i83
 refine aV (oMov eC (xQ (aS (AW.regm (rmOne (oMov (eR rfl) (xNil (rmOne (oMov (eR rfl) (xNil ?_))))))))))
 obtain ⟨v4, h5, H⟩ := obind H
 refine rmCallIC (v0 := pv) (hg := by exact rfl) (ON := [0]) (ls := []) (G := []) (E := [subKey 0]) (MB := [(0, (.vars 3 [(.d (.pin pv)), (dI v4.2.1), (dI v4.2.2)]))]) (u := (oI v4.1)) eC Cl.fn (c_spec_l1Below h5) (Evs.cons (eR rfl) (Evs.cons eZ Evs.nil)) (AO.mut (VO.ptr (es := [(.pin pv), (.int .i64 a2.1), (.int .i64 a2.2)]) bZ rfl rfl rfl) (AO.lent VD.plain rfl AO.nil)) rfl rfl rfl (SZ.consP bZ rfl SZ.nil) (erL.cons (v' := (oI a3)) rfl (erL.cons (v' := (.one (.ptr (.nm 0 0 0)))) rfl (erL.cons (v' := (oB false)) rfl (erL.cons (v' := (.one (.ptr (.nm 0 0 0)))) rfl (erL.cons (v' := (oI a3)) rfl erL.nil))))) (erH.cons (v' := (.vars 3 [(.d (.pin pv)), (dI a2.1), (dI a2.2)])) rfl rfl erH.nil) (erL.cons (v' := (.one (.d (.both pv (.sl 1 (List.map d_u8 cb1)))))) rfl (erL.cons (v' := (.one (.ptr (.nm 0 0 0)))) rfl erL.nil)) rfl rfl (rmRest (oEql eZ eC (oMov eZ (xQ (AW.ret ?_)))))
 cases H
 exact endsRM (RL.cons (RV.tmp eZ) (VO.flat rfl) RL.nil) (ML.mut (eS rfl eZ) (VO.ptr (es := [(.pin pv), (.int .i64 v4.2.1), (.int .i64 v4.2.2)]) bZ rfl rfl rfl) (ML.lent ML.nil)) (by decide)
theorem c_spec_l1In {a1 : Int} {a2 : Int} {a3 : Int} {r : Bool} (H : m_spec_l1In a1 a2 a3 = some r) : Fn Try.prog 87 (lent [(.int .i64 a1), (.int .i64 a2), (.int .i64 a3)]) true [(.bool r)] := by
 refine f87 (fle rfl) ?_
 rw [init_mk]
 refine AW.weaken (wk_mk [] (kv 0 (oI a1) rfl rfl (kv 1 (oI a2) rfl rfl (kv 2 (oI a3) rfl rfl SL.nil))) BL.nil BK.nil) ?_
 unfold m_spec_l1In at H
 unfold i87
 refine aV (oMov eC (xQ (aV (oMov (eR rfl) (oMov (eR rfl) (oGeq (eR rfl) eZ (oMov eZ ?_)))))))
 rcases oite H with ⟨h4, H⟩ | ⟨h4, H⟩
 ·refine gDo eZ (dT h4) (oMov (eR rfl) (gDo (eR rfl) (dT h4) (oMov (eR rfl) (gDo (eR rfl) (dT h4) (oLeq (eR rfl) eZ (oPickT (eR rfl) (dT h4) eZ (oMov eZ (xQ (AW.ret ?_)))))))))
  cases H
  exact eE rfl rfl
 ·refine gSkip eZ (dF h4) rfl (gSkip (eR rfl) (dF h4) rfl (gSkip (eR rfl) (dF h4) rfl (oPickF (eR rfl) (dF h4) eC (oMov eZ (xQ (AW.ret ?_))))))
  cases H
  exact eE rfl rfl
theorem c_spec_l12Tx {a1 : Int} {r : Bool} (H : m_spec_l12Tx a1 = some r) : Fn Try.prog 106 (lent [(.int .i64 a1)]) true [(.bool r)] := by
 refine f106 (fle rfl) ?_
 rw [init_mk]
 refine AW.weaken (wk_mk [] (kv 0 (oI a1) rfl rfl SL.nil) BL.nil BK.nil) ?_
 unfold m_spec_l12Tx at H
 unfold i106
 refine aV (oMov eC (xQ (aV (oMov (eR rfl) ?_))))
 obtain ⟨v2, h3, H⟩ := obind H
 refine oCall (u := (oB v2)) eC Cl.fn (c_spec_l1In h3) (Evs.cons eZ (Evs.cons eC (Evs.cons eC Evs.nil))) (VDs.cons VD.plain (VDs.cons VD.plain (VDs.cons VD.plain VDs.nil))) rfl (oMov eZ (xQ (AW.ret ?_)))
 cases H
 exact eE rfl rfl
theorem c_spec_l12Range {a1 : TLock} {r : TRange} (H : m_spec_l12Range a1 = some r) : Fn Try.prog 109 (lent [(.agg (d_TLock a1))]) true [(.agg (d_TRange r))] := by
 refine f109 (fle rfl) ?_
 rw [init_mk]
 refine AW.weaken (wk_mk [] (kv 0 (.agg [(dI a1.Tx), (dI a1.Lo), (dI a1.Hi), (dI a1.Mode)]) rfl rfl SL.nil) BL.nil BK.nil) ?_
 unfold m_spec_l12Range at H
 unfold i109
 refine aV (oBox (n := 64) (m := 4) (cs := [(dI a1.Tx), (dI a1.Lo), (dI a1.Hi), (dI a1.Mode)]) rfl eZ rfl rfl nZ (oVar (n := 128) (m := 2) rfl rfl (nS rfl nZ) (xQ (aV (oFaddrN (m := 1) (eR rfl) rfl (oLoadV (q := 1) (c := (dI a1.Lo)) eZ (bS rfl bZ) rfl rfl (oFaddrN (m := 2) (eR rfl) rfl (oLoadV (q := 2) (c := (dI a1.Hi)) eZ (bS rfl bZ) rfl rfl (oBuild (cs := [(dI a1.Lo), (dI a1.Hi)]) (PsCons (eR rfl) (PsCons eZ PsNil)) rfl (oStoreV (es := [(dI a1.Lo), (dI a1.Hi)]) (eR rfl) eZ rfl rfl bZ rfl (xQ (AW.ret ?_))))))))))))
 cases H
 exact endsR (RL.cons (RV.cellA (es := [(dI a1.Lo), (dI a1.Hi)]) (eR rfl) bZ rfl) (VO.agg (ds := [(.int .i64 a1.Lo), (.int .i64 a1.Hi)]) rfl rfl) RL.nil) List.nodup_nil
theorem c_spec_RangeOk {a1 : TRange} {r : Bool} (H : m_spec_RangeOk a1 = some r) : Fn Try.prog 90 (lent [(.agg (d_TRange a1))]) true [(.bool r)] := by
 refine f90 (fle rfl) ?_
 rw [init_mk]
 refine AW.weaken (wk_mk [] (kv 0 (.agg [(dI a1.Lo), (dI a1.Hi)]) rfl rfl SL.nil) BL.nil BK.nil) ?_
 unfold m_spec_RangeOk at H
 unfold i90
 refine aV (oBox (n := 64) (m := 2) (cs := [(dI a1.Lo), (dI a1.Hi)]) rfl eZ rfl rfl nZ (oMov eC (xQ (aV (oFaddrN (m := 0) (eR rfl) rfl (oLoadV (q := 0) (c := (dI a1.Lo)) eZ bZ rfl rfl (oGeq eZ eC (oMov eZ ?_))))))))
 rcases oite H with ⟨h2, H⟩ | ⟨h2, H⟩
 ·refine gDo eZ (dT h2) (oFaddrN (m := 0) (eR rfl) rfl (gDo (eR rfl) (dT h2) (oLoadV (q := 0) (c := (dI a1.Lo)) eZ bZ rfl rfl (gDo (eR rfl) (dT h2) (oFaddrN (m := 1) (eR rfl) rfl (gDo (eR rfl) (dT h2) (oLoadV (q := 1) (c := (dI a1.Hi)) eZ bZ rfl rfl (gDo (eR rfl) (dT h2) (oLss (eR rfl) eZ (oPickT (eR rfl) (dT h2) eZ (oMov eZ ?_)))))))))))
  rcases oite H with ⟨h3, H⟩ | ⟨h3, H⟩
  ·refine gDo eZ (dT h3) (oFaddrN (m := 1) (eR rfl) rfl (gDo (eR rfl) (dT h3) (oLoadV (q := 1) (c := (dI a1.Hi)) eZ bZ rfl rfl (gDo (eR rfl) (dT h3) (oLeq eZ eC (oPickT (eR rfl) (dT h3) eZ (oMov eZ (xQ (AW.weaken (wk_mk [64] (kr 2 rfl rfl SL.nil) (BL.drop rfl BL.nil) BK.nil) (AW.ret ?_))))))))))
   cases H
   exact eE rfl rfl
  ·refine gSkip eZ (dF h3) rfl (gSkip (eR rfl) (dF h3) rfl (gSkip (eR rfl) (dF h3) rfl (oPickF (eR rfl) (dF h3) eC (oMov eZ (xQ (AW.weaken (wk_mk [64] (kr 2 rfl rfl SL.nil) (BL.drop rfl BL.nil) BK.nil) (AW.ret ?_)))))))
   cases H
   exact eE rfl rfl
 ·refine gSkip eZ (dF h2) rfl (gSkip (eR rfl) (dF h2) rfl (gSkip (eR rfl) (dF h2) rfl (gSkip (eR rfl) (dF h2) rfl (gSkip (eR rfl) (dF h2) rfl (oPickF (eR rfl) (dF h2) eC (oMov eZ (gSkip eZ rfl rfl (gSkip (eR rfl) rfl rfl (gSkip (eR rfl) rfl rfl (oPickF (eR rfl) rfl eC (oMov eZ (xQ (AW.weaken (wk_mk [64] (kr 2 rfl rfl SL.nil) (BL.drop rfl BL.nil) BK.nil) (AW.ret ?_))))))))))))))
  cases H
  exact eE rfl rfl
theorem c_spec_l12Mode {a1 : Int} {r : Bool} (H : m_spec_l12Mode a1 = some r) : Fn Try.prog 107 (lent [(.int .i64 a1)]) true [(.bool r)] := by
 refine f107 (fle rfl) ?_
 rw [init_mk]
 refine AW.weaken (wk_mk [] (kv 0 (oI a1) rfl rfl SL.nil) BL.nil BK.nil) ?_
 unfold m_spec_l12Mode at H
 unfold i107
 refine aV (oMov eC (xQ (aV (oMov (eR rfl) (oEql eZ eC (oMov eZ ?_))))))
 rcases oite H with ⟨h2, H⟩ | ⟨h2, H⟩
 ·refine gSkip eZ (dT h2) rfl (gSkip (eR rfl) (dT h2) rfl (oPickT (eR rfl) (dT h2) eC (oMov eZ (xQ (AW.ret ?_)))))
  cases H
  exact eE rfl rfl
 ·refine gDo eZ (dF h2) (oMov (eR rfl) (gDo (eR rfl) (dF h2) (oEql eZ eC (oPickF (eR rfl) (dF h2) eZ (oMov eZ (xQ (AW.ret ?_)))))))
  cases H
  exact eE rfl rfl
theorem c_spec_l1Max {a1 : Int} {a2 : Int} {r : Int} (H : m_spec_l1Max a1 a2 = some r) : Fn Try.prog 138 (lent [(.int .i64 a1), (.int .i64 a2)]) true [(.int .i64 r)] := by
 refine f138 (fle rfl) ?_
 rw [init_mk]
 refine AW.weaken (wk_mk [] (kv 0 (oI a1) rfl rfl (kv 1 (oI a2) rfl rfl SL.nil)) BL.nil BK.nil) ?_
 unfold m_spec_l1Max at H
 unfold i138
 refine aV (oMov eC (xQ (aS (aV (oMov (eR rfl) (oMov (eR rfl) (oGtr (eR rfl) eZ (xQ ?_))))))))
 rcases oite H with ⟨h3, H⟩ | ⟨h3, H⟩
 ·refine AW.condT eZ (dT h3) (aV (oMov (eR rfl) (oMov eZ (xQ (AW.ret (TQ.qr ?_))))))
  cases H
  exact eE rfl rfl
 ·refine AW.condF eZ (dF h3) (AW.skip (TQ.qn (aV (oMov (eR rfl) (oMov eZ (xQ (AW.ret ?_)))))))
  cases H
  exact eE rfl rfl
theorem c_spec_l1Min {a1 : Int} {a2 : Int} {r : Int} (H : m_spec_l1Min a1 a2 = some r) : Fn Try.prog 99 (lent [(.int .i64 a1), (.int .i64 a2)]) true [(.int .i64 r)] := by
 refine f99 (fle rfl) ?_
 rw [init_mk]
 refine AW.weaken (wk_mk [] (kv 0 (oI a1) rfl rfl (kv 1 (oI a2) rfl rfl SL.nil)) BL.nil BK.nil) ?_
 unfold m_spec_l1Min at H
 unfold i99
 refine aV (oMov eC (xQ (aS (aV (oMov (eR rfl) (oMov (eR rfl) (oLss (eR rfl) eZ (xQ ?_))))))))
 rcases oite H with ⟨h3, H⟩ | ⟨h3, H⟩
 ·refine AW.condT eZ (dT h3) (aV (oMov (eR rfl) (oMov eZ (xQ (AW.ret (TQ.qr ?_))))))
  cases H
  exact eE rfl rfl
 ·refine AW.condF eZ (dF h3) (AW.skip (TQ.qn (aV (oMov (eR rfl) (oMov eZ (xQ (AW.ret ?_)))))))
  cases H
  exact eE rfl rfl
theorem c_spec_RangeMeet {a1 : TRange} {a2 : TRange} {r : (TRange × Bool)} (H : m_spec_RangeMeet a1 a2 = some r) : Fn Try.prog 130 (lent [(.agg (d_TRange a1)), (.agg (d_TRange a2))]) true [(.agg (d_TRange r.1)), (.bool r.2)] := by
 refine f130 (fle rfl) ?_
 rw [init_mk]
 refine AW.weaken (wk_mk [] (kv 0 (.agg [(dI a1.Lo), (dI a1.Hi)]) rfl rfl (kv 1 (.agg [(dI a2.Lo), (dI a2.Hi)]) rfl rfl SL.nil)) BL.nil BK.nil) ?_
 unfold m_spec_RangeMeet at H
 unfold i130
 refine aV (oBox (n := 128) (m := 2) (cs := [(dI a1.Lo), (dI a1.Hi)]) rfl eZ rfl rfl nZ (oBox (n := 192) (m := 2) (cs := [(dI a2.Lo), (dI a2.Hi)]) rfl (eR rfl) rfl rfl (nS rfl nZ) (oVar (n := 256) (m := 2) rfl rfl (nS rfl (nS rfl nZ)) (oMov eC (xQ (aS (AW.regd (oFaddrN (m := 0) (eR rfl) rfl (oLoadV (q := 0) (c := (dI a1.Lo)) eZ (hB rfl (bS rfl (bS rfl bZ))) rfl rfl (oFaddrN (m := 0) (eR rfl) rfl (oLoadV (q := 0) (c := (dI a2.Lo)) eZ (hB rfl (bS rfl bZ)) rfl rfl ?_)))))))))))
 obtain ⟨v3, h4, H⟩ := obind H
 refine oCall (u := (oI v3)) eC Cl.fn (c_spec_l1Max h4) (Evs.cons (eR rfl) (Evs.cons eZ Evs.nil)) (VDs.cons VD.plain (VDs.cons VD.plain VDs.nil)) rfl (oFaddrN (m := 1) (eR rfl) rfl (oLoadV (q := 1) (c := (dI a1.Hi)) eZ (hB rfl (bS rfl (bS rfl bZ))) rfl rfl (oFaddrN (m := 1) (eR rfl) rfl (oLoadV (q := 1) (c := (dI a2.Hi)) eZ (hB rfl (bS rfl bZ)) rfl rfl ?_))))
 obtain ⟨v5, h6, H⟩ := obind H
 refine oCall (u := (oI v5)) eC Cl.fn (c_spec_l1Min h6) (Evs.cons (eR rfl) (Evs.cons eZ Evs.nil)) (VDs.cons VD.plain (VDs.cons VD.plain VDs.nil)) rfl (oBuild (cs := [(dI v3), (dI v5)]) (PsCons (eR rfl) (PsCons eZ PsNil)) rfl (oVar (n := 384) (m := 2) rfl rfl (hN (nS rfl (nS rfl (nS rfl nZ)))) (oStoreV (es := [(dI v3), (dI v5)]) eZ (eR rfl) rfl rfl bZ rfl (xQ (AW.weaken (wk_mk [] (kr 6 rfl rfl (kr 4 rfl rfl (kr 3 rfl rfl (kr 2 rfl rfl SL.nil)))) (BL.keep rfl (BL.keep rfl (BL.keep rfl (BL.keep rfl (BL.keep rfl BL.nil))))) (BK.cons (n := 384) rfl bZ rfl rfl (BK.cons (n := 256) rfl (bS rfl (bS rfl bZ)) rfl rfl (BK.cons (n := 192) rfl (bS rfl (bS rfl (bS rfl bZ))) rfl rfl (BK.cons (n := 128) rfl (bS rfl (bS rfl (bS rfl (bS rfl bZ)))) rfl rfl BK.nil))))) (aS (AW.seqJ (fun t7 : Bool => (spec_RangeMeet_j7 v3 v5) t7 = some r) (fun t7 => mk [(4, (.one (.ptr (.nm 256 0 0)))), (6, (.one (.ptr (.nm 384 0 0)))), (30, (oB t7))] [(256, (.vars 2 [(dI 0), (dI 0)])), (384, (.vars 2 [(dI v3), (dI v5)]))] noG) ?_ ?_)))))))
 ·intro t7 H
  unfold spec_RangeMeet_j7 at H
  rcases oite H with ⟨h9, H⟩ | ⟨h9, H⟩
  ·refine AW.condT (eR rfl) h9 (aV (oBuild (cs := [(dI 0), (dI 0)]) PsNil rfl (oStoreV (es := [(dI 0), (dI 0)]) (eR rfl) eZ rfl rfl bZ rfl (oMov eC (xQ (AW.ret (TQ.qr ?_)))))))
   cases H
   exact endsR (RL.cons (RV.cellA (es := [(dI 0), (dI 0)]) (eR rfl) bZ rfl) (VO.agg (ds := [(.int .i64 0), (.int .i64 0)]) rfl rfl) (RL.cons (RV.tmp eZ) (VO.flat rfl) RL.nil)) List.nodup_nil
  ·refine AW.condF (eR rfl) (nt h9) (AW.skip (TQ.qn (aV (oLoadVA (es := [(dI v3), (dI v5)]) (eR rfl) (bS rfl bZ) rfl (oStoreV (es := [(dI v3), (dI v5)]) (eR rfl) eZ rfl rfl bZ rfl (oMov eC (xQ (AW.ret ?_))))))))
   cases H
   exact endsR (RL.cons (RV.cellA (es := [(dI v3), (dI v5)]) (eR rfl) bZ rfl) (VO.agg (ds := [(.int .i64 v3), (.int .i64 v5)]) rfl rfl) (RL.cons (RV.tmp eZ) (VO.flat rfl) RL.nil)) List.nodup_nil
 ·refine aR (oLoadVA (es := [(dI a1.Lo), (dI a1.Hi)]) (eR rfl) (bS rfl (bS rfl (bS rfl bZ))) rfl ?_)
  obtain ⟨v10, h11, H⟩ := obind H
  refine oCall (u := (oB v10)) eC Cl.fn (c_spec_RangeOk h11) (Evs.cons eZ Evs.nil) (VDs.cons (VD.agg rfl) VDs.nil) rfl (oInv eZ (oMov eZ ?_))
  rcases oite H with ⟨h12, H⟩ | ⟨h12, H⟩
  ·refine gDo eZ (cN h12) (oLoadVA (es := [(dI a2.Lo), (dI a2.Hi)]) (eR rfl) (bS rfl (bS rfl bZ)) rfl (gDo (eR rfl) (cN h12) ?_))
   obtain ⟨v13, h14, H⟩ := obind H
   refine oCall (u := (oB v13)) eC Cl.fn (c_spec_RangeOk h14) (Evs.cons eZ Evs.nil) (VDs.cons (VD.agg rfl) VDs.nil) rfl (gDo (eR rfl) (cN h12) (oInv eZ (oPickF (eR rfl) (cN h12) eZ (oMov eZ ?_))))
   rcases oite H with ⟨h15, H⟩ | ⟨h15, H⟩
   ·refine gDo eZ (cN h15) (oLoadVA (es := [(dI v3), (dI v5)]) (eR rfl) bZ rfl (gDo (eR rfl) (cN h15) ?_))
    obtain ⟨v16, h17, H⟩ := obind H
    exact oCall (u := (oB v16)) eC Cl.fn (c_spec_RangeOk h17) (Evs.cons eZ Evs.nil) (VDs.cons (VD.agg rfl) VDs.nil) rfl (gDo (eR rfl) (cN h15) (oInv eZ (oPickF (eR rfl) (cN h15) eZ (xNil (TQ.qn ⟨(!v16), H, (wk_mk [192, 128] (kR rfl rfl (kR rfl rfl (kR rfl rfl SL.nil))) (BL.keep rfl (BL.keep rfl (BL.drop rfl (BL.drop rfl BL.nil)))) (BK.cons rfl (bS rfl bZ) rfl rfl (BK.cons rfl bZ rfl rfl BK.nil)))⟩)))))
   ·exact gSkip eZ (cN (nt h15)) rfl (gSkip (eR rfl) (cN (nt h15)) rfl (gSkip (eR rfl) (cN (nt h15)) rfl (oPickT (eR rfl) (cN (nt h15)) eC (xNil (TQ.qn ⟨true, H, (wk_mk [192, 128] (kR rfl rfl (kR rfl rfl (kR rfl rfl SL.nil))) (BL.keep rfl (BL.keep rfl (BL.drop rfl (BL.drop rfl BL.nil)))) (BK.cons rfl (bS rfl bZ) rfl rfl (BK.cons rfl bZ rfl rfl BK.nil)))⟩)))))
  ·exact gSkip eZ (cN (nt h12)) rfl (gSkip (eR rfl) (cN (nt h12)) rfl (gSkip (eR rfl) (cN (nt h12)) rfl (oPickT (eR rfl) (cN (nt h12)) eC (oMov eZ (gSkip eZ rfl rfl (gSkip (eR rfl) rfl rfl (gSkip (eR rfl) rfl rfl (oPickT (eR rfl) rfl eC (xNil (TQ.qn ⟨true, H, (wk_mk [192, 128] (kR rfl rfl (kR rfl rfl (kR rfl rfl SL.nil))) (BL.keep rfl (BL.keep rfl (BL.drop rfl (BL.drop rfl BL.nil)))) (BK.cons rfl (bS rfl bZ) rfl rfl (BK.cons rfl bZ rfl rfl BK.nil)))⟩))))))))))
theorem c_spec_l12Clash {a1 : TLock} {a2 : TLock} {r : Bool} (H : m_spec_l12Clash a1 a2 = some r) : Fn Try.prog 110 (lent [(.agg (d_TLock a1)), (.agg (d_TLock a2))]) true [(.bool r)] := by
 refine f110 (fle rfl) ?_
 rw [init_mk]
 refine AW.weaken (wk_mk [] (kv 0 (.agg [(dI a1.Tx), (dI a1.Lo), (dI a1.Hi), (dI a1.Mode)]) rfl rfl (kv 1 (.agg [(dI a2.Tx), (dI a2.Lo), (dI a2.Hi), (dI a2.Mode)]) rfl rfl SL.nil)) BL.nil BK.nil) ?_
 unfold m_spec_l12Clash at H
 unfold i110
 refine aV (oBox (n := 128) (m := 4) (cs := [(dI a1.Tx), (dI a1.Lo), (dI a1.Hi), (dI a1.Mode)]) rfl eZ rfl rfl nZ (oBox (n := 192) (m := 4) (cs := [(dI a2.Tx), (dI a2.Lo), (dI a2.Hi), (dI a2.Mode)]) rfl (eR rfl) rfl rfl (nS rfl nZ) (oMov eC (xQ (aS (AW.regd (oLoadVA (es := [(dI a1.Tx), (dI a1.Lo), (dI a1.Hi), (dI a1.Mode)]) (eR rfl) (hB rfl (bS rfl bZ)) rfl ?_)))))))
 obtain ⟨v3, h4, H⟩ := obind H
 refine oCall (u := (.agg [(dI v3.Lo), (dI v3.Hi)])) eC Cl.fn (c_spec_l12Range h4) (Evs.cons eZ Evs.nil) (VDs.cons (VD.agg rfl) VDs.nil) rfl (oLoadVA (es := [(dI a2.Tx), (dI a2.Lo), (dI a2.Hi), (dI a2.Mode)]) (eR rfl) (hB rfl bZ) rfl ?_)
 obtain ⟨v5, h6, H⟩ := obind H
 refine oCall (u := (.agg [(dI v5.Lo), (dI v5.Hi)])) eC Cl.fn (c_spec_l12Range h6) (Evs.cons eZ Evs.nil) (VDs.cons (VD.agg rfl) VDs.nil) rfl ?_
 obtain ⟨v7, h8, H⟩ := obind H
 refine oCall (u := (.tup [(.agg [(dI v7.1.Lo), (dI v7.1.Hi)]), (oB v7.2)])) eC Cl.fn (c_spec_RangeMeet h8) (Evs.cons (eR rfl) (Evs.cons eZ Evs.nil)) (VDs.cons (VD.agg rfl) (VDs.cons (VD.agg rfl) VDs.nil)) rfl (oMov eZ (oExt (v := (.agg [(dI v7.1.Lo), (dI v7.1.Hi)])) eZ rfl (oExt (v := (oB v7.2)) (eR rfl) rfl (oVar (n := 320) (m := 2) rfl rfl (hN (nS rfl (nS rfl nZ))) (oStoreV (es := [(dI v7.1.Lo), (dI v7.1.Hi)]) eZ (eR rfl) rfl rfl bZ rfl (oMov (eR rfl) (xQ (aV (oMov eZ (oMov eZ ?_))))))))))
 rcases oite H with ⟨h9, H⟩ | ⟨h9, H⟩
 ·refine gDo eZ h9 (oFaddrN (m := 0) (eR rfl) rfl (gDo (eR rfl) h9 (oLoadV (q := 0) (c := (dI a1.Tx)) eZ (bS rfl (bS rfl (bS rfl bZ))) rfl rfl (gDo (eR rfl) h9 (oFaddrN (m := 0) (eR rfl) rfl (gDo (eR rfl) h9 (oLoadV (q := 0) (c := (dI a2.Tx)) eZ (bS rfl (bS rfl bZ)) rfl rfl (gDo (eR rfl) h9 (oNeq (eR rfl) eZ (oPickT (eR rfl) h9 eZ (oMov eZ ?_)))))))))))
  rcases oite H with ⟨h10, H⟩ | ⟨h10, H⟩
  ·refine gDo eZ (dT h10) (oFaddrN (m := 3) (eR rfl) rfl (gDo (eR rfl) (dT h10) (oLoadV (q := 3) (c := (dI a1.Mode)) eZ (bS rfl (bS rfl (bS rfl bZ))) rfl rfl (gDo (eR rfl) (dT h10) (oEql eZ eC (gDo (eR rfl) (dT h10) (oMov eZ ?_)))))))
   rcases oite H with ⟨h11, H⟩ | ⟨h11, H⟩
   ·refine gSkip eZ (dT h11) rfl (gSkip (eR rfl) (dT h11) rfl (gSkip (eR rfl) (dT h11) rfl (gDo (eR rfl) (dT h10) (oPickT (eR rfl) (dT h11) eC (oPickT (eR rfl) (dT h10) eZ (oMov eZ (xQ (AW.weaken (wk_mk [320, 192, 128] (kr 4 rfl rfl SL.nil) (BL.drop rfl (BL.drop rfl (BL.drop rfl (BL.drop rfl BL.nil)))) BK.nil) (AW.ret ?_)))))))))
    cases H
    exact eE rfl rfl
   ·refine gDo eZ (dF h11) (oFaddrN (m := 3) (eR rfl) rfl (gDo (eR rfl) (dF h11) (oLoadV (q := 3) (c := (dI a2.Mode)) eZ (bS rfl (bS rfl bZ)) rfl rfl (gDo (eR rfl) (dF h11) (oEql eZ eC (gDo (eR rfl) (dT h10) (oPickF (eR rfl) (dF h11) eZ (oPickT (eR rfl) (dT h10) eZ (oMov eZ (xQ (AW.weaken (wk_mk [320, 192, 128] (kr 4 rfl rfl SL.nil) (BL.drop rfl (BL.drop rfl (BL.drop rfl (BL.drop rfl BL.nil)))) BK.nil) (AW.ret ?_))))))))))))
    cases H
    exact eE rfl rfl
  ·refine gSkip eZ (dF h10) rfl (gSkip (eR rfl) (dF h10) rfl (gSkip (eR rfl) (dF h10) rfl (gSkip (eR rfl) (dF h10) rfl (gSkipU eZ rfl (gSkipU (eR rfl) rfl (gSkipU (eR rfl) rfl (gSkip (eR rfl) (dF h10) rfl (oPickF (eR rfl) (dF h10) eC (oMov eZ (xQ (AW.weaken (wk_mk [320, 192, 128] (kr 4 rfl rfl SL.nil) (BL.drop rfl (BL.drop rfl (BL.drop rfl (BL.drop rfl BL.nil)))) BK.nil) (AW.ret ?_))))))))))))
   cases H
   exact eE rfl rfl
 ·refine gSkip eZ (nt h9) rfl (gSkip (eR rfl) (nt h9) rfl (gSkip (eR rfl) (nt h9) rfl (gSkip (eR rfl) (nt h9) rfl (gSkip (eR rfl) (nt h9) rfl (oPickF (eR rfl) (nt h9) eC (oMov eZ (gSkip eZ rfl rfl (gSkip (eR rfl) rfl rfl (gSkip (eR rfl) rfl rfl (gSkip (eR rfl) rfl rfl (gSkipU eZ rfl (gSkipU (eR rfl) rfl (gSkipU (eR rfl) rfl (gSkip (eR rfl) rfl rfl (oPickF (eR rfl) rfl eC (oMov eZ (xQ (AW.weaken (wk_mk [320, 192, 128] (kr 4 rfl rfl SL.nil) (BL.drop rfl (BL.drop rfl (BL.drop rfl (BL.drop rfl BL.nil)))) BK.nil) (AW.ret ?_)))))))))))))))))))
  cases H
  exact eE rfl rfl
theorem c_spec_LocksOk {a1 : (List TLock)} {r : Bool} (H : m_spec_LocksOk a1 = some r) : Fn Try.prog 105 (lent [(.sl 4 (List.map d_TLock a1))]) true [(.bool r)] := by
 refine f105 (fle rfl) ?_
 rw [init_mk]
 refine AW.weaken (wk_mk [] (kv 0 (.one (.d (.sl 4 (List.map d_TLock a1)))) rfl rfl SL.nil) BL.nil BK.nil) ?_
 unfold m_spec_LocksOk at H
 unfold i105
 refine aV (oMov eC (xQ (aS (aV (oMov (eR rfl) (oLenD eZ (n := a1.length) (List.length_map _) (oGtr eZ eC (xQ ?_))))))))
 rcases oite H with ⟨h2, H⟩ | ⟨h2, H⟩
 ·refine AW.condT eZ (dT h2) (aV (oMov eC (xQ (AW.ret (TQ.qr ?_)))))
  cases H
  exact eE rfl rfl
 ·refine AW.condF eZ (dF h2) (AW.skip (TQ.qn (AW.seqJ (fun t3 : Unit => spec_LocksOk_j3 t3 = some r) (fun t3 => mk [] [] noG) ?_ ?_)))
  ·intro t3 H
   unfold spec_LocksOk_j3 at H
   refine aV (oMov eC (xQ (AW.ret ?_)))
   cases H
   exact eE rfl rfl
  ·refine aV (oMov eC (xQ (AW.block (AW.iter (fun s5 : Int => mk [(0, (.one (.d (.sl 4 (List.map d_TLock a1))))), (3, (oI s5))] [] noG) H (wk_mk [] (kR rfl rfl (kR rfl rfl SL.nil)) BL.nil BK.nil) ?_))))
   intro kb6 s5 H
   unfold spec_LocksOk_b5 at H
   refine aS (aV (oMov (eR rfl) (oMov (eR rfl) (oLenD eZ (n := a1.length) (List.length_map _) (oLss (eR rfl) eZ (xQ ?_))))))
   rcases oite H with ⟨h7, H⟩ | ⟨h7, H⟩
   ·refine AW.condT eZ (dT h7) (AW.skip (TQ.qn (AW.seqJ (fun t8 : Unit => (spec_LocksOk_j8 kb6 s5) t8 = some r) (fun t8 => mk [(0, (.one (.d (.sl 4 (List.map d_TLock a1))))), (3, (oI s5))] [] noG) ?_ ?_)))
    ·intro t8 H
     unfold spec_LocksOk_j8 at H
     exact aR (oMov (eR rfl) (oAdd eZ eC (oMov eZ (xNil (TQ.qn ⟨(IntKind.wrap .i64 (s5 + 1)), H, (wk_mk [] (kR rfl rfl (kR rfl rfl SL.nil)) BL.nil BK.nil)⟩)))))
    ·refine AW.block (aS (AW.seqJ (fun t10 : Bool => (spec_LocksOk_j10 s5 a1 (spec_LocksOk_j8 kb6 s5)) t10 = some r) (fun t10 => mk [(0, (.one (.d (.sl 4 (List.map d_TLock a1))))), (3, (oI s5)), (38, (oB t10))] [] noG) ?_ ?_))
     ·intro t10 H
      unfold spec_LocksOk_j10 at H
      rcases oite H with ⟨h12, H⟩ | ⟨h12, H⟩
      ·refine AW.condT (eR rfl) h12 (aV (oMov eC (xQ (AW.ret (TQ.qr (BQ.qr (TQ.qr (TQ.qr (BQ.qr (TQ.qr ?_))))))))))
       cases H
       exact eE rfl rfl
      ·refine AW.condF (eR rfl) (nt h12) (AW.skip (TQ.qn (aV (oMov eC (xQ (AW.block (AW.iter (fun s13 : Int => mk [(0, (.one (.d (.sl 4 (List.map d_TLock a1))))), (3, (oI s5)), (4, (oI s13))] [] noG) H (wk_mk [] (kR rfl rfl (kR rfl rfl (kR rfl rfl SL.nil))) BL.nil BK.nil) ?_)))))))
       intro kb14 s13 H
       unfold spec_LocksOk_b13 at H
       refine aS (aV (oMov (eR rfl) (oMov (eR rfl) (oLss (eR rfl) eZ (xQ ?_)))))
       rcases oite H with ⟨h15, H⟩ | ⟨h15, H⟩
       ·refine AW.condT eZ (dT h15) (AW.skip (TQ.qn (aS (AW.block (aS (AW.regd (oMov (eR rfl) (oMov (eR rfl) ?_))))))))
        obtain ⟨v16, h17, H⟩ := obind H
        refine oAtD (eR rfl) eZ h17 (oLoadBA (es := [(dI v16.Tx), (dI v16.Lo), (dI v16.Hi), (dI v16.Mode)]) eZ rfl (oMov (eR rfl) (oMov (eR rfl) ?_)))
        obtain ⟨v18, h19, H⟩ := obind H
        refine oAtD (eR rfl) eZ h19 (oLoadBA (es := [(dI v18.Tx), (dI v18.Lo), (dI v18.Hi), (dI v18.Mode)]) eZ rfl ?_)
        obtain ⟨v20, h21, H⟩ := obind H
        refine oCall (u := (oB v20)) eC Cl.fn (c_spec_l12Clash h21) (Evs.cons (eR rfl) (Evs.cons eZ Evs.nil)) (VDs.cons (VD.agg rfl) (VDs.cons (VD.agg rfl) VDs.nil)) rfl (xQ ?_)
        rcases oite H with ⟨h22, H⟩ | ⟨h22, H⟩
        ·refine AW.condT eZ h22 (aV (oMov eC (xQ (AW.weaken (wk_mk [] (kr 2 rfl rfl SL.nil) BL.nil BK.nil) (AW.ret (BQ.qr (TQ.qr (TQ.qr (BQ.qr (BQ.qr (TQ.qr (TQ.qr (BQ.qr (TQ.qr ?_))))))))))))))
         cases H
         exact eE rfl rfl
        ·exact AW.condF eZ (nt h22) (AW.skip (BQ.qn (TQ.qn (aR (oMov (eR rfl) (oAdd eZ eC (oMov eZ (xNil (TQ.qn ⟨(IntKind.wrap .i64 (s13 + 1)), H, (wk_mk [] (kR rfl rfl (kR rfl rfl (kR rfl rfl SL.nil))) BL.nil BK.nil)⟩)))))))))
       ·exact AW.condF eZ (dF h15) (AW.exit (TQ.qe (TQ.qe (BQ.qe (BQ.qn (TQ.qn ⟨(), H, (wk_mk [] (kR rfl rfl (kR rfl rfl SL.nil)) BL.nil BK.nil)⟩))))))
     ·refine aR (oMov (eR rfl) (oMov (eR rfl) ?_))
      obtain ⟨v23, h24, H⟩ := obind H
      refine oAtD (eR rfl) eZ h24 (oFaddrB (m := 0) eZ rfl (oLoadB (e := (.int .i64 v23.Tx)) eZ rfl ?_))
      obtain ⟨v25, h26, H⟩ := obind H
      refine oCall (u := (oB v25)) eC Cl.fn (c_spec_l12Tx h26) (Evs.cons eZ Evs.nil) (VDs.cons VD.plain VDs.nil) rfl (oInv eZ (oMov eZ ?_))
      rcases oite H with ⟨h27, H⟩ | ⟨h27, H⟩
      ·refine gDo eZ (cN h27) (oMov (eR rfl) (gDo (eR rfl) (cN h27) (oMov (eR rfl) (gDo (eR rfl) (cN h27) ?_))))
       obtain ⟨v28, h29, H⟩ := obind H
       refine oAtD (eR rfl) eZ h29 (gDo (eR rfl) (cN h27) (oLoadBA (es := [(dI v28.Tx), (dI v28.Lo), (dI v28.Hi), (dI v28.Mode)]) eZ rfl (gDo (eR rfl) (cN h27) ?_)))
       obtain ⟨v30, h31, H⟩ := obind H
       refine oCall (u := (.agg [(dI v30.Lo), (dI v30.Hi)])) eC Cl.fn (c_spec_l12Range h31) (Evs.cons eZ Evs.nil) (VDs.cons (VD.agg rfl) VDs.nil) rfl (gDo (eR rfl) (cN h27) ?_)
       obtain ⟨v32, h33, H⟩ := obind H
       refine oCall (u := (oB v32)) eC Cl.fn (c_spec_RangeOk h33) (Evs.cons eZ Evs.nil) (VDs.cons (VD.agg rfl) VDs.nil) rfl (gDo (eR rfl) (cN h27) (oInv eZ (oPickF (eR rfl) (cN h27) eZ (oMov eZ ?_))))
       rcases oite H with ⟨h34, H⟩ | ⟨h34, H⟩
       ·refine gDo eZ (cN h34) (oMov (eR rfl) (gDo (eR rfl) (cN h34) (oMov (eR rfl) (gDo (eR rfl) (cN h34) ?_))))
        obtain ⟨v35, h36, H⟩ := obind H
        refine oAtD (eR rfl) eZ h36 (gDo (eR rfl) (cN h34) (oFaddrB (m := 3) eZ rfl (gDo (eR rfl) (cN h34) (oLoadB (e := (.int .i64 v35.Mode)) eZ rfl (gDo (eR rfl) (cN h34) ?_)))))
        obtain ⟨v37, h38, H⟩ := obind H
        exact oCall (u := (oB v37)) eC Cl.fn (c_spec_l12Mode h38) (Evs.cons eZ Evs.nil) (VDs.cons VD.plain VDs.nil) rfl (gDo (eR rfl) (cN h34) (oInv eZ (oPickF (eR rfl) (cN h34) eZ (xNil (TQ.qn ⟨(!v37), H, (wk_mk [] (kR rfl rfl (kR rfl rfl (kR rfl rfl SL.nil))) BL.nil BK.nil)⟩)))))
       ·exact gSkip eZ (cN (nt h34)) rfl (gSkip (eR rfl) (cN (nt h34)) rfl (gSkip (eR rfl) (cN (nt h34)) rfl (gSkip (eR rfl) (cN (nt h34)) rfl (gSkip (eR rfl) (cN (nt h34)) rfl (gSkip (eR rfl) (cN (nt h34)) rfl (gSkip (eR rfl) (cN (nt h34)) rfl (oPickT (eR rfl) (cN (nt h34)) eC (xNil (TQ.qn ⟨true, H, (wk_mk [] (kR rfl rfl (kR rfl rfl (kR rfl rfl SL.nil))) BL.nil BK.nil)⟩)))))))))
      ·exact gSkip eZ (cN (nt h27)) rfl (gSkip (eR rfl) (cN (nt h27)) rfl (gSkip (eR rfl) (cN (nt h27)) rfl (gSkip (eR rfl) (cN (nt h27)) rfl (gSkip (eR rfl) (cN (nt h27)) rfl (gSkip (eR rfl) (cN (nt h27)) rfl (gSkip (eR rfl) (cN (nt h27)) rfl (oPickT (eR rfl) (cN (nt h27)) eC (oMov eZ (gSkip eZ rfl rfl (gSkip (eR rfl) rfl rfl (gSkip (eR rfl) rfl rfl (gSkip (eR rfl) rfl rfl (gSkip (eR rfl) rfl rfl (gSkip (eR rfl) rfl rfl (gSkip (eR rfl) rfl rfl (oPickT (eR rfl) rfl eC (xNil (TQ.qn ⟨true, H, (wk_mk [] (kR rfl rfl (kR rfl rfl (kR rfl rfl SL.nil))) BL.nil BK.nil)⟩))))))))))))))))))
   ·exact AW.condF eZ (dF h7) (AW.exit (TQ.qe (TQ.qe (BQ.qe (TQ.qn ⟨(), H, (wk_mk [] SL.nil BL.nil BK.nil)⟩)))))
theorem c_spec_l12Right {a1 : (List TLock)} {a2 : (List Int)} {a3 : Int} {a4 : TRange} {a5 : Int} {r : Bool} (H : m_spec_l12Right a1 a2 a3 a4 a5 = some r) : Fn Try.prog 67 (lent [(.sl 4 (List.map d_TLock a1)), (.sl 1 (List.map d_i64 a2)), (.int .i64 a3), (.agg (d_TRange a4)), (.int .i64 a5)]) true [(.bool r)] := by
 refine f67 (fle rfl) ?_
 rw [init_mk]
 refine AW.weaken (wk_mk [] (kv 0 (.one (.d (.sl 4 (List.map d_TLock a1)))) rfl rfl (kv 1 (.one (.d (.sl 1 (List.map d_i64 a2)))) rfl rfl (kv 2 (oI a3) rfl rfl (kv 3 (.agg [(dI a4.Lo), (dI a4.Hi)]) rfl rfl (kv 4 (oI a5) rfl rfl SL.nil))))) BL.nil BK.nil) ?_
 unfold m_spec_l12Right at H
 unfold i67
 refine aV (oBox (n := 512) (m := 2) (cs := [(dI a4.Lo), (dI a4.Hi)]) rfl (eR rfl) rfl rfl nZ (oMov eC (xQ (aV (oMov (eR rfl) ?_)))))
 obtain ⟨v6, h7, H⟩ := obind H
 refine oCall (u := (oB v6)) eC Cl.fn (c_spec_LocksOk h7) (Evs.cons eZ Evs.nil) (VDs.cons VD.plain VDs.nil) rfl (oMov eZ ?_)
 rcases oite H with ⟨h8, H⟩ | ⟨h8, H⟩
 ·refine gDo eZ h8 (oMov (eR rfl) (gDo (eR rfl) h8 (oLenD eZ (n := a2.length) (List.length_map _) (gDo (eR rfl) h8 (oLeq eZ eC (oPickT (eR rfl) h8 eZ (oMov eZ ?_)))))))
  rcases oite H with ⟨h9, H⟩ | ⟨h9, H⟩
  ·refine gDo eZ (dT h9) (oMov (eR rfl) (gDo (eR rfl) (dT h9) ?_))
   obtain ⟨v10, h11, H⟩ := obind H
   refine oCall (u := (oB v10)) eC Cl.fn (c_spec_l12Tx h11) (Evs.cons eZ Evs.nil) (VDs.cons VD.plain VDs.nil) rfl (oPickT (eR rfl) (dT h9) eZ (oMov eZ ?_))
   rcases oite H with ⟨h12, H⟩ | ⟨h12, H⟩
   ·refine gDo eZ h12 (oLoadVA (es := [(dI a4.Lo), (dI a4.Hi)]) (eR rfl) bZ rfl (gDo (eR rfl) h12 ?_))
    obtain ⟨v13, h14, H⟩ := obind H
    refine oCall (u := (oB v13)) eC Cl.fn (c_spec_RangeOk h14) (Evs.cons eZ Evs.nil) (VDs.cons (VD.agg rfl) VDs.nil) rfl (oPickT (eR rfl) h12 eZ (oMov eZ ?_))
    rcases oite H with ⟨h15, H⟩ | ⟨h15, H⟩
    ·refine gDo eZ h15 (oMov (eR rfl) (gDo (eR rfl) h15 ?_))
     obtain ⟨v16, h17, H⟩ := obind H
     refine oCall (u := (oB v16)) eC Cl.fn (c_spec_l12Mode h17) (Evs.cons eZ Evs.nil) (VDs.cons VD.plain VDs.nil) rfl (oPickT (eR rfl) h15 eZ (oMov eZ (xQ (AW.weaken (wk_mk [512] (kr 10 rfl rfl SL.nil) (BL.drop rfl BL.nil) BK.nil) (AW.ret ?_)))))
     cases H
     exact eE rfl rfl
    ·refine gSkip eZ (nt h15) rfl (gSkip (eR rfl) (nt h15) rfl (oPickF (eR rfl) (nt h15) eC (oMov eZ (xQ (AW.weaken (wk_mk [512] (kr 10 rfl rfl SL.nil) (BL.drop rfl BL.nil) BK.nil) (AW.ret ?_))))))
     cases H
     exact eE rfl rfl
   ·refine gSkip eZ (nt h12) rfl (gSkip (eR rfl) (nt h12) rfl (oPickF (eR rfl) (nt h12) eC (oMov eZ (gSkip eZ rfl rfl (gSkip (eR rfl) rfl rfl (oPickF (eR rfl) rfl eC (oMov eZ (xQ (AW.weaken (wk_mk [512] (kr 10 rfl rfl SL.nil) (BL.drop rfl BL.nil) BK.nil) (AW.ret ?_))))))))))
    cases H
    exact eE rfl rfl
  ·refine gSkip eZ (dF h9) rfl (gSkip (eR rfl) (dF h9) rfl (oPickF (eR rfl) (dF h9) eC (oMov eZ (gSkip eZ rfl rfl (gSkip (eR rfl) rfl rfl (oPickF (eR rfl) rfl eC (oMov eZ (gSkip eZ rfl rfl (gSkip (eR rfl) rfl rfl (oPickF (eR rfl) rfl eC (oMov eZ (xQ (AW.weaken (wk_mk [512] (kr 10 rfl rfl SL.nil) (BL.drop rfl BL.nil) BK.nil) (AW.ret ?_))))))))))))))
   cases H
   exact eE rfl rfl
 ·refine gSkip eZ (nt h8) rfl (gSkip (eR rfl) (nt h8) rfl (gSkip (eR rfl) (nt h8) rfl (oPickF (eR rfl) (nt h8) eC (oMov eZ (gSkip eZ rfl rfl (gSkip (eR rfl) rfl rfl (oPickF (eR rfl) rfl eC (oMov eZ (gSkip eZ rfl rfl (gSkip (eR rfl) rfl rfl (oPickF (eR rfl) rfl eC (oMov eZ (gSkip eZ rfl rfl (gSkip (eR rfl) rfl rfl (oPickF (eR rfl) rfl eC (oMov eZ (xQ (AW.weaken (wk_mk [512] (kr 10 rfl rfl SL.nil) (BL.drop rfl BL.nil) BK.nil) (AW.ret ?_)))))))))))))))))))
  cases H
  exact eE rfl rfl
theorem c_spec_RangeIn {a1 : TRange} {a2 : TRange} {r : Bool} (H : m_spec_RangeIn a1 a2 = some r) : Fn Try.prog 108 (lent [(.agg (d_TRange a1)), (.agg (d_TRange a2))]) true [(.bool r)] := by
 refine f108 (fle rfl) ?_
 rw [init_mk]
 refine AW.weaken (wk_mk [] (kv 0 (.agg [(dI a1.Lo), (dI a1.Hi)]) rfl rfl (kv 1 (.agg [(dI a2.Lo), (dI a2.Hi)]) rfl rfl SL.nil)) BL.nil BK.nil) ?_
 unfold m_spec_RangeIn at H
 unfold i108
 refine aV (oBox (n := 128) (m := 2) (cs := [(dI a1.Lo), (dI a1.Hi)]) rfl eZ rfl rfl nZ (oBox (n := 192) (m := 2) (cs := [(dI a2.Lo), (dI a2.Hi)]) rfl (eR rfl) rfl rfl (nS rfl nZ) (oMov eC (xQ (aV (oLoadVA (es := [(dI a1.Lo), (dI a1.Hi)]) (eR rfl) (bS rfl bZ) rfl ?_))))))
 obtain ⟨v3, h4, H⟩ := obind H
 refine oCall (u := (oB v3)) eC Cl.fn (c_spec_RangeOk h4) (Evs.cons eZ Evs.nil) (VDs.cons (VD.agg rfl) VDs.nil) rfl (oMov eZ ?_)
 rcases oite H with ⟨h5, H⟩ | ⟨h5, H⟩
 ·refine gDo eZ h5 (oLoadVA (es := [(dI a2.Lo), (dI a2.Hi)]) (eR rfl) bZ rfl (gDo (eR rfl) h5 ?_))
  obtain ⟨v6, h7, H⟩ := obind H
  refine oCall (u := (oB v6)) eC Cl.fn (c_spec_RangeOk h7) (Evs.cons eZ Evs.nil) (VDs.cons (VD.agg rfl) VDs.nil) rfl (oPickT (eR rfl) h5 eZ (oMov eZ ?_))
  rcases oite H with ⟨h8, H⟩ | ⟨h8, H⟩
  ·refine gDo eZ h8 (oFaddrN (m := 0) (eR rfl) rfl (gDo (eR rfl) h8 (oLoadV (q := 0) (c := (dI a1.Lo)) eZ (bS rfl bZ) rfl rfl (gDo (eR rfl) h8 (oFaddrN (m := 0) (eR rfl) rfl (gDo (eR rfl) h8 (oLoadV (q := 0) (c := (dI a2.Lo)) eZ bZ rfl rfl (gDo (eR rfl) h8 (oGeq (eR rfl) eZ (oPickT (eR rfl) h8 eZ (oMov eZ ?_)))))))))))
   rcases oite H with ⟨h9, H⟩ | ⟨h9, H⟩
   ·refine gDo eZ (dT h9) (oFaddrN (m := 1) (eR rfl) rfl (gDo (eR rfl) (dT h9) (oLoadV (q := 1) (c := (dI a1.Hi)) eZ (bS rfl bZ) rfl rfl (gDo (eR rfl) (dT h9) (oFaddrN (m := 1) (eR rfl) rfl (gDo (eR rfl) (dT h9) (oLoadV (q := 1) (c := (dI a2.Hi)) eZ bZ rfl rfl (gDo (eR rfl) (dT h9) (oLeq (eR rfl) eZ (oPickT (eR rfl) (dT h9) eZ (oMov eZ (xQ (AW.weaken (wk_mk [192, 128] (kr 4 rfl rfl SL.nil) (BL.drop rfl (BL.drop rfl BL.nil)) BK.nil) (AW.ret ?_))))))))))))))
    cases H
    exact eE rfl rfl
   ·refine gSkip eZ (dF h9) rfl (gSkip (eR rfl) (dF h9) rfl (gSkip (eR rfl) (dF h9) rfl (gSkip (eR rfl) (dF h9) rfl (gSkip (eR rfl) (dF h9) rfl (oPickF (eR rfl) (dF h9) eC (oMov eZ (xQ (AW.weaken (wk_mk [192, 128] (kr 4 rfl rfl SL.nil) (BL.drop rfl (BL.drop rfl BL.nil)) BK.nil) (AW.ret ?_)))))))))
    cases H
    exact eE rfl rfl
  ·refine gSkip eZ (nt h8) rfl (gSkip (eR rfl) (nt h8) rfl (gSkip (eR rfl) (nt h8) rfl (gSkip (eR rfl) (nt h8) rfl (gSkip (eR rfl) (nt h8) rfl (oPickF (eR rfl) (nt h8) eC (oMov eZ (gSkip eZ rfl rfl (gSkip (eR rfl) rfl rfl (gSkip (eR rfl) rfl rfl (gSkip (eR rfl) rfl rfl (gSkip (eR rfl) rfl rfl (oPickF (eR rfl) rfl eC (oMov eZ (xQ (AW.weaken (wk_mk [192, 128] (kr 4 rfl rfl SL.nil) (BL.drop rfl (BL.drop rfl BL.nil)) BK.nil) (AW.ret ?_))))))))))))))))
   cases H
   exact eE rfl rfl
 ·refine gSkip eZ (nt h5) rfl (gSkip (eR rfl) (nt h5) rfl (oPickF (eR rfl) (nt h5) eC (oMov eZ (gSkip eZ rfl rfl (gSkip (eR rfl) rfl rfl (gSkip (eR rfl) rfl rfl (gSkip (eR rfl) rfl rfl (gSkip (eR rfl) rfl rfl (oPickF (eR rfl) rfl eC (oMov eZ (gSkip eZ rfl rfl (gSkip (eR rfl) rfl rfl (gSkip (eR rfl) rfl rfl (gSkip (eR rfl) rfl rfl (gSkip (eR rfl) rfl rfl (oPickF (eR rfl) rfl eC (oMov eZ (xQ (AW.weaken (wk_mk [192, 128] (kr 4 rfl rfl SL.nil) (BL.drop rfl (BL.drop rfl BL.nil)) BK.nil) (AW.ret ?_))))))))))))))))))))
  cases H
  exact eE rfl rfl
theorem c_spec_l12Holds {a1 : (List TLock)} {a2 : Int} {a3 : TRange} {a4 : Int} {r : Bool} (H : m_spec_l12Holds a1 a2 a3 a4 = some r) : Fn Try.prog 68 (lent [(.sl 4 (List.map d_TLock a1)), (.int .i64 a2), (.agg (d_TRange a3)), (.int .i64 a4)]) true [(.bool r)] := by
 refine f68 (fle rfl) ?_
 rw [init_mk]
 refine AW.weaken (wk_mk [] (kv 0 (.one (.d (.sl 4 (List.map d_TLock a1)))) rfl rfl (kv 1 (oI a2) rfl rfl (kv 2 (.agg [(dI a3.Lo), (dI a3.Hi)]) rfl rfl (kv 3 (oI a4) rfl rfl SL.nil)))) BL.nil BK.nil) ?_
 unfold m_spec_l12Holds at H
 unfold i68
 refine aV (oBox (n := 384) (m := 2) (cs := [(dI a3.Lo), (dI a3.Hi)]) rfl (eR rfl) rfl rfl nZ (oMov eC (xQ (AW.seqJ (fun t5 : Unit => spec_l12Holds_j5 t5 = some r) (fun t5 => mk [] [] noG) ?_ ?_))))
 ·intro t5 H
  unfold spec_l12Holds_j5 at H
  refine aV (oMov eC (xQ (AW.ret ?_)))
  cases H
  exact eE rfl rfl
 ·refine aV (oMov eC (xQ (AW.block (AW.iter (fun s7 : Int => mk [(0, (.one (.d (.sl 4 (List.map d_TLock a1))))), (1, (oI a2)), (3, (oI a4)), (6, (.one (.ptr (.nm 384 0 0)))), (9, (oI s7))] [(384, (.vars 2 [(dI a3.Lo), (dI a3.Hi)]))] noG) H (wk_mk [] (kR rfl rfl (kR rfl rfl (kR rfl rfl (kR rfl rfl (kR rfl rfl SL.nil))))) (BL.keep rfl BL.nil) (BK.cons rfl bZ rfl rfl BK.nil)) ?_))))
  intro kb8 s7 H
  unfold spec_l12Holds_b7 at H
  refine aS (aV (oMov (eR rfl) (oMov (eR rfl) (oLenD eZ (n := a1.length) (List.length_map _) (oLss (eR rfl) eZ (xQ ?_))))))
  rcases oite H with ⟨h9, H⟩ | ⟨h9, H⟩
  ·refine AW.condT eZ (dT h9) (AW.skip (TQ.qn (aS (AW.block (AW.seqJ (fun t10 : Bool => (spec_l12Holds_j10 kb8 s7) t10 = some r) (fun t10 => mk [(0, (.one (.d (.sl 4 (List.map d_TLock a1))))), (1, (oI a2)), (3, (oI a4)), (6, (.one (.ptr (.nm 384 0 0)))), (9, (oI s7)), (40, (oB t10))] [(384, (.vars 2 [(dI a3.Lo), (dI a3.Hi)]))] noG) ?_ ?_)))))
   ·intro t10 H
    unfold spec_l12Holds_j10 at H
    rcases oite H with ⟨h12, H⟩ | ⟨h12, H⟩
    ·refine AW.condT (eR rfl) h12 (aV (oMov eC (xQ (AW.ret (BQ.qr (TQ.qr (TQ.qr (BQ.qr (TQ.qr ?_)))))))))
     cases H
     exact eE rfl rfl
    ·exact AW.condF (eR rfl) (nt h12) (AW.skip (BQ.qn (TQ.qn (aR (oMov (eR rfl) (oAdd eZ eC (oMov eZ (xNil (TQ.qn ⟨(IntKind.wrap .i64 (s7 + 1)), H, (wk_mk [] (kR rfl rfl (kR rfl rfl (kR rfl rfl (kR rfl rfl (kR rfl rfl SL.nil))))) (BL.keep rfl BL.nil) (BK.cons rfl bZ rfl rfl BK.nil))⟩)))))))))
   ·refine AW.regd (oMov (eR rfl) (oMov (eR rfl) ?_))
    obtain ⟨v13, h14, H⟩ := obind H
    refine oAtD (eR rfl) eZ h14 (oFaddrB (m := 0) eZ rfl (oLoadB (e := (.int .i64 v13.Tx)) eZ rfl (oMov (eR rfl) (oEql (eR rfl) eZ (oMov eZ ?_)))))
    rcases oite H with ⟨h15, H⟩ | ⟨h15, H⟩
    ·refine gDo eZ (dT h15) (oLoadVA (es := [(dI a3.Lo), (dI a3.Hi)]) (eR rfl) (hB rfl bZ) rfl (gDo (eR rfl) (dT h15) (oMov (eR rfl) (gDo (eR rfl) (dT h15) (oMov (eR rfl) (gDo (eR rfl) (dT h15) ?_))))))
     obtain ⟨v16, h17, H⟩ := obind H
     refine oAtD (eR rfl) eZ h17 (gDo (eR rfl) (dT h15) (oLoadBA (es := [(dI v16.Tx), (dI v16.Lo), (dI v16.Hi), (dI v16.Mode)]) eZ rfl (gDo (eR rfl) (dT h15) ?_)))
     obtain ⟨v18, h19, H⟩ := obind H
     refine oCall (u := (.agg [(dI v18.Lo), (dI v18.Hi)])) eC Cl.fn (c_spec_l12Range h19) (Evs.cons eZ Evs.nil) (VDs.cons (VD.agg rfl) VDs.nil) rfl (gDo (eR rfl) (dT h15) ?_)
     obtain ⟨v20, h21, H⟩ := obind H
     refine oCall (u := (oB v20)) eC Cl.fn (c_spec_RangeIn h21) (Evs.cons (eR rfl) (Evs.cons eZ Evs.nil)) (VDs.cons (VD.agg rfl) (VDs.cons (VD.agg rfl) VDs.nil)) rfl (oPickT (eR rfl) (dT h15) eZ (oMov eZ ?_))
     rcases oite H with ⟨h22, H⟩ | ⟨h22, H⟩
     ·refine gDo eZ h22 (oMov (eR rfl) (gDo (eR rfl) h22 (oMov (eR rfl) (gDo (eR rfl) h22 ?_))))
      obtain ⟨v23, h24, H⟩ := obind H
      exact oAtD (eR rfl) eZ h24 (gDo (eR rfl) h22 (oFaddrB (m := 3) eZ rfl (gDo (eR rfl) h22 (oLoadB (e := (.int .i64 v23.Mode)) eZ rfl (gDo (eR rfl) h22 (oMov (eR rfl) (gDo (eR rfl) h22 (oGeq (eR rfl) eZ (oPickT (eR rfl) h22 eZ (xNil (TQ.qn ⟨(decide (a4 ≤ v23.Mode)), H, (wk_mk [] (kR rfl rfl (kR rfl rfl (kR rfl rfl (kR rfl rfl (kR rfl rfl (kR rfl rfl SL.nil)))))) (BL.keep rfl BL.nil) (BK.cons rfl bZ rfl rfl BK.nil))⟩)))))))))))
     ·exact gSkip eZ (nt h22) rfl (gSkip (eR rfl) (nt h22) rfl (gSkip (eR rfl) (nt h22) rfl (gSkip (eR rfl) (nt h22) rfl (gSkip (eR rfl) (nt h22) rfl (gSkip (eR rfl) (nt h22) rfl (gSkip (eR rfl) (nt h22) rfl (oPickF (eR rfl) (nt h22) eC (xNil (TQ.qn ⟨false, H, (wk_mk [] (kR rfl rfl (kR rfl rfl (kR rfl rfl (kR rfl rfl (kR rfl rfl (kR rfl rfl SL.nil)))))) (BL.keep rfl BL.nil) (BK.cons rfl bZ rfl rfl BK.nil))⟩)))))))))
    ·exact gSkip eZ (dF h15) rfl (gSkip (eR rfl) (dF h15) rfl (gSkip (eR rfl) (dF h15) rfl (gSkip (eR rfl) (dF h15) rfl (gSkip (eR rfl) (dF h15) rfl (gSkip (eR rfl) (dF h15) rfl (gSkip (eR rfl) (dF h15) rfl (oPickF (eR rfl) (dF h15) eC (oMov eZ (gSkip eZ rfl rfl (gSkip (eR rfl) rfl rfl (gSkip (eR rfl) rfl rfl (gSkip (eR rfl) rfl rfl (gSkip (eR rfl) rfl rfl (gSkip (eR rfl) rfl rfl (gSkip (eR rfl) rfl rfl (oPickF (eR rfl) rfl eC (xNil (TQ.qn ⟨false, H, (wk_mk [] (kR rfl rfl (kR rfl rfl (kR rfl rfl (kR rfl rfl (kR rfl rfl (kR rfl rfl SL.nil)))))) (BL.keep rfl BL.nil) (BK.cons rfl bZ rfl rfl BK.nil))⟩))))))))))))))))))
  ·exact AW.condF eZ (dF h9) (AW.exit (TQ.qe (TQ.qe (BQ.qe (TQ.qn ⟨(), H, (wk_mk [384] SL.nil (BL.drop rfl BL.nil) BK.nil)⟩)))))
theorem c_spec_l12Put {a1 : (List Int)} {a2 : Int} {r : (List Int)} (H : m_spec_l12Put a1 a2 = some r) : Fn Try.prog 111 (lent [(.sl 1 (List.map d_i64 a1)), (.int .i64 a2)]) true [(.sl 1 (List.map d_i64 r))] := by
 refine f111 (fle rfl) ?_
 rw [init_mk]
 refine AW.weaken (wk_mk [] (kv 0 (.one (.d (.sl 1 (List.map d_i64 a1)))) rfl rfl (kv 1 (oI a2) rfl rfl SL.nil)) BL.nil BK.nil) ?_
 unfold m_spec_l12Put at H
 unfold i111
 refine aV (oMov eC (xQ (aV (oBsliceZ (m := 512) rfl nZ (oMov eZ (xQ (aV (oMov eC (xQ (AW.seqJ (fun t3 : ((List Int) × Bool) => (spec_l12Put_j3 a2) t3 = some r) (fun t3 => mk [(1, (oI a2)), (5, (.one (.sl 320320 0 t3.1.length))), (6, (oB t3.2))] [(320320, (.data 1 (List.map d_i64 t3.1) true none))] noG) ?_ ?_))))))))))
 ·intro t3 H
  unfold spec_l12Put_j3 at H
  refine aS (aV (oMov (eR rfl) (oInv eZ (xQ ?_))))
  rcases oite H with ⟨h5, H⟩ | ⟨h5, H⟩
  ·refine AW.condF eZ (cN h5) (AW.skip (TQ.qn (aV (oMov (eR rfl) (oMov eZ (xQ (AW.ret ?_)))))))
   cases H
   exact endsR (RL.cons (RV.tmp eZ) (VO.sl bZ (List.length_map _) (allFlat fun _ => rfl)) RL.nil) (by decide)
  ·refine AW.condT eZ (cN (nt h5)) (aR (oMov (eR rfl) (oMov (eR rfl) (oBslice (m := 2944) (q := 1) (cs := [(dI a2)]) rfl (PsCons eZ PsNil) rfl (List.cons_ne_nil _ _) (by simp) (nS rfl nZ) ?_))))
   obtain ⟨h6, H⟩ := oguard H
   refine oAppN (f := d_i64) (xs := t3.1) (ys := [a2]) (q := (t3.1 ++ ([a2])).length) (eR rfl) eZ (bS rfl bZ) rfl (El.one (f := d_i64) (t := a2) (es := [(.int .i64 a2)]) bZ rfl rfl rfl) rfl h6 (by decide) (by decide) (erL.cons (v' := (.one (.sl 2944 0 1))) rfl (erL.cons (v' := (oI a2)) rfl (erL.cons (v' := (.one .any)) rfl (erL.cons (v' := (oB (!t3.2))) rfl (erL.cons (v' := (oB t3.2)) rfl (erL.cons (v' := (oI a2)) rfl (erL.cons (v' := (.one .any)) rfl (erL.cons (v' := (oB t3.2)) rfl erL.nil)))))))) (erH.cons (v' := (.vars 1 [(dI a2)])) rfl rfl (erH.drop rfl erH.nil)) (oMov eZ (xQ (aV (oMov eZ (oMov eZ (xQ (AW.ret ?_)))))))
   cases H
   exact endsR (RL.cons (RV.tmp eZ) (VO.sl bZ (List.length_map _) (allFlat fun _ => rfl)) RL.nil) (by decide)
 ·refine aV (oMov eC (xQ (AW.block (AW.iter (fun s7 : ((List Int) × Bool × Int) => mk [(0, (.one (.d (.sl 1 (List.map d_i64 a1))))), (1, (oI a2)), (5, (.one (.sl 320448 0 s7.1.length))), (6, (oB s7.2.1)), (7, (oI s7.2.2))] [(320448, (.data 1 (List.map d_i64 s7.1) true none))] noG) H ((wk_mk [] (kR rfl rfl (kR rfl rfl (SL.cons eZ rfl (VWk.one (CWk.len (by first | (simp; done) | (simp; omega) | omega | (simp only [List.length_map]; omega)))) (kR rfl rfl (kR rfl rfl SL.nil))))) (BL.keep rfl BL.nil) (BK.cons rfl bZ rfl rfl BK.nil)).trans (wk_zs 320448 1 5 true (eR rfl) nZ)) ?_))))
  intro kb8 s7 H
  unfold spec_l12Put_b7 at H
  refine aS (aV (oMov (eR rfl) (oMov (eR rfl) (oLenD eZ (n := a1.length) (List.length_map _) (oLss (eR rfl) eZ (xQ ?_))))))
  rcases oite H with ⟨h9, H⟩ | ⟨h9, H⟩
  ·refine AW.condT eZ (dT h9) (AW.skip (TQ.qn (aS (AW.block (AW.seqJ (fun t10 : ((List Int) × Bool) => (spec_l12Put_j10 a1 s7 a2 kb8) t10 = some r) (fun t10 => mk [(0, (.one (.d (.sl 1 (List.map d_i64 a1))))), (1, (oI a2)), (5, (.one (.sl 320576 0 t10.1.length))), (6, (oB t10.2)), (7, (oI s7.2.2))] [(320576, (.data 1 (List.map d_i64 t10.1) true none))] noG) ?_ ?_)))))
   ·intro t10 H
    unfold spec_l12Put_j10 at H
    refine aV (oMov eZ (oMov (eR rfl) ?_))
    obtain ⟨v12, h13, H⟩ := obind H
    refine oAtD (eR rfl) eZ h13 (oLoadB (e := (.int .i64 v12)) eZ rfl (oMov (eR rfl) (oNeq (eR rfl) eZ (xQ ?_))))
    rcases oite H with ⟨h14, H⟩ | ⟨h14, H⟩
    ·refine AW.condT eZ (dT h14) (aR (oMov (eR rfl) (oMov (eR rfl) (oMov (eR rfl) ?_))))
     obtain ⟨v15, h16, H⟩ := obind H
     refine oAtD (eR rfl) eZ h16 (oLoadB (e := (.int .i64 v15)) eZ rfl (oBslice (m := 2560) (q := 1) (cs := [(dI v15)]) rfl (PsCons eZ PsNil) rfl (List.cons_ne_nil _ _) (by simp) (nS rfl nZ) ?_))
     obtain ⟨h17, H⟩ := oguard H
     exact oAppN (f := d_i64) (xs := t10.1) (ys := [v15]) (q := (t10.1 ++ ([v15])).length) (eR rfl) eZ (bS rfl bZ) rfl (El.one (f := d_i64) (t := v15) (es := [(.int .i64 v15)]) bZ rfl rfl rfl) rfl h17 (by decide) (by decide) (erL.cons (v' := (.one (.sl 2560 0 1))) rfl (erL.cons (v' := (oI v15)) rfl (erL.cons (v' := (.one (.ptr (.bd (d_i64 v15) 0)))) rfl (erL.cons (v' := (oI s7.2.2)) rfl (erL.cons (v' := (.one (.d (.sl 1 (List.map d_i64 a1))))) rfl (erL.cons (v' := (.one .any)) rfl (erL.cons (v' := (oB (decide (¬ v12 = a2)))) rfl (erL.cons (v' := (oI a2)) rfl (erL.cons (v' := (oI v12)) rfl (erL.cons (v' := (.one (.ptr (.bd (d_i64 v12) 0)))) rfl (erL.cons (v' := (oI s7.2.2)) rfl (erL.cons (v' := (.one (.d (.sl 1 (List.map d_i64 a1))))) rfl (erL.cons (v' := (.one (.d (.sl 1 (List.map d_i64 a1))))) rfl (erL.cons (v' := (oI a2)) rfl (erL.cons (v' := (.one .any)) rfl (erL.cons (v' := (oB t10.2)) rfl (erL.cons (v' := (oI s7.2.2)) rfl erL.nil))))))))))))))))) (erH.cons (v' := (.vars 1 [(dI v15)])) rfl rfl (erH.drop rfl erH.nil)) (oMov eZ (xNil (BQ.qn (TQ.qn (AW.weaken (wk_mk [2560] (kr 5 rfl rfl (kr 0 rfl rfl (kr 1 rfl rfl (kr 6 rfl rfl (kr 7 rfl rfl SL.nil))))) (BL.keep rfl (BL.drop rfl BL.nil)) (BK.cons (n := 320576) rfl bZ rfl rfl BK.nil)) (aR (oMov (eR rfl) (oAdd eZ eC (oMov eZ (xNil (TQ.qn ⟨((t10.1 ++ ([v15])), t10.2, (IntKind.wrap .i64 (s7.2.2 + 1))), H, ((wk_mk [] (kR rfl rfl (kR rfl rfl (kR rfl rfl (kR rfl rfl (kR rfl rfl SL.nil))))) (BL.keep rfl BL.nil) (BK.cons rfl bZ rfl rfl BK.nil)).trans (wk_ren 320576 320448 rfl rfl (nS rfl nZ)))⟩)))))))))))
    ·exact AW.condF eZ (dF h14) (AW.skip (BQ.qn (TQ.qn (aR (oMov (eR rfl) (oAdd eZ eC (oMov eZ (xNil (TQ.qn ⟨(t10.1, t10.2, (IntKind.wrap .i64 (s7.2.2 + 1))), H, ((wk_mk [] (kR rfl rfl (kR rfl rfl (kR rfl rfl (kR rfl rfl (kR rfl rfl SL.nil))))) (BL.keep rfl BL.nil) (BK.cons rfl bZ rfl rfl BK.nil)).trans (wk_ren 320576 320448 rfl rfl (nS rfl nZ)))⟩)))))))))
   ·refine AW.seqJ (fun t18 : Bool => (spec_l12Put_j18 s7 a2 (spec_l12Put_j10 a1 s7 a2 kb8)) t18 = some r) (fun t18 => mk [(0, (.one (.d (.sl 1 (List.map d_i64 a1))))), (1, (oI a2)), (5, (.one (.sl 320448 0 s7.1.length))), (6, (oB s7.2.1)), (7, (oI s7.2.2)), (24, (oB t18))] [(320448, (.data 1 (List.map d_i64 s7.1) true none))] noG) ?_ ?_
    ·intro t18 H
     unfold spec_l12Put_j18 at H
     rcases oite H with ⟨h20, H⟩ | ⟨h20, H⟩
     ·refine AW.condT (eR rfl) h20 (aV (oMov (eR rfl) (oMov (eR rfl) (oBslice (m := 1728) (q := 1) (cs := [(dI a2)]) rfl (PsCons eZ PsNil) rfl (List.cons_ne_nil _ _) (by simp) (nS rfl nZ) ?_))))
      obtain ⟨h21, H⟩ := oguard H
      exact oAppN (f := d_i64) (xs := s7.1) (ys := [a2]) (q := (s7.1 ++ ([a2])).length) (eR rfl) eZ (bS rfl bZ) rfl (El.one (f := d_i64) (t := a2) (es := [(.int .i64 a2)]) bZ rfl rfl rfl) rfl h21 (by decide) (by decide) (erL.cons (v' := (.one (.sl 1728 0 1))) rfl (erL.cons (v' := (oI a2)) rfl (erL.cons (v' := (.one .any)) rfl (erL.cons (v' := (.one (.d (.sl 1 (List.map d_i64 a1))))) rfl (erL.cons (v' := (oI a2)) rfl (erL.cons (v' := (.one .any)) rfl (erL.cons (v' := (oB s7.2.1)) rfl (erL.cons (v' := (oI s7.2.2)) rfl (erL.cons (v' := (oB t18)) rfl erL.nil))))))))) (erH.cons (v' := (.vars 1 [(dI a2)])) rfl rfl (erH.drop rfl erH.nil)) (oMov eZ (xQ (aR (oMov eC (xNil (TQ.qn ⟨((s7.1 ++ ([a2])), true), H, ((wk_mk [1728] (kR rfl rfl (kR rfl rfl (kR rfl rfl (kR rfl rfl (kR rfl rfl SL.nil))))) (BL.keep rfl (BL.drop rfl BL.nil)) (BK.cons rfl bZ rfl rfl BK.nil)).trans (wk_ren 320448 320576 rfl rfl (nS rfl (nS rfl nZ))))⟩))))))
     ·exact AW.condF (eR rfl) (nt h20) (AW.skip (TQ.qn ⟨(s7.1, s7.2.1), H, ((wk_mk [] (kR rfl rfl (kR rfl rfl (kR rfl rfl (kR rfl rfl (kR rfl rfl SL.nil))))) (BL.keep rfl BL.nil) (BK.cons rfl bZ rfl rfl BK.nil)).trans (wk_ren 320448 320576 rfl rfl (nS rfl nZ)))⟩))
    ·refine aR (oMov (eR rfl) (oInv eZ (oMov eZ ?_)))
     rcases oite H with ⟨h22, H⟩ | ⟨h22, H⟩
     ·exact gSkip eZ (cN h22) rfl (gSkip (eR rfl) (cN h22) rfl (gSkip (eR rfl) (cN h22) rfl (gSkip (eR rfl) (cN h22) rfl (gSkip (eR rfl) (cN h22) rfl (gSkip (eR rfl) (cN h22) rfl (oPickF (eR rfl) (cN h22) eC (xNil (TQ.qn ⟨false, H, (wk_mk [] (kR rfl rfl (kR rfl rfl (kR rfl rfl (kR rfl rfl (kR rfl rfl (kR rfl rfl SL.nil)))))) (BL.keep rfl BL.nil) (BK.cons rfl bZ rfl rfl BK.nil))⟩))))))))
     ·refine gDo eZ (cN (nt h22)) (oMov (eR rfl) (gDo (eR rfl) (cN (nt h22)) (oMov (eR rfl) (gDo (eR rfl) (cN (nt h22)) ?_))))
      obtain ⟨v23, h24, H⟩ := obind H
      exact oAtD (eR rfl) eZ h24 (gDo (eR rfl) (cN (nt h22)) (oLoadB (e := (.int .i64 v23)) eZ rfl (gDo (eR rfl) (cN (nt h22)) (oMov (eR rfl) (gDo (eR rfl) (cN (nt h22)) (oGeq (eR rfl) eZ (oPickT (eR rfl) (cN (nt h22)) eZ (xNil (TQ.qn ⟨(decide (a2 ≤ v23)), H, (wk_mk [] (kR rfl rfl (kR rfl rfl (kR rfl rfl (kR rfl rfl (kR rfl rfl (kR rfl rfl SL.nil)))))) (BL.keep rfl BL.nil) (BK.cons rfl bZ rfl rfl BK.nil))⟩)))))))))
  ·exact AW.condF eZ (dF h9) (AW.exit (TQ.qe (TQ.qe (BQ.qe (TQ.qn ⟨(s7.1, s7.2.1), H, ((wk_mk [] (kR rfl rfl (kR rfl rfl (kR rfl rfl SL.nil))) (BL.keep rfl BL.nil) (BK.cons rfl bZ rfl rfl BK.nil)).trans (wk_ren 320448 320320 rfl rfl (nS rfl nZ)))⟩)))))
theorem c_spec_l12Foes {a1 : (List TLock)} {a2 : TLock} {r : (List Int)} (H : m_spec_l12Foes a1 a2 = some r) : Fn Try.prog 69 (lent [(.sl 4 (List.map d_TLock a1)), (.agg (d_TLock a2))]) true [(.sl 1 (List.map d_i64 r))] := by
 refine f69 (fle rfl) ?_
 rw [init_mk]
 refine AW.weaken (wk_mk [] (kv 0 (.one (.d (.sl 4 (List.map d_TLock a1)))) rfl rfl (kv 1 (.agg [(dI a2.Tx), (dI a2.Lo), (dI a2.Hi), (dI a2.Mode)]) rfl rfl SL.nil)) BL.nil BK.nil) ?_
 unfold m_spec_l12Foes at H
 unfold i69
 refine aV (oBox (n := 192) (m := 4) (cs := [(dI a2.Tx), (dI a2.Lo), (dI a2.Hi), (dI a2.Mode)]) rfl (eR rfl) rfl rfl nZ (oMov eC (xQ (aV (oBsliceZ (m := 448) rfl (nS rfl nZ) (oMov eZ (xQ (AW.seqJ (fun t3 : (List Int) => spec_l12Foes_j3 t3 = some r) (fun t3 => mk [(5, (.one (.sl 320128 0 t3.length)))] [(320128, (.data 1 (List.map d_i64 t3) true none))] noG) ?_ ?_))))))))
 ·intro t3 H
  unfold spec_l12Foes_j3 at H
  refine aV (oMov eZ (oMov eZ (xQ (AW.ret ?_))))
  cases H
  exact endsR (RL.cons (RV.tmp eZ) (VO.sl bZ (List.length_map _) (allFlat fun _ => rfl)) RL.nil) (by decide)
 ·refine aV (oMov eC (xQ (AW.block (AW.iter (fun s5 : ((List Int) × Int) => mk [(0, (.one (.d (.sl 4 (List.map d_TLock a1))))), (3, (.one (.ptr (.nm 192 0 0)))), (5, (.one (.sl 320192 0 s5.1.length))), (6, (oI s5.2))] [(320192, (.data 1 (List.map d_i64 s5.1) true none)), (192, (.vars 4 [(dI a2.Tx), (dI a2.Lo), (dI a2.Hi), (dI a2.Mode)]))] noG) H ((wk_mk [] (kR rfl rfl (kR rfl rfl (SL.cons eZ rfl (VWk.one (CWk.len (by first | (simp; done) | (simp; omega) | omega | (simp only [List.length_map]; omega)))) (kR rfl rfl SL.nil)))) (BL.keep rfl (BL.keep rfl BL.nil)) (BK.cons rfl bZ rfl rfl (BK.cons rfl (bS rfl bZ) rfl rfl BK.nil))).trans (wk_zs 320192 1 5 true (eR rfl) (nS rfl nZ))) ?_))))
  intro kb6 s5 H
  unfold spec_l12Foes_b5 at H
  refine aS (aV (oMov (eR rfl) (oMov (eR rfl) (oLenD eZ (n := a1.length) (List.length_map _) (oLss (eR rfl) eZ (xQ ?_))))))
  rcases oite H with ⟨h7, H⟩ | ⟨h7, H⟩
  ·refine AW.condT eZ (dT h7) (AW.skip (TQ.qn (aS (AW.block (aS (AW.regd (oMov (eR rfl) (oMov (eR rfl) ?_))))))))
   obtain ⟨v8, h9, H⟩ := obind H
   refine oAtD (eR rfl) eZ h9 (oLoadBA (es := [(dI v8.Tx), (dI v8.Lo), (dI v8.Hi), (dI v8.Mode)]) eZ rfl (oLoadVA (es := [(dI a2.Tx), (dI a2.Lo), (dI a2.Hi), (dI a2.Mode)]) (eR rfl) (bS rfl bZ) rfl ?_))
   obtain ⟨v10, h11, H⟩ := obind H
   refine oCall (u := (oB v10)) eC Cl.fn (c_spec_l12Clash h11) (Evs.cons (eR rfl) (Evs.cons eZ Evs.nil)) (VDs.cons (VD.agg rfl) (VDs.cons (VD.agg rfl) VDs.nil)) rfl (xQ ?_)
   rcases oite H with ⟨h12, H⟩ | ⟨h12, H⟩
   ·refine AW.condT eZ h12 (aR (oMov (eR rfl) (oMov (eR rfl) (oMov (eR rfl) ?_))))
    obtain ⟨v13, h14, H⟩ := obind H
    refine oAtD (eR rfl) eZ h14 (oFaddrB (m := 0) eZ rfl (oLoadB (e := (.int .i64 v13.Tx)) eZ rfl ?_))
    obtain ⟨v15, h16, H⟩ := obind H
    exact oCallN (u := (.one (.sl 1664 0 v15.length))) (bs := [(1664, (.data 1 (List.map d_i64 v15) true none))]) eC Cl.fn (c_spec_l12Put h16) (Evs.cons (eR rfl) (Evs.cons eZ Evs.nil)) (VDs.cons (VD.sl bZ (List.length_map _)) (VDs.cons VD.plain VDs.nil)) (by simp [bindR, bindV, bindVs, bindC, bindCs]) rfl (fC (nS rfl (nS rfl nZ)) rfl (fC (nS rfl (nS rfl nZ)) rfl fN)) (oMov eZ (xNil (BQ.qn (TQ.qn (AW.weaken (wk_mk [320192] (kr 5 rfl rfl (kr 0 rfl rfl (kr 3 rfl rfl (kr 6 rfl rfl SL.nil)))) (BL.keep rfl (BL.drop rfl (BL.keep rfl BL.nil))) (BK.cons (n := 1664) rfl bZ rfl rfl (BK.cons (n := 192) rfl (bS rfl (bS rfl bZ)) rfl rfl BK.nil))) (aR (oMov (eR rfl) (oAdd eZ eC (oMov eZ (xNil (TQ.qn ⟨(v15, (IntKind.wrap .i64 (s5.2 + 1))), H, ((wk_mk [] (kR rfl rfl (kR rfl rfl (kR rfl rfl (kR rfl rfl SL.nil)))) (BL.keep rfl (BL.keep rfl BL.nil)) (BK.cons rfl bZ rfl rfl (BK.cons rfl (bS rfl bZ) rfl rfl BK.nil))).trans (wk_ren 1664 320192 rfl rfl (nS rfl (nS rfl nZ))))⟩)))))))))))
   ·exact AW.condF eZ (nt h12) (AW.skip (BQ.qn (TQ.qn (aR (oMov (eR rfl) (oAdd eZ eC (oMov eZ (xNil (TQ.qn ⟨(s5.1, (IntKind.wrap .i64 (s5.2 + 1))), H, (wk_mk [] (kR rfl rfl (kR rfl rfl (kR rfl rfl (kR rfl rfl SL.nil)))) (BL.keep rfl (BL.keep rfl BL.nil)) (BK.cons rfl bZ rfl rfl (BK.cons rfl (bS rfl bZ) rfl rfl BK.nil)))⟩)))))))))
  ·exact AW.condF eZ (dF h7) (AW.exit (TQ.qe (TQ.qe (BQ.qe (TQ.qn ⟨s5.1, H, ((wk_mk [192] (kR rfl rfl SL.nil) (BL.keep rfl (BL.drop rfl BL.nil)) (BK.cons rfl bZ rfl rfl BK.nil)).trans (wk_ren 320192 320128 rfl rfl (nS rfl (nS rfl nZ))))⟩)))))
theorem c_spec_l12Has {a1 : (List Int)} {a2 : Int} {r : Bool} (H : m_spec_l12Has a1 a2 = some r) : Fn Try.prog 78 (lent [(.sl 1 (List.map d_i64 a1)), (.int .i64 a2)]) true [(.bool r)] := by
 refine f78 (fle rfl) ?_
 rw [init_mk]
 refine AW.weaken (wk_mk [] (kv 0 (.one (.d (.sl 1 (List.map d_i64 a1)))) rfl rfl (kv 1 (oI a2) rfl rfl SL.nil)) BL.nil BK.nil) ?_
 unfold m_spec_l12Has at H
 unfold i78
 refine aV (oMov eC (xQ (AW.seqJ (fun t3 : Unit => spec_l12Has_j3 t3 = some r) (fun t3 => mk [] [] noG) ?_ ?_)))
 ·intro t3 H
  unfold spec_l12Has_j3 at H
  refine aV (oMov eC (xQ (AW.ret ?_)))
  cases H
  exact eE rfl rfl
 ·refine aV (oMov eC (xQ (AW.block (AW.iter (fun s5 : Int => mk [(0, (.one (.d (.sl 1 (List.map d_i64 a1))))), (1, (oI a2)), (5, (oI s5))] [] noG) H (wk_mk [] (kR rfl rfl (kR rfl rfl (kR rfl rfl SL.nil))) BL.nil BK.nil) ?_))))
  intro kb6 s5 H
  unfold spec_l12Has_b5 at H
  refine aS (aV (oMov (eR rfl) (oMov (eR rfl) (oLenD eZ (n := a1.length) (List.length_map _) (oLss (eR rfl) eZ (xQ ?_))))))
  rcases oite H with ⟨h7, H⟩ | ⟨h7, H⟩
  ·refine AW.condT eZ (dT h7) (AW.skip (TQ.qn (aS (AW.block (aV (oMov (eR rfl) (oMov (eR rfl) ?_)))))))
   obtain ⟨v8, h9, H⟩ := obind H
   refine oAtD (eR rfl) eZ h9 (oLoadB (e := (.int .i64 v8)) eZ rfl (oMov (eR rfl) (oEql (eR rfl) eZ (xQ ?_))))
   rcases oite H with ⟨h10, H⟩ | ⟨h10, H⟩
   ·refine AW.condT eZ (dT h10) (aV (oMov eC (xQ (AW.ret (BQ.qr (TQ.qr (TQ.qr (BQ.qr (TQ.qr ?_)))))))))
    cases H
    exact eE rfl rfl
   ·exact AW.condF eZ (dF h10) (AW.skip (BQ.qn (TQ.qn (aR (oMov (eR rfl) (oAdd eZ eC (oMov eZ (xNil (TQ.qn ⟨(IntKind.wrap .i64 (s5 + 1)), H, (wk_mk [] (kR rfl rfl (kR rfl rfl (kR rfl rfl SL.nil))) BL.nil BK.nil)⟩)))))))))
  ·exact AW.condF eZ (dF h7) (AW.exit (TQ.qe (TQ.qe (BQ.qe (TQ.qn ⟨(), H, (wk_mk [] SL.nil BL.nil BK.nil)⟩)))))
theorem c_spec_LocksWaits {a1 : (List TLock)} {a2 : (List Int)} {a3 : Int} {a4 : TRange} {a5 : Int} {r : (List Int)} (H : m_spec_LocksWaits a1 a2 a3 a4 a5 = some r) : Fn Try.prog 35 (lent [(.sl 4 (List.map d_TLock a1)), (.sl 1 (List.map d_i64 a2)), (.int .i64 a3), (.agg (d_TRange a4)), (.int .i64 a5)]) true [(.sl 1 (List.map d_i64 r))] := by
 refine f35 (fle rfl) ?_
 rw [init_mk]
 refine AW.weaken (wk_mk [] (kv 0 (.one (.d (.sl 4 (List.map d_TLock a1)))) rfl rfl (kv 1 (.one (.d (.sl 1 (List.map d_i64 a2)))) rfl rfl (kv 2 (oI a3) rfl rfl (kv 3 (.agg [(dI a4.Lo), (dI a4.Hi)]) rfl rfl (kv 4 (oI a5) rfl rfl SL.nil))))) BL.nil BK.nil) ?_
 unfold m_spec_LocksWaits at H
 unfold i35
 refine aV (oBox (n := 512) (m := 2) (cs := [(dI a4.Lo), (dI a4.Hi)]) rfl (eR rfl) rfl rfl nZ (oMov eC (xQ (aV (oBsliceZ (m := 896) rfl (nS rfl nZ) (oMov eZ (xQ (aS (AW.seqJ (fun t6 : Bool => (spec_LocksWaits_j6 a1 a3 a4 a5 a2) t6 = some r) (fun t6 => mk [(0, (.one (.d (.sl 4 (List.map d_TLock a1))))), (1, (.one (.d (.sl 1 (List.map d_i64 a2))))), (2, (oI a3)), (4, (oI a5)), (8, (.one (.ptr (.nm 512 0 0)))), (11, (.one .zs)), (28, (oB t6))] [(512, (.vars 2 [(dI a4.Lo), (dI a4.Hi)]))] noG) ?_ ?_)))))))))
 ·intro t6 H
  unfold spec_LocksWaits_j6 at H
  rcases oite H with ⟨h8, H⟩ | ⟨h8, H⟩
  ·refine AW.condT (eR rfl) h8 (aV (oMov (eR rfl) (oMov eZ (xQ (AW.ret (TQ.qr ?_))))))
   cases H
   exact endsR (RL.cons (RV.tmp eZ) VO.zs RL.nil) List.nodup_nil
  ·refine AW.condF (eR rfl) (nt h8) (AW.skip (TQ.qn (aV (oMov eZ (oMov (eR rfl) (oFaddrN (m := 0) (eR rfl) rfl (oLoadV (q := 0) (c := (dI a4.Lo)) eZ bZ rfl rfl (oFaddrN (m := 1) (eR rfl) rfl (oLoadV (q := 1) (c := (dI a4.Hi)) eZ bZ rfl rfl (oMov (eR rfl) (oBuild (cs := [(dI a3), (dI a4.Lo), (dI a4.Hi), (dI a5)]) (PsCons (eR rfl) (PsCons (eR rfl) (PsCons (eR rfl) (PsCons eZ PsNil)))) rfl ?_)))))))))))
   obtain ⟨v9, h10, H⟩ := obind H
   refine oCall (u := (.one (.d (.sl 1 (List.map d_i64 v9))))) eC Cl.fn (c_spec_l12Foes h10) (Evs.cons (eR rfl) (Evs.cons eZ Evs.nil)) (VDs.cons VD.plain (VDs.cons (VD.agg rfl) VDs.nil)) rfl (oMov eZ (xQ (AW.weaken (wk_mk [512] (kr 12 rfl rfl (kr 1 rfl rfl (kr 2 rfl rfl (kr 11 rfl rfl SL.nil)))) (BL.drop rfl BL.nil) BK.nil) (AW.seqJ (fun t11 : (List Int) => spec_LocksWaits_j11 t11 = some r) (fun t11 => mk [(11, (.one (.sl 320128 0 t11.length)))] [(320128, (.data 1 (List.map d_i64 t11) true none))] noG) ?_ ?_))))
   ·intro t11 H
    unfold spec_LocksWaits_j11 at H
    refine aV (oMov eZ (oMov eZ (xQ (AW.ret ?_))))
    cases H
    exact endsR (RL.cons (RV.tmp eZ) (VO.sl bZ (List.length_map _) (allFlat fun _ => rfl)) RL.nil) (by decide)
   ·refine aV (oMov eC (xQ (AW.block (AW.iter (fun s13 : ((List Int) × Int) => mk [(1, (.one (.d (.sl 1 (List.map d_i64 a2))))), (2, (oI a3)), (11, (.one (.sl 320192 0 s13.1.length))), (12, (.one (.d (.sl 1 (List.map d_i64 v9))))), (13, (oI s13.2))] [(320192, (.data 1 (List.map d_i64 s13.1) true none))] noG) H ((wk_mk [] (kR rfl rfl (kR rfl rfl (SL.cons eZ rfl (VWk.one (CWk.len (by first | (simp; done) | (simp; omega) | omega | (simp only [List.length_map]; omega)))) (kR rfl rfl (kR rfl rfl SL.nil))))) (BL.keep rfl BL.nil) (BK.cons rfl bZ rfl rfl BK.nil)).trans (wk_zs 320192 1 11 true (eR rfl) nZ)) ?_))))
    intro kb14 s13 H
    unfold spec_LocksWaits_b13 at H
    refine aS (aV (oMov (eR rfl) (oMov (eR rfl) (oLenD eZ (n := v9.length) (List.length_map _) (oLss (eR rfl) eZ (xQ ?_))))))
    rcases oite H with ⟨h15, H⟩ | ⟨h15, H⟩
    ·refine AW.condT eZ (dT h15) (AW.skip (TQ.qn (aS (AW.block (AW.seqJ (fun t16 : Bool => (spec_LocksWaits_j16 v9 s13 kb14) t16 = some r) (fun t16 => mk [(1, (.one (.d (.sl 1 (List.map d_i64 a2))))), (2, (oI a3)), (11, (.one (.sl 320192 0 s13.1.length))), (12, (.one (.d (.sl 1 (List.map d_i64 v9))))), (13, (oI s13.2)), (58, (oB t16))] [(320192, (.data 1 (List.map d_i64 s13.1) true none))] noG) ?_ ?_)))))
     ·intro t16 H
      unfold spec_LocksWaits_j16 at H
      rcases oite H with ⟨h18, H⟩ | ⟨h18, H⟩
      ·refine AW.condT (eR rfl) h18 (aR (oMov (eR rfl) (oMov (eR rfl) (oMov (eR rfl) ?_))))
       obtain ⟨v19, h20, H⟩ := obind H
       refine oAtD (eR rfl) eZ h20 (oLoadB (e := (.int .i64 v19)) eZ rfl (oBslice (m := 4096) (q := 1) (cs := [(dI v19)]) rfl (PsCons eZ PsNil) rfl (List.cons_ne_nil _ _) (by simp) (nS rfl nZ) ?_))
       obtain ⟨h21, H⟩ := oguard H
       exact oAppN (f := d_i64) (xs := s13.1) (ys := [v19]) (q := (s13.1 ++ ([v19])).length) (eR rfl) eZ (bS rfl bZ) rfl (El.one (f := d_i64) (t := v19) (es := [(.int .i64 v19)]) bZ rfl rfl rfl) rfl h21 (by decide) (by decide) (erL.cons (v' := (.one (.sl 4096 0 1))) rfl (erL.cons (v' := (oI v19)) rfl (erL.cons (v' := (.one (.ptr (.bd (d_i64 v19) 0)))) rfl (erL.cons (v' := (oI s13.2)) rfl (erL.cons (v' := (.one (.d (.sl 1 (List.map d_i64 v9))))) rfl (erL.cons (v' := (.one .any)) rfl (erL.cons (v' := (.one (.d (.sl 1 (List.map d_i64 a2))))) rfl (erL.cons (v' := (oI a3)) rfl (erL.cons (v' := (.one .any)) rfl (erL.cons (v' := (.one (.d (.sl 1 (List.map d_i64 v9))))) rfl (erL.cons (v' := (oI s13.2)) rfl (erL.cons (v' := (oB t16)) rfl erL.nil)))))))))))) (erH.cons (v' := (.vars 1 [(dI v19)])) rfl rfl (erH.drop rfl erH.nil)) (oMov eZ (xNil (BQ.qn (TQ.qn (aR (oMov (eR rfl) (oAdd eZ eC (oMov eZ (xNil (TQ.qn ⟨((s13.1 ++ ([v19])), (IntKind.wrap .i64 (s13.2 + 1))), H, (wk_mk [4096] (kR rfl rfl (kR rfl rfl (kR rfl rfl (kR rfl rfl (kR rfl rfl SL.nil))))) (BL.keep rfl (BL.drop rfl BL.nil)) (BK.cons rfl bZ rfl rfl BK.nil))⟩))))))))))
      ·exact AW.condF (eR rfl) (nt h18) (AW.skip (BQ.qn (TQ.qn (aR (oMov (eR rfl) (oAdd eZ eC (oMov eZ (xNil (TQ.qn ⟨(s13.1, (IntKind.wrap .i64 (s13.2 + 1))), H, (wk_mk [] (kR rfl rfl (kR rfl rfl (kR rfl rfl (kR rfl rfl (kR rfl rfl SL.nil))))) (BL.keep rfl BL.nil) (BK.cons rfl bZ rfl rfl BK.nil))⟩)))))))))
     ·refine aR (oMov (eR rfl) (oMov (eR rfl) ?_))
      obtain ⟨v22, h23, H⟩ := obind H
      refine oAtD (eR rfl) eZ h23 (oLoadB (e := (.int .i64 v22)) eZ rfl (oMov (eR rfl) (oLss (eR rfl) eZ (oMov eZ ?_))))
      rcases oite H with ⟨h24, H⟩ | ⟨h24, H⟩
      ·exact gSkip eZ (dT h24) rfl (gSkip (eR rfl) (dT h24) rfl (gSkip (eR rfl) (dT h24) rfl (gSkip (eR rfl) (dT h24) rfl (gSkip (eR rfl) (dT h24) rfl (gSkip (eR rfl) (dT h24) rfl (oPickT (eR rfl) (dT h24) eC (xNil (TQ.qn ⟨true, H, (wk_mk [] (kR rfl rfl (kR rfl rfl (kR rfl rfl (kR rfl rfl (kR rfl rfl (kR rfl rfl SL.nil)))))) (BL.keep rfl BL.nil) (BK.cons rfl bZ rfl rfl BK.nil))⟩))))))))
      ·refine gDo eZ (dF h24) (oMov (eR rfl) (gDo (eR rfl) (dF h24) (oMov (eR rfl) (gDo (eR rfl) (dF h24) (oMov (eR rfl) (gDo (eR rfl) (dF h24) ?_))))))
       obtain ⟨v25, h26, H⟩ := obind H
       refine oAtD (eR rfl) eZ h26 (gDo (eR rfl) (dF h24) (oLoadB (e := (.int .i64 v25)) eZ rfl (gDo (eR rfl) (dF h24) ?_)))
       obtain ⟨v27, h28, H⟩ := obind H
       exact oCall (u := (oB v27)) eC Cl.fn (c_spec_l12Has h28) (Evs.cons (eR rfl) (Evs.cons eZ Evs.nil)) (VDs.cons VD.plain (VDs.cons VD.plain VDs.nil)) rfl (oPickF (eR rfl) (dF h24) eZ (xNil (TQ.qn ⟨v27, H, (wk_mk [] (kR rfl rfl (kR rfl rfl (kR rfl rfl (kR rfl rfl (kR rfl rfl (kR rfl rfl SL.nil)))))) (BL.keep rfl BL.nil) (BK.cons rfl bZ rfl rfl BK.nil))⟩)))
    ·exact AW.condF eZ (dF h15) (AW.exit (TQ.qe (TQ.qe (BQ.qe (TQ.qn ⟨s13.1, H, ((wk_mk [] (kR rfl rfl SL.nil) (BL.keep rfl BL.nil) (BK.cons rfl bZ rfl rfl BK.nil)).trans (wk_ren 320192 320128 rfl rfl (nS rfl nZ)))⟩)))))
 ·refine aR (oMov (eR rfl) (oMov (eR rfl) (oMov (eR rfl) (oLoadVA (es := [(dI a4.Lo), (dI a4.Hi)]) (eR rfl) bZ rfl (oMov (eR rfl) ?_)))))
  obtain ⟨v29, h30, H⟩ := obind H
  refine oCall (u := (oB v29)) eC Cl.fn (c_spec_l12Right h30) (Evs.cons (eR rfl) (Evs.cons (eR rfl) (Evs.cons (eR rfl) (Evs.cons (eR rfl) (Evs.cons eZ Evs.nil))))) (VDs.cons VD.plain (VDs.cons VD.plain (VDs.cons VD.plain (VDs.cons (VD.agg rfl) (VDs.cons VD.plain VDs.nil))))) rfl (oInv eZ (oMov eZ ?_))
  rcases oite H with ⟨h31, H⟩ | ⟨h31, H⟩
  ·refine gDo eZ (cN h31) (oMov (eR rfl) (gDo (eR rfl) (cN h31) (oMov (eR rfl) (gDo (eR rfl) (cN h31) (oLoadVA (es := [(dI a4.Lo), (dI a4.Hi)]) (eR rfl) bZ rfl (gDo (eR rfl) (cN h31) (oMov (eR rfl) (gDo (eR rfl) (cN h31) ?_))))))))
   obtain ⟨v32, h33, H⟩ := obind H
   exact oCall (u := (oB v32)) eC Cl.fn (c_spec_l12Holds h33) (Evs.cons (eR rfl) (Evs.cons (eR rfl) (Evs.cons (eR rfl) (Evs.cons eZ Evs.nil)))) (VDs.cons VD.plain (VDs.cons VD.plain (VDs.cons (VD.agg rfl) (VDs.cons VD.plain VDs.nil)))) rfl (oPickF (eR rfl) (cN h31) eZ (xNil (TQ.qn ⟨v32, H, (wk_mk [] (kR rfl rfl (kR rfl rfl (kR rfl rfl (kR rfl rfl (kR rfl rfl (kR rfl rfl (kR rfl rfl SL.nil))))))) (BL.keep rfl BL.nil) (BK.cons rfl bZ rfl rfl BK.nil))⟩)))
  ·exact gSkip eZ (cN (nt h31)) rfl (gSkip (eR rfl) (cN (nt h31)) rfl (gSkip (eR rfl) (cN (nt h31)) rfl (gSkip (eR rfl) (cN (nt h31)) rfl (gSkip (eR rfl) (cN (nt h31)) rfl (oPickT (eR rfl) (cN (nt h31)) eC (xNil (TQ.qn ⟨true, H, (wk_mk [] (kR rfl rfl (kR rfl rfl (kR rfl rfl (kR rfl rfl (kR rfl rfl (kR rfl rfl (kR rfl rfl SL.nil))))))) (BL.keep rfl BL.nil) (BK.cons rfl bZ rfl rfl BK.nil))⟩)))))))
theorem c_spec_l12Keep {a1 : (List TLock)} {a2 : Int} {a3 : Bool} {r : (List TLock)} (H : m_spec_l12Keep a1 a2 a3 = some r) : Fn Try.prog 70 (lent [(.sl 4 (List.map d_TLock a1)), (.int .i64 a2), (.bool a3)]) true [(.sl 4 (List.map d_TLock r))] := by
 refine f70 (fle rfl) ?_
 rw [init_mk]
 refine AW.weaken (wk_mk [] (kv 0 (.one (.d (.sl 4 (List.map d_TLock a1)))) rfl rfl (kv 1 (oI a2) rfl rfl (kv 2 (oB a3) rfl rfl SL.nil))) BL.nil BK.nil) ?_
 unfold m_spec_l12Keep at H
 unfold i70
 refine aV (oMov eC (xQ (aV (oBsliceZ (m := 576) rfl nZ (oMov eZ (xQ (AW.seqJ (fun t4 : (List TLock) => spec_l12Keep_j4 t4 = some r) (fun t4 => mk [(7, (.one (.sl 320128 0 t4.length)))] [(320128, (.data 4 (List.map d_TLock t4) true none))] noG) ?_ ?_)))))))
 ·intro t4 H
  unfold spec_l12Keep_j4 at H
  refine aV (oMov eZ (oMov eZ (xQ (AW.ret ?_))))
  cases H
  exact endsR (RL.cons (RV.tmp eZ) (VO.sl bZ (List.length_map _) (allFlat fun _ => rfl)) RL.nil) (by decide)
 ·refine aV (oMov eC (xQ (AW.block (AW.iter (fun s6 : ((List TLock) × Int) => mk [(0, (.one (.d (.sl 4 (List.map d_TLock a1))))), (1, (oI a2)), (2, (oB a3)), (7, (.one (.sl 320192 0 s6.1.length))), (8, (oI s6.2))] [(320192, (.data 4 (List.map d_TLock s6.1) true none))] noG) H ((wk_mk [] (kR rfl rfl (kR rfl rfl (kR rfl rfl (SL.cons eZ rfl (VWk.one (CWk.len (by first | (simp; done) | (simp; omega) | omega | (simp only [List.length_map]; omega)))) (kR rfl rfl SL.nil))))) (BL.keep rfl BL.nil) (BK.cons rfl bZ rfl rfl BK.nil)).trans (wk_zs 320192 4 7 true (eR rfl) nZ)) ?_))))
  intro kb7 s6 H
  unfold spec_l12Keep_b6 at H
  refine aS (aV (oMov (eR rfl) (oMov (eR rfl) (oLenD eZ (n := a1.length) (List.length_map _) (oLss (eR rfl) eZ (xQ ?_))))))
  rcases oite H with ⟨h8, H⟩ | ⟨h8, H⟩
  ·refine AW.condT eZ (dT h8) (AW.skip (TQ.qn (aS (AW.block (aV (oMov (eR rfl) (oMov (eR rfl) ?_)))))))
   obtain ⟨v9, h10, H⟩ := obind H
   refine oAtD (eR rfl) eZ h10 (oFaddrB (m := 0) eZ rfl (oLoadB (e := (.int .i64 v9.Tx)) eZ rfl (oMov (eR rfl) (oEql (eR rfl) eZ (oMov (eR rfl) (oBeq (eR rfl) eZ (xQ (AW.weaken (wk_mk [] (kr 24 rfl rfl (kr 0 rfl rfl (kr 1 rfl rfl (kr 2 rfl rfl (kr 7 rfl rfl (kr 8 rfl rfl SL.nil)))))) (BL.keep rfl BL.nil) (BK.cons (n := 320192) rfl bZ rfl rfl BK.nil)) ?_))))))))
   rcases oite H with ⟨h11, H⟩ | ⟨h11, H⟩
   ·refine AW.condT eZ h11 (aR (oMov (eR rfl) (oMov (eR rfl) (oMov (eR rfl) ?_))))
    obtain ⟨v12, h13, H⟩ := obind H
    refine oAtD (eR rfl) eZ h13 (oLoadBA (es := [(dI v12.Tx), (dI v12.Lo), (dI v12.Hi), (dI v12.Mode)]) eZ rfl (oBslice (m := 1920) (q := 1) (cs := [(dI v12.Tx), (dI v12.Lo), (dI v12.Hi), (dI v12.Mode)]) rfl (PsCons eZ PsNil) rfl (List.cons_ne_nil _ _) (by simp) (nS rfl nZ) ?_))
    obtain ⟨h14, H⟩ := oguard H
    exact oAppN (f := d_TLock) (xs := s6.1) (ys := [v12]) (q := (s6.1 ++ ([v12])).length) (eR rfl) eZ (bS rfl bZ) rfl (El.one (f := d_TLock) (t := v12) (es := [(.int .i64 v12.Tx), (.int .i64 v12.Lo), (.int .i64 v12.Hi), (.int .i64 v12.Mode)]) bZ rfl rfl rfl) rfl h14 (by decide) (by decide) (erL.cons (v' := (.one (.sl 1920 0 1))) rfl (erL.cons (v' := (.agg [(dI v12.Tx), (dI v12.Lo), (dI v12.Hi), (dI v12.Mode)])) rfl (erL.cons (v' := (.one (.ptr (.bd (d_TLock v12) 0)))) rfl (erL.cons (v' := (oI s6.2)) rfl (erL.cons (v' := (.one (.d (.sl 4 (List.map d_TLock a1))))) rfl (erL.cons (v' := (.one .any)) rfl (erL.cons (v' := (oB ((decide (v9.Tx = a2)) == a3))) rfl (erL.cons (v' := (.one (.d (.sl 4 (List.map d_TLock a1))))) rfl (erL.cons (v' := (oI a2)) rfl (erL.cons (v' := (oB a3)) rfl (erL.cons (v' := (.one .any)) rfl (erL.cons (v' := (oI s6.2)) rfl erL.nil)))))))))))) (erH.cons (v' := (.vars 4 [(dI v12.Tx), (dI v12.Lo), (dI v12.Hi), (dI v12.Mode)])) rfl rfl (erH.drop rfl erH.nil)) (oMov eZ (xNil (BQ.qn (TQ.qn (aR (oMov (eR rfl) (oAdd eZ eC (oMov eZ (xNil (TQ.qn ⟨((s6.1 ++ ([v12])), (IntKind.wrap .i64 (s6.2 + 1))), H, (wk_mk [1920] (kR rfl rfl (kR rfl rfl (kR rfl rfl (kR rfl rfl (kR rfl rfl SL.nil))))) (BL.keep rfl (BL.drop rfl BL.nil)) (BK.cons rfl bZ rfl rfl BK.nil))⟩))))))))))
   ·exact AW.condF eZ (nt h11) (AW.skip (BQ.qn (TQ.qn (aR (oMov (eR rfl) (oAdd eZ eC (oMov eZ (xNil (TQ.qn ⟨(s6.1, (IntKind.wrap .i64 (s6.2 + 1))), H, (wk_mk [] (kR rfl rfl (kR rfl rfl (kR rfl rfl (kR rfl rfl (kR rfl rfl SL.nil))))) (BL.keep rfl BL.nil) (BK.cons rfl bZ rfl rfl BK.nil))⟩)))))))))
  ·exact AW.condF eZ (dF h8) (AW.exit (TQ.qe (TQ.qe (BQ.qe (TQ.qn ⟨s6.1, H, ((wk_mk [] (kR rfl rfl SL.nil) (BL.keep rfl BL.nil) (BK.cons rfl bZ rfl rfl BK.nil)).trans (wk_ren 320192 320128 rfl rfl (nS rfl nZ)))⟩)))))
theorem c_spec_LockAsk {a1 : (List TLock)} {a2 : (List Int)} {a3 : Int} {a4 : TRange} {a5 : Int} {r : ((List TLock) × (List Int) × Int)} (H : m_spec_LockAsk a1 a2 a3 a4 a5 = some r) : Fn Try.prog 25 (lent [(.sl 4 (List.map d_TLock a1)), (.sl 1 (List.map d_i64 a2)), (.int .i64 a3), (.agg (d_TRange a4)), (.int .i64 a5)]) true [(.sl 4 (List.map d_TLock r.1)), (.sl 1 (List.map d_i64 r.2.1)), (.int .i64 r.2.2)] := by
 refine f25 (fle rfl) ?_
 rw [init_mk]
 refine AW.weaken (wk_mk [] (kv 0 (.one (.d (.sl 4 (List.map d_TLock a1)))) rfl rfl (kv 1 (.one (.d (.sl 1 (List.map d_i64 a2)))) rfl rfl (kv 2 (oI a3) rfl rfl (kv 3 (.agg [(dI a4.Lo), (dI a4.Hi)]) rfl rfl (kv 4 (oI a5) rfl rfl SL.nil))))) BL.nil BK.nil) ?_
 unfold m_spec_LockAsk at H
 unfold i25
 refine aV (oBox (n := 512) (m := 2) (cs := [(dI a4.Lo), (dI a4.Hi)]) rfl (eR rfl) rfl rfl nZ (oMov eC (oMov eC (oMov eC (xQ (aV (oBsliceZ (m := 1216) rfl (nS rfl nZ) (oMov eZ (xQ (aS (aV (oMov (eR rfl) (oMov (eR rfl) (oMov (eR rfl) (oLoadVA (es := [(dI a4.Lo), (dI a4.Hi)]) (eR rfl) bZ rfl (oMov (eR rfl) ?_))))))))))))))))
 obtain ⟨v6, h7, H⟩ := obind H
 refine oCall (u := (oB v6)) eC Cl.fn (c_spec_l12Right h7) (Evs.cons (eR rfl) (Evs.cons (eR rfl) (Evs.cons (eR rfl) (Evs.cons (eR rfl) (Evs.cons eZ Evs.nil))))) (VDs.cons VD.plain (VDs.cons VD.plain (VDs.cons VD.plain (VDs.cons (VD.agg rfl) (VDs.cons VD.plain VDs.nil))))) rfl (oInv eZ (xQ (AW.weaken (wk_mk [] (kr 26 rfl rfl (kr 13 rfl rfl (kr 8 rfl rfl (kr 0 rfl rfl (kr 1 rfl rfl (kr 2 rfl rfl (kr 4 rfl rfl SL.nil))))))) (BL.keep rfl BL.nil) (BK.cons (n := 512) rfl bZ rfl rfl BK.nil)) ?_)))
 rcases oite H with ⟨h8, H⟩ | ⟨h8, H⟩
 ·refine AW.condF eZ (cN h8) (AW.skip (TQ.qn (aV (oBsliceZ (m := 1856) rfl (nS rfl nZ) (oMov (eR rfl) ?_)))))
  obtain ⟨h9, H⟩ := oguard H
  refine oAppZ (f := d_TLock) (m := 1984) (own := true) (ys := a1) (q := a1.length) rfl rfl (eR rfl) eZ (El.lent fun _ _ => rfl) rfl h9 (by decide) (nS rfl nZ) (oMov eZ (xQ (aS (aV (oMov (eR rfl) (oMov (eR rfl) (oLoadVA (es := [(dI a4.Lo), (dI a4.Hi)]) (eR rfl) (bS rfl bZ) rfl (oMov (eR rfl) ?_))))))))
  obtain ⟨v10, h11, H⟩ := obind H
  refine oCall (u := (oB v10)) eC Cl.fn (c_spec_l12Holds h11) (Evs.cons (eR rfl) (Evs.cons (eR rfl) (Evs.cons (eR rfl) (Evs.cons eZ Evs.nil)))) (VDs.cons VD.plain (VDs.cons VD.plain (VDs.cons (VD.agg rfl) (VDs.cons VD.plain VDs.nil)))) rfl (xQ (AW.weaken (wk_mk [] (kr 36 rfl rfl (kr 14 rfl rfl (kr 13 rfl rfl (kr 8 rfl rfl (kr 0 rfl rfl (kr 1 rfl rfl (kr 2 rfl rfl (kr 4 rfl rfl SL.nil)))))))) (BL.keep rfl (BL.keep rfl BL.nil)) (BK.cons (n := 1984) rfl bZ rfl rfl (BK.cons (n := 512) rfl (bS rfl bZ) rfl rfl BK.nil))) ?_))
  rcases oite H with ⟨h12, H⟩ | ⟨h12, H⟩
  ·refine AW.condT eZ h12 (aV (oMov (eR rfl) (oMov (eR rfl) (oMov (eR rfl) (oMov (eR rfl) (oMov eC (xQ (AW.ret (TQ.qr ?_)))))))))
   cases H
   exact endsR (RL.cons (RV.tmp (eR rfl)) (VO.sl bZ (List.length_map _) (allFlat fun _ => rfl)) (RL.cons (RV.tmp (eR rfl)) VO.zs (RL.cons (RV.tmp eZ) (VO.flat rfl) RL.nil))) (by decide)
  ·refine AW.condF eZ (nt h12) (AW.skip (TQ.qn (aS (aV (oMov (eR rfl) (oMov (eR rfl) (oMov (eR rfl) (oLoadVA (es := [(dI a4.Lo), (dI a4.Hi)]) (eR rfl) (bS rfl bZ) rfl (oMov (eR rfl) ?_)))))))))
   obtain ⟨v13, h14, H⟩ := obind H
   refine oCall (u := (.one (.d (.sl 1 (List.map d_i64 v13))))) eC Cl.fn (c_spec_LocksWaits h14) (Evs.cons (eR rfl) (Evs.cons (eR rfl) (Evs.cons (eR rfl) (Evs.cons (eR rfl) (Evs.cons eZ Evs.nil))))) (VDs.cons VD.plain (VDs.cons VD.plain (VDs.cons VD.plain (VDs.cons (VD.agg rfl) (VDs.cons VD.plain VDs.nil))))) rfl (oLenD eZ (n := v13.length) (List.length_map _) (oGtr eZ eC (xQ (AW.weaken (wk_mk [] (kr 46 rfl rfl (kr 14 rfl rfl (kr 13 rfl rfl (kr 8 rfl rfl (kr 0 rfl rfl (kr 2 rfl rfl (kr 4 rfl rfl SL.nil))))))) (BL.keep rfl (BL.keep rfl BL.nil)) (BK.cons (n := 1984) rfl bZ rfl rfl (BK.cons (n := 512) rfl (bS rfl bZ) rfl rfl BK.nil))) ?_))))
   rcases oite H with ⟨h15, H⟩ | ⟨h15, H⟩
   ·refine AW.condT eZ (dT h15) (aV (oMov (eR rfl) (oMov (eR rfl) (oMov (eR rfl) (oMov (eR rfl) (oMov eC (xQ (AW.ret (TQ.qr ?_)))))))))
    cases H
    exact endsR (RL.cons (RV.tmp (eR rfl)) (VO.sl bZ (List.length_map _) (allFlat fun _ => rfl)) (RL.cons (RV.tmp (eR rfl)) VO.zs (RL.cons (RV.tmp eZ) (VO.flat rfl) RL.nil))) (by decide)
   ·refine AW.condF eZ (dF h15) (AW.skip (TQ.qn (aV (oMov (eR rfl) (oFaddrN (m := 0) (eR rfl) rfl (oLoadV (q := 0) (c := (dI a4.Lo)) eZ (bS rfl bZ) rfl rfl (oFaddrN (m := 1) (eR rfl) rfl (oLoadV (q := 1) (c := (dI a4.Hi)) eZ (bS rfl bZ) rfl rfl (oMov (eR rfl) (oBuild (cs := [(dI a3), (dI a4.Lo), (dI a4.Hi), (dI a5)]) (PsCons (eR rfl) (PsCons (eR rfl) (PsCons (eR rfl) (PsCons eZ PsNil)))) rfl (oVar (n := 960) (m := 4) rfl rfl (nS rfl (nS rfl nZ)) (oStoreV (es := [(dI a3), (dI a4.Lo), (dI a4.Hi), (dI a5)]) eZ (eR rfl) rfl rfl bZ rfl (xQ (aV (oMov (eR rfl) (oLoadVA (es := [(dI a3), (dI a4.Lo), (dI a4.Hi), (dI a5)]) (eR rfl) bZ rfl ?_))))))))))))))))
    obtain ⟨v16, h17, H⟩ := obind H
    refine oCallN (u := (.one (.sl 3712 0 v16.length))) (bs := [(3712, (.data 1 (List.map d_i64 v16) true none))]) eC Cl.fn (c_spec_l12Foes h17) (Evs.cons (eR rfl) (Evs.cons eZ Evs.nil)) (VDs.cons VD.plain (VDs.cons (VD.agg rfl) VDs.nil)) (by simp [bindR, bindV, bindVs, bindC, bindCs]) rfl (fC (nS rfl (nS rfl (nS rfl (nS rfl nZ)))) rfl (fC (nS rfl (nS rfl (nS rfl (nS rfl nZ)))) rfl fN)) (oMov eZ (xQ (AW.weaken (wk_mk [512] (kr 16 rfl rfl (kr 15 rfl rfl (kr 14 rfl rfl (kr 13 rfl rfl (kr 0 rfl rfl SL.nil))))) (BL.keep rfl (BL.keep rfl (BL.keep rfl (BL.keep rfl (BL.drop rfl BL.nil))))) (BK.cons (n := 3712) rfl bZ rfl rfl (BK.cons (n := 960) rfl (bS rfl bZ) rfl rfl (BK.cons (n := 1984) rfl (bS rfl (bS rfl (bS rfl bZ))) rfl rfl BK.nil)))) (aV (oMov (eR rfl) (oMov eZ (xQ (AW.seqJ (fun t18 : (List TLock) => (spec_LockAsk_j18 a1 a3 a4 a5 v16) t18 = some r) (fun t18 => mk [(0, (.one (.d (.sl 4 (List.map d_TLock a1))))), (13, (.one .zs)), (15, (.one (.ptr (.nm 960 0 0)))), (16, (.one (.sl 3712 0 v16.length))), (17, (.one (.sl 320128 0 t18.length)))] [(320128, (.data 4 (List.map d_TLock t18) true none)), (960, (.vars 4 [(dI a3), (dI a4.Lo), (dI a4.Hi), (dI a5)])), (3712, (.data 1 (List.map d_i64 v16) true none))] noG) ?_ ?_))))))))
    ·intro t18 H
     unfold spec_LockAsk_j18 at H
     refine aS (aV (oMov (eR rfl) (oLenN eZ (oEql eZ eC (xQ ?_)))))
     rcases oite H with ⟨h20, H⟩ | ⟨h20, H⟩
     ·refine AW.condT eZ (dT h20) (aV (oBsliceZ (m := 4800) rfl (nS rfl (nS rfl (nS rfl nZ))) (oMov (eR rfl) ?_)))
      obtain ⟨h21, H⟩ := oguard H
      refine oAppZ (f := d_TLock) (m := 4928) (own := true) (ys := a1) (q := a1.length) rfl rfl (eR rfl) eZ (El.lent fun _ _ => rfl) rfl h21 (by decide) (nS rfl (nS rfl (nS rfl nZ))) (oMov (eR rfl) (oMov (eR rfl) (oMov (eR rfl) (oMov eC (xQ (AW.ret (TQ.qr ?_)))))))
      cases H
      exact endsR (RL.cons (RV.tmp (eR rfl)) (VO.sl bZ (List.length_map _) (allFlat fun _ => rfl)) (RL.cons (RV.tmp (eR rfl)) VO.zs (RL.cons (RV.tmp eZ) (VO.flat rfl) RL.nil))) (by decide)
     ·refine AW.condF eZ (dF h20) (AW.skip (TQ.qn (aV (oMov (eR rfl) (oLoadVA (es := [(dI a3), (dI a4.Lo), (dI a4.Hi), (dI a5)]) (eR rfl) (bS rfl bZ) rfl (oBslice (m := 5184) (q := 1) (cs := [(dI a3), (dI a4.Lo), (dI a4.Hi), (dI a5)]) rfl (PsCons eZ PsNil) rfl (List.cons_ne_nil _ _) (by simp) (nS rfl (nS rfl (nS rfl nZ))) ?_))))))
      obtain ⟨h22, H⟩ := oguard H
      refine oAppN (f := d_TLock) (xs := t18) (ys := [(TLock.mk a3 a4.Lo a4.Hi a5)]) (q := (t18 ++ ([(TLock.mk a3 a4.Lo a4.Hi a5)])).length) (eR rfl) eZ (bS rfl bZ) rfl (El.one (f := d_TLock) (t := (TLock.mk a3 a4.Lo a4.Hi a5)) (es := [(.int .i64 a3), (.int .i64 a4.Lo), (.int .i64 a4.Hi), (.int .i64 a5)]) bZ rfl rfl rfl) rfl h22 (by decide) (by decide) (erL.cons (v' := (.one (.sl 5184 0 1))) rfl (erL.cons (v' := (.agg [(dI a3), (dI a4.Lo), (dI a4.Hi), (dI a5)])) rfl (erL.cons (v' := (.one .any)) rfl (erL.cons (v' := (oB (decide (((t18.length : Nat) : Int) = 40)))) rfl (erL.cons (v' := (oI ((t18.length : Nat) : Int))) rfl (erL.cons (v' := (.one .any)) rfl (erL.cons (v' := (.one (.d (.sl 4 (List.map d_TLock a1))))) rfl (erL.cons (v' := (.one .zs)) rfl (erL.cons (v' := (.one (.ptr (.nm 960 0 0)))) rfl (erL.cons (v' := (.one (.sl 3712 0 v16.length))) rfl (erL.cons (v' := (.one .any)) rfl erL.nil))))))))))) (erH.cons (v' := (.vars 4 [(dI a3), (dI a4.Lo), (dI a4.Hi), (dI a5)])) rfl rfl (erH.drop rfl (erH.cons (v' := (.vars 4 [(dI a3), (dI a4.Lo), (dI a4.Hi), (dI a5)])) rfl rfl (erH.cons (v' := (.data 1 (List.map d_i64 v16) true none)) rfl rfl erH.nil)))) (oMov (eR rfl) (oMov (eR rfl) (oMov (eR rfl) (oMov eC (xQ (AW.weaken (wk_mk [5184, 960] (kr 12 rfl rfl (kr 11 rfl rfl (kr 10 rfl rfl SL.nil))) (BL.keep rfl (BL.drop rfl (BL.drop rfl (BL.keep rfl BL.nil)))) (BK.cons (n := 320128) rfl bZ rfl rfl (BK.cons (n := 3712) rfl (bS rfl (bS rfl (bS rfl bZ))) rfl rfl BK.nil))) (AW.ret ?_)))))))
      cases H
      exact endsR (RL.cons (RV.tmp (eR rfl)) (VO.sl bZ (List.length_map _) (allFlat fun _ => rfl)) (RL.cons (RV.tmp (eR rfl)) (VO.sl (bS rfl bZ) (List.length_map _) (allFlat fun _ => rfl)) (RL.cons (RV.tmp eZ) (VO.flat rfl) RL.nil))) (by decide)
    ·refine aV (oMov eC (xQ (AW.block (AW.iter (fun s23 : ((List TLock) × Int) => mk [(0, (.one (.d (.sl 4 (List.map d_TLock a1))))), (13, (.one .zs)), (15, (.one (.ptr (.nm 960 0 0)))), (16, (.one (.sl 3712 0 v16.length))), (17, (.one (.sl 320192 0 s23.1.length))), (18, (oI s23.2))] [(320192, (.data 4 (List.map d_TLock s23.1) true none)), (960, (.vars 4 [(dI a3), (dI a4.Lo), (dI a4.Hi), (dI a5)])), (3712, (.data 1 (List.map d_i64 v16) true none))] noG) H ((wk_mk [] (kR rfl rfl (kR rfl rfl (kR rfl rfl (kR rfl rfl (kR rfl rfl (kR rfl rfl SL.nil)))))) (BL.keep rfl (BL.keep rfl (BL.keep rfl BL.nil))) (BK.cons rfl (bS rfl (bS rfl bZ)) rfl rfl (BK.cons rfl (bS rfl bZ) rfl rfl (BK.cons rfl bZ rfl rfl BK.nil)))).trans (wk_ren 1984 320192 rfl rfl (nS rfl (nS rfl (nS rfl nZ))))) ?_))))
     intro kb24 s23 H
     unfold spec_LockAsk_b23 at H
     refine aS (aV (oMov (eR rfl) (oMov (eR rfl) (oLenN eZ (oLss (eR rfl) eZ (xQ ?_))))))
     rcases oite H with ⟨h25, H⟩ | ⟨h25, H⟩
     ·refine AW.condT eZ (dT h25) (AW.skip (TQ.qn (aS (AW.block (aR (oMov (eR rfl) (oMov (eR rfl) (oMov (eR rfl) ?_))))))))
      obtain ⟨v26, h27, H⟩ := obind H
      refine oAtN (eR rfl) eZ (bS rfl (bS rfl bZ)) rfl h27 (oLoadD (t := v26) (e := (.int .i64 v26)) eZ (bS rfl (bS rfl bZ)) (idx_at h27) rfl rfl ?_)
      obtain ⟨v28, h29, H⟩ := obind H
      exact oCallN (u := (.one (.sl 4544 0 v28.length))) (bs := [(4544, (.data 4 (List.map d_TLock v28) true none))]) eC Cl.fn (c_spec_l12Keep h29) (Evs.cons (eR rfl) (Evs.cons eZ (Evs.cons eC Evs.nil))) (VDs.cons (VD.sl bZ (List.length_map _)) (VDs.cons VD.plain (VDs.cons VD.plain VDs.nil))) (by simp [bindR, bindV, bindVs, bindC, bindCs]) rfl (fC (nS rfl (nS rfl (nS rfl nZ))) rfl (fC (nS rfl (nS rfl (nS rfl nZ))) rfl fN)) (oMov eZ (xNil (BQ.qn (TQ.qn (AW.weaken (wk_mk [320192] (kr 17 rfl rfl (kr 0 rfl rfl (kr 13 rfl rfl (kr 15 rfl rfl (kr 16 rfl rfl (kr 18 rfl rfl SL.nil)))))) (BL.keep rfl (BL.drop rfl (BL.keep rfl (BL.keep rfl BL.nil)))) (BK.cons (n := 4544) rfl bZ rfl rfl (BK.cons (n := 960) rfl (bS rfl (bS rfl bZ)) rfl rfl (BK.cons (n := 3712) rfl (bS rfl (bS rfl (bS rfl bZ))) rfl rfl BK.nil)))) (aR (oMov (eR rfl) (oAdd eZ eC (oMov eZ (xNil (TQ.qn ⟨(v28, (IntKind.wrap .i64 (s23.2 + 1))), H, ((wk_mk [] (kR rfl rfl (kR rfl rfl (kR rfl rfl (kR rfl rfl (kR rfl rfl (kR rfl rfl SL.nil)))))) (BL.keep rfl (BL.keep rfl (BL.keep rfl BL.nil))) (BK.cons rfl bZ rfl rfl (BK.cons rfl (bS rfl bZ) rfl rfl (BK.cons rfl (bS rfl (bS rfl bZ)) rfl rfl BK.nil)))).trans (wk_ren 4544 320192 rfl rfl (nS rfl (nS rfl (nS rfl nZ)))))⟩)))))))))))
     ·exact AW.condF eZ (dF h25) (AW.exit (TQ.qe (TQ.qe (BQ.qe (TQ.qn ⟨s23.1, H, ((wk_mk [] (kR rfl rfl (kR rfl rfl (kR rfl rfl (kR rfl rfl (kR rfl rfl SL.nil))))) (BL.keep rfl (BL.keep rfl (BL.keep rfl BL.nil))) (BK.cons rfl bZ rfl rfl (BK.cons rfl (bS rfl bZ) rfl rfl (BK.cons rfl (bS rfl (bS rfl bZ)) rfl rfl BK.nil)))).trans (wk_ren 320192 320128 rfl rfl (nS rfl (nS rfl (nS rfl nZ)))))⟩)))))
 ·refine AW.condT eZ (cN (nt h8)) (aV (oBsliceZ (m := 1728) rfl (nS rfl nZ) (oMov (eR rfl) (oMov (eR rfl) (oMov (eR rfl) (oMov eC (xQ (AW.ret (TQ.qr ?_)))))))))
  cases H
  exact endsR (RL.cons (RV.tmp (eR rfl)) VO.zs (RL.cons (RV.tmp (eR rfl)) VO.zs (RL.cons (RV.tmp eZ) (VO.flat rfl) RL.nil))) List.nodup_nil
theorem c_spec_l12DrawLocks {pv : Value} {cb1 : (List Int)} {a2 : (Int × Int)} {a3 : Int} {r : ((List TLock) × (Int × Int))} (H : m_spec_l12DrawLocks cb1 a2 a3 = some r) : FnC Try.prog pv (.sl 1 (List.map d_u8 cb1)) 126 [⟨(.ptr [(.pin pv), (.int .i64 a2.1), (.int .i64 a2.2)]), .m (.ptr [(.pin pv), (.int .i64 r.2.1), (.int .i64 r.2.2)])⟩, ⟨(.int .i64 a3), .b⟩] [(.sl 4 (List.map d_TLock r.1))] := by
 refine n126 (fle rfl) (fle rfl) (fC nZ rfl fN) rfl ?_
 rw [initC_mk]
 refine AW.weaken (t := mk [(0, (.one (.ptr (.nm 0 0 0)))), (1, (oI a3))] [(0, (.vars 3 [(.d (.pin pv)), (dI a2.1), (dI a2.2)]))] (lk [(63, (.one (.d (.both pv (.sl 1 (List.map d_u8 cb1)))))), (0, (.one (.ptr (.nm 0 0 0))))])) (wk_mkG (gl := [(63, (.one (.d (.both pv (.sl 1 (List.map d_u8 cb1)))))), (0, (.one (.ptr (.nm 0 0 0))))]) [] (kv 0 (.one (.ptr (.nm 0 0 0))) rfl rfl (kv 1 (oI a3) rfl rfl SL.nil)) (BL.keep rfl BL.nil) (BK.cons (n := 0) rfl bZ rfl rfl BK.nil) (GK.cons rfl (GK.cons rfl GK.nil))) ?_
 unfold m_spec_l12DrawLocks at H
 unfold i126
 refine aV (oMov eC (xQ (aV (oBsliceZ (m := 768) rfl (nS rfl nZ) (oMov eZ (xQ (aS (AW.regm (rmOne (oMov (eR rfl) (xNil (rmOne (oMov (eR rfl) (xNil (rmOne (oAdd eZ eC (xNil ?_)))))))))))))))))
 obtain ⟨v4, h5, H⟩ := obind H
 refine rmCallIC (v0 := pv) (hg := by exact rfl) (ON := [0]) (ls := []) (G := []) (E := [subKey 0]) (MB := [(0, (.vars 3 [(.d (.pin pv)), (dI v4.2.1), (dI v4.2.2)]))]) (u := (oI v4.1)) eC Cl.fn (c_spec_l1Below h5) (Evs.cons (eR rfl) (Evs.cons eZ Evs.nil)) (AO.mut (VO.ptr (es := [(.pin pv), (.int .i64 a2.1), (.int .i64 a2.2)]) bZ rfl rfl rfl) (AO.lent VD.plain rfl AO.nil)) rfl rfl rfl (SZ.consP bZ rfl SZ.nil) (erL.cons (v' := (oI (IntKind.wrap .i64 (a3 + 1)))) rfl (erL.cons (v' := (oI a3)) rfl (erL.cons (v' := (.one (.ptr (.nm 0 0 0)))) rfl (erL.cons (v' := (.one .zs)) rfl (erL.cons (v' := (.one .zs)) rfl (erL.cons (v' := (.one .zs)) rfl (erL.cons (v' := (.one (.ptr (.nm 0 0 0)))) rfl (erL.cons (v' := (oI a3)) rfl erL.nil)))))))) (erH.cons (v' := (.vars 3 [(.d (.pin pv)), (dI a2.1), (dI a2.2)])) rfl rfl erH.nil) (erL.cons (v' := (.one (.d (.both pv (.sl 1 (List.map d_u8 cb1)))))) rfl (erL.cons (v' := (.one (.ptr (.nm 0 0 0)))) rfl erL.nil)) rfl rfl (rmRest (oMov eZ (xQ (AW.seqJ (fun t6 : (Int × Int × Int) => (spec_l12DrawLocks_j6 cb1) t6 = some r) (fun t6 => mk [(0, (.one (.ptr (.nm 0 0 0)))), (5, (.one .zs)), (6, (oI t6.1))] [(0, (.vars 3 [(.d (.pin pv)), (dI t6.2.1), (dI t6.2.2)]))] (lk [(63, (.one (.d (.both pv (.sl 1 (List.map d_u8 cb1)))))), (0, (.one (.ptr (.nm 0 0 0))))])) ?_ ?_))))
 ·intro t6 H
  unfold spec_l12DrawLocks_j6 at H
  refine AW.seqJ (fun t8 : ((List TLock) × Int × Int) => spec_l12DrawLocks_j8 t8 = some r) (fun t8 => mk [(5, (.one (.sl 320128 0 t8.1.length)))] [(320128, (.data 4 (List.map d_TLock t8.1) true none)), (0, (.vars 3 [(.d (.pin pv)), (dI t8.2.1), (dI t8.2.2)]))] (lk [(63, (.one (.d (.both pv (.sl 1 (List.map d_u8 cb1)))))), (0, (.one (.ptr (.nm 0 0 0))))])) ?_ ?_
  ·intro t8 H
   unfold spec_l12DrawLocks_j8 at H
   refine aV (oMov eZ (oMov eZ (xQ (AW.ret ?_))))
   cases H
   exact endsRM (RL.cons (RV.tmp eZ) (VO.sl bZ (List.length_map _) (allFlat fun _ => rfl)) RL.nil) (ML.mut (eS rfl eZ) (VO.ptr (es := [(.pin pv), (.int .i64 t8.2.1), (.int .i64 t8.2.2)]) (bS rfl bZ) rfl rfl rfl) (ML.lent ML.nil)) (by decide)
  ·refine aV (oMov eC (xQ (AW.block (AW.iter (fun s10 : ((List TLock) × Int × Int × Int) => mk [(0, (.one (.ptr (.nm 0 0 0)))), (5, (.one (.sl 320192 0 s10.1.length))), (6, (oI t6.1)), (7, (oI s10.2.1))] [(320192, (.data 4 (List.map d_TLock s10.1) true none)), (0, (.vars 3 [(.d (.pin pv)), (dI s10.2.2.1), (dI s10.2.2.2)]))] (lk [(63, (.one (.d (.both pv (.sl 1 (List.map d_u8 cb1)))))), (0, (.one (.ptr (.nm 0 0 0))))])) H ((wk_mkG [] (kR rfl rfl (SL.cons eZ rfl (VWk.one (CWk.len (by first | (simp; done) | (simp; omega) | omega | (simp only [List.length_map]; omega)))) (kR rfl rfl (kR rfl rfl SL.nil)))) (BL.keep rfl (BL.keep rfl BL.nil)) (BK.cons rfl bZ rfl rfl (BK.cons rfl (bS rfl bZ) rfl rfl BK.nil)) (GK.cons rfl (GK.cons rfl GK.nil))).trans (wk_zs0 320192 4 5 true (eR rfl) (nS rfl nZ))) ?_))))
   intro kb11 s10 H
   unfold spec_l12DrawLocks_b10 at H
   refine aS (aV (oMov (eR rfl) (oMov (eR rfl) (oLss (eR rfl) eZ (xQ ?_)))))
   rcases oite H with ⟨h12, H⟩ | ⟨h12, H⟩
   ·refine AW.condT eZ (dT h12) (AW.skip (TQ.qn (aS (AW.block (aS (AW.regm (rmOne (oMov (eR rfl) (xNil ?_)))))))))
    obtain ⟨v13, h14, H⟩ := obind H
    refine rmCallIC (v0 := pv) (hg := by exact rfl) (ON := [0]) (ls := []) (G := []) (E := [subKey 0]) (MB := [(0, (.vars 3 [(.d (.pin pv)), (dI v13.2.1), (dI v13.2.2)]))]) (u := (oI v13.1)) eC Cl.fn (c_spec_l1Below h14) (Evs.cons eZ (Evs.cons eC Evs.nil)) (AO.mut (VO.ptr (es := [(.pin pv), (.int .i64 s10.2.2.1), (.int .i64 s10.2.2.2)]) (bS rfl bZ) rfl rfl rfl) (AO.lent VD.plain rfl AO.nil)) rfl rfl rfl (SZ.consP (bS rfl bZ) rfl SZ.nil) (erL.cons (v' := (.one (.ptr (.nm 0 0 0)))) rfl (erL.cons (v' := (oB (decide (s10.2.1 < t6.1)))) rfl (erL.cons (v' := (oI t6.1)) rfl (erL.cons (v' := (oI s10.2.1)) rfl (erL.cons (v' := (.one (.ptr (.nm 0 0 0)))) rfl (erL.cons (v' := (.one (.sl 320192 0 s10.1.length))) rfl (erL.cons (v' := (oI t6.1)) rfl (erL.cons (v' := (oI s10.2.1)) rfl erL.nil)))))))) (erH.cons (v' := (.data 4 (List.map d_TLock s10.1) true none)) rfl rfl (erH.cons (v' := (.vars 3 [(.d (.pin pv)), (dI s10.2.2.1), (dI s10.2.2.2)])) rfl rfl erH.nil)) (erL.cons (v' := (.one (.d (.both pv (.sl 1 (List.map d_u8 cb1)))))) rfl (erL.cons (v' := (.one (.ptr (.nm 0 0 0)))) rfl erL.nil)) rfl rfl (rmRest (oMov eZ (xQ (aS (AW.regm (rmOne (oMov (eR rfl) (xNil (rmOne (oBslice (m := 1792) (q := 9) (cs := [(dI 1), (dI 2), (dI 3), (dI 4), (dI 5), (dI 6), (dI 7), (dI 8), (dI 9)]) rfl (PsCons eC (PsCons eC (PsCons eC (PsCons eC (PsCons eC (PsCons eC (PsCons eC (PsCons eC (PsCons eC PsNil))))))))) rfl (List.cons_ne_nil _ _) (by simp) (nS rfl (nS rfl (nS rfl nZ))) (xNil (rmOne (oMov (eR rfl) (xNil ?_))))))))))))))
    obtain ⟨v15, h16, H⟩ := obind H
    refine rmCallIC (v0 := pv) (hg := by exact rfl) (ON := [0]) (ls := []) (G := []) (E := [subKey 0]) (MB := [(0, (.vars 3 [(.d (.pin pv)), (dI v15.2.1), (dI v15.2.2)]))]) (u := (oI v15.1)) eC Cl.fn (c_spec_l1Below h16) (Evs.cons eZ (Evs.cons eC Evs.nil)) (AO.mut (VO.ptr (es := [(.pin pv), (.int .i64 v13.2.1), (.int .i64 v13.2.2)]) (bS rfl bZ) rfl rfl rfl) (AO.lent VD.plain rfl AO.nil)) rfl rfl rfl (SZ.consP (bS rfl bZ) rfl SZ.nil) (erL.cons (v' := (.one (.ptr (.nm 0 0 0)))) rfl (erL.cons (v' := (.one (.sl 1792 0 9))) rfl (erL.cons (v' := (.one (.sl 320192 0 s10.1.length))) rfl (erL.cons (v' := (oI v13.1)) rfl (erL.cons (v' := (oI v13.1)) rfl (erL.cons (v' := (.one (.ptr (.nm 0 0 0)))) rfl (erL.cons (v' := (oB (decide (s10.2.1 < t6.1)))) rfl (erL.cons (v' := (oI t6.1)) rfl (erL.cons (v' := (oI s10.2.1)) rfl (erL.cons (v' := (.one (.ptr (.nm 0 0 0)))) rfl (erL.cons (v' := (.one (.sl 320192 0 s10.1.length))) rfl (erL.cons (v' := (oI t6.1)) rfl (erL.cons (v' := (oI s10.2.1)) rfl erL.nil))))))))))))) (erH.cons (v' := (.vars 1 [(dI 1), (dI 2), (dI 3), (dI 4), (dI 5), (dI 6), (dI 7), (dI 8), (dI 9)])) rfl rfl (erH.cons (v' := (.vars 3 [(.d (.pin pv)), (dI v13.2.1), (dI v13.2.2)])) rfl rfl (erH.cons (v' := (.data 4 (List.map d_TLock s10.1) true none)) rfl rfl (erH.cons (v' := (.vars 3 [(.d (.pin pv)), (dI s10.2.2.1), (dI s10.2.2.2)])) rfl rfl erH.nil)))) (erL.cons (v' := (.one (.d (.both pv (.sl 1 (List.map d_u8 cb1)))))) rfl (erL.cons (v' := (.one (.ptr (.nm 0 0 0)))) rfl erL.nil)) rfl rfl (rmOne (oAdd eC eZ (xNil (rmOne (oMov (eR rfl) (xNil (rmOne (oMov (eR rfl) (xNil (rmOne (oAdd eZ eC (xNil (rmOne (oMov (eR rfl) (xNil ?_)))))))))))))))
    obtain ⟨v17, h18, H⟩ := obind H
    refine rmCallIC (v0 := pv) (hg := by exact rfl) (ON := [0]) (ls := []) (G := []) (E := [subKey 0]) (MB := [(0, (.vars 3 [(.d (.pin pv)), (dI v17.2.1), (dI v17.2.2)]))]) (u := (oI v17.1)) eC Cl.fn (c_spec_l1Below h18) (Evs.cons eZ (Evs.cons eC Evs.nil)) (AO.mut (VO.ptr (es := [(.pin pv), (.int .i64 v15.2.1), (.int .i64 v15.2.2)]) bZ rfl rfl rfl) (AO.lent VD.plain rfl AO.nil)) rfl rfl rfl (SZ.consP bZ rfl SZ.nil) (erL.cons (v' := (.one (.ptr (.nm 0 0 0)))) rfl (erL.cons (v' := (oI (IntKind.wrap .i64 (v13.1 + 1)))) rfl (erL.cons (v' := (oI v13.1)) rfl (erL.cons (v' := (oI v13.1)) rfl (erL.cons (v' := (oI (IntKind.wrap .i64 (1 + v15.1)))) rfl (erL.cons (v' := (oI v15.1)) rfl (erL.cons (v' := (.one (.ptr (.nm 0 0 0)))) rfl (erL.cons (v' := (.one (.sl 1792 0 9))) rfl (erL.cons (v' := (.one (.sl 320192 0 s10.1.length))) rfl (erL.cons (v' := (oI v13.1)) rfl (erL.cons (v' := (oI v13.1)) rfl (erL.cons (v' := (.one (.ptr (.nm 0 0 0)))) rfl (erL.cons (v' := (oB (decide (s10.2.1 < t6.1)))) rfl (erL.cons (v' := (oI t6.1)) rfl (erL.cons (v' := (oI s10.2.1)) rfl (erL.cons (v' := (.one (.ptr (.nm 0 0 0)))) rfl (erL.cons (v' := (.one (.sl 320192 0 s10.1.length))) rfl (erL.cons (v' := (oI t6.1)) rfl (erL.cons (v' := (oI s10.2.1)) rfl erL.nil))))))))))))))))))) (erH.cons (v' := (.vars 3 [(.d (.pin pv)), (dI v15.2.1), (dI v15.2.2)])) rfl rfl (erH.cons (v' := (.vars 1 [(dI 1), (dI 2), (dI 3), (dI 4), (dI 5), (dI 6), (dI 7), (dI 8), (dI 9)])) rfl rfl (erH.cons (v' := (.vars 3 [(.d (.pin pv)), (dI v13.2.1), (dI v13.2.2)])) rfl rfl (erH.cons (v' := (.data 4 (List.map d_TLock s10.1) true none)) rfl rfl (erH.cons (v' := (.vars 3 [(.d (.pin pv)), (dI s10.2.2.1), (dI s10.2.2.2)])) rfl rfl erH.nil))))) (erL.cons (v' := (.one (.d (.both pv (.sl 1 (List.map d_u8 cb1)))))) rfl (erL.cons (v' := (.one (.ptr (.nm 0 0 0)))) rfl erL.nil)) rfl rfl (rmOne (oAdd (eR rfl) eZ (xNil (rmOne (oBuild (cs := [(dI v13.1), (dI (IntKind.wrap .i64 ((IntKind.wrap .i64 (v13.1 + 1)) + v17.1)))]) (PsCons (eR rfl) (PsCons eZ PsNil)) rfl (xNil (rmOne (oMov (eR rfl) (xNil ?_)))))))))
    obtain ⟨v19, h20, H⟩ := obind H
    refine rmCallIC (v0 := pv) (hg := by exact rfl) (ON := [0]) (ls := []) (G := []) (E := [subKey 0]) (MB := [(0, (.vars 3 [(.d (.pin pv)), (dI v19.2.1), (dI v19.2.2)]))]) (u := (oI v19.1)) eC Cl.fn (c_spec_l1Below h20) (Evs.cons eZ (Evs.cons eC Evs.nil)) (AO.mut (VO.ptr (es := [(.pin pv), (.int .i64 v17.2.1), (.int .i64 v17.2.2)]) bZ rfl rfl rfl) (AO.lent VD.plain rfl AO.nil)) rfl rfl rfl (SZ.consP bZ rfl SZ.nil) (erL.cons (v' := (.one (.ptr (.nm 0 0 0)))) rfl (erL.cons (v' := (.agg [(dI v13.1), (dI (IntKind.wrap .i64 ((IntKind.wrap .i64 (v13.1 + 1)) + v17.1)))])) rfl (erL.cons (v' := (oI (IntKind.wrap .i64 ((IntKind.wrap .i64 (v13.1 + 1)) + v17.1)))) rfl (erL.cons (v' := (oI v17.1)) rfl (erL.cons (v' := (.one (.ptr (.nm 0 0 0)))) rfl (erL.cons (v' := (oI (IntKind.wrap .i64 (v13.1 + 1)))) rfl (erL.cons (v' := (oI v13.1)) rfl (erL.cons (v' := (oI v13.1)) rfl (erL.cons (v' := (oI (IntKind.wrap .i64 (1 + v15.1)))) rfl (erL.cons (v' := (oI v15.1)) rfl (erL.cons (v' := (.one (.ptr (.nm 0 0 0)))) rfl (erL.cons (v' := (.one (.sl 1792 0 9))) rfl (erL.cons (v' := (.one (.sl 320192 0 s10.1.length))) rfl (erL.cons (v' := (oI v13.1)) rfl (erL.cons (v' := (oI v13.1)) rfl (erL.cons (v' := (.one (.ptr (.nm 0 0 0)))) rfl (erL.cons (v' := (oB (decide (s10.2.1 < t6.1)))) rfl (erL.cons (v' := (oI t6.1)) rfl (erL.cons (v' := (oI s10.2.1)) rfl (erL.cons (v' := (.one (.ptr (.nm 0 0 0)))) rfl (erL.cons (v' := (.one (.sl 320192 0 s10.1.length))) rfl (erL.cons (v' := (oI t6.1)) rfl (erL.cons (v' := (oI s10.2.1)) rfl erL.nil))))))))))))))))))))))) (erH.cons (v' := (.vars 3 [(.d (.pin pv)), (dI v17.2.1), (dI v17.2.2)])) rfl rfl (erH.cons (v' := (.vars 3 [(.d (.pin pv)), (dI v15.2.1), (dI v15.2.2)])) rfl rfl (erH.cons (v' := (.vars 1 [(dI 1), (dI 2), (dI 3), (dI 4), (dI 5), (dI 6), (dI 7), (dI 8), (dI 9)])) rfl rfl (erH.cons (v' := (.vars 3 [(.d (.pin pv)), (dI v13.2.1), (dI v13.2.2)])) rfl rfl (erH.cons (v' := (.data 4 (List.map d_TLock s10.1) true none)) rfl rfl (erH.cons (v' := (.vars 3 [(.d (.pin pv)), (dI s10.2.2.1), (dI s10.2.2.2)])) rfl rfl erH.nil)))))) (erL.cons (v' := (.one (.d (.both pv (.sl 1 (List.map d_u8 cb1)))))) rfl (erL.cons (v' := (.one (.ptr (.nm 0 0 0)))) rfl erL.nil)) rfl rfl (rmRest (oQuo eZ eC (by decide) (oAdd eC eZ ?_)))
    obtain ⟨v21, h22, H⟩ := obind H
    refine oCallN (u := (.tup [(.one (.sl 2752 0 v21.1.length)), (.one (.sl 2768 0 v21.2.1.length)), (oI v21.2.2)])) (bs := [(2752, (.data 4 (List.map d_TLock v21.1) true none)), (2768, (.data 1 (List.map d_i64 v21.2.1) true none))]) eC Cl.fn (c_spec_LockAsk h22) (Evs.cons (eR rfl) (Evs.cons (eR rfl) (Evs.cons (eR rfl) (Evs.cons (eR rfl) (Evs.cons eZ Evs.nil))))) (VDs.cons (VD.sl (bS rfl (bS rfl (bS rfl (bS rfl (bS rfl bZ))))) (List.length_map _)) (VDs.cons (VD.vars [(.int .i64 1), (.int .i64 2), (.int .i64 3), (.int .i64 4), (.int .i64 5), (.int .i64 6), (.int .i64 7), (.int .i64 8), (.int .i64 9)] (bS rfl (bS rfl (bS rfl bZ))) rfl rfl) (VDs.cons VD.plain (VDs.cons (VD.agg rfl) (VDs.cons VD.plain VDs.nil))))) (by simp [bindR, bindV, bindVs, bindC, bindCs]) rfl (fC (nS rfl (nS rfl (nS rfl (nS rfl (nS rfl (nS rfl (nS rfl nZ))))))) rfl (fC (nS rfl (nS rfl (nS rfl (nS rfl (nS rfl (nS rfl (nS rfl nZ))))))) rfl (fC (nS rfl (nS rfl (nS rfl (nS rfl (nS rfl (nS rfl (nS rfl nZ))))))) rfl fN))) (oMov eZ (oExt (v := (.one (.sl 2752 0 v21.1.length))) eZ rfl (oExt (v := (.one (.sl 2768 0 v21.2.1.length))) (eR rfl) rfl (oExt (v := (oI v21.2.2)) (eR rfl) rfl (oMov (eR rfl) (oMov (eR rfl) (oMov (eR rfl) (xQ (AW.weaken (wk_mkG [2768, 1792] (kr 11 rfl rfl (kr 9 rfl rfl (kr 0 rfl rfl (kr 5 rfl rfl (kr 6 rfl rfl (kr 7 rfl rfl SL.nil)))))) (BL.drop rfl (BL.keep rfl (BL.keep rfl (BL.keep rfl (BL.keep rfl (BL.drop rfl (BL.keep rfl (BL.keep rfl (BL.keep rfl BL.nil))))))))) (BK.cons (n := 2752) rfl (bS rfl bZ) rfl rfl (BK.cons (n := 0) rfl (bS rfl (bS rfl bZ)) rfl rfl (BK.cons (n := 320192) rfl (bS rfl (bS rfl (bS rfl (bS rfl (bS rfl (bS rfl (bS rfl bZ))))))) rfl rfl BK.nil))) (GK.cons rfl (GK.cons rfl GK.nil))) (aV (oMov eZ (oEql eZ eC (xQ ?_)))))))))))))
    rcases oite H with ⟨h23, H⟩ | ⟨h23, H⟩
    ·exact AW.condT eZ (dT h23) (aR (oMov (eR rfl) (oMov eZ (xNil (BQ.qn (TQ.qn (aR (oMov (eR rfl) (oAdd eZ eC (oMov eZ (xNil (TQ.qn ⟨(v21.1, (IntKind.wrap .i64 (s10.2.1 + 1)), v19.2.1, v19.2.2), H, (Wk.trans (s := mk [(0, (.one (.ptr (.nm 0 0 0)))), (5, (.one (.sl 2752 0 v21.1.length))), (6, (oI t6.1)), (7, (oI (IntKind.wrap .i64 (s10.2.1 + 1))))] [(2752, (.data 4 (List.map d_TLock v21.1) true none)), (0, (.vars 3 [(.d (.pin pv)), (dI v19.2.1), (dI v19.2.2)]))] (lk [(63, (.one (.d (.both pv (.sl 1 (List.map d_u8 cb1)))))), (0, (.one (.ptr (.nm 0 0 0))))])) ((wk_mkG [] (kR rfl rfl (kR rfl rfl (kR rfl rfl (kR rfl rfl SL.nil)))) (BL.keep rfl (BL.keep rfl BL.nil)) (BK.cons rfl bZ rfl rfl (BK.cons rfl (bS rfl bZ) rfl rfl BK.nil)) (GK.cons rfl (GK.cons rfl GK.nil))).trans (wk_renG 2752 320192 rfl rfl (nS rfl (nS rfl nZ)) (GR.cons rfl (GR.cons rfl GR.nil)))) (wk_mkG [320192] (kr 0 rfl rfl (kr 5 rfl rfl (kr 6 rfl rfl (kr 7 rfl rfl SL.nil)))) (BL.keep rfl (BL.keep rfl (BL.drop rfl BL.nil))) (BK.cons (n := 2752) rfl bZ rfl rfl (BK.cons (n := 0) rfl (bS rfl bZ) rfl rfl BK.nil)) (GK.cons rfl (GK.cons rfl GK.nil))))⟩))))))))))))
    ·exact AW.condF eZ (dF h23) (AW.skip (BQ.qn (TQ.qn (aR (oMov (eR rfl) (oAdd eZ eC (oMov eZ (xNil (TQ.qn ⟨(s10.1, (IntKind.wrap .i64 (s10.2.1 + 1)), v19.2.1, v19.2.2), H, (wk_mkG [2752] (kR rfl rfl (kR rfl rfl (kR rfl rfl (kR rfl rfl SL.nil)))) (BL.drop rfl (BL.keep rfl (BL.keep rfl BL.nil))) (BK.cons rfl (bS rfl (bS rfl bZ)) rfl rfl (BK.cons rfl (bS rfl bZ) rfl rfl BK.nil)) (GK.cons rfl (GK.cons rfl GK.nil)))⟩)))))))))
   ·exact AW.condF eZ (dF h12) (AW.exit (TQ.qe (TQ.qe (BQ.qe (TQ.qn ⟨(s10.1, s10.2.2.1, s10.2.2.2), H, ((wk_mkG [] (kR rfl rfl SL.nil) (BL.keep rfl (BL.keep rfl BL.nil)) (BK.cons rfl bZ rfl rfl (BK.cons rfl (bS rfl bZ) rfl rfl BK.nil)) (GK.cons rfl (GK.cons rfl GK.nil))).trans (wk_renG 320192 320128 rfl rfl (nS rfl (nS rfl nZ)) (GR.cons rfl (GR.cons rfl GR.nil))))⟩)))))
 ·refine aS (AW.regm (rmOne (oMov (eR rfl) (xNil ?_))))
  obtain ⟨v24, h25, H⟩ := obind H
  refine rmCallIC (v0 := pv) (hg := by exact rfl) (ON := [0]) (ls := []) (G := []) (E := [subKey 0]) (MB := [(0, (.vars 3 [(.d (.pin pv)), (dI v24.2.1), (dI v24.2.2)]))]) (u := (oB v24.1)) eC Cl.fn (c_spec_l1Once h25) (Evs.cons eZ (Evs.cons eC Evs.nil)) (AO.mut (VO.ptr (es := [(.pin pv), (.int .i64 v4.2.1), (.int .i64 v4.2.2)]) bZ rfl rfl rfl) (AO.lent VD.plain rfl AO.nil)) rfl rfl rfl (SZ.consP bZ rfl SZ.nil) (erL.cons (v' := (.one (.ptr (.nm 0 0 0)))) rfl (erL.cons (v' := (oI v4.1)) rfl (erL.cons (v' := (oI v4.1)) rfl (erL.cons (v' := (oI (IntKind.wrap .i64 (a3 + 1)))) rfl (erL.cons (v' := (oI a3)) rfl (erL.cons (v' := (.one (.ptr (.nm 0 0 0)))) rfl (erL.cons (v' := (.one .zs)) rfl (erL.cons (v' := (.one .zs)) rfl (erL.cons (v' := (.one .zs)) rfl (erL.cons (v' := (.one (.ptr (.nm 0 0 0)))) rfl (erL.cons (v' := (oI a3)) rfl erL.nil))))))))))) (erH.cons (v' := (.vars 3 [(.d (.pin pv)), (dI v4.2.1), (dI v4.2.2)])) rfl rfl (erH.cons (v' := (.vars 3 [(.d (.pin pv)), (dI a2.1), (dI a2.2)])) rfl rfl erH.nil)) (erL.cons (v' := (.one (.d (.both pv (.sl 1 (List.map d_u8 cb1)))))) rfl (erL.cons (v' := (.one (.ptr (.nm 0 0 0)))) rfl erL.nil)) rfl rfl (rmRest (xQ ?_))
  rcases oite H with ⟨h26, H⟩ | ⟨h26, H⟩
  ·exact AW.condT eZ h26 (aR (oMov eC (xNil (TQ.qn ⟨(120, v24.2.1, v24.2.2), H, (wk_mkG [] (kR rfl rfl (kR rfl rfl (kR rfl rfl SL.nil))) (BL.keep rfl (BL.keep rfl (BL.keep rfl BL.nil))) (BK.cons rfl bZ rfl rfl BK.nil) (GK.cons rfl (GK.cons rfl GK.nil)))⟩))))
  ·exact AW.condF eZ (nt h26) (AW.skip (TQ.qn ⟨(v4.1, v24.2.1, v24.2.2), H, (wk_mkG [] (kR rfl rfl (kR rfl rfl (kR rfl rfl SL.nil))) (BL.keep rfl (BL.keep rfl (BL.keep rfl BL.nil))) (BK.cons rfl bZ rfl rfl BK.nil) (GK.cons rfl (GK.cons rfl GK.nil)))⟩))
theorem c_spec_l1PickInt {pv : Value} {cb1 : (List Int)} {a2 : (Int × Int)} {a3 : (List Int)} {r : (Int × (Int × Int))} (H : m_spec_l1PickInt cb1 a2 a3 = some r) : FnC Try.prog pv (.sl 1 (List.map d_u8 cb1)) 80 [⟨(.ptr [(.pin pv), (.int .i64 a2.1), (.int .i64 a2.2)]), .m (.ptr [(.pin pv), (.int .i64 r.2.1), (.int .i64 r.2.2)])⟩, ⟨(.sl 1 (List.map d_i64 a3)), .b⟩] [(.int .i64 r.1)] := by
 refine n80 (fle rfl) (fle rfl) (fC nZ rfl fN) rfl ?_
 rw [initC_mk]
 refine AW.weaken (t := mk [(0, (.one (.ptr (.nm 0 0 0)))), (1, (.one (.d (.sl 1 (List.map d_i64 a3)))))] [(0, (.vars 3 [(.d (.pin pv)), (dI a2.1), (dI a2.2)]))] (lk [(63, (.one (.d (.both pv (.sl 1 (List.map d_u8 cb1)))))), (0, (.one (.ptr (.nm 0 0 0))))])) (wk_mkG (gl := [(63, (.one (.d (.both pv (.sl 1 (List.map d_u8 cb1)))))), (0, (.one (.ptr (.nm 0 0 0))))]) [] (kv 0 (.one (.ptr (.nm 0 0 0))) rfl rfl (kv 1 (.one (.d (.sl 1 (List.map d_i64 a3)))) rfl rfl SL.nil)) (BL.keep rfl BL.nil) (BK.cons (n := 0) rfl bZ rfl rfl BK.nil) (GK.cons rfl (GK.cons rfl GK.nil))) ?_
 unfold m_spec_l1PickInt at H
 unfold i80
 refine aV (oMov eC (xQ (aS (AW.regm (rmOne (oMov (eR rfl) (xNil (rmOne (oMov (eR rfl) (xNil (rmOne (oMov (eR rfl) (xNil (rmOne (oLenD eZ (n := a3.length) (List.length_map _) (xNil ?_))))))))))))))))
 obtain ⟨v4, h5, H⟩ := obind H
 refine rmCallIC (v0 := pv) (hg := by exact rfl) (ON := [0]) (ls := []) (G := []) (E := [subKey 0]) (MB := [(0, (.vars 3 [(.d (.pin pv)), (dI v4.2.1), (dI v4.2.2)]))]) (u := (oI v4.1)) eC Cl.fn (c_spec_l1Below h5) (Evs.cons (eR rfl) (Evs.cons eZ Evs.nil)) (AO.mut (VO.ptr (es := [(.pin pv), (.int .i64 a2.1), (.int .i64 a2.2)]) bZ rfl rfl rfl) (AO.lent VD.plain rfl AO.nil)) rfl rfl rfl (SZ.consP bZ rfl SZ.nil) (erL.cons (v' := (oI (a3.length : Int))) rfl (erL.cons (v' := (.one (.d (.sl 1 (List.map d_i64 a3))))) rfl (erL.cons (v' := (.one (.ptr (.nm 0 0 0)))) rfl (erL.cons (v' := (.one (.d (.sl 1 (List.map d_i64 a3))))) rfl (erL.cons (v' := (oI 0)) rfl (erL.cons (v' := (.one (.ptr (.nm 0 0 0)))) rfl (erL.cons (v' := (.one (.d (.sl 1 (List.map d_i64 a3))))) rfl erL.nil))))))) (erH.cons (v' := (.vars 3 [(.d (.pin pv)), (dI a2.1), (dI a2.2)])) rfl rfl erH.nil) (erL.cons (v' := (.one (.d (.both pv (.sl 1 (List.map d_u8 cb1)))))) rfl (erL.cons (v' := (.one (.ptr (.nm 0 0 0)))) rfl erL.nil)) rfl rfl (rmRest ?_)
 obtain ⟨v6, h7, H⟩ := obind H
 refine oAtD (eR rfl) eZ h7 (oLoadB (e := (.int .i64 v6)) eZ rfl (oMov eZ (xQ (AW.ret ?_))))
 cases H
 exact endsRM (RL.cons (RV.tmp eZ) (VO.flat rfl) RL.nil) (ML.mut (eS rfl eZ) (VO.ptr (es := [(.pin pv), (.int .i64 v4.2.1), (.int .i64 v4.2.2)]) bZ rfl rfl rfl) (ML.lent ML.nil)) (by decide)
theorem c_spec_l12DrawAny {pv : Value} {cb1 : (List Int)} {a2 : (Int × Int)} {a3 : Int} {r : ((List TLock) × (Int × Int))} (H : m_spec_l12DrawAny cb1 a2 a3 = some r) : FnC Try.prog pv (.sl 1 (List.map d_u8 cb1)) 100 [⟨(.ptr [(.pin pv), (.int .i64 a2.1), (.int .i64 a2.2)]), .m (.ptr [(.pin pv), (.int .i64 r.2.1), (.int .i64 r.2.2)])⟩, ⟨(.int .i64 a3), .b⟩] [(.sl 4 (List.map d_TLock r.1))] := by
 refine n100 (fle rfl) (fle rfl) (fC nZ rfl fN) rfl ?_
 rw [initC_mk]
 refine AW.weaken (t := mk [(0, (.one (.ptr (.nm 0 0 0)))), (1, (oI a3))] [(0, (.vars 3 [(.d (.pin pv)), (dI a2.1), (dI a2.2)]))] (lk [(63, (.one (.d (.both pv (.sl 1 (List.map d_u8 cb1)))))), (0, (.one (.ptr (.nm 0 0 0))))])) (wk_mkG (gl := [(63, (.one (.d (.both pv (.sl 1 (List.map d_u8 cb1)))))), (0, (.one (.ptr (.nm 0 0 0))))]) [] (kv 0 (.one (.ptr (.nm 0 0 0))) rfl rfl (kv 1 (oI a3) rfl rfl SL.nil)) (BL.keep rfl BL.nil) (BK.cons (n := 0) rfl bZ rfl rfl BK.nil) (GK.cons rfl (GK.cons rfl GK.nil))) ?_
 unfold m_spec_l12DrawAny at H
 unfold i100
 refine aV (oMov eC (xQ (aS (AW.regm (rmOne (oMov (eR rfl) (xNil (rmOne (oMov (eR rfl) (xNil ?_))))))))))
 obtain ⟨v4, h5, H⟩ := obind H
 refine rmCallC (v0 := pv) (hg := by exact rfl) (ON := [0]) (ls := []) (G := []) (E := [subKey 0]) (MB := [(0, (.vars 3 [(.d (.pin pv)), (dI v4.2.1), (dI v4.2.2)]))]) (u := (.one (.sl 512 0 v4.1.length))) (bs := [(512, (.data 4 (List.map d_TLock v4.1) true none))]) eC Cl.fn (c_spec_l12DrawLocks h5) (Evs.cons (eR rfl) (Evs.cons eZ Evs.nil)) (AO.mut (VO.ptr (es := [(.pin pv), (.int .i64 a2.1), (.int .i64 a2.2)]) bZ rfl rfl rfl) (AO.lent VD.plain rfl AO.nil)) rfl rfl rfl (SZ.consP bZ rfl SZ.nil) (erL.cons (v' := (oI a3)) rfl (erL.cons (v' := (.one (.ptr (.nm 0 0 0)))) rfl (erL.cons (v' := (.one .zs)) rfl (erL.cons (v' := (.one (.ptr (.nm 0 0 0)))) rfl (erL.cons (v' := (oI a3)) rfl erL.nil))))) (erH.cons (v' := (.vars 3 [(.d (.pin pv)), (dI a2.1), (dI a2.2)])) rfl rfl erH.nil) (erL.cons (v' := (.one (.d (.both pv (.sl 1 (List.map d_u8 cb1)))))) rfl (erL.cons (v' := (.one (.ptr (.nm 0 0 0)))) rfl erL.nil)) (by simp [bindR, bindV, bindVs, bindC, bindCs]) rfl (fC (nS rfl (nS rfl nZ)) rfl (fC (nS rfl (nS rfl nZ)) rfl fN)) (rmRest (oMov eZ (xQ (aS (aS (AW.regm (rmOne (oMov (eR rfl) (xNil ?_)))))))))
 obtain ⟨v6, h7, H⟩ := obind H
 refine rmCallIC (v0 := pv) (hg := by exact rfl) (ON := [0]) (ls := []) (G := []) (E := [subKey 0]) (MB := [(0, (.vars 3 [(.d (.pin pv)), (dI v6.2.1), (dI v6.2.2)]))]) (u := (oI v6.1)) eC Cl.fn (c_spec_l1Below h7) (Evs.cons eZ (Evs.cons eC Evs.nil)) (AO.mut (VO.ptr (es := [(.pin pv), (.int .i64 v4.2.1), (.int .i64 v4.2.2)]) (bS rfl bZ) rfl rfl rfl) (AO.lent VD.plain rfl AO.nil)) rfl rfl rfl (SZ.consP (bS rfl bZ) rfl SZ.nil) (erL.cons (v' := (.one (.ptr (.nm 0 0 0)))) rfl (erL.cons (v' := (.one (.sl 512 0 v4.1.length))) rfl (erL.cons (v' := (.one (.sl 512 0 v4.1.length))) rfl (erL.cons (v' := (oI a3)) rfl (erL.cons (v' := (.one (.ptr (.nm 0 0 0)))) rfl (erL.cons (v' := (.one .zs)) rfl (erL.cons (v' := (.one (.ptr (.nm 0 0 0)))) rfl (erL.cons (v' := (oI a3)) rfl erL.nil)))))))) (erH.cons (v' := (.data 4 (List.map d_TLock v4.1) true none)) rfl rfl (erH.cons (v' := (.vars 3 [(.d (.pin pv)), (dI v4.2.1), (dI v4.2.2)])) rfl rfl (erH.cons (v' := (.vars 3 [(.d (.pin pv)), (dI a2.1), (dI a2.2)])) rfl rfl erH.nil))) (erL.cons (v' := (.one (.d (.both pv (.sl 1 (List.map d_u8 cb1)))))) rfl (erL.cons (v' := (.one (.ptr (.nm 0 0 0)))) rfl erL.nil)) rfl rfl (rmRest (xQ (AW.block (aV (oEql eZ eC (oMov eZ (xQ ?_)))))))
 rcases oite H with ⟨h8, H⟩ | ⟨h8, H⟩
 ·refine AW.condT eZ (dT h8) (AW.regm (rmOne (oMov (eR rfl) (xNil (rmOne (oMov (eR rfl) (xNil (rmOne (oBslice (m := 960) (q := 3) (cs := [(dI 0), (dI 60), (dI 61)]) rfl (PsCons eC (PsCons eC (PsCons eC PsNil))) rfl (List.cons_ne_nil _ _) (by simp) (nS rfl (nS rfl (nS rfl (nS rfl nZ)))) (xNil ?_))))))))))
  obtain ⟨v9, h10, H⟩ := obind H
  refine rmCallIC (v0 := pv) (hg := by exact rfl) (ON := [0]) (ls := [960]) (G := []) (E := [subKey 0]) (MB := [(0, (.vars 3 [(.d (.pin pv)), (dI v9.2.1), (dI v9.2.2)]))]) (u := (oI v9.1)) eC Cl.fn (c_spec_l1PickInt h10) (Evs.cons (eR rfl) (Evs.cons eZ Evs.nil)) (AO.mut (VO.ptr (es := [(.pin pv), (.int .i64 v6.2.1), (.int .i64 v6.2.2)]) (bS rfl bZ) rfl rfl rfl) (AO.lent (VD.vars [(.int .i64 0), (.int .i64 60), (.int .i64 61)] bZ rfl rfl) rfl AO.nil)) rfl rfl rfl (SZ.consP (bS rfl bZ) rfl SZ.nil) (erL.cons (v' := (.one (.sl 960 0 3))) rfl (erL.cons (v' := (.one (.ptr (.nm 0 0 0)))) rfl (erL.cons (v' := (.one (.sl 512 0 v4.1.length))) rfl (erL.cons (v' := (oB (decide (v6.1 = 0)))) rfl (erL.cons (v' := (oB (decide (v6.1 = 0)))) rfl (erL.cons (v' := (oI v6.1)) rfl (erL.cons (v' := (.one (.ptr (.nm 0 0 0)))) rfl (erL.cons (v' := (.one (.sl 512 0 v4.1.length))) rfl (erL.cons (v' := (.one (.sl 512 0 v4.1.length))) rfl (erL.cons (v' := (oI a3)) rfl (erL.cons (v' := (.one (.ptr (.nm 0 0 0)))) rfl (erL.cons (v' := (.one .zs)) rfl (erL.cons (v' := (.one (.ptr (.nm 0 0 0)))) rfl (erL.cons (v' := (oI a3)) rfl erL.nil)))))))))))))) (erH.cons (v' := (.vars 1 [(dI 0), (dI 60), (dI 61)])) rfl rfl (erH.cons (v' := (.vars 3 [(.d (.pin pv)), (dI v6.2.1), (dI v6.2.2)])) rfl rfl (erH.cons (v' := (.data 4 (List.map d_TLock v4.1) true none)) rfl rfl (erH.cons (v' := (.vars 3 [(.d (.pin pv)), (dI v4.2.1), (dI v4.2.2)])) rfl rfl (erH.cons (v' := (.vars 3 [(.d (.pin pv)), (dI a2.1), (dI a2.2)])) rfl rfl erH.nil))))) (erL.cons (v' := (.one (.d (.both pv (.sl 1 (List.map d_u8 cb1)))))) rfl (erL.cons (v' := (.one (.ptr (.nm 0 0 0)))) rfl erL.nil)) rfl rfl (rmRest (oBuild (cs := [(dI v9.1), (dI 900), (dI 901), (dI 1)]) (PsCons eZ (PsCons eC (PsCons eC (PsCons eC PsNil)))) rfl (oBslice (m := 1152) (q := 1) (cs := [(dI v9.1), (dI 900), (dI 901), (dI 1)]) rfl (PsCons eZ PsNil) rfl (List.cons_ne_nil _ _) (by simp) (nS rfl (nS rfl (nS rfl (nS rfl (nS rfl (nS rfl nZ)))))) ?_)))
  obtain ⟨h11, H⟩ := oguard H
  refine oAppNG (f := d_TLock) (xs := v4.1) (ys := [(TLock.mk v9.1 900 901 1)]) (q := (v4.1 ++ ([(TLock.mk v9.1 900 901 1)])).length) (eR rfl) eZ (bS rfl (bS rfl (bS rfl (bS rfl bZ)))) rfl (El.one (f := d_TLock) (t := (TLock.mk v9.1 900 901 1)) (es := [(.int .i64 v9.1), (.int .i64 900), (.int .i64 901), (.int .i64 1)]) bZ rfl rfl rfl) rfl h11 (by decide) (by decide) (erL.cons (v' := (.one (.sl 1152 0 1))) rfl (erL.cons (v' := (.agg [(dI v9.1), (dI 900), (dI 901), (dI 1)])) rfl (erL.cons (v' := (oI v9.1)) rfl (erL.cons (v' := (.one (.sl 960 0 3))) rfl (erL.cons (v' := (.one (.ptr (.nm 0 0 0)))) rfl (erL.cons (v' := (.one .any)) rfl (erL.cons (v' := (oB (decide (v6.1 = 0)))) rfl (erL.cons (v' := (oB (decide (v6.1 = 0)))) rfl (erL.cons (v' := (oI v6.1)) rfl (erL.cons (v' := (.one (.ptr (.nm 0 0 0)))) rfl (erL.cons (v' := (.one .any)) rfl (erL.cons (v' := (.one .any)) rfl (erL.cons (v' := (oI a3)) rfl (erL.cons (v' := (.one (.ptr (.nm 0 0 0)))) rfl (erL.cons (v' := (.one .zs)) rfl (erL.cons (v' := (.one (.ptr (.nm 0 0 0)))) rfl (erL.cons (v' := (oI a3)) rfl erL.nil))))))))))))))))) (erH.cons (v' := (.vars 4 [(dI v9.1), (dI 900), (dI 901), (dI 1)])) rfl rfl (erH.cons (v' := (.vars 3 [(.d (.pin pv)), (dI v9.2.1), (dI v9.2.2)])) rfl rfl (erH.cons (v' := (.vars 1 [(dI 0), (dI 60), (dI 61)])) rfl rfl (erH.cons (v' := (.vars 3 [(.d (.pin pv)), (dI v6.2.1), (dI v6.2.2)])) rfl rfl (erH.drop rfl (erH.cons (v' := (.vars 3 [(.d (.pin pv)), (dI v4.2.1), (dI v4.2.2)])) rfl rfl (erH.cons (v' := (.vars 3 [(.d (.pin pv)), (dI a2.1), (dI a2.2)])) rfl rfl erH.nil))))))) (GK.cons rfl (GK.cons rfl GK.nil)) (oMov eZ (xNil (BQ.qn (TQ.qn (AW.weaken (wk_mkG [1152, 960] (kr 5 rfl rfl SL.nil) (BL.keep rfl (BL.drop rfl (BL.keep rfl (BL.drop rfl (BL.keep rfl (BL.keep rfl (BL.keep rfl BL.nil))))))) (BK.cons (n := 512) rfl bZ rfl rfl (BK.cons (n := 0) rfl (bS rfl (bS rfl bZ)) rfl rfl BK.nil)) (GK.cons rfl (GK.cons rfl GK.nil))) (aV (oMov eZ (oMov eZ (xQ (AW.ret ?_))))))))))
  cases H
  exact endsRM (RL.cons (RV.tmp eZ) (VO.sl bZ (List.length_map _) (allFlat fun _ => rfl)) RL.nil) (ML.mut (eS rfl eZ) (VO.ptr (es := [(.pin pv), (.int .i64 v9.2.1), (.int .i64 v9.2.2)]) (bS rfl bZ) rfl rfl rfl) (ML.lent ML.nil)) (by decide)
 ·refine AW.condF eZ (dF h8) (aV (oEql (eR rfl) eC (oMov eZ (xQ ?_))))
  rcases oite H with ⟨h12, H⟩ | ⟨h12, H⟩
  ·refine AW.condT eZ (dT h12) (AW.regm (rmOne (oMov (eR rfl) (xNil (rmOne (oMov (eR rfl) (xNil (rmOne (oBslice (m := 1536) (q := 2) (cs := [(dI 5), (dI 30)]) rfl (PsCons eC (PsCons eC PsNil)) rfl (List.cons_ne_nil _ _) (by simp) (nS rfl (nS rfl (nS rfl (nS rfl nZ)))) (xNil ?_))))))))))
   obtain ⟨v13, h14, H⟩ := obind H
   refine rmCallIC (v0 := pv) (hg := by exact rfl) (ON := [0]) (ls := [1536]) (G := []) (E := [subKey 0]) (MB := [(0, (.vars 3 [(.d (.pin pv)), (dI v13.2.1), (dI v13.2.2)]))]) (u := (oI v13.1)) eC Cl.fn (c_spec_l1PickInt h14) (Evs.cons (eR rfl) (Evs.cons eZ Evs.nil)) (AO.mut (VO.ptr (es := [(.pin pv), (.int .i64 v6.2.1), (.int .i64 v6.2.2)]) (bS rfl bZ) rfl rfl rfl) (AO.lent (VD.vars [(.int .i64 5), (.int .i64 30)] bZ rfl rfl) rfl AO.nil)) rfl rfl rfl (SZ.consP (bS rfl bZ) rfl SZ.nil) (erL.cons (v' := (.one (.sl 1536 0 2))) rfl (erL.cons (v' := (.one (.ptr (.nm 0 0 0)))) rfl (erL.cons (v' := (.one (.sl 512 0 v4.1.length))) rfl (erL.cons (v' := (oB (decide (v6.1 = 1)))) rfl (erL.cons (v' := (oB (decide (v6.1 = 1)))) rfl (erL.cons (v' := (oB (decide (v6.1 = 0)))) rfl (erL.cons (v' := (oB (decide (v6.1 = 0)))) rfl (erL.cons (v' := (oI v6.1)) rfl (erL.cons (v' := (.one (.ptr (.nm 0 0 0)))) rfl (erL.cons (v' := (.one (.sl 512 0 v4.1.length))) rfl (erL.cons (v' := (.one (.sl 512 0 v4.1.length))) rfl (erL.cons (v' := (oI a3)) rfl (erL.cons (v' := (.one (.ptr (.nm 0 0 0)))) rfl (erL.cons (v' := (.one .zs)) rfl (erL.cons (v' := (.one (.ptr (.nm 0 0 0)))) rfl (erL.cons (v' := (oI a3)) rfl erL.nil)))))))))))))))) (erH.cons (v' := (.vars 1 [(dI 5), (dI 30)])) rfl rfl (erH.cons (v' := (.vars 3 [(.d (.pin pv)), (dI v6.2.1), (dI v6.2.2)])) rfl rfl (erH.cons (v' := (.data 4 (List.map d_TLock v4.1) true none)) rfl rfl (erH.cons (v' := (.vars 3 [(.d (.pin pv)), (dI v4.2.1), (dI v4.2.2)])) rfl rfl (erH.cons (v' := (.vars 3 [(.d (.pin pv)), (dI a2.1), (dI a2.2)])) rfl rfl erH.nil))))) (erL.cons (v' := (.one (.d (.both pv (.sl 1 (List.map d_u8 cb1)))))) rfl (erL.cons (v' := (.one (.ptr (.nm 0 0 0)))) rfl erL.nil)) rfl rfl (rmOne (oMov (eR rfl) (xNil ?_)))
   obtain ⟨v15, h16, H⟩ := obind H
   refine rmCallIC (v0 := pv) (hg := by exact rfl) (ON := [0]) (ls := []) (G := []) (E := [subKey 0]) (MB := [(0, (.vars 3 [(.d (.pin pv)), (dI v15.2.1), (dI v15.2.2)]))]) (u := (oI v15.1)) eC Cl.fn (c_spec_l1Below h16) (Evs.cons eZ (Evs.cons eC Evs.nil)) (AO.mut (VO.ptr (es := [(.pin pv), (.int .i64 v13.2.1), (.int .i64 v13.2.2)]) bZ rfl rfl rfl) (AO.lent VD.plain rfl AO.nil)) rfl rfl rfl (SZ.consP bZ rfl SZ.nil) (erL.cons (v' := (.one (.ptr (.nm 0 0 0)))) rfl (erL.cons (v' := (oI v13.1)) rfl (erL.cons (v' := (.one (.sl 1536 0 2))) rfl (erL.cons (v' := (.one (.ptr (.nm 0 0 0)))) rfl (erL.cons (v' := (.one (.sl 512 0 v4.1.length))) rfl (erL.cons (v' := (oB (decide (v6.1 = 1)))) rfl (erL.cons (v' := (oB (decide (v6.1 = 1)))) rfl (erL.cons (v' := (oB (decide (v6.1 = 0)))) rfl (erL.cons (v' := (oB (decide (v6.1 = 0)))) rfl (erL.cons (v' := (oI v6.1)) rfl (erL.cons (v' := (.one (.ptr (.nm 0 0 0)))) rfl (erL.cons (v' := (.one (.sl 512 0 v4.1.length))) rfl (erL.cons (v' := (.one (.sl 512 0 v4.1.length))) rfl (erL.cons (v' := (oI a3)) rfl (erL.cons (v' := (.one (.ptr (.nm 0 0 0)))) rfl (erL.cons (v' := (.one .zs)) rfl (erL.cons (v' := (.one (.ptr (.nm 0 0 0)))) rfl (erL.cons (v' := (oI a3)) rfl erL.nil)))))))))))))))))) (erH.cons (v' := (.vars 3 [(.d (.pin pv)), (dI v13.2.1), (dI v13.2.2)])) rfl rfl (erH.cons (v' := (.vars 1 [(dI 5), (dI 30)])) rfl rfl (erH.cons (v' := (.vars 3 [(.d (.pin pv)), (dI v6.2.1), (dI v6.2.2)])) rfl rfl (erH.cons (v' := (.data 4 (List.map d_TLock v4.1) true none)) rfl rfl (erH.cons (v' := (.vars 3 [(.d (.pin pv)), (dI v4.2.1), (dI v4.2.2)])) rfl rfl (erH.cons (v' := (.vars 3 [(.d (.pin pv)), (dI a2.1), (dI a2.2)])) rfl rfl erH.nil)))))) (erL.cons (v' := (.one (.d (.both pv (.sl 1 (List.map d_u8 cb1)))))) rfl (erL.cons (v' := (.one (.ptr (.nm 0 0 0)))) rfl erL.nil)) rfl rfl (rmRest (oBuild (cs := [(dI 1), (dI 5), (dI v13.1), (dI v15.1)]) (PsCons eC (PsCons eC (PsCons (eR rfl) (PsCons eZ PsNil)))) rfl (oBslice (m := 1856) (q := 1) (cs := [(dI 1), (dI 5), (dI v13.1), (dI v15.1)]) rfl (PsCons eZ PsNil) rfl (List.cons_ne_nil _ _) (by simp) (nS rfl (nS rfl (nS rfl (nS rfl (nS rfl (nS rfl (nS rfl nZ))))))) ?_)))
   obtain ⟨h17, H⟩ := oguard H
   refine oAppNG (f := d_TLock) (xs := v4.1) (ys := [(TLock.mk 1 5 v13.1 v15.1)]) (q := (v4.1 ++ ([(TLock.mk 1 5 v13.1 v15.1)])).length) (eR rfl) eZ (bS rfl (bS rfl (bS rfl (bS rfl (bS rfl bZ))))) rfl (El.one (f := d_TLock) (t := (TLock.mk 1 5 v13.1 v15.1)) (es := [(.int .i64 1), (.int .i64 5), (.int .i64 v13.1), (.int .i64 v15.1)]) bZ rfl rfl rfl) rfl h17 (by decide) (by decide) (erL.cons (v' := (.one (.sl 1856 0 1))) rfl (erL.cons (v' := (.agg [(dI 1), (dI 5), (dI v13.1), (dI v15.1)])) rfl (erL.cons (v' := (oI v15.1)) rfl (erL.cons (v' := (.one (.ptr (.nm 0 0 0)))) rfl (erL.cons (v' := (oI v13.1)) rfl (erL.cons (v' := (.one (.sl 1536 0 2))) rfl (erL.cons (v' := (.one (.ptr (.nm 0 0 0)))) rfl (erL.cons (v' := (.one .any)) rfl (erL.cons (v' := (oB (decide (v6.1 = 1)))) rfl (erL.cons (v' := (oB (decide (v6.1 = 1)))) rfl (erL.cons (v' := (oB (decide (v6.1 = 0)))) rfl (erL.cons (v' := (oB (decide (v6.1 = 0)))) rfl (erL.cons (v' := (oI v6.1)) rfl (erL.cons (v' := (.one (.ptr (.nm 0 0 0)))) rfl (erL.cons (v' := (.one .any)) rfl (erL.cons (v' := (.one .any)) rfl (erL.cons (v' := (oI a3)) rfl (erL.cons (v' := (.one (.ptr (.nm 0 0 0)))) rfl (erL.cons (v' := (.one .zs)) rfl (erL.cons (v' := (.one (.ptr (.nm 0 0 0)))) rfl (erL.cons (v' := (oI a3)) rfl erL.nil))))))))))))))))))))) (erH.cons (v' := (.vars 4 [(dI 1), (dI 5), (dI v13.1), (dI v15.1)])) rfl rfl (erH.cons (v' := (.vars 3 [(.d (.pin pv)), (dI v15.2.1), (dI v15.2.2)])) rfl rfl (erH.cons (v' := (.vars 3 [(.d (.pin pv)), (dI v13.2.1), (dI v13.2.2)])) rfl rfl (erH.cons (v' := (.vars 1 [(dI 5), (dI 30)])) rfl rfl (erH.cons (v' := (.vars 3 [(.d (.pin pv)), (dI v6.2.1), (dI v6.2.2)])) rfl rfl (erH.drop rfl (erH.cons (v' := (.vars 3 [(.d (.pin pv)), (dI v4.2.1), (dI v4.2.2)])) rfl rfl (erH.cons (v' := (.vars 3 [(.d (.pin pv)), (dI a2.1), (dI a2.2)])) rfl rfl erH.nil)))))))) (GK.cons rfl (GK.cons rfl GK.nil)) (oMov eZ (xNil (BQ.qn (TQ.qn (AW.weaken (wk_mkG [1856, 1536] (kr 5 rfl rfl SL.nil) (BL.keep rfl (BL.drop rfl (BL.keep rfl (BL.keep rfl (BL.drop rfl (BL.keep rfl (BL.keep rfl (BL.keep rfl BL.nil)))))))) (BK.cons (n := 512) rfl bZ rfl rfl (BK.cons (n := 0) rfl (bS rfl (bS rfl bZ)) rfl rfl BK.nil)) (GK.cons rfl (GK.cons rfl GK.nil))) (aV (oMov eZ (oMov eZ (xQ (AW.ret ?_))))))))))
   cases H
   exact endsRM (RL.cons (RV.tmp eZ) (VO.sl bZ (List.length_map _) (allFlat fun _ => rfl)) RL.nil) (ML.mut (eS rfl eZ) (VO.ptr (es := [(.pin pv), (.int .i64 v15.2.1), (.int .i64 v15.2.2)]) (bS rfl bZ) rfl rfl rfl) (ML.lent ML.nil)) (by decide)
  ·refine AW.condF eZ (dF h12) (AW.skip (BQ.qn (TQ.qn (aV (oMov (eR rfl) (oMov eZ (xQ (AW.ret ?_))))))))
   cases H
   exact endsRM (RL.cons (RV.tmp eZ) (VO.sl (bS rfl bZ) (List.length_map _) (allFlat fun _ => rfl)) RL.nil) (ML.mut (eS rfl eZ) (VO.ptr (es := [(.pin pv), (.int .i64 v6.2.1), (.int .i64 v6.2.2)]) bZ rfl rfl rfl) (ML.lent ML.nil)) (by decide)
theorem c_spec_l10DrawRange {pv : Value} {cb1 : (List Int)} {a2 : (Int × Int)} {r : (TRange × (Int × Int))} (H : m_spec_l10DrawRange cb1 a2 = some r) : FnC Try.prog pv (.sl 1 (List.map d_u8 cb1)) 101 [⟨(.ptr [(.pin pv), (.int .i64 a2.1), (.int .i64 a2.2)]), .m (.ptr [(.pin pv), (.int .i64 r.2.1), (.int .i64 r.2.2)])⟩] [(.agg (d_TRange r.1))] := by
 refine n101 (fle rfl) (fle rfl) (fC nZ rfl fN) rfl ?_
 rw [initC_mk]
 refine AW.weaken (t := mk [(0, (.one (.ptr (.nm 0 0 0))))] [(0, (.vars 3 [(.d (.pin pv)), (dI a2.1), (dI a2.2)]))] (lk [(63, (.one (.d (.both pv (.sl 1 (List.map d_u8 cb1)))))), (0, (.one (.ptr (.nm 0 0 0))))])) (wk_mkG (gl := [(63, (.one (.d (.both pv (.sl 1 (List.map d_u8 cb1)))))), (0, (.one (.ptr (.nm 0 0 0))))]) [] (kv 0 (.one (.ptr (.nm 0 0 0))) rfl rfl SL.nil) (BL.keep rfl BL.nil) (BK.cons (n := 0) rfl bZ rfl rfl BK.nil) (GK.cons rfl (GK.cons rfl GK.nil))) ?_
 unfold m_spec_l10DrawRange at H
 unfold i101
 refine aV (oVar (n := 128) (m := 2) rfl rfl (nS rfl nZ) (xQ (aS (AW.regm (rmOne (oMov (eR rfl) (xNil ?_)))))))
 obtain ⟨v3, h4, H⟩ := obind H
 refine rmCallIC (v0 := pv) (hg := by exact rfl) (ON := [0]) (ls := []) (G := []) (E := [subKey 0]) (MB := [(0, (.vars 3 [(.d (.pin pv)), (dI v3.2.1), (dI v3.2.2)]))]) (u := (oI v3.1)) eC Cl.fn (c_spec_l1Below h4) (Evs.cons eZ (Evs.cons eC Evs.nil)) (AO.mut (VO.ptr (es := [(.pin pv), (.int .i64 a2.1), (.int .i64 a2.2)]) (bS rfl bZ) rfl rfl rfl) (AO.lent VD.plain rfl AO.nil)) rfl rfl rfl (SZ.consP (bS rfl bZ) rfl SZ.nil) (erL.cons (v' := (.one (.ptr (.nm 0 0 0)))) rfl (erL.cons (v' := (.one (.ptr (.nm 128 0 0)))) rfl (erL.cons (v' := (.one (.ptr (.nm 0 0 0)))) rfl erL.nil))) (erH.cons (v' := (.vars 2 [(dI 0), (dI 0)])) rfl rfl (erH.cons (v' := (.vars 3 [(.d (.pin pv)), (dI a2.1), (dI a2.2)])) rfl rfl erH.nil)) (erL.cons (v' := (.one (.d (.both pv (.sl 1 (List.map d_u8 cb1)))))) rfl (erL.cons (v' := (.one (.ptr (.nm 0 0 0)))) rfl erL.nil)) rfl rfl (rmRest (oMov eZ (xQ (aS (AW.regm (rmOne (oMov eZ (xNil (rmOne (oMov (eR rfl) (xNil (rmOne (oAdd eZ eC (xNil (rmOne (oMov (eR rfl) (xNil ?_)))))))))))))))))
 obtain ⟨v5, h6, H⟩ := obind H
 refine rmCallIC (v0 := pv) (hg := by exact rfl) (ON := [0]) (ls := []) (G := []) (E := [subKey 0]) (MB := [(0, (.vars 3 [(.d (.pin pv)), (dI v5.2.1), (dI v5.2.2)]))]) (u := (oI v5.1)) eC Cl.fn (c_spec_l1Below h6) (Evs.cons eZ (Evs.cons eC Evs.nil)) (AO.mut (VO.ptr (es := [(.pin pv), (.int .i64 v3.2.1), (.int .i64 v3.2.2)]) bZ rfl rfl rfl) (AO.lent VD.plain rfl AO.nil)) rfl rfl rfl (SZ.consP bZ rfl SZ.nil) (erL.cons (v' := (.one (.ptr (.nm 0 0 0)))) rfl (erL.cons (v' := (oI (IntKind.wrap .i64 (v3.1 + 1)))) rfl (erL.cons (v' := (oI v3.1)) rfl (erL.cons (v' := (oI v3.1)) rfl (erL.cons (v' := (oI v3.1)) rfl (erL.cons (v' := (oI v3.1)) rfl (erL.cons (v' := (.one (.ptr (.nm 0 0 0)))) rfl (erL.cons (v' := (.one (.ptr (.nm 128 0 0)))) rfl (erL.cons (v' := (.one (.ptr (.nm 0 0 0)))) rfl erL.nil))))))))) (erH.cons (v' := (.vars 3 [(.d (.pin pv)), (dI v3.2.1), (dI v3.2.2)])) rfl rfl (erH.cons (v' := (.vars 2 [(dI 0), (dI 0)])) rfl rfl (erH.cons (v' := (.vars 3 [(.d (.pin pv)), (dI a2.1), (dI a2.2)])) rfl rfl erH.nil))) (erL.cons (v' := (.one (.d (.both pv (.sl 1 (List.map d_u8 cb1)))))) rfl (erL.cons (v' := (.one (.ptr (.nm 0 0 0)))) rfl erL.nil)) rfl rfl (rmRest (oAdd (eR rfl) eZ (oBuild (cs := [(dI v3.1), (dI (IntKind.wrap .i64 ((IntKind.wrap .i64 (v3.1 + 1)) + v5.1)))]) (PsCons (eR rfl) (PsCons eZ PsNil)) rfl (oVar (n := 256) (m := 2) rfl rfl (nS rfl (nS rfl (nS rfl (nS rfl nZ)))) (oStoreV (es := [(dI v3.1), (dI (IntKind.wrap .i64 ((IntKind.wrap .i64 (v3.1 + 1)) + v5.1)))]) eZ (eR rfl) rfl rfl bZ rfl (xQ (aS (aS (AW.regm (rmOne (oMov (eR rfl) (xNil ?_))))))))))))
 obtain ⟨v7, h8, H⟩ := obind H
 refine rmCallIC (v0 := pv) (hg := by exact rfl) (ON := [0]) (ls := []) (G := []) (E := [subKey 0]) (MB := [(0, (.vars 3 [(.d (.pin pv)), (dI v7.2.1), (dI v7.2.2)]))]) (u := (oI v7.1)) eC Cl.fn (c_spec_l1Below h8) (Evs.cons eZ (Evs.cons eC Evs.nil)) (AO.mut (VO.ptr (es := [(.pin pv), (.int .i64 v5.2.1), (.int .i64 v5.2.2)]) (bS rfl (bS rfl bZ)) rfl rfl rfl) (AO.lent VD.plain rfl AO.nil)) rfl rfl rfl (SZ.consP (bS rfl (bS rfl bZ)) rfl SZ.nil) (erL.cons (v' := (.one (.ptr (.nm 0 0 0)))) rfl (erL.cons (v' := (.one (.ptr (.nm 256 0 0)))) rfl (erL.cons (v' := (.agg [(dI v3.1), (dI (IntKind.wrap .i64 ((IntKind.wrap .i64 (v3.1 + 1)) + v5.1)))])) rfl (erL.cons (v' := (oI (IntKind.wrap .i64 ((IntKind.wrap .i64 (v3.1 + 1)) + v5.1)))) rfl (erL.cons (v' := (oI v5.1)) rfl (erL.cons (v' := (.one (.ptr (.nm 0 0 0)))) rfl (erL.cons (v' := (oI (IntKind.wrap .i64 (v3.1 + 1)))) rfl (erL.cons (v' := (oI v3.1)) rfl (erL.cons (v' := (oI v3.1)) rfl (erL.cons (v' := (oI v3.1)) rfl (erL.cons (v' := (oI v3.1)) rfl (erL.cons (v' := (.one (.ptr (.nm 0 0 0)))) rfl (erL.cons (v' := (.one (.ptr (.nm 128 0 0)))) rfl (erL.cons (v' := (.one (.ptr (.nm 0 0 0)))) rfl erL.nil)))))))))))))) (erH.cons (v' := (.vars 2 [(dI v3.1), (dI (IntKind.wrap .i64 ((IntKind.wrap .i64 (v3.1 + 1)) + v5.1)))])) rfl rfl (erH.cons (v' := (.vars 2 [(dI 0), (dI 0)])) rfl rfl (erH.cons (v' := (.vars 3 [(.d (.pin pv)), (dI v5.2.1), (dI v5.2.2)])) rfl rfl (erH.cons (v' := (.vars 3 [(.d (.pin pv)), (dI v3.2.1), (dI v3.2.2)])) rfl rfl (erH.cons (v' := (.vars 2 [(dI 0), (dI 0)])) rfl rfl (erH.cons (v' := (.vars 3 [(.d (.pin pv)), (dI a2.1), (dI a2.2)])) rfl rfl erH.nil)))))) (erL.cons (v' := (.one (.d (.both pv (.sl 1 (List.map d_u8 cb1)))))) rfl (erL.cons (v' := (.one (.ptr (.nm 0 0 0)))) rfl erL.nil)) rfl rfl (rmRest (xQ (AW.block (aV (oEql eZ eC (oMov eZ (xQ (AW.weaken (wk_mkG [] (kr 16 rfl rfl (kr 15 rfl rfl (kr 4 rfl rfl (kr 2 rfl rfl (kr 0 rfl rfl SL.nil))))) (BL.keep rfl (BL.keep rfl (BL.keep rfl (BL.keep rfl (BL.keep rfl (BL.keep rfl (BL.keep rfl BL.nil))))))) (BK.cons (n := 0) rfl bZ rfl rfl (BK.cons (n := 256) rfl (bS rfl bZ) rfl rfl (BK.cons (n := 128) rfl (bS rfl (bS rfl (bS rfl (bS rfl (bS rfl bZ))))) rfl rfl BK.nil))) (GK.cons rfl (GK.cons rfl GK.nil))) ?_))))))))
 rcases oite H with ⟨h9, H⟩ | ⟨h9, H⟩
 ·refine AW.condT eZ (dT h9) (AW.regp [256] (rpOne rfl (oFaddrN (m := 0) (eR rfl) rfl (xNil (rpLoad eZ rfl (oLoadV (q := 0) (c := (dI v3.1)) eZ (bS rfl bZ) rfl rfl (xNil (rpOne rfl (oMov (eR rfl) (xNil (rpNil ?_)))))))))))
  obtain ⟨v10, h11, H⟩ := obind H
  refine rtCallIC (v0 := pv) (hg := by exact rfl) (ON := [0]) (ls := []) (G := []) (E := [subKey 0]) (MB := [(0, (.vars 3 [(.d (.pin pv)), (dI v10.2.1), (dI v10.2.2)]))]) (u := (oI v10.1)) eC Cl.fn (c_spec_l1Below h11) (Evs.cons eZ (Evs.cons eC Evs.nil)) (AO.mut (VO.ptr (es := [(.pin pv), (.int .i64 v7.2.1), (.int .i64 v7.2.2)]) bZ rfl rfl rfl) (AO.lent VD.plain rfl AO.nil)) rfl rfl rfl (SZ.consP bZ rfl SZ.nil) (erL.cons (v' := (.one (.ptr (.nm 0 0 0)))) rfl (erL.cons (v' := (oI v3.1)) rfl (erL.cons (v' := (.one (.ptr (.nm 256 0 0)))) rfl (erL.cons (v' := (oB (decide (v7.1 = 0)))) rfl (erL.cons (v' := (oI v7.1)) rfl (erL.cons (v' := (.one (.ptr (.nm 256 0 0)))) rfl (erL.cons (v' := (.one (.ptr (.nm 128 0 0)))) rfl (erL.cons (v' := (.one (.ptr (.nm 0 0 0)))) rfl erL.nil)))))))) (erH.cons (v' := (.vars 3 [(.d (.pin pv)), (dI v7.2.1), (dI v7.2.2)])) rfl rfl (erH.cons (v' := (.vars 2 [(dI v3.1), (dI (IntKind.wrap .i64 ((IntKind.wrap .i64 (v3.1 + 1)) + v5.1)))])) rfl rfl (erH.cons (v' := (.vars 2 [(dI 0), (dI 0)])) rfl rfl erH.nil))) (erL.cons (v' := (.one (.d (.both pv (.sl 1 (List.map d_u8 cb1)))))) rfl (erL.cons (v' := (.one (.ptr (.nm 0 0 0)))) rfl erL.nil)) rfl rfl rfl (rtNil (ruOne rfl (oSub (eR rfl) eZ (xNil (ruOne rfl (oFaddrN (m := 1) (eR rfl) rfl (xNil (ruStep rfl (oStoreV (es := [(dI v3.1), (dI (IntKind.wrap .i64 (v3.1 - v10.1)))]) eZ (eR rfl) rfl rfl (bS rfl (bS rfl bZ)) rfl (xNil (ruNil (BQ.qn (TQ.qn (aV (oLoadVA (es := [(dI v3.1), (dI (IntKind.wrap .i64 (v3.1 - v10.1)))]) (eR rfl) bZ rfl (oStoreV (es := [(dI v3.1), (dI (IntKind.wrap .i64 (v3.1 - v10.1)))]) (eR rfl) eZ rfl rfl (bS rfl (bS rfl (bS rfl (bS rfl bZ)))) rfl (xQ (AW.ret ?_))))))))))))))))))
  cases H
  exact endsRM (RL.cons (RV.cellA (es := [(dI v3.1), (dI (IntKind.wrap .i64 (v3.1 - v10.1)))]) (eR rfl) bZ rfl) (VO.agg (ds := [(.int .i64 v3.1), (.int .i64 (IntKind.wrap .i64 (v3.1 - v10.1)))]) rfl rfl) RL.nil) (ML.mut (eS rfl eZ) (VO.ptr (es := [(.pin pv), (.int .i64 v10.2.1), (.int .i64 v10.2.2)]) (bS rfl (bS rfl bZ)) rfl rfl rfl) ML.nil) (by decide)
 ·refine AW.condF eZ (dF h9) (aV (oEql (eR rfl) eC (oMov eZ (xQ ?_))))
  rcases oite H with ⟨h12, H⟩ | ⟨h12, H⟩
  ·refine AW.condT eZ (dT h12) (AW.regm (rmOne (oMov (eR rfl) (xNil (rmOne (oBslice (m := 1728) (q := 3) (cs := [(dI (-1)), (dI 0), (dI 990)]) rfl (PsCons eC (PsCons eC (PsCons eC PsNil))) rfl (List.cons_ne_nil _ _) (by simp) (nS rfl (nS rfl (nS rfl nZ))) (xNil ?_)))))))
   obtain ⟨v13, h14, H⟩ := obind H
   refine rmCallIC (v0 := pv) (hg := by exact rfl) (ON := [0]) (ls := [1728]) (G := []) (E := [subKey 0]) (MB := [(0, (.vars 3 [(.d (.pin pv)), (dI v13.2.1), (dI v13.2.2)]))]) (u := (oI v13.1)) eC Cl.fn (c_spec_l1PickInt h14) (Evs.cons (eR rfl) (Evs.cons eZ Evs.nil)) (AO.mut (VO.ptr (es := [(.pin pv), (.int .i64 v7.2.1), (.int .i64 v7.2.2)]) (bS rfl bZ) rfl rfl rfl) (AO.lent (VD.vars [(.int .i64 (-1)), (.int .i64 0), (.int .i64 990)] bZ rfl rfl) rfl AO.nil)) rfl rfl rfl (SZ.consP (bS rfl bZ) rfl SZ.nil) (erL.cons (v' := (.one (.sl 1728 0 3))) rfl (erL.cons (v' := (.one (.ptr (.nm 0 0 0)))) rfl (erL.cons (v' := (oB (decide (v7.1 = 1)))) rfl (erL.cons (v' := (oB (decide (v7.1 = 1)))) rfl (erL.cons (v' := (oB (decide (v7.1 = 0)))) rfl (erL.cons (v' := (oI v7.1)) rfl (erL.cons (v' := (.one (.ptr (.nm 256 0 0)))) rfl (erL.cons (v' := (.one (.ptr (.nm 128 0 0)))) rfl (erL.cons (v' := (.one (.ptr (.nm 0 0 0)))) rfl erL.nil))))))))) (erH.cons (v' := (.vars 1 [(dI (-1)), (dI 0), (dI 990)])) rfl rfl (erH.cons (v' := (.vars 3 [(.d (.pin pv)), (dI v7.2.1), (dI v7.2.2)])) rfl rfl (erH.cons (v' := (.vars 2 [(dI v3.1), (dI (IntKind.wrap .i64 ((IntKind.wrap .i64 (v3.1 + 1)) + v5.1)))])) rfl rfl (erH.cons (v' := (.vars 2 [(dI 0), (dI 0)])) rfl rfl erH.nil)))) (erL.cons (v' := (.one (.d (.both pv (.sl 1 (List.map d_u8 cb1)))))) rfl (erL.cons (v' := (.one (.ptr (.nm 0 0 0)))) rfl erL.nil)) rfl rfl (rmOne (oMov (eR rfl) (xNil (rmOne (oBslice (m := 1920) (q := 2) (cs := [(dI 1000), (dI 1001)]) rfl (PsCons eC (PsCons eC PsNil)) rfl (List.cons_ne_nil _ _) (by simp) (nS rfl (nS rfl (nS rfl (nS rfl (nS rfl nZ))))) (xNil ?_))))))
   obtain ⟨v15, h16, H⟩ := obind H
   refine rmCallIC (v0 := pv) (hg := by exact rfl) (ON := [0]) (ls := [1920]) (G := []) (E := [subKey 0]) (MB := [(0, (.vars 3 [(.d (.pin pv)), (dI v15.2.1), (dI v15.2.2)]))]) (u := (oI v15.1)) eC Cl.fn (c_spec_l1PickInt h16) (Evs.cons (eR rfl) (Evs.cons eZ Evs.nil)) (AO.mut (VO.ptr (es := [(.pin pv), (.int .i64 v13.2.1), (.int .i64 v13.2.2)]) (bS rfl bZ) rfl rfl rfl) (AO.lent (VD.vars [(.int .i64 1000), (.int .i64 1001)] bZ rfl rfl) rfl AO.nil)) rfl rfl rfl (SZ.consP (bS rfl bZ) rfl SZ.nil) (erL.cons (v' := (.one (.sl 1920 0 2))) rfl (erL.cons (v' := (.one (.ptr (.nm 0 0 0)))) rfl (erL.cons (v' := (oI v13.1)) rfl (erL.cons (v' := (.one (.sl 1728 0 3))) rfl (erL.cons (v' := (.one (.ptr (.nm 0 0 0)))) rfl (erL.cons (v' := (oB (decide (v7.1 = 1)))) rfl (erL.cons (v' := (oB (decide (v7.1 = 1)))) rfl (erL.cons (v' := (oB (decide (v7.1 = 0)))) rfl (erL.cons (v' := (oI v7.1)) rfl (erL.cons (v' := (.one (.ptr (.nm 256 0 0)))) rfl (erL.cons (v' := (.one (.ptr (.nm 128 0 0)))) rfl (erL.cons (v' := (.one (.ptr (.nm 0 0 0)))) rfl erL.nil)))))))))))) (erH.cons (v' := (.vars 1 [(dI 1000), (dI 1001)])) rfl rfl (erH.cons (v' := (.vars 3 [(.d (.pin pv)), (dI v13.2.1), (dI v13.2.2)])) rfl rfl (erH.cons (v' := (.vars 1 [(dI (-1)), (dI 0), (dI 990)])) rfl rfl (erH.cons (v' := (.vars 3 [(.d (.pin pv)), (dI v7.2.1), (dI v7.2.2)])) rfl rfl (erH.cons (v' := (.vars 2 [(dI v3.1), (dI (IntKind.wrap .i64 ((IntKind.wrap .i64 (v3.1 + 1)) + v5.1)))])) rfl rfl (erH.cons (v' := (.vars 2 [(dI 0), (dI 0)])) rfl rfl erH.nil)))))) (erL.cons (v' := (.one (.d (.both pv (.sl 1 (List.map d_u8 cb1)))))) rfl (erL.cons (v' := (.one (.ptr (.nm 0 0 0)))) rfl erL.nil)) rfl rfl (rmRest (oBuild (cs := [(dI v13.1), (dI v15.1)]) (PsCons (eR rfl) (PsCons eZ PsNil)) rfl (oStoreV (es := [(dI v13.1), (dI v15.1)]) (eR rfl) eZ rfl rfl (bS rfl (bS rfl (bS rfl (bS rfl (bS rfl bZ))))) rfl (xNil (BQ.qn (TQ.qn (aV (oLoadVA (es := [(dI v13.1), (dI v15.1)]) (eR rfl) bZ rfl (oStoreV (es := [(dI v13.1), (dI v15.1)]) (eR rfl) eZ rfl rfl (bS rfl (bS rfl (bS rfl (bS rfl (bS rfl (bS rfl (bS rfl bZ))))))) rfl (xQ (AW.ret ?_)))))))))))
   cases H
   exact endsRM (RL.cons (RV.cellA (es := [(dI v13.1), (dI v15.1)]) (eR rfl) bZ rfl) (VO.agg (ds := [(.int .i64 v13.1), (.int .i64 v15.1)]) rfl rfl) RL.nil) (ML.mut (eS rfl eZ) (VO.ptr (es := [(.pin pv), (.int .i64 v15.2.1), (.int .i64 v15.2.2)]) (bS rfl (bS rfl bZ)) rfl rfl rfl) ML.nil) (by decide)
  ·refine AW.condF eZ (dF h12) (AW.skip (BQ.qn (TQ.qn (aV (oLoadVA (es := [(dI v3.1), (dI (IntKind.wrap .i64 ((IntKind.wrap .i64 (v3.1 + 1)) + v5.1)))]) (eR rfl) (bS rfl bZ) rfl (oStoreV (es := [(dI v3.1), (dI (IntKind.wrap .i64 ((IntKind.wrap .i64 (v3.1 + 1)) + v5.1)))]) (eR rfl) eZ rfl rfl (bS rfl (bS rfl bZ)) rfl (xQ (AW.ret ?_))))))))
   cases H
   exact endsRM (RL.cons (RV.cellA (es := [(dI v3.1), (dI (IntKind.wrap .i64 ((IntKind.wrap .i64 (v3.1 + 1)) + v5.1)))]) (eR rfl) bZ rfl) (VO.agg (ds := [(.int .i64 v3.1), (.int .i64 (IntKind.wrap .i64 ((IntKind.wrap .i64 (v3.1 + 1)) + v5.1)))]) rfl rfl) RL.nil) (ML.mut (eS rfl eZ) (VO.ptr (es := [(.pin pv), (.int .i64 v7.2.1), (.int .i64 v7.2.2)]) (bS rfl bZ) rfl rfl rfl) ML.nil) (by decide)
end Go.AW
