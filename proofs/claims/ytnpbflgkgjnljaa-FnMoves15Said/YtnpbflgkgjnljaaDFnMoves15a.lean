/- That functions of the program compute what the plain functions say. Conditions: each theorem's own. -/
import Derived.Test.YtnpbflgkgjnljaaMFnMoves15
import Derived.Test.YtnpbflgkgjnljaaGFnMoves15
set_option linter.unusedVariables false
set_option linter.unusedSimpArgs false
set_option maxRecDepth 100000
namespace Go.AW
open Go.Proofs
theorem c_laws_big{a1:(List Int)}{r:Bool}(H:m_laws_big a1=some r):Fn Try.prog 7 (lent [(.sl 1 (List.map d_u8 a1))]) true [(.bool r)]:=by
 refine f7 (fle rfl) ?_
 rw[init_mk]
 refine AW.weaken (wk_mk [] (kv 0 (.one (.d (.sl 1 (List.map d_u8 a1)))) rfl rfl SL.nil) BL.nil BK.nil) ?_
 unfold m_laws_big at H
 unfold i7
 refine aV (oMov eC (xQ (aV (oMov (eR rfl) (oLenD eZ (n:=a1.length) (List.length_map _) (oGtr eZ eC (oMov eZ (xQ (AW.ret ?_)))))))))
 cases H
 exact eE rfl rfl
theorem c_spec_l1New{pv:Value}{cb1:(List Int)}{r:(Int×Int)}(H:m_spec_l1New cb1=some r):FnC Try.prog pv (.sl 1 (List.map d_u8 cb1)) 36 [⟨(.pin pv),.b⟩] [(.ptr [(.pin pv),(.int .i64 r.1),(.int .i64 r.2)])]:=by
 refine n36 (fle rfl) (fle rfl) trivial rfl ?_
 rw[initC_mk]
 refine AW.weaken (t:=mk [(0,(.one (.d (.pin pv))))] [] (lk [(63,(.one (.d (.both pv (.sl 1 (List.map d_u8 cb1))))))])) (wk_mkG (gl:=[(63,(.one (.d (.both pv (.sl 1 (List.map d_u8 cb1))))))]) [] (kv 0 (.one (.d (.pin pv))) rfl rfl SL.nil) BL.nil BK.nil (GK.cons rfl GK.nil)) ?_
 unfold m_spec_l1New at H
 unfold i36
 refine AW.weaken (wk_both 0 (by exact rfl) (by exact rfl)) (aV (oMov eC (xQ (aV (oMov (eR rfl) (oLenB eZ (n:=cb1.length) (List.length_map _) (oAdd eC eZ (oMov eZ (xQ (AW.seqJ (fun t2:Int=>spec_l1New_j2 t2=some r) (fun t2=>mk [(0,(.one (.d (.both pv (.sl 1 (List.map d_u8 cb1)))))),(3,(oI t2))] [] (lk [(63,(.one (.d (.both pv (.sl 1 (List.map d_u8 cb1))))))])) ?_ ?_))))))))))
 ·intro t2 H
  unfold spec_l1New_j2 at H
  refine aV (oMov eZ (oMov (eR rfl) (oBuild (cs:=[(.d (.both pv (.sl 1 (List.map d_u8 cb1)))),(dI 0),(dI t2)]) (PsCons (eR rfl) (PsCons eZ PsNil)) rfl (oBox (n:=1984) (m:=3) (cs:=[(.d (.both pv (.sl 1 (List.map d_u8 cb1)))),(dI 0),(dI t2)]) rfl eZ rfl rfl nZ (oMov eZ (xQ (AW.weaken (wk_cellP (by exact rfl) bZ) (AW.ret ?_))))))))
  cases H
  exact endsRM (RL.cons (RV.tmp eZ) (VO.ptr (es:=[(.pin pv),(.int .i64 0),(.int .i64 t2)]) bZ rfl rfl rfl) RL.nil) (ML.lent ML.nil) (by decide)
 ·refine aV (oMov eC (xQ (AW.block (AW.iter (fun s4:(Int×Int)=>mk [(0,(.one (.d (.both pv (.sl 1 (List.map d_u8 cb1)))))),(3,(oI s4.1)),(4,(oI s4.2))] [] (lk [(63,(.one (.d (.both pv (.sl 1 (List.map d_u8 cb1))))))])) H (wk_mkG [] (kR rfl rfl (kR rfl rfl (kR rfl rfl SL.nil))) BL.nil BK.nil (GK.cons rfl GK.nil)) ?_))))
  intro kb5 s4 H
  unfold spec_l1New_b4 at H
  refine aS (aV (oMov (eR rfl) (oMov (eR rfl) (oLenB eZ (n:=cb1.length) (List.length_map _) (oLss (eR rfl) eZ (oMov eZ ?_))))))
  rcases oite H with⟨h6,H⟩|⟨h6,H⟩
  ·refine gDo eZ (dT h6) (oMov (eR rfl) (gDo (eR rfl) (dT h6) (oLss eZ eC (oPickT (eR rfl) (dT h6) eZ (xQ ?_)))))
   rcases oite H with⟨h7,H⟩|⟨h7,H⟩
   ·refine AW.condT eZ (dT h7) (AW.skip (TQ.qn (aS (AW.block (aR (oMov (eR rfl) (oMul eZ eC (oMov (eR rfl) (oMov (eR rfl) ?_)))))))))
    obtain⟨v8,h9,H⟩:=obind H
    exact oAtB (eR rfl) eZ h9 (oLoadB (e:=(.int .u8 v8)) eZ rfl (oConv eZ (oAdd (eR rfl) eZ (oAdd eZ eC (oAnd eZ eC (oMov eZ (xNil (BQ.qn (TQ.qn (AW.weaken (wk_mkG [] (kr 3 rfl rfl (kr 0 rfl rfl (kr 4 rfl rfl SL.nil))) BL.nil BK.nil (GK.cons rfl GK.nil)) (aR (oMov (eR rfl) (oAdd eZ eC (oMov eZ (xNil (TQ.qn ⟨((IntKind.wrap .i64 (BitVec.ofInt (IntKind.bits .i64) (IntKind.wrap .i64 ((IntKind.wrap .i64 ((IntKind.wrap .i64 (s4.1 * 131))+(IntKind.wrap .i64 v8)))+7))&&& BitVec.ofInt (IntKind.bits .i64) 1073741823).toNat),(IntKind.wrap .i64 (s4.2+1))),H,(wk_mkG [] (kR rfl rfl (kR rfl rfl (kR rfl rfl SL.nil))) BL.nil BK.nil (GK.cons rfl GK.nil))⟩))))))))))))))))
   ·exact AW.condF eZ (dF h7) (AW.exit (TQ.qe (TQ.qe (BQ.qe (TQ.qn ⟨s4.1,H,(wk_mkG [] (kR rfl rfl (kR rfl rfl SL.nil)) BL.nil BK.nil (GK.cons rfl GK.nil))⟩)))))
  ·exact gSkip eZ (dF h6) rfl (gSkip (eR rfl) (dF h6) rfl (oPickF (eR rfl) (dF h6) eC (xQ (AW.condF eZ rfl (AW.exit (TQ.qe (TQ.qe (BQ.qe (TQ.qn ⟨s4.1,H,(wk_mkG [] (kR rfl rfl (kR rfl rfl SL.nil)) BL.nil BK.nil (GK.cons rfl GK.nil))⟩)))))))))
theorem c_spec_l1Size{pv:Value}{cb1:(List Int)}{a2:Int}{r:Int}(H:m_spec_l1Size cb1 a2=some r):FnC Try.prog pv (.sl 1 (List.map d_u8 cb1)) 38 [⟨(.pin pv),.b⟩,⟨(.int .i64 a2),.b⟩] [(.int .i64 r)]:=by
 refine n38 (fle rfl) (fle rfl) trivial rfl ?_
 rw[initC_mk]
 refine AW.weaken (t:=mk [(0,(.one (.d (.pin pv)))),(1,(oI a2))] [] (lk [(63,(.one (.d (.both pv (.sl 1 (List.map d_u8 cb1))))))])) (wk_mkG (gl:=[(63,(.one (.d (.both pv (.sl 1 (List.map d_u8 cb1))))))]) [] (kv 0 (.one (.d (.pin pv))) rfl rfl (kv 1 (oI a2) rfl rfl SL.nil)) BL.nil BK.nil (GK.cons rfl GK.nil)) ?_
 unfold m_spec_l1Size at H
 unfold i38
 refine AW.weaken (wk_both 0 (by exact rfl) (by exact rfl)) (aV (oMov eC (xQ (aV (oMov (eR rfl) (oLenB eZ (n:=cb1.length) (List.length_map _) (oQuo eZ eC (by decide) (oAdd eC eZ (oMov eZ (xQ (aS (aV (oMov eZ (oMov (eR rfl) (oGtr (eR rfl) eZ (xQ ?_))))))))))))))))
 rcases oite H with⟨h3,H⟩|⟨h3,H⟩
 ·refine AW.condT eZ (dT h3) (aV (oMov (eR rfl) (oMov eZ (xQ (AW.ret (TQ.qr ?_))))))
  cases H
  exact endsRM (RL.cons (RV.tmp eZ) (VO.flat rfl) RL.nil) (ML.lent (ML.lent ML.nil)) (by decide)
 ·refine AW.condF eZ (dF h3) (AW.skip (TQ.qn (aV (oMov (eR rfl) (oMov eZ (xQ (AW.ret ?_)))))))
  cases H
  exact endsRM (RL.cons (RV.tmp eZ) (VO.flat rfl) RL.nil) (ML.lent (ML.lent ML.nil)) (by decide)
theorem c_spec_l1Byte{pv:Value}{cb1:(List Int)}{a2:(Int×Int)}{r:(Int×(Int×Int))}(H:m_spec_l1Byte cb1 a2=some r):FnC Try.prog pv (.sl 1 (List.map d_u8 cb1)) 94 [⟨(.ptr [(.pin pv),(.int .i64 a2.1),(.int .i64 a2.2)]),.m (.ptr [(.pin pv),(.int .i64 r.2.1),(.int .i64 r.2.2)])⟩] [(.int .i64 r.1)]:=by
 refine n94 (fle rfl) (fle rfl) (fC nZ rfl fN) rfl ?_
 rw[initC_mk]
 refine AW.weaken (t:=mk [(0,(.one (.ptr (.nm 0 0 0))))] [(0,(.vars 3 [(.d (.pin pv)),(dI a2.1),(dI a2.2)]))] (lk [(63,(.one (.d (.both pv (.sl 1 (List.map d_u8 cb1)))))),(0,(.one (.ptr (.nm 0 0 0))))])) (wk_mkG (gl:=[(63,(.one (.d (.both pv (.sl 1 (List.map d_u8 cb1)))))),(0,(.one (.ptr (.nm 0 0 0))))]) [] (kv 0 (.one (.ptr (.nm 0 0 0))) rfl rfl SL.nil) (BL.keep rfl BL.nil) (BK.cons (n:=0) rfl bZ rfl rfl BK.nil) (GK.cons rfl (GK.cons rfl GK.nil))) ?_
 unfold m_spec_l1Byte at H
 unfold i94
 refine AW.weaken (wk_cellB (by exact rfl) bZ) (aV (oMov eC (xQ (aV (oMov (eR rfl) (oMov (eR rfl) (oNilchk eZ (oFaddrN (m:=2) eZ rfl (oLoadV (q:=2) (c:=(dI a2.2)) eZ bZ rfl rfl (oMul eZ eC (oAdd eZ eC (oNilchk (eR rfl) (oFaddrN (m:=2) eZ rfl (oStoreV (es:=[(.d (.both pv (.sl 1 (List.map d_u8 cb1)))),(dI a2.1),(dI (IntKind.wrap .i64 ((IntKind.wrap .i64 (a2.2 * 6364136223846793005))+1442695040888963407)))]) eZ (eR rfl) rfl rfl bZ rfl (xQ (aS (AW.regd (oMov (eR rfl) (oNilchk eZ (oFaddrN (m:=2) eZ rfl (oLoadV (q:=2) (c:=(dI (IntKind.wrap .i64 ((IntKind.wrap .i64 (a2.2 * 6364136223846793005))+1442695040888963407)))) eZ bZ rfl rfl (oShr eZ eC (by decide) (oMov (eR rfl) (oNilchk eZ (oFaddrN (m:=2) eZ rfl (oLoadV (q:=2) (c:=(dI (IntKind.wrap .i64 ((IntKind.wrap .i64 (a2.2 * 6364136223846793005))+1442695040888963407)))) eZ bZ rfl rfl (oShr eZ eC (by decide) (oXor (eR rfl) eZ (oAnd eZ eC (oMov eZ (xQ (AW.weaken (wk_mkG [] (kr 3 rfl rfl (kr 0 rfl rfl SL.nil)) (BL.keep rfl (BL.keep rfl (BL.keep rfl BL.nil))) (BK.cons (n:=0) rfl bZ rfl rfl BK.nil) (GK.cons rfl (GK.cons rfl GK.nil))) (aS (aS ?_))))))))))))))))))))))))))))))))))
 refine AW.regd (oMov (eR rfl) (oNilchk eZ (oFaddrN (m:=1) eZ rfl (oLoadV (q:=1) (c:=(dI a2.1)) eZ bZ rfl rfl (oMov (eR rfl) (oNilchk eZ (oFaddrN (m:=0) eZ rfl (oLoadV (q:=0) (c:=(.d (.both pv (.sl 1 (List.map d_u8 cb1))))) eZ bZ rfl rfl (oLenB eZ (n:=cb1.length) (List.length_map _) (oLss (eR rfl) eZ (xQ ?_)))))))))))
 rcases oite H with⟨h3,H⟩|⟨h3,H⟩
 ·refine AW.condT eZ (dT h3) (aS (AW.regd (oMov (eR rfl) (oMov (eR rfl) (oNilchk eZ (oFaddrN (m:=0) eZ rfl (oLoadV (q:=0) (c:=(.d (.both pv (.sl 1 (List.map d_u8 cb1))))) eZ bZ rfl rfl (oMov (eR rfl) (oNilchk eZ (oFaddrN (m:=1) eZ rfl (oLoadV (q:=1) (c:=(dI a2.1)) eZ bZ rfl rfl ?_)))))))))))
  obtain⟨v4,h5,H⟩:=obind H
  refine oAtB (eR rfl) eZ h5 (oLoadB (e:=(.int .u8 v4)) eZ rfl (oConv eZ (oAdd (eR rfl) eZ (oAnd eZ eC (oMov eZ (xQ (AW.weaken (wk_mkG [] (kr 3 rfl rfl (kr 0 rfl rfl SL.nil)) (BL.keep rfl BL.nil) (BK.cons (n:=0) rfl bZ rfl rfl BK.nil) (GK.cons rfl (GK.cons rfl GK.nil))) (aR (oMov (eR rfl) (oMov (eR rfl) (oNilchk eZ (oFaddrN (m:=1) eZ rfl (oLoadV (q:=1) (c:=(dI a2.1)) eZ bZ rfl rfl (oAdd eZ eC (oNilchk (eR rfl) (oFaddrN (m:=1) eZ rfl (oStoreV (es:=[(.d (.both pv (.sl 1 (List.map d_u8 cb1)))),(dI (IntKind.wrap .i64 (a2.1+1))),(dI (IntKind.wrap .i64 ((IntKind.wrap .i64 (a2.2 * 6364136223846793005))+1442695040888963407)))]) eZ (eR rfl) rfl rfl bZ rfl (xQ (aV (oMov (eR rfl) (oMov eZ (xQ (AW.weaken (wk_cellP (by exact rfl) bZ) (AW.ret ?_))))))))))))))))))))))))
  cases H
  exact endsRM (RL.cons (RV.tmp eZ) (VO.flat rfl) RL.nil) (ML.mut (eS rfl eZ) (VO.ptr (es:=[(.pin pv),(.int .i64 (IntKind.wrap .i64 (a2.1+1))),(.int .i64 (IntKind.wrap .i64 ((IntKind.wrap .i64 (a2.2 * 6364136223846793005))+1442695040888963407)))]) bZ rfl rfl rfl) ML.nil) (by decide)
 ·refine AW.condF eZ (dF h3) (AW.skip (TQ.qn (aV (oMov (eR rfl) (oMov eZ (xQ (AW.weaken (wk_cellP (by exact rfl) bZ) (AW.ret ?_))))))))
  cases H
  exact endsRM (RL.cons (RV.tmp eZ) (VO.flat rfl) RL.nil) (ML.mut (eS rfl eZ) (VO.ptr (es:=[(.pin pv),(.int .i64 a2.1),(.int .i64 (IntKind.wrap .i64 ((IntKind.wrap .i64 (a2.2 * 6364136223846793005))+1442695040888963407)))]) bZ rfl rfl rfl) ML.nil) (by decide)
theorem c_spec_l1Below{pv:Value}{cb1:(List Int)}{a2:(Int×Int)}{a3:Int}{r:(Int×(Int×Int))}(H:m_spec_l1Below cb1 a2 a3=some r):FnC Try.prog pv (.sl 1 (List.map d_u8 cb1)) 50 [⟨(.ptr [(.pin pv),(.int .i64 a2.1),(.int .i64 a2.2)]),.m (.ptr [(.pin pv),(.int .i64 r.2.1),(.int .i64 r.2.2)])⟩,⟨(.int .i64 a3),.b⟩] [(.int .i64 r.1)]:=by
 refine n50 (fle rfl) (fle rfl) (fC nZ rfl fN) rfl ?_
 rw[initC_mk]
 refine AW.weaken (t:=mk [(0,(.one (.ptr (.nm 0 0 0)))),(1,(oI a3))] [(0,(.vars 3 [(.d (.pin pv)),(dI a2.1),(dI a2.2)]))] (lk [(63,(.one (.d (.both pv (.sl 1 (List.map d_u8 cb1)))))),(0,(.one (.ptr (.nm 0 0 0))))])) (wk_mkG (gl:=[(63,(.one (.d (.both pv (.sl 1 (List.map d_u8 cb1)))))),(0,(.one (.ptr (.nm 0 0 0))))]) [] (kv 0 (.one (.ptr (.nm 0 0 0))) rfl rfl (kv 1 (oI a3) rfl rfl SL.nil)) (BL.keep rfl BL.nil) (BK.cons (n:=0) rfl bZ rfl rfl BK.nil) (GK.cons rfl (GK.cons rfl GK.nil))) ?_
 unfold m_spec_l1Below at H
 unfold i50
 refine aV (oMov eC (xQ (aS (aV (oMov (eR rfl) (oLeq eZ eC (xQ ?_)))))))
 rcases oite H with⟨h4,H⟩|⟨h4,H⟩
 ·refine AW.condT eZ (dT h4) (aV (oMov eC (xQ (AW.ret (TQ.qr ?_)))))
  cases H
  exact endsRM (RL.cons (RV.tmp eZ) (VO.flat rfl) RL.nil) (ML.mut (eS rfl eZ) (VO.ptr (es:=[(.pin pv),(.int .i64 a2.1),(.int .i64 a2.2)]) bZ rfl rfl rfl) (ML.lent ML.nil)) (by decide)
 ·refine AW.condF eZ (dF h4) (AW.skip (TQ.qn (aS (aV (oMov (eR rfl) (oLeq eZ eC (xQ ?_)))))))
  rcases oite H with⟨h5,H⟩|⟨h5,H⟩
  ·refine AW.condT eZ (dT h5) (aS (AW.regm (rmOne (oMov (eR rfl) (xNil ?_)))))
   obtain⟨v6,h7,H⟩:=obind H
   refine rmCallIC (v0:=pv) (hg:=by exact rfl) (ON:=[0]) (ls:=[]) (G:=[]) (E:=[subKey 0]) (MB:=[(0,(.vars 3 [(.d (.pin pv)),(dI v6.2.1),(dI v6.2.2)]))]) (u:=(oI v6.1)) eC Cl.fn (c_spec_l1Byte h7) (Evs.cons eZ Evs.nil) (AO.mut (VO.ptr (es:=[(.pin pv),(.int .i64 a2.1),(.int .i64 a2.2)]) bZ rfl rfl rfl) AO.nil) rfl rfl rfl (SZ.consP bZ rfl SZ.nil) (erL.cons (v':=(.one (.ptr (.nm 0 0 0)))) rfl (erL.cons (v':=(oB (decide (a3≤256)))) rfl (erL.cons (v':=(oI a3)) rfl (erL.cons (v':=(oB (decide (a3≤0)))) rfl (erL.cons (v':=(oI a3)) rfl (erL.cons (v':=(oI 0)) rfl (erL.cons (v':=(.one (.ptr (.nm 0 0 0)))) rfl (erL.cons (v':=(oI a3)) rfl erL.nil)))))))) (erH.cons (v':=(.vars 3 [(.d (.pin pv)),(dI a2.1),(dI a2.2)])) rfl rfl erH.nil) (erL.cons (v':=(.one (.d (.both pv (.sl 1 (List.map d_u8 cb1)))))) rfl (erL.cons (v':=(.one (.ptr (.nm 0 0 0)))) rfl erL.nil)) rfl rfl (rmRest (oMov (eR rfl) ?_))
   obtain⟨h8,H⟩:=oguard H
   refine oRem (eR rfl) eZ h8 (oMov eZ (xQ (AW.ret (TQ.qr ?_))))
   cases H
   exact endsRM (RL.cons (RV.tmp eZ) (VO.flat rfl) RL.nil) (ML.mut (eS rfl eZ) (VO.ptr (es:=[(.pin pv),(.int .i64 v6.2.1),(.int .i64 v6.2.2)]) bZ rfl rfl rfl) (ML.lent ML.nil)) (by decide)
  ·refine AW.condF eZ (dF h5) (AW.skip (TQ.qn (aS (AW.regm (rmOne (oMov (eR rfl) (xNil ?_)))))))
   obtain⟨v9,h10,H⟩:=obind H
   refine rmCallIC (v0:=pv) (hg:=by exact rfl) (ON:=[0]) (ls:=[]) (G:=[]) (E:=[subKey 0]) (MB:=[(0,(.vars 3 [(.d (.pin pv)),(dI v9.2.1),(dI v9.2.2)]))]) (u:=(oI v9.1)) eC Cl.fn (c_spec_l1Byte h10) (Evs.cons eZ Evs.nil) (AO.mut (VO.ptr (es:=[(.pin pv),(.int .i64 a2.1),(.int .i64 a2.2)]) bZ rfl rfl rfl) AO.nil) rfl rfl rfl (SZ.consP bZ rfl SZ.nil) (erL.cons (v':=(.one (.ptr (.nm 0 0 0)))) rfl (erL.cons (v':=(oB (decide (a3≤256)))) rfl (erL.cons (v':=(oI a3)) rfl (erL.cons (v':=(oB (decide (a3≤0)))) rfl (erL.cons (v':=(oI a3)) rfl (erL.cons (v':=(oI 0)) rfl (erL.cons (v':=(.one (.ptr (.nm 0 0 0)))) rfl (erL.cons (v':=(oI a3)) rfl erL.nil)))))))) (erH.cons (v':=(.vars 3 [(.d (.pin pv)),(dI a2.1),(dI a2.2)])) rfl rfl erH.nil) (erL.cons (v':=(.one (.d (.both pv (.sl 1 (List.map d_u8 cb1)))))) rfl (erL.cons (v':=(.one (.ptr (.nm 0 0 0)))) rfl erL.nil)) rfl rfl (rmRest (oMov eZ (xQ (aS (AW.regm (rmOne (oMov (eR rfl) (xNil ?_))))))))
   obtain⟨v11,h12,H⟩:=obind H
   refine rmCallIC (v0:=pv) (hg:=by exact rfl) (ON:=[0]) (ls:=[]) (G:=[]) (E:=[subKey 0]) (MB:=[(0,(.vars 3 [(.d (.pin pv)),(dI v11.2.1),(dI v11.2.2)]))]) (u:=(oI v11.1)) eC Cl.fn (c_spec_l1Byte h12) (Evs.cons eZ Evs.nil) (AO.mut (VO.ptr (es:=[(.pin pv),(.int .i64 v9.2.1),(.int .i64 v9.2.2)]) bZ rfl rfl rfl) AO.nil) rfl rfl rfl (SZ.consP bZ rfl SZ.nil) (erL.cons (v':=(.one (.ptr (.nm 0 0 0)))) rfl (erL.cons (v':=(oI v9.1)) rfl (erL.cons (v':=(oI v9.1)) rfl (erL.cons (v':=(.one (.ptr (.nm 0 0 0)))) rfl (erL.cons (v':=(oB (decide (a3≤256)))) rfl (erL.cons (v':=(oI a3)) rfl (erL.cons (v':=(oB (decide (a3≤0)))) rfl (erL.cons (v':=(oI a3)) rfl (erL.cons (v':=(oI 0)) rfl (erL.cons (v':=(.one (.ptr (.nm 0 0 0)))) rfl (erL.cons (v':=(oI a3)) rfl erL.nil))))))))))) (erH.cons (v':=(.vars 3 [(.d (.pin pv)),(dI v9.2.1),(dI v9.2.2)])) rfl rfl (erH.cons (v':=(.vars 3 [(.d (.pin pv)),(dI a2.1),(dI a2.2)])) rfl rfl erH.nil)) (erL.cons (v':=(.one (.d (.both pv (.sl 1 (List.map d_u8 cb1)))))) rfl (erL.cons (v':=(.one (.ptr (.nm 0 0 0)))) rfl erL.nil)) rfl rfl (rmRest (oMov eZ (xQ (aS (AW.regm (rmOne (oMov (eR rfl) (xNil ?_))))))))
   obtain⟨v13,h14,H⟩:=obind H
   refine rmCallIC (v0:=pv) (hg:=by exact rfl) (ON:=[0]) (ls:=[]) (G:=[]) (E:=[subKey 0]) (MB:=[(0,(.vars 3 [(.d (.pin pv)),(dI v13.2.1),(dI v13.2.2)]))]) (u:=(oI v13.1)) eC Cl.fn (c_spec_l1Byte h14) (Evs.cons eZ Evs.nil) (AO.mut (VO.ptr (es:=[(.pin pv),(.int .i64 v11.2.1),(.int .i64 v11.2.2)]) bZ rfl rfl rfl) AO.nil) rfl rfl rfl (SZ.consP bZ rfl SZ.nil) (erL.cons (v':=(.one (.ptr (.nm 0 0 0)))) rfl (erL.cons (v':=(oI v11.1)) rfl (erL.cons (v':=(oI v11.1)) rfl (erL.cons (v':=(.one (.ptr (.nm 0 0 0)))) rfl (erL.cons (v':=(oI v9.1)) rfl (erL.cons (v':=(oI v9.1)) rfl (erL.cons (v':=(.one (.ptr (.nm 0 0 0)))) rfl (erL.cons (v':=(oB (decide (a3≤256)))) rfl (erL.cons (v':=(oI a3)) rfl (erL.cons (v':=(oB (decide (a3≤0)))) rfl (erL.cons (v':=(oI a3)) rfl (erL.cons (v':=(oI 0)) rfl (erL.cons (v':=(.one (.ptr (.nm 0 0 0)))) rfl (erL.cons (v':=(oI a3)) rfl erL.nil)))))))))))))) (erH.cons (v':=(.vars 3 [(.d (.pin pv)),(dI v11.2.1),(dI v11.2.2)])) rfl rfl (erH.cons (v':=(.vars 3 [(.d (.pin pv)),(dI v9.2.1),(dI v9.2.2)])) rfl rfl (erH.cons (v':=(.vars 3 [(.d (.pin pv)),(dI a2.1),(dI a2.2)])) rfl rfl erH.nil))) (erL.cons (v':=(.one (.d (.both pv (.sl 1 (List.map d_u8 cb1)))))) rfl (erL.cons (v':=(.one (.ptr (.nm 0 0 0)))) rfl erL.nil)) rfl rfl (rmRest (oMov eZ (xQ (AW.weaken (wk_mkG [] (kr 7 rfl rfl (kr 6 rfl rfl (kr 5 rfl rfl (kr 0 rfl rfl (kr 1 rfl rfl SL.nil))))) (BL.keep rfl (BL.keep rfl (BL.keep rfl (BL.keep rfl BL.nil)))) (BK.cons (n:=0) rfl bZ rfl rfl BK.nil) (GK.cons rfl (GK.cons rfl GK.nil))) (aS (AW.regm (rmOne (oMov (eR rfl) (xNil ?_)))))))))
   obtain⟨v15,h16,H⟩:=obind H
   refine rmCallIC (v0:=pv) (hg:=by exact rfl) (ON:=[0]) (ls:=[]) (G:=[]) (E:=[subKey 0]) (MB:=[(0,(.vars 3 [(.d (.pin pv)),(dI v15.2.1),(dI v15.2.2)]))]) (u:=(oI v15.1)) eC Cl.fn (c_spec_l1Byte h16) (Evs.cons eZ Evs.nil) (AO.mut (VO.ptr (es:=[(.pin pv),(.int .i64 v13.2.1),(.int .i64 v13.2.2)]) bZ rfl rfl rfl) AO.nil) rfl rfl rfl (SZ.consP bZ rfl SZ.nil) (erL.cons (v':=(.one (.ptr (.nm 0 0 0)))) rfl (erL.cons (v':=(oI v13.1)) rfl (erL.cons (v':=(oI v11.1)) rfl (erL.cons (v':=(oI v9.1)) rfl (erL.cons (v':=(.one (.ptr (.nm 0 0 0)))) rfl (erL.cons (v':=(oI a3)) rfl erL.nil)))))) (erH.cons (v':=(.vars 3 [(.d (.pin pv)),(dI v13.2.1),(dI v13.2.2)])) rfl rfl erH.nil) (erL.cons (v':=(.one (.d (.both pv (.sl 1 (List.map d_u8 cb1)))))) rfl (erL.cons (v':=(.one (.ptr (.nm 0 0 0)))) rfl erL.nil)) rfl rfl (rmRest (oMov eZ (xQ (aV (oMov (eR rfl) (oMul eZ eC (oMov (eR rfl) (oMul eZ eC (oAdd (eR rfl) eZ (oMov (eR rfl) (oMul eZ eC (oAdd (eR rfl) eZ (oMov (eR rfl) (oAdd (eR rfl) eZ (oMov (eR rfl) ?_)))))))))))))))
   obtain⟨h17,H⟩:=oguard H
   refine oRem (eR rfl) eZ h17 (oMov eZ (xQ (AW.weaken (wk_mkG [] (kr 4 rfl rfl SL.nil) (BL.keep rfl (BL.keep rfl BL.nil)) (BK.cons (n:=0) rfl bZ rfl rfl BK.nil) (GK.cons rfl (GK.cons rfl GK.nil))) (AW.ret ?_))))
   cases H
   exact endsRM (RL.cons (RV.tmp eZ) (VO.flat rfl) RL.nil) (ML.mut (eS rfl eZ) (VO.ptr (es:=[(.pin pv),(.int .i64 v15.2.1),(.int .i64 v15.2.2)]) bZ rfl rfl rfl) (ML.lent ML.nil)) (by decide)
theorem c_spec_l1Once{pv:Value}{cb1:(List Int)}{a2:(Int×Int)}{a3:Int}{r:(Bool×(Int×Int))}(H:m_spec_l1Once cb1 a2 a3=some r):FnC Try.prog pv (.sl 1 (List.map d_u8 cb1)) 83 [⟨(.ptr [(.pin pv),(.int .i64 a2.1),(.int .i64 a2.2)]),.m (.ptr [(.pin pv),(.int .i64 r.2.1),(.int .i64 r.2.2)])⟩,⟨(.int .i64 a3),.b⟩] [(.bool r.1)]:=by
 refine n83 (fle rfl) (fle rfl) (fC nZ rfl fN) rfl ?_
 rw[initC_mk]
 refine AW.weaken (t:=mk [(0,(.one (.ptr (.nm 0 0 0)))),(1,(oI a3))] [(0,(.vars 3 [(.d (.pin pv)),(dI a2.1),(dI a2.2)]))] (lk [(63,(.one (.d (.both pv (.sl 1 (List.map d_u8 cb1)))))),(0,(.one (.ptr (.nm 0 0 0))))])) (wk_mkG (gl:=[(63,(.one (.d (.both pv (.sl 1 (List.map d_u8 cb1)))))),(0,(.one (.ptr (.nm 0 0 0))))]) [] (kv 0 (.one (.ptr (.nm 0 0 0))) rfl rfl (kv 1 (oI a3) rfl rfl SL.nil)) (BL.keep rfl BL.nil) (BK.cons (n:=0) rfl bZ rfl rfl BK.nil) (GK.cons rfl (GK.cons rfl GK.nil))) ?_
 unfold m_spec_l1Once at H
 unfold i83
 refine aV (oMov eC (xQ (aS (AW.regm (rmOne (oMov (eR rfl) (xNil (rmOne (oMov (eR rfl) (xNil ?_))))))))))
 obtain⟨v4,h5,H⟩:=obind H
 refine rmCallIC (v0:=pv) (hg:=by exact rfl) (ON:=[0]) (ls:=[]) (G:=[]) (E:=[subKey 0]) (MB:=[(0,(.vars 3 [(.d (.pin pv)),(dI v4.2.1),(dI v4.2.2)]))]) (u:=(oI v4.1)) eC Cl.fn (c_spec_l1Below h5) (Evs.cons (eR rfl) (Evs.cons eZ Evs.nil)) (AO.mut (VO.ptr (es:=[(.pin pv),(.int .i64 a2.1),(.int .i64 a2.2)]) bZ rfl rfl rfl) (AO.lent VD.plain rfl AO.nil)) rfl rfl rfl (SZ.consP bZ rfl SZ.nil) (erL.cons (v':=(oI a3)) rfl (erL.cons (v':=(.one (.ptr (.nm 0 0 0)))) rfl (erL.cons (v':=(oB false)) rfl (erL.cons (v':=(.one (.ptr (.nm 0 0 0)))) rfl (erL.cons (v':=(oI a3)) rfl erL.nil))))) (erH.cons (v':=(.vars 3 [(.d (.pin pv)),(dI a2.1),(dI a2.2)])) rfl rfl erH.nil) (erL.cons (v':=(.one (.d (.both pv (.sl 1 (List.map d_u8 cb1)))))) rfl (erL.cons (v':=(.one (.ptr (.nm 0 0 0)))) rfl erL.nil)) rfl rfl (rmRest (oEql eZ eC (oMov eZ (xQ (AW.ret ?_)))))
 cases H
 exact endsRM (RL.cons (RV.tmp eZ) (VO.flat rfl) RL.nil) (ML.mut (eS rfl eZ) (VO.ptr (es:=[(.pin pv),(.int .i64 v4.2.1),(.int .i64 v4.2.2)]) bZ rfl rfl rfl) (ML.lent ML.nil)) (by decide)
theorem c_spec_l1In{a1:Int}{a2:Int}{a3:Int}{r:Bool}(H:m_spec_l1In a1 a2 a3=some r):Fn Try.prog 87 (lent [(.int .i64 a1),(.int .i64 a2),(.int .i64 a3)]) true [(.bool r)]:=by
 refine f87 (fle rfl) ?_
 rw[init_mk]
 refine AW.weaken (wk_mk [] (kv 0 (oI a1) rfl rfl (kv 1 (oI a2) rfl rfl (kv 2 (oI a3) rfl rfl SL.nil))) BL.nil BK.nil) ?_
 unfold m_spec_l1In at H
 unfold i87
 refine aV (oMov eC (xQ (aV (oMov (eR rfl) (oMov (eR rfl) (oGeq (eR rfl) eZ (oMov eZ ?_)))))))
 rcases oite H with⟨h4,H⟩|⟨h4,H⟩
 ·refine gDo eZ (dT h4) (oMov (eR rfl) (gDo (eR rfl) (dT h4) (oMov (eR rfl) (gDo (eR rfl) (dT h4) (oLeq (eR rfl) eZ (oPickT (eR rfl) (dT h4) eZ (oMov eZ (xQ (AW.ret ?_)))))))))
  cases H
  exact eE rfl rfl
 ·refine gSkip eZ (dF h4) rfl (gSkip (eR rfl) (dF h4) rfl (gSkip (eR rfl) (dF h4) rfl (oPickF (eR rfl) (dF h4) eC (oMov eZ (xQ (AW.ret ?_))))))
  cases H
  exact eE rfl rfl
theorem c_spec_PartsOk{a1:(List TPart)}{r:Bool}(H:m_spec_PartsOk a1=some r):Fn Try.prog 88 (lent [(.sl 3 (List.map d_TPart a1))]) true [(.bool r)]:=by
 refine f88 (fle rfl) ?_
 rw[init_mk]
 refine AW.weaken (wk_mk [] (kv 0 (.one (.d (.sl 3 (List.map d_TPart a1)))) rfl rfl SL.nil) BL.nil BK.nil) ?_
 unfold m_spec_PartsOk at H
 unfold i88
 refine aV (oMov eC (xQ (aV (oMov (eR rfl) (oLenD eZ (n:=a1.length) (List.length_map _) (oMov eZ (xQ (aS (AW.seqJ (fun t2:Bool=>(spec_PartsOk_j2 a1) t2=some r) (fun t2=>mk [(0,(.one (.d (.sl 3 (List.map d_TPart a1))))),(3,(oI (a1.length:Int))),(26,(oB t2))] [] noG) ?_ ?_)))))))))
 ·intro t2 H
  unfold spec_PartsOk_j2 at H
  rcases oite H with⟨h4,H⟩|⟨h4,H⟩
  ·refine AW.condT (eR rfl) h4 (aV (oMov eC (xQ (AW.ret (TQ.qr ?_)))))
   cases H
   exact eE rfl rfl
  ·refine AW.condF (eR rfl) (nt h4) (AW.skip (TQ.qn (AW.seqJ (fun t5:Unit=>spec_PartsOk_j5 t5=some r) (fun t5=>mk [] [] noG) ?_ ?_)))
   ·intro t5 H
    unfold spec_PartsOk_j5 at H
    refine aV (oMov eC (xQ (AW.ret ?_)))
    cases H
    exact eE rfl rfl
   ·refine aV (oMov eC (xQ (AW.block (AW.iter (fun s7:Int=>mk [(0,(.one (.d (.sl 3 (List.map d_TPart a1))))),(3,(oI (a1.length:Int))),(4,(oI s7))] [] noG) H (wk_mk [] (kR rfl rfl (kR rfl rfl (kR rfl rfl SL.nil))) BL.nil BK.nil) ?_))))
    intro kb8 s7 H
    unfold spec_PartsOk_b7 at H
    refine aS (aV (oMov (eR rfl) (oMov (eR rfl) (oLss (eR rfl) eZ (xQ ?_)))))
    rcases oite H with⟨h9,H⟩|⟨h9,H⟩
    ·refine AW.condT eZ (dT h9) (AW.skip (TQ.qn (aS (AW.block (aV (oMov (eR rfl) (oMov (eR rfl) ?_)))))))
     obtain⟨v10,h11,H⟩:=obind H
     refine oAtD (eR rfl) eZ h11 (oLoadBA (es:=[(dI v10.Lo),(dI v10.Hi),(dI v10.Owner)]) eZ rfl (oVar (n:=320) (m:=3) rfl rfl nZ (oStoreV (es:=[(dI v10.Lo),(dI v10.Hi),(dI v10.Owner)]) eZ (eR rfl) rfl rfl bZ rfl (xQ (AW.seqJ (fun t12:Bool=>(spec_PartsOk_j12 kb8 s7) t12=some r) (fun t12=>mk [(0,(.one (.d (.sl 3 (List.map d_TPart a1))))),(3,(oI (a1.length:Int))),(4,(oI s7)),(71,(oB t12))] [] noG) ?_ ?_)))))
     ·intro t12 H
      unfold spec_PartsOk_j12 at H
      rcases oite H with⟨h14,H⟩|⟨h14,H⟩
      ·refine AW.condT (eR rfl) h14 (aV (oMov eC (xQ (AW.ret (BQ.qr (TQ.qr (TQ.qr (BQ.qr (TQ.qr ?_)))))))))
       cases H
       exact eE rfl rfl
      ·exact AW.condF (eR rfl) (nt h14) (AW.skip (BQ.qn (TQ.qn (aR (oMov (eR rfl) (oAdd eZ eC (oMov eZ (xNil (TQ.qn ⟨(IntKind.wrap .i64 (s7+1)),H,(wk_mk [] (kR rfl rfl (kR rfl rfl (kR rfl rfl SL.nil))) BL.nil BK.nil)⟩)))))))))
     ·refine AW.regd (oFaddrN (m:=0) eZ rfl (oLoadV (q:=0) (c:=(dI v10.Lo)) eZ bZ rfl rfl (oFaddrN (m:=1) (eR rfl) rfl (oLoadV (q:=1) (c:=(dI v10.Hi)) eZ bZ rfl rfl (oGeq (eR rfl) eZ (oMov eZ ?_))))))
      rcases oite H with⟨h15,H⟩|⟨h15,H⟩
      ·exact gSkip eZ (dT h15) rfl (gSkip (eR rfl) (dT h15) rfl (gSkip (eR rfl) (dT h15) rfl (oPickT (eR rfl) (dT h15) eC (oMov eZ (gSkip eZ rfl rfl (gSkip (eR rfl) rfl rfl (gSkip (eR rfl) rfl rfl (oPickT (eR rfl) rfl eC (oMov eZ (gSkip eZ rfl rfl (gSkip (eR rfl) rfl rfl (gSkip (eR rfl) rfl rfl (gSkip (eR rfl) rfl rfl (oPickT (eR rfl) rfl eC (oMov eZ (gSkip eZ rfl rfl (gSkip (eR rfl) rfl rfl (gSkip (eR rfl) rfl rfl (gSkipU eZ rfl (gSkipU (eR rfl) rfl (gSkipU (eR rfl) rfl (gSkipU (eR rfl) rfl (gSkipU (eR rfl) rfl (gSkipU (eR rfl) rfl (gSkipU (eR rfl) rfl (gSkipU (eR rfl) rfl (gSkipU (eR rfl) rfl (gSkip (eR rfl) rfl rfl (oPickT (eR rfl) rfl eC (xNil (TQ.qn ⟨true,H,(wk_mk [320] (kR rfl rfl (kR rfl rfl (kR rfl rfl (kR rfl rfl SL.nil)))) (BL.drop rfl (BL.drop rfl BL.nil)) BK.nil)⟩)))))))))))))))))))))))))))))))
      ·refine gDo eZ (dF h15) (oFaddrN (m:=0) (eR rfl) rfl (gDo (eR rfl) (dF h15) (oLoadV (q:=0) (c:=(dI v10.Lo)) eZ bZ rfl rfl (gDo (eR rfl) (dF h15) (oLss eZ eC (oPickF (eR rfl) (dF h15) eZ (oMov eZ ?_)))))))
       rcases oite H with⟨h16,H⟩|⟨h16,H⟩
       ·exact gSkip eZ (dT h16) rfl (gSkip (eR rfl) (dT h16) rfl (gSkip (eR rfl) (dT h16) rfl (oPickT (eR rfl) (dT h16) eC (oMov eZ (gSkip eZ rfl rfl (gSkip (eR rfl) rfl rfl (gSkip (eR rfl) rfl rfl (gSkip (eR rfl) rfl rfl (oPickT (eR rfl) rfl eC (oMov eZ (gSkip eZ rfl rfl (gSkip (eR rfl) rfl rfl (gSkip (eR rfl) rfl rfl (gSkipU eZ rfl (gSkipU (eR rfl) rfl (gSkipU (eR rfl) rfl (gSkipU (eR rfl) rfl (gSkipU (eR rfl) rfl (gSkipU (eR rfl) rfl (gSkipU (eR rfl) rfl (gSkipU (eR rfl) rfl (gSkipU (eR rfl) rfl (gSkip (eR rfl) rfl rfl (oPickT (eR rfl) rfl eC (xNil (TQ.qn ⟨true,H,(wk_mk [320] (kR rfl rfl (kR rfl rfl (kR rfl rfl (kR rfl rfl SL.nil)))) (BL.drop rfl (BL.drop rfl BL.nil)) BK.nil)⟩))))))))))))))))))))))))))
       ·refine gDo eZ (dF h16) (oFaddrN (m:=1) (eR rfl) rfl (gDo (eR rfl) (dF h16) (oLoadV (q:=1) (c:=(dI v10.Hi)) eZ bZ rfl rfl (gDo (eR rfl) (dF h16) (oGtr eZ eC (oPickF (eR rfl) (dF h16) eZ (oMov eZ ?_)))))))
        rcases oite H with⟨h17,H⟩|⟨h17,H⟩
        ·exact gSkip eZ (dT h17) rfl (gSkip (eR rfl) (dT h17) rfl (gSkip (eR rfl) (dT h17) rfl (gSkip (eR rfl) (dT h17) rfl (oPickT (eR rfl) (dT h17) eC (oMov eZ (gSkip eZ rfl rfl (gSkip (eR rfl) rfl rfl (gSkip (eR rfl) rfl rfl (gSkipU eZ rfl (gSkipU (eR rfl) rfl (gSkipU (eR rfl) rfl (gSkipU (eR rfl) rfl (gSkipU (eR rfl) rfl (gSkipU (eR rfl) rfl (gSkipU (eR rfl) rfl (gSkipU (eR rfl) rfl (gSkipU (eR rfl) rfl (gSkip (eR rfl) rfl rfl (oPickT (eR rfl) rfl eC (xNil (TQ.qn ⟨true,H,(wk_mk [320] (kR rfl rfl (kR rfl rfl (kR rfl rfl (kR rfl rfl SL.nil)))) (BL.drop rfl (BL.drop rfl BL.nil)) BK.nil)⟩)))))))))))))))))))))
        ·refine gDo eZ (dF h17) (oFaddrN (m:=2) (eR rfl) rfl (gDo (eR rfl) (dF h17) (oLoadV (q:=2) (c:=(dI v10.Owner)) eZ bZ rfl rfl (gDo (eR rfl) (dF h17) ?_))))
         obtain⟨v18,h19,H⟩:=obind H
         refine oCall (u:=(oB v18)) eC Cl.fn (c_spec_l1In h19) (Evs.cons eZ (Evs.cons eC (Evs.cons eC Evs.nil))) (VDs.cons VD.plain (VDs.cons VD.plain (VDs.cons VD.plain VDs.nil))) rfl (gDo (eR rfl) (dF h17) (oInv eZ (oPickF (eR rfl) (dF h17) eZ (oMov eZ ?_))))
         rcases oite H with⟨h20,H⟩|⟨h20,H⟩
         ·refine gDo eZ (cN h20) (oMov (eR rfl) (gDo (eR rfl) (cN h20) (oGtr eZ eC (gDo (eR rfl) (cN h20) (oMov eZ ?_)))))
          rcases oite H with⟨h21,H⟩|⟨h21,H⟩
          ·refine gDo eZ (dT h21) (oMov (eR rfl) (gDo (eR rfl) (dT h21) (oMov (eR rfl) (gDo (eR rfl) (dT h21) (oSub eZ eC (gDo (eR rfl) (dT h21) ?_))))))
           obtain⟨v22,h23,H⟩:=obind H
           exact oAtD (eR rfl) eZ h23 (gDo (eR rfl) (dT h21) (oFaddrB (m:=1) eZ rfl (gDo (eR rfl) (dT h21) (oLoadB (e:=(.int .i64 v22.Hi)) eZ rfl (gDo (eR rfl) (dT h21) (oFaddrN (m:=0) (eR rfl) rfl (gDo (eR rfl) (dT h21) (oLoadV (q:=0) (c:=(dI v10.Lo)) eZ bZ rfl rfl (gDo (eR rfl) (dT h21) (oNeq (eR rfl) eZ (gDo (eR rfl) (cN h20) (oPickT (eR rfl) (dT h21) eZ (oPickF (eR rfl) (cN h20) eZ (xNil (TQ.qn ⟨(decide (¬v22.Hi=v10.Lo)),H,(wk_mk [320] (kR rfl rfl (kR rfl rfl (kR rfl rfl (kR rfl rfl SL.nil)))) (BL.drop rfl (BL.drop rfl BL.nil)) BK.nil)⟩)))))))))))))))
          ·exact gSkip eZ (dF h21) rfl (gSkip (eR rfl) (dF h21) rfl (gSkip (eR rfl) (dF h21) rfl (gSkip (eR rfl) (dF h21) rfl (gSkip (eR rfl) (dF h21) rfl (gSkip (eR rfl) (dF h21) rfl (gSkip (eR rfl) (dF h21) rfl (gSkip (eR rfl) (dF h21) rfl (gSkip (eR rfl) (dF h21) rfl (gDo (eR rfl) (cN h20) (oPickF (eR rfl) (dF h21) eC (oPickF (eR rfl) (cN h20) eZ (xNil (TQ.qn ⟨false,H,(wk_mk [320] (kR rfl rfl (kR rfl rfl (kR rfl rfl (kR rfl rfl SL.nil)))) (BL.drop rfl (BL.drop rfl BL.nil)) BK.nil)⟩)))))))))))))
         ·exact gSkip eZ (cN (nt h20)) rfl (gSkip (eR rfl) (cN (nt h20)) rfl (gSkip (eR rfl) (cN (nt h20)) rfl (gSkipU eZ rfl (gSkipU (eR rfl) rfl (gSkipU (eR rfl) rfl (gSkipU (eR rfl) rfl (gSkipU (eR rfl) rfl (gSkipU (eR rfl) rfl (gSkipU (eR rfl) rfl (gSkipU (eR rfl) rfl (gSkipU (eR rfl) rfl (gSkip (eR rfl) (cN (nt h20)) rfl (oPickT (eR rfl) (cN (nt h20)) eC (xNil (TQ.qn ⟨true,H,(wk_mk [320] (kR rfl rfl (kR rfl rfl (kR rfl rfl (kR rfl rfl SL.nil)))) (BL.drop rfl (BL.drop rfl BL.nil)) BK.nil)⟩)))))))))))))))
    ·exact AW.condF eZ (dF h9) (AW.exit (TQ.qe (TQ.qe (BQ.qe (TQ.qn ⟨(),H,(wk_mk [] SL.nil BL.nil BK.nil)⟩)))))
 ·refine aR (oMov eZ ?_)
  obtain⟨v24,h25,H⟩:=obind H
  refine oCall (u:=(oB v24)) eC Cl.fn (c_spec_l1In h25) (Evs.cons eZ (Evs.cons eC (Evs.cons eC Evs.nil))) (VDs.cons VD.plain (VDs.cons VD.plain (VDs.cons VD.plain VDs.nil))) rfl (oInv eZ (oMov eZ ?_))
  rcases oite H with⟨h26,H⟩|⟨h26,H⟩
  ·refine gDo eZ (cN h26) (oMov (eR rfl) (gDo (eR rfl) (cN h26) ?_))
   obtain⟨v27,h28,H⟩:=obind H
   refine oAtD eZ eC h28 (gDo (eR rfl) (cN h26) (oFaddrB (m:=0) eZ rfl (gDo (eR rfl) (cN h26) (oLoadB (e:=(.int .i64 v27.Lo)) eZ rfl (gDo (eR rfl) (cN h26) (oNeq eZ eC (oPickF (eR rfl) (cN h26) eZ (oMov eZ ?_))))))))
   rcases oite H with⟨h29,H⟩|⟨h29,H⟩
   ·exact gSkip eZ (dT h29) rfl (gSkip (eR rfl) (dT h29) rfl (gSkip (eR rfl) (dT h29) rfl (gSkip (eR rfl) (dT h29) rfl (gSkip (eR rfl) (dT h29) rfl (gSkip (eR rfl) (dT h29) rfl (gSkip (eR rfl) (dT h29) rfl (oPickT (eR rfl) (dT h29) eC (xNil (TQ.qn ⟨true,H,(wk_mk [] (kR rfl rfl (kR rfl rfl (kR rfl rfl SL.nil))) BL.nil BK.nil)⟩)))))))))
   ·refine gDo eZ (dF h29) (oMov (eR rfl) (gDo (eR rfl) (dF h29) (oMov (eR rfl) (gDo (eR rfl) (dF h29) (oSub eZ eC (gDo (eR rfl) (dF h29) ?_))))))
    obtain⟨v30,h31,H⟩:=obind H
    exact oAtD (eR rfl) eZ h31 (gDo (eR rfl) (dF h29) (oFaddrB (m:=1) eZ rfl (gDo (eR rfl) (dF h29) (oLoadB (e:=(.int .i64 v30.Hi)) eZ rfl (gDo (eR rfl) (dF h29) (oNeq eZ eC (oPickF (eR rfl) (dF h29) eZ (xNil (TQ.qn ⟨(decide (¬v30.Hi=1000)),H,(wk_mk [] (kR rfl rfl (kR rfl rfl (kR rfl rfl SL.nil))) BL.nil BK.nil)⟩)))))))))
  ·exact gSkip eZ (cN (nt h26)) rfl (gSkip (eR rfl) (cN (nt h26)) rfl (gSkip (eR rfl) (cN (nt h26)) rfl (gSkip (eR rfl) (cN (nt h26)) rfl (gSkip (eR rfl) (cN (nt h26)) rfl (oPickT (eR rfl) (cN (nt h26)) eC (oMov eZ (gSkip eZ rfl rfl (gSkip (eR rfl) rfl rfl (gSkip (eR rfl) rfl rfl (gSkip (eR rfl) rfl rfl (gSkip (eR rfl) rfl rfl (gSkip (eR rfl) rfl rfl (gSkip (eR rfl) rfl rfl (oPickT (eR rfl) rfl eC (xNil (TQ.qn ⟨true,H,(wk_mk [] (kR rfl rfl (kR rfl rfl (kR rfl rfl SL.nil))) BL.nil BK.nil)⟩))))))))))))))))
theorem c_spec_PartAt{a1:(List TPart)}{a2:Int}{r:Int}(H:m_spec_PartAt a1 a2=some r):Fn Try.prog 49 (lent [(.sl 3 (List.map d_TPart a1)),(.int .i64 a2)]) true [(.int .i64 r)]:=by
 refine f49 (fle rfl) ?_
 rw[init_mk]
 refine AW.weaken (wk_mk [] (kv 0 (.one (.d (.sl 3 (List.map d_TPart a1)))) rfl rfl (kv 1 (oI a2) rfl rfl SL.nil)) BL.nil BK.nil) ?_
 unfold m_spec_PartAt at H
 unfold i49
 refine aV (oMov eC (xQ (AW.seqJ (fun t3:Unit=>spec_PartAt_j3 t3=some r) (fun t3=>mk [] [] noG) ?_ ?_)))
 ·intro t3 H
  unfold spec_PartAt_j3 at H
  refine aV (oMov eC (xQ (AW.ret ?_)))
  cases H
  exact eE rfl rfl
 ·refine aV (oMov eC (xQ (AW.block (AW.iter (fun s5:Int=>mk [(0,(.one (.d (.sl 3 (List.map d_TPart a1))))),(1,(oI a2)),(5,(oI s5))] [] noG) H (wk_mk [] (kR rfl rfl (kR rfl rfl (kR rfl rfl SL.nil))) BL.nil BK.nil) ?_))))
  intro kb6 s5 H
  unfold spec_PartAt_b5 at H
  refine aS (aV (oMov (eR rfl) (oMov (eR rfl) (oLenD eZ (n:=a1.length) (List.length_map _) (oLss (eR rfl) eZ (oMov eZ ?_))))))
  rcases oite H with⟨h7,H⟩|⟨h7,H⟩
  ·refine gDo eZ (dT h7) (oMov (eR rfl) (gDo (eR rfl) (dT h7) ?_))
   obtain⟨v8,h9,H⟩:=obind H
   refine oCall (u:=(oB v8)) eC Cl.fn (c_spec_PartsOk h9) (Evs.cons eZ Evs.nil) (VDs.cons VD.plain VDs.nil) rfl (oPickT (eR rfl) (dT h7) eZ (xQ ?_))
   rcases oite H with⟨h10,H⟩|⟨h10,H⟩
   ·refine AW.condT eZ h10 (AW.skip (TQ.qn (aS (AW.block (AW.seqJ (fun t11:Bool=>(spec_PartAt_j11 s5 kb6) t11=some r) (fun t11=>mk [(0,(.one (.d (.sl 3 (List.map d_TPart a1))))),(1,(oI a2)),(5,(oI s5)),(31,(oB t11))] [] noG) ?_ ?_)))))
    ·intro t11 H
     unfold spec_PartAt_j11 at H
     rcases oite H with⟨h13,H⟩|⟨h13,H⟩
     ·refine AW.condT (eR rfl) h13 (aV (oMov (eR rfl) (oMov eZ (xQ (AW.ret (BQ.qr (TQ.qr (TQ.qr (BQ.qr (TQ.qr ?_))))))))))
      cases H
      exact eE rfl rfl
     ·exact AW.condF (eR rfl) (nt h13) (AW.skip (BQ.qn (TQ.qn (aR (oMov (eR rfl) (oAdd eZ eC (oMov eZ (xNil (TQ.qn ⟨(IntKind.wrap .i64 (s5+1)),H,(wk_mk [] (kR rfl rfl (kR rfl rfl (kR rfl rfl SL.nil))) BL.nil BK.nil)⟩)))))))))
    ·refine aR (oMov (eR rfl) (oMov (eR rfl) ?_))
     obtain⟨v14,h15,H⟩:=obind H
     refine oAtD (eR rfl) eZ h15 (oFaddrB (m:=0) eZ rfl (oLoadB (e:=(.int .i64 v14.Lo)) eZ rfl (oMov (eR rfl) (oLeq (eR rfl) eZ (oMov eZ ?_)))))
     rcases oite H with⟨h16,H⟩|⟨h16,H⟩
     ·refine gDo eZ (dT h16) (oMov (eR rfl) (gDo (eR rfl) (dT h16) (oMov (eR rfl) (gDo (eR rfl) (dT h16) (oMov (eR rfl) (gDo (eR rfl) (dT h16) ?_))))))
      obtain⟨v17,h18,H⟩:=obind H
      exact oAtD (eR rfl) eZ h18 (gDo (eR rfl) (dT h16) (oFaddrB (m:=1) eZ rfl (gDo (eR rfl) (dT h16) (oLoadB (e:=(.int .i64 v17.Hi)) eZ rfl (gDo (eR rfl) (dT h16) (oLss (eR rfl) eZ (oPickT (eR rfl) (dT h16) eZ (xNil (TQ.qn ⟨(decide (a2 < v17.Hi)),H,(wk_mk [] (kR rfl rfl (kR rfl rfl (kR rfl rfl (kR rfl rfl SL.nil)))) BL.nil BK.nil)⟩)))))))))
     ·exact gSkip eZ (dF h16) rfl (gSkip (eR rfl) (dF h16) rfl (gSkip (eR rfl) (dF h16) rfl (gSkip (eR rfl) (dF h16) rfl (gSkip (eR rfl) (dF h16) rfl (gSkip (eR rfl) (dF h16) rfl (gSkip (eR rfl) (dF h16) rfl (oPickF (eR rfl) (dF h16) eC (xNil (TQ.qn ⟨false,H,(wk_mk [] (kR rfl rfl (kR rfl rfl (kR rfl rfl (kR rfl rfl SL.nil)))) BL.nil BK.nil)⟩)))))))))
   ·exact AW.condF eZ (nt h10) (AW.exit (TQ.qe (TQ.qe (BQ.qe (TQ.qn ⟨(),H,(wk_mk [] SL.nil BL.nil BK.nil)⟩)))))
  ·exact gSkip eZ (dF h7) rfl (gSkip (eR rfl) (dF h7) rfl (oPickF (eR rfl) (dF h7) eC (xQ (AW.condF eZ rfl (AW.exit (TQ.qe (TQ.qe (BQ.qe (TQ.qn ⟨(),H,(wk_mk [] SL.nil BL.nil BK.nil)⟩)))))))))
theorem c_spec_SplitAt{a1:(List TPart)}{a2:Int}{r:((List TPart)×Bool)}(H:m_spec_SplitAt a1 a2=some r):Fn Try.prog 44 (lent [(.sl 3 (List.map d_TPart a1)),(.int .i64 a2)]) true [(.sl 3 (List.map d_TPart r.1)),(.bool r.2)]:=by
 refine f44 (fle rfl) ?_
 rw[init_mk]
 refine AW.weaken (wk_mk [] (kv 0 (.one (.d (.sl 3 (List.map d_TPart a1)))) rfl rfl (kv 1 (oI a2) rfl rfl SL.nil)) BL.nil BK.nil) ?_
 unfold m_spec_SplitAt at H
 unfold i44
 refine aV (oMov eC (oMov eC (xQ (aV (oMov (eR rfl) (oMov (eR rfl) ?_))))))
 obtain⟨v3,h4,H⟩:=obind H
 refine oCall (u:=(oI v3)) eC Cl.fn (c_spec_PartAt h4) (Evs.cons (eR rfl) (Evs.cons eZ Evs.nil)) (VDs.cons VD.plain (VDs.cons VD.plain VDs.nil)) rfl (oMov eZ (xQ (aV (oBsliceZ (m:=832) rfl nZ (oMov eZ (xQ (aS (AW.seqJ (fun t5:Bool=>(spec_SplitAt_j5 a1 v3 a2) t5=some r) (fun t5=>mk [(0,(.one (.d (.sl 3 (List.map d_TPart a1))))),(1,(oI a2)),(6,(oI v3)),(7,(.one .zs)),(29,(oB t5))] [] noG) ?_ ?_))))))))
 ·intro t5 H
  unfold spec_SplitAt_j5 at H
  rcases oite H with⟨h7,H⟩|⟨h7,H⟩
  ·refine AW.condT (eR rfl) h7 (aV (oMov (eR rfl) (oMov eZ (oMov eC (xQ (AW.ret (TQ.qr ?_)))))))
   cases H
   exact endsR (RL.cons (RV.tmp (eR rfl)) VO.zs (RL.cons (RV.tmp eZ) (VO.flat rfl) RL.nil)) List.nodup_nil
  ·refine AW.condF (eR rfl) (nt h7) (AW.skip (TQ.qn (AW.seqJ (fun t8:(List TPart)=>spec_SplitAt_j8 t8=some r) (fun t8=>mk [(7,(.one (.sl 320320 0 t8.length)))] [(320320,(.data 3 (List.map d_TPart t8) true none))] noG) ?_ ?_)))
   ·intro t8 H
    unfold spec_SplitAt_j8 at H
    refine aV (oMov eZ (oMov eZ (oMov eC (xQ (AW.ret ?_)))))
    cases H
    exact endsR (RL.cons (RV.tmp (eR rfl)) (VO.sl bZ (List.length_map _) (allFlat fun _=>rfl)) (RL.cons (RV.tmp eZ) (VO.flat rfl) RL.nil)) (by decide)
   ·refine aV (oMov eC (xQ (AW.block (AW.iter (fun s10:((List TPart)×Int)=>mk [(0,(.one (.d (.sl 3 (List.map d_TPart a1))))),(1,(oI a2)),(6,(oI v3)),(7,(.one (.sl 320448 0 s10.1.length))),(8,(oI s10.2))] [(320448,(.data 3 (List.map d_TPart s10.1) true none))] noG) H ((wk_mk [] (kR rfl rfl (kR rfl rfl (kR rfl rfl (SL.cons eZ rfl (VWk.one (CWk.len (by first|(simp;done)|(simp;omega)|omega|(simp only[List.length_map];omega)))) (kR rfl rfl SL.nil))))) (BL.keep rfl BL.nil) (BK.cons rfl bZ rfl rfl BK.nil)).trans (wk_zs 320448 3 7 true (eR rfl) nZ)) ?_))))
    intro kb11 s10 H
    unfold spec_SplitAt_b10 at H
    refine aS (aV (oMov (eR rfl) (oMov (eR rfl) (oLenD eZ (n:=a1.length) (List.length_map _) (oLss (eR rfl) eZ (xQ ?_))))))
    rcases oite H with⟨h12,H⟩|⟨h12,H⟩
    ·refine AW.condT eZ (dT h12) (AW.skip (TQ.qn (aS (AW.block (aV (oMov (eR rfl) (oMov (eR rfl) ?_)))))))
     obtain⟨v13,h14,H⟩:=obind H
     refine oAtD (eR rfl) eZ h14 (oLoadBA (es:=[(dI v13.Lo),(dI v13.Hi),(dI v13.Owner)]) eZ rfl (oVar (n:=576) (m:=3) rfl rfl (nS rfl nZ) (oStoreV (es:=[(dI v13.Lo),(dI v13.Hi),(dI v13.Owner)]) eZ (eR rfl) rfl rfl bZ rfl (xQ (AW.seqJ (fun t15:((List TPart)×Int)=>(spec_SplitAt_j15 v13 kb11 s10) t15=some r) (fun t15=>mk [(0,(.one (.d (.sl 3 (List.map d_TPart a1))))),(1,(oI a2)),(6,(oI v3)),(7,(.one (.sl 320576 0 t15.1.length))),(8,(oI s10.2)),(9,(.one (.ptr (.nm 576 0 0))))] [(320576,(.data 3 (List.map d_TPart t15.1) true none)),(576,(.vars 3 [(dI t15.2),(dI v13.Hi),(dI v13.Owner)]))] noG) ?_ ?_)))))
     ·intro t15 H
      unfold spec_SplitAt_j15 at H
      refine aR (oMov (eR rfl) (oLoadVA (es:=[(dI t15.2),(dI v13.Hi),(dI v13.Owner)]) (eR rfl) (bS rfl bZ) rfl (oBslice (m:=3648) (q:=1) (cs:=[(dI t15.2),(dI v13.Hi),(dI v13.Owner)]) rfl (PsCons eZ PsNil) rfl (List.cons_ne_nil _ _) (by simp) (nS rfl (nS rfl nZ)) ?_)))
      obtain⟨h17,H⟩:=oguard H
      exact oAppN (f:=d_TPart) (xs:=t15.1) (ys:=[(TPart.mk t15.2 v13.Hi v13.Owner)]) (q:=(t15.1++([(TPart.mk t15.2 v13.Hi v13.Owner)])).length) (eR rfl) eZ (bS rfl bZ) rfl (El.one (f:=d_TPart) (t:=(TPart.mk t15.2 v13.Hi v13.Owner)) (es:=[(.int .i64 t15.2),(.int .i64 v13.Hi),(.int .i64 v13.Owner)]) bZ rfl rfl rfl) rfl h17 (by decide) (by decide) (erL.cons (v':=(.one (.sl 3648 0 1))) rfl (erL.cons (v':=(.agg [(dI t15.2),(dI v13.Hi),(dI v13.Owner)])) rfl (erL.cons (v':=(.one .any)) rfl (erL.cons (v':=(.one (.d (.sl 3 (List.map d_TPart a1))))) rfl (erL.cons (v':=(oI a2)) rfl (erL.cons (v':=(oI v3)) rfl (erL.cons (v':=(.one .any)) rfl (erL.cons (v':=(oI s10.2)) rfl (erL.cons (v':=(.one (.ptr (.nm 576 0 0)))) rfl erL.nil))))))))) (erH.cons (v':=(.vars 3 [(dI t15.2),(dI v13.Hi),(dI v13.Owner)])) rfl rfl (erH.drop rfl (erH.cons (v':=(.vars 3 [(dI t15.2),(dI v13.Hi),(dI v13.Owner)])) rfl rfl erH.nil))) (oMov eZ (xNil (BQ.qn (TQ.qn (aR (oMov (eR rfl) (oAdd eZ eC (oMov eZ (xNil (TQ.qn ⟨((t15.1++([(TPart.mk t15.2 v13.Hi v13.Owner)])),(IntKind.wrap .i64 (s10.2+1))),H,((wk_mk [3648,576] (kR rfl rfl (kR rfl rfl (kR rfl rfl (kR rfl rfl (kR rfl rfl SL.nil))))) (BL.keep rfl (BL.drop rfl (BL.drop rfl BL.nil))) (BK.cons rfl bZ rfl rfl BK.nil)).trans (wk_ren 320576 320448 rfl rfl (nS rfl (nS rfl (nS rfl nZ)))))⟩))))))))))
     ·refine aV (oMov (eR rfl) (oMov (eR rfl) (oEql (eR rfl) eZ (xQ (AW.weaken (wk_mk [] (kr 43 rfl rfl (kr 9 rfl rfl (kr 0 rfl rfl (kr 1 rfl rfl (kr 6 rfl rfl (kr 7 rfl rfl (kr 8 rfl rfl SL.nil))))))) (BL.keep rfl (BL.keep rfl (BL.keep rfl BL.nil))) (BK.cons (n:=576) rfl bZ rfl rfl (BK.cons (n:=320448) rfl (bS rfl (bS rfl bZ)) rfl rfl BK.nil))) ?_)))))
      rcases oite H with⟨h18,H⟩|⟨h18,H⟩
      ·refine AW.condT eZ (dT h18) (aV (oMov (eR rfl) (oFaddrN (m:=0) (eR rfl) rfl (oLoadV (q:=0) (c:=(dI v13.Lo)) eZ bZ rfl rfl (oMov (eR rfl) (oFaddrN (m:=2) (eR rfl) rfl (oLoadV (q:=2) (c:=(dI v13.Owner)) eZ bZ rfl rfl (oBuild (cs:=[(dI v13.Lo),(dI a2),(dI v13.Owner)]) (PsCons (eR rfl) (PsCons (eR rfl) (PsCons eZ PsNil))) rfl (oBslice (m:=3264) (q:=1) (cs:=[(dI v13.Lo),(dI a2),(dI v13.Owner)]) rfl (PsCons eZ PsNil) rfl (List.cons_ne_nil _ _) (by simp) (nS rfl (nS rfl nZ)) ?_)))))))))
       obtain⟨h19,H⟩:=oguard H
       exact oAppN (f:=d_TPart) (xs:=s10.1) (ys:=[(TPart.mk v13.Lo a2 v13.Owner)]) (q:=(s10.1++([(TPart.mk v13.Lo a2 v13.Owner)])).length) (eR rfl) eZ (bS rfl (bS rfl bZ)) rfl (El.one (f:=d_TPart) (t:=(TPart.mk v13.Lo a2 v13.Owner)) (es:=[(.int .i64 v13.Lo),(.int .i64 a2),(.int .i64 v13.Owner)]) bZ rfl rfl rfl) rfl h19 (by decide) (by decide) (erL.cons (v':=(.one (.sl 3264 0 1))) rfl (erL.cons (v':=(.agg [(dI v13.Lo),(dI a2),(dI v13.Owner)])) rfl (erL.cons (v':=(oI v13.Owner)) rfl (erL.cons (v':=(.one (.ptr (.nm 576 0 2)))) rfl (erL.cons (v':=(oI a2)) rfl (erL.cons (v':=(oI v13.Lo)) rfl (erL.cons (v':=(.one (.ptr (.nm 576 0 0)))) rfl (erL.cons (v':=(.one .any)) rfl (erL.cons (v':=(oB (decide (s10.2=v3)))) rfl (erL.cons (v':=(.one (.ptr (.nm 576 0 0)))) rfl (erL.cons (v':=(.one (.d (.sl 3 (List.map d_TPart a1))))) rfl (erL.cons (v':=(oI a2)) rfl (erL.cons (v':=(oI v3)) rfl (erL.cons (v':=(.one .any)) rfl (erL.cons (v':=(oI s10.2)) rfl erL.nil))))))))))))))) (erH.cons (v':=(.vars 3 [(dI v13.Lo),(dI a2),(dI v13.Owner)])) rfl rfl (erH.cons (v':=(.vars 3 [(dI v13.Lo),(dI v13.Hi),(dI v13.Owner)])) rfl rfl (erH.drop rfl erH.nil))) (oMov eZ (xQ (AW.weaken (wk_mk [3264] (kr 7 rfl rfl (kr 9 rfl rfl (kr 0 rfl rfl (kr 1 rfl rfl (kr 6 rfl rfl (kr 8 rfl rfl SL.nil)))))) (BL.keep rfl (BL.drop rfl (BL.keep rfl BL.nil))) (BK.cons (n:=320448) rfl bZ rfl rfl (BK.cons (n:=576) rfl (bS rfl (bS rfl bZ)) rfl rfl BK.nil))) (aR (oMov (eR rfl) (oFaddrN (m:=0) (eR rfl) rfl (oStoreV (es:=[(dI a2),(dI v13.Hi),(dI v13.Owner)]) eZ (eR rfl) rfl rfl (bS rfl bZ) rfl (xNil (TQ.qn ⟨((s10.1++([(TPart.mk v13.Lo a2 v13.Owner)])),a2),H,((wk_mk [] (kR rfl rfl (kR rfl rfl (kR rfl rfl (kR rfl rfl (kR rfl rfl (kR rfl rfl SL.nil)))))) (BL.keep rfl (BL.keep rfl (BL.keep rfl BL.nil))) (BK.cons rfl (bS rfl bZ) rfl rfl (BK.cons rfl bZ rfl rfl BK.nil))).trans (wk_ren 320448 320576 rfl rfl (nS rfl (nS rfl (nS rfl nZ)))))⟩)))))))))
      ·exact AW.condF eZ (dF h18) (AW.skip (TQ.qn ⟨(s10.1,v13.Lo),H,((wk_mk [] (kR rfl rfl (kR rfl rfl (kR rfl rfl (kR rfl rfl (kR rfl rfl (kR rfl rfl SL.nil)))))) (BL.keep rfl (BL.keep rfl BL.nil)) (BK.cons rfl (bS rfl bZ) rfl rfl (BK.cons rfl bZ rfl rfl BK.nil))).trans (wk_ren 320448 320576 rfl rfl (nS rfl (nS rfl nZ))))⟩))
    ·exact AW.condF eZ (dF h12) (AW.exit (TQ.qe (TQ.qe (BQ.qe (TQ.qn ⟨s10.1,H,((wk_mk [] (kR rfl rfl SL.nil) (BL.keep rfl BL.nil) (BK.cons rfl bZ rfl rfl BK.nil)).trans (wk_ren 320448 320320 rfl rfl (nS rfl nZ)))⟩)))))
 ·refine aR (oMov (eR rfl) (oLss eZ eC (oMov eZ ?_)))
  rcases oite H with⟨h20,H⟩|⟨h20,H⟩
  ·exact gSkip eZ (dT h20) rfl (gSkip (eR rfl) (dT h20) rfl (gSkip (eR rfl) (dT h20) rfl (gSkip (eR rfl) (dT h20) rfl (gSkip (eR rfl) (dT h20) rfl (gSkip (eR rfl) (dT h20) rfl (gSkip (eR rfl) (dT h20) rfl (oPickT (eR rfl) (dT h20) eC (oMov eZ (gSkip eZ rfl rfl (gSkip (eR rfl) rfl rfl (gSkip (eR rfl) rfl rfl (oPickT (eR rfl) rfl eC (xNil (TQ.qn ⟨true,H,(wk_mk [] (kR rfl rfl (kR rfl rfl (kR rfl rfl (kR rfl rfl (kR rfl rfl SL.nil))))) BL.nil BK.nil)⟩))))))))))))))
  ·refine gDo eZ (dF h20) (oMov (eR rfl) (gDo (eR rfl) (dF h20) (oMov (eR rfl) (gDo (eR rfl) (dF h20) ?_))))
   obtain⟨v21,h22,H⟩:=obind H
   refine oAtD (eR rfl) eZ h22 (gDo (eR rfl) (dF h20) (oFaddrB (m:=0) eZ rfl (gDo (eR rfl) (dF h20) (oLoadB (e:=(.int .i64 v21.Lo)) eZ rfl (gDo (eR rfl) (dF h20) (oMov (eR rfl) (gDo (eR rfl) (dF h20) (oEql (eR rfl) eZ (oPickF (eR rfl) (dF h20) eZ (oMov eZ ?_))))))))))
   rcases oite H with⟨h23,H⟩|⟨h23,H⟩
   ·exact gSkip eZ (dT h23) rfl (gSkip (eR rfl) (dT h23) rfl (gSkip (eR rfl) (dT h23) rfl (oPickT (eR rfl) (dT h23) eC (xNil (TQ.qn ⟨true,H,(wk_mk [] (kR rfl rfl (kR rfl rfl (kR rfl rfl (kR rfl rfl (kR rfl rfl SL.nil))))) BL.nil BK.nil)⟩)))))
   ·exact gDo eZ (dF h23) (oMov (eR rfl) (gDo (eR rfl) (dF h23) (oLenD eZ (n:=a1.length) (List.length_map _) (gDo (eR rfl) (dF h23) (oEql eZ eC (oPickF (eR rfl) (dF h23) eZ (xNil (TQ.qn ⟨(decide ((a1.length:Int)=16)),H,(wk_mk [] (kR rfl rfl (kR rfl rfl (kR rfl rfl (kR rfl rfl (kR rfl rfl SL.nil))))) BL.nil BK.nil)⟩))))))))
theorem c_spec_GiveTo{a1:(List TPart)}{a2:Int}{a3:Int}{r:((List TPart)×Bool)}(H:m_spec_GiveTo a1 a2 a3=some r):Fn Try.prog 131 (lent [(.sl 3 (List.map d_TPart a1)),(.int .i64 a2),(.int .i64 a3)]) true [(.sl 3 (List.map d_TPart r.1)),(.bool r.2)]:=by
 refine f131 (fle rfl) ?_
 rw[init_mk]
 refine AW.weaken (wk_mk [] (kv 0 (.one (.d (.sl 3 (List.map d_TPart a1)))) rfl rfl (kv 1 (oI a2) rfl rfl (kv 2 (oI a3) rfl rfl SL.nil))) BL.nil BK.nil) ?_
 unfold m_spec_GiveTo at H
 unfold i131
 refine aV (oMov eC (oMov eC (xQ (aV (oMov (eR rfl) (oMov (eR rfl) ?_))))))
 obtain⟨v4,h5,H⟩:=obind H
 refine oCall (u:=(oI v4)) eC Cl.fn (c_spec_PartAt h5) (Evs.cons (eR rfl) (Evs.cons eZ Evs.nil)) (VDs.cons VD.plain (VDs.cons VD.plain VDs.nil)) rfl (oMov eZ (xQ (aS (AW.seqJ (fun t6:Bool=>(spec_GiveTo_j6 a1 v4 a3) t6=some r) (fun t6=>mk [(0,(.one (.d (.sl 3 (List.map d_TPart a1))))),(2,(oI a3)),(8,(oI v4)),(19,(oB t6))] [] noG) ?_ ?_))))
 ·intro t6 H
  unfold spec_GiveTo_j6 at H
  rcases oite H with⟨h8,H⟩|⟨h8,H⟩
  ·refine AW.condT (eR rfl) h8 (aV (oBsliceZ (m:=1280) rfl nZ (oMov eZ (oMov eC (xQ (AW.ret (TQ.qr ?_)))))))
   cases H
   exact endsR (RL.cons (RV.tmp (eR rfl)) VO.zs (RL.cons (RV.tmp eZ) (VO.flat rfl) RL.nil)) List.nodup_nil
  ·refine AW.condF (eR rfl) (nt h8) (AW.skip (TQ.qn (aV (oBsliceZ (m:=1344) rfl nZ (oMov (eR rfl) ?_)))))
   obtain⟨h9,H⟩:=oguard H
   refine oAppZ (f:=d_TPart) (m:=1472) (own:=true) (ys:=a1) (q:=a1.length) rfl rfl (eR rfl) eZ (El.lent fun _ _=>rfl) rfl h9 (by decide) nZ (oMov eZ (xQ (aV (oMov eZ (oMov (eR rfl) (oMov (eR rfl) ?_))))))
   obtain⟨v10,h11,H⟩:=obind H
   refine oAtN (eR rfl) (eR rfl) bZ rfl h11 (oFaddrN (m:=2) eZ rfl (oStoreD (t:=v10) (t':=(TPart.mk v10.Lo v10.Hi a3)) (es:=[(.int .i64 a3)]) eZ (eR rfl) rfl rfl bZ (idx_at h11) rfl rfl (xQ (aV (oMov (eR rfl) (oMov eZ (oMov eC (xQ (AW.weaken (wk_mk [] (kr 7 rfl rfl (kr 6 rfl rfl SL.nil)) (BL.keep rfl (BL.keep rfl BL.nil)) (BK.cons (n:=1472) rfl bZ rfl rfl BK.nil)) (AW.ret ?_))))))))))
   cases H
   exact endsR (RL.cons (RV.tmp (eR rfl)) (VO.sl bZ (by first|(simp;done)|(simp;omega)|omega|(simp only[List.length_map];omega)) (allFlat fun _=>rfl)) (RL.cons (RV.tmp eZ) (VO.flat rfl) RL.nil)) (by decide)
 ·refine aR (oMov eZ (oLss eZ eC (oMov eZ ?_)))
  rcases oite H with⟨h12,H⟩|⟨h12,H⟩
  ·exact gSkip eZ (dT h12) rfl (gSkip (eR rfl) (dT h12) rfl (gSkip (eR rfl) (dT h12) rfl (oPickT (eR rfl) (dT h12) eC (xNil (TQ.qn ⟨true,H,(wk_mk [] (kR rfl rfl (kR rfl rfl (kR rfl rfl (kR rfl rfl SL.nil)))) BL.nil BK.nil)⟩)))))
  ·refine gDo eZ (dF h12) (oMov (eR rfl) (gDo (eR rfl) (dF h12) ?_))
   obtain⟨v13,h14,H⟩:=obind H
   exact oCall (u:=(oB v13)) eC Cl.fn (c_spec_l1In h14) (Evs.cons eZ (Evs.cons eC (Evs.cons eC Evs.nil))) (VDs.cons VD.plain (VDs.cons VD.plain (VDs.cons VD.plain VDs.nil))) rfl (gDo (eR rfl) (dF h12) (oInv eZ (oPickF (eR rfl) (dF h12) eZ (xNil (TQ.qn ⟨(!v13),H,(wk_mk [] (kR rfl rfl (kR rfl rfl (kR rfl rfl (kR rfl rfl SL.nil)))) BL.nil BK.nil)⟩)))))
theorem c_spec_l10DrawParts{pv:Value}{cb1:(List Int)}{a2:(Int×Int)}{r:((List TPart)×(Int×Int))}(H:m_spec_l10DrawParts cb1 a2=some r):FnC Try.prog pv (.sl 1 (List.map d_u8 cb1)) 114 [⟨(.ptr [(.pin pv),(.int .i64 a2.1),(.int .i64 a2.2)]),.m (.ptr [(.pin pv),(.int .i64 r.2.1),(.int .i64 r.2.2)])⟩] [(.sl 3 (List.map d_TPart r.1))]:=by
 refine n114 (fle rfl) (fle rfl) (fC nZ rfl fN) rfl ?_
 rw[initC_mk]
 refine AW.weaken (t:=mk [(0,(.one (.ptr (.nm 0 0 0))))] [(0,(.vars 3 [(.d (.pin pv)),(dI a2.1),(dI a2.2)]))] (lk [(63,(.one (.d (.both pv (.sl 1 (List.map d_u8 cb1)))))),(0,(.one (.ptr (.nm 0 0 0))))])) (wk_mkG (gl:=[(63,(.one (.d (.both pv (.sl 1 (List.map d_u8 cb1)))))),(0,(.one (.ptr (.nm 0 0 0))))]) [] (kv 0 (.one (.ptr (.nm 0 0 0))) rfl rfl SL.nil) (BL.keep rfl BL.nil) (BK.cons (n:=0) rfl bZ rfl rfl BK.nil) (GK.cons rfl (GK.cons rfl GK.nil))) ?_
 unfold m_spec_l10DrawParts at H
 unfold i114
 refine aV (oMov eC (xQ (aS (AW.regm (rmOne (oMov (eR rfl) (xNil ?_)))))))
 obtain⟨v3,h4,H⟩:=obind H
 refine rmCallIC (v0:=pv) (hg:=by exact rfl) (ON:=[0]) (ls:=[]) (G:=[]) (E:=[subKey 0]) (MB:=[(0,(.vars 3 [(.d (.pin pv)),(dI v3.2.1),(dI v3.2.2)]))]) (u:=(oI v3.1)) eC Cl.fn (c_spec_l1Below h4) (Evs.cons eZ (Evs.cons eC Evs.nil)) (AO.mut (VO.ptr (es:=[(.pin pv),(.int .i64 a2.1),(.int .i64 a2.2)]) bZ rfl rfl rfl) (AO.lent VD.plain rfl AO.nil)) rfl rfl rfl (SZ.consP bZ rfl SZ.nil) (erL.cons (v':=(.one (.ptr (.nm 0 0 0)))) rfl (erL.cons (v':=(.one .zs)) rfl (erL.cons (v':=(.one (.ptr (.nm 0 0 0)))) rfl erL.nil))) (erH.cons (v':=(.vars 3 [(.d (.pin pv)),(dI a2.1),(dI a2.2)])) rfl rfl erH.nil) (erL.cons (v':=(.one (.d (.both pv (.sl 1 (List.map d_u8 cb1)))))) rfl (erL.cons (v':=(.one (.ptr (.nm 0 0 0)))) rfl erL.nil)) rfl rfl (rmRest (oBuild (cs:=[(dI 0),(dI 1000),(dI v3.1)]) (PsCons eC (PsCons eC (PsCons eZ PsNil))) rfl (oBslice (m:=768) (q:=1) (cs:=[(dI 0),(dI 1000),(dI v3.1)]) rfl (PsCons eZ PsNil) rfl (List.cons_ne_nil _ _) (by simp) (nS rfl (nS rfl nZ)) (oMov eZ (xQ (aS (AW.regm (rmOne (oMov (eR rfl) (xNil ?_))))))))))
 obtain⟨v5,h6,H⟩:=obind H
 refine rmCallIC (v0:=pv) (hg:=by exact rfl) (ON:=[0]) (ls:=[]) (G:=[]) (E:=[subKey 0]) (MB:=[(0,(.vars 3 [(.d (.pin pv)),(dI v5.2.1),(dI v5.2.2)]))]) (u:=(oI v5.1)) eC Cl.fn (c_spec_l1Below h6) (Evs.cons eZ (Evs.cons eC Evs.nil)) (AO.mut (VO.ptr (es:=[(.pin pv),(.int .i64 v3.2.1),(.int .i64 v3.2.2)]) (bS rfl bZ) rfl rfl rfl) (AO.lent VD.plain rfl AO.nil)) rfl rfl rfl (SZ.consP (bS rfl bZ) rfl SZ.nil) (erL.cons (v':=(.one (.ptr (.nm 0 0 0)))) rfl (erL.cons (v':=(.one (.sl 768 0 1))) rfl (erL.cons (v':=(.one (.sl 768 0 1))) rfl (erL.cons (v':=(.agg [(dI 0),(dI 1000),(dI v3.1)])) rfl (erL.cons (v':=(oI v3.1)) rfl (erL.cons (v':=(.one (.ptr (.nm 0 0 0)))) rfl (erL.cons (v':=(.one .zs)) rfl (erL.cons (v':=(.one (.ptr (.nm 0 0 0)))) rfl erL.nil)))))))) (erH.cons (v':=(.vars 3 [(dI 0),(dI 1000),(dI v3.1)])) rfl rfl (erH.cons (v':=(.vars 3 [(.d (.pin pv)),(dI v3.2.1),(dI v3.2.2)])) rfl rfl (erH.cons (v':=(.vars 3 [(.d (.pin pv)),(dI a2.1),(dI a2.2)])) rfl rfl erH.nil))) (erL.cons (v':=(.one (.d (.both pv (.sl 1 (List.map d_u8 cb1)))))) rfl (erL.cons (v':=(.one (.ptr (.nm 0 0 0)))) rfl erL.nil)) rfl rfl (rmRest (oMov eZ (xQ (AW.seqJ (fun t7:(Int×Int×Int)=>(spec_l10DrawParts_j7 cb1 v3) t7=some r) (fun t7=>mk [(0,(.one (.ptr (.nm 0 0 0)))),(3,(.one (.sl 768 0 1))),(4,(oI t7.1))] [(0,(.vars 3 [(.d (.pin pv)),(dI t7.2.1),(dI t7.2.2)])),(768,(.vars 3 [(dI 0),(dI 1000),(dI v3.1)]))] (lk [(63,(.one (.d (.both pv (.sl 1 (List.map d_u8 cb1)))))),(0,(.one (.ptr (.nm 0 0 0))))])) ?_ ?_))))
 ·intro t7 H
  unfold spec_l10DrawParts_j7 at H
  refine AW.seqJ (fun t9:((List TPart)×Int×Int)=>spec_l10DrawParts_j9 t9=some r) (fun t9=>mk [(3,(.one (.sl 320320 0 t9.1.length)))] [(320320,(.data 3 (List.map d_TPart t9.1) true none)),(0,(.vars 3 [(.d (.pin pv)),(dI t9.2.1),(dI t9.2.2)]))] (lk [(63,(.one (.d (.both pv (.sl 1 (List.map d_u8 cb1)))))),(0,(.one (.ptr (.nm 0 0 0))))])) ?_ ?_
  ·intro t9 H
   unfold spec_l10DrawParts_j9 at H
   refine aV (oMov eZ (oMov eZ (xQ (AW.ret ?_))))
   cases H
   exact endsRM (RL.cons (RV.tmp eZ) (VO.sl bZ (List.length_map _) (allFlat fun _=>rfl)) RL.nil) (ML.mut (eS rfl eZ) (VO.ptr (es:=[(.pin pv),(.int .i64 t9.2.1),(.int .i64 t9.2.2)]) (bS rfl bZ) rfl rfl rfl) ML.nil) (by decide)
  ·refine aV (oMov eC (xQ (AW.block (AW.iter (fun s11:((List TPart)×Int×Int×Int)=>mk [(0,(.one (.ptr (.nm 0 0 0)))),(3,(.one (.sl 320384 0 s11.1.length))),(4,(oI t7.1)),(5,(oI s11.2.1))] [(320384,(.data 3 (List.map d_TPart s11.1) true none)),(0,(.vars 3 [(.d (.pin pv)),(dI s11.2.2.1),(dI s11.2.2.2)]))] (lk [(63,(.one (.d (.both pv (.sl 1 (List.map d_u8 cb1)))))),(0,(.one (.ptr (.nm 0 0 0))))])) H (Wk.trans (s:=mk [(5,(oI 0)),(0,(.one (.ptr (.nm 0 0 0)))),(3,(.one (.sl 768 0 1))),(4,(oI t7.1))] [(768,(.data 3 (List.map d_TPart ([(TPart.mk 0 1000 v3.1)])) true none)),(0,(.vars 3 [(.d (.pin pv)),(dI t7.2.1),(dI t7.2.2)])),(768,(.vars 3 [(dI 0),(dI 1000),(dI v3.1)]))] (lk [(63,(.one (.d (.both pv (.sl 1 (List.map d_u8 cb1)))))),(0,(.one (.ptr (.nm 0 0 0))))])) (Wk.trans (s:=mk [(5,(oI 0)),(0,(.one (.ptr (.nm 0 0 0)))),(3,(.one (.sl 320384 0 1))),(4,(oI t7.1))] [(320384,(.data 3 (List.map d_TPart ([(TPart.mk 0 1000 v3.1)])) true none)),(0,(.vars 3 [(.d (.pin pv)),(dI t7.2.1),(dI t7.2.2)])),(320384,(.vars 3 [(dI 0),(dI 1000),(dI v3.1)]))] (lk [(63,(.one (.d (.both pv (.sl 1 (List.map d_u8 cb1)))))),(0,(.one (.ptr (.nm 0 0 0))))])) (wk_mkG [] (kR rfl rfl (SL.cons (eR rfl) rfl (VWk.one (CWk.len (by first|(simp;done)|(simp;omega)|omega|(simp only[List.length_map];omega)))) (kR rfl rfl (kR rfl rfl SL.nil)))) (BL.keep rfl (BL.keep rfl (BL.keep rfl BL.nil))) (BK.cons rfl bZ rfl rfl (BK.cons rfl (bS rfl bZ) rfl rfl BK.nil)) (GK.cons rfl (GK.cons rfl GK.nil))) (wk_renG 768 320384 rfl rfl (nS rfl (nS rfl (nS rfl nZ))) (GR.cons rfl (GR.cons rfl GR.nil)))) (wk_dataF 768 (zs:=[]) (f:=d_TPart) (t:=(TPart.mk 0 1000 v3.1)) (bS rfl bZ) rfl rfl)) ?_))))
   intro kb12 s11 H
   unfold spec_l10DrawParts_b11 at H
   refine aS (aV (oMov (eR rfl) (oMov (eR rfl) (oLss (eR rfl) eZ (xQ ?_)))))
   rcases oite H with⟨h13,H⟩|⟨h13,H⟩
   ·refine AW.condT eZ (dT h13) (AW.skip (TQ.qn (aS (AW.block (aS (AW.regm (rmOne (oMov (eR rfl) (xNil ?_)))))))))
    obtain⟨v14,h15,H⟩:=obind H
    refine rmCallIC (v0:=pv) (hg:=by exact rfl) (ON:=[0]) (ls:=[]) (G:=[]) (E:=[subKey 0]) (MB:=[(0,(.vars 3 [(.d (.pin pv)),(dI v14.2.1),(dI v14.2.2)]))]) (u:=(oI v14.1)) eC Cl.fn (c_spec_l1Below h15) (Evs.cons eZ (Evs.cons eC Evs.nil)) (AO.mut (VO.ptr (es:=[(.pin pv),(.int .i64 s11.2.2.1),(.int .i64 s11.2.2.2)]) (bS rfl bZ) rfl rfl rfl) (AO.lent VD.plain rfl AO.nil)) rfl rfl rfl (SZ.consP (bS rfl bZ) rfl SZ.nil) (erL.cons (v':=(.one (.ptr (.nm 0 0 0)))) rfl (erL.cons (v':=(oB (decide (s11.2.1 < t7.1)))) rfl (erL.cons (v':=(oI t7.1)) rfl (erL.cons (v':=(oI s11.2.1)) rfl (erL.cons (v':=(.one (.ptr (.nm 0 0 0)))) rfl (erL.cons (v':=(.one (.sl 320384 0 s11.1.length))) rfl (erL.cons (v':=(oI t7.1)) rfl (erL.cons (v':=(oI s11.2.1)) rfl erL.nil)))))))) (erH.cons (v':=(.data 3 (List.map d_TPart s11.1) true none)) rfl rfl (erH.cons (v':=(.vars 3 [(.d (.pin pv)),(dI s11.2.2.1),(dI s11.2.2.2)])) rfl rfl erH.nil)) (erL.cons (v':=(.one (.d (.both pv (.sl 1 (List.map d_u8 cb1)))))) rfl (erL.cons (v':=(.one (.ptr (.nm 0 0 0)))) rfl erL.nil)) rfl rfl (rmRest (oMov eZ (xQ (aV (oMov (eR rfl) (oMov (eR rfl) ?_))))))
    obtain⟨v16,h17,H⟩:=obind H
    refine oCallN (u:=(.tup [(.one (.sl 1728 0 v16.1.length)),(oB v16.2)])) (bs:=[(1728,(.data 3 (List.map d_TPart v16.1) true none))]) eC Cl.fn (c_spec_SplitAt h17) (Evs.cons (eR rfl) (Evs.cons eZ Evs.nil)) (VDs.cons (VD.sl (bS rfl bZ) (List.length_map _)) (VDs.cons VD.plain VDs.nil)) (by simp[bindR,bindV,bindVs,bindC,bindCs]) rfl (fC (nS rfl (nS rfl (nS rfl nZ))) rfl (fC (nS rfl (nS rfl (nS rfl nZ))) rfl fN)) (oMov eZ (oExt (v:=(.one (.sl 1728 0 v16.1.length))) eZ rfl (oExt (v:=(oB v16.2)) (eR rfl) rfl (oMov (eR rfl) (oMov (eR rfl) (xQ (AW.weaken (wk_mkG [] (kr 8 rfl rfl (kr 7 rfl rfl (kr 6 rfl rfl (kr 0 rfl rfl (kr 3 rfl rfl (kr 4 rfl rfl (kr 5 rfl rfl SL.nil))))))) (BL.keep rfl (BL.keep rfl (BL.keep rfl (BL.keep rfl BL.nil)))) (BK.cons (n:=1728) rfl bZ rfl rfl (BK.cons (n:=0) rfl (bS rfl bZ) rfl rfl (BK.cons (n:=320384) rfl (bS rfl (bS rfl bZ)) rfl rfl BK.nil))) (GK.cons rfl (GK.cons rfl GK.nil))) (AW.seqJ (fun t18:(List TPart)=>(spec_l10DrawParts_j18 cb1 v14 kb12 s11) t18=some r) (fun t18=>mk [(0,(.one (.ptr (.nm 0 0 0)))),(3,(.one (.sl 320576 0 t18.length))),(4,(oI t7.1)),(5,(oI s11.2.1)),(6,(oI v14.1))] [(320576,(.data 3 (List.map d_TPart t18) true none)),(0,(.vars 3 [(.d (.pin pv)),(dI v14.2.1),(dI v14.2.2)]))] (lk [(63,(.one (.d (.both pv (.sl 1 (List.map d_u8 cb1)))))),(0,(.one (.ptr (.nm 0 0 0))))])) ?_ ?_))))))))
    ·intro t18 H
     unfold spec_l10DrawParts_j18 at H
     refine AW.regm (rmOne (oMov (eR rfl) (xNil (rmOne (oMov (eR rfl) (xNil (rmOne (oMov (eR rfl) (xNil ?_)))))))))
     obtain⟨v20,h21,H⟩:=obind H
     refine rmCallIC (v0:=pv) (hg:=by exact rfl) (ON:=[0]) (ls:=[]) (G:=[]) (E:=[subKey 0]) (MB:=[(0,(.vars 3 [(.d (.pin pv)),(dI v20.2.1),(dI v20.2.2)]))]) (u:=(oI v20.1)) eC Cl.fn (c_spec_l1Below h21) (Evs.cons eZ (Evs.cons eC Evs.nil)) (AO.mut (VO.ptr (es:=[(.pin pv),(.int .i64 v14.2.1),(.int .i64 v14.2.2)]) (bS rfl bZ) rfl rfl rfl) (AO.lent VD.plain rfl AO.nil)) rfl rfl rfl (SZ.consP (bS rfl bZ) rfl SZ.nil) (erL.cons (v':=(.one (.ptr (.nm 0 0 0)))) rfl (erL.cons (v':=(oI v14.1)) rfl (erL.cons (v':=(.one (.sl 320576 0 t18.length))) rfl (erL.cons (v':=(.one (.ptr (.nm 0 0 0)))) rfl (erL.cons (v':=(.one (.sl 320576 0 t18.length))) rfl (erL.cons (v':=(oI t7.1)) rfl (erL.cons (v':=(oI s11.2.1)) rfl (erL.cons (v':=(oI v14.1)) rfl erL.nil)))))))) (erH.cons (v':=(.data 3 (List.map d_TPart t18) true none)) rfl rfl (erH.cons (v':=(.vars 3 [(.d (.pin pv)),(dI v14.2.1),(dI v14.2.2)])) rfl rfl erH.nil)) (erL.cons (v':=(.one (.d (.both pv (.sl 1 (List.map d_u8 cb1)))))) rfl (erL.cons (v':=(.one (.ptr (.nm 0 0 0)))) rfl erL.nil)) rfl rfl (rmRest ?_)
     obtain⟨v22,h23,H⟩:=obind H
     exact oCallN (u:=(.tup [(.one (.sl 2368 0 v22.1.length)),(oB v22.2)])) (bs:=[(2368,(.data 3 (List.map d_TPart v22.1) true none))]) eC Cl.fn (c_spec_GiveTo h23) (Evs.cons (eR rfl) (Evs.cons (eR rfl) (Evs.cons eZ Evs.nil))) (VDs.cons (VD.sl (bS rfl bZ) (List.length_map _)) (VDs.cons VD.plain (VDs.cons VD.plain VDs.nil))) (by simp[bindR,bindV,bindVs,bindC,bindCs]) rfl (fC (nS rfl (nS rfl (nS rfl nZ))) rfl (fC (nS rfl (nS rfl (nS rfl nZ))) rfl fN)) (oMov eZ (oExt (v:=(.one (.sl 2368 0 v22.1.length))) eZ rfl (oExt (v:=(oB v22.2)) (eR rfl) rfl (oMov (eR rfl) (xNil (BQ.qn (TQ.qn (aR (oMov (eR rfl) (oAdd eZ eC (oMov eZ (xNil (TQ.qn ⟨(v22.1,(IntKind.wrap .i64 (s11.2.1+1)),v20.2.1,v20.2.2),H,((wk_mkG [320576] (kR rfl rfl (kR rfl rfl (kR rfl rfl (kR rfl rfl SL.nil)))) (BL.keep rfl (BL.keep rfl (BL.drop rfl (BL.keep rfl BL.nil)))) (BK.cons rfl bZ rfl rfl (BK.cons rfl (bS rfl bZ) rfl rfl BK.nil)) (GK.cons rfl (GK.cons rfl GK.nil))).trans (wk_renG 2368 320384 rfl rfl (nS rfl (nS rfl (nS rfl (nS rfl nZ)))) (GR.cons rfl (GR.cons rfl GR.nil))))⟩)))))))))))))
    ·refine aV (oMov eZ (xQ ?_))
     rcases oite H with⟨h24,H⟩|⟨h24,H⟩
     ·exact AW.condT eZ h24 (aR (oMov (eR rfl) (oMov eZ (xNil (TQ.qn ⟨v16.1,H,((wk_mkG [320384] (kR rfl rfl (kR rfl rfl (kR rfl rfl (kR rfl rfl (kR rfl rfl SL.nil))))) (BL.keep rfl (BL.keep rfl (BL.drop rfl BL.nil))) (BK.cons rfl bZ rfl rfl (BK.cons rfl (bS rfl bZ) rfl rfl BK.nil)) (GK.cons rfl (GK.cons rfl GK.nil))).trans (wk_renG 1728 320576 rfl rfl (nS rfl (nS rfl (nS rfl nZ))) (GR.cons rfl (GR.cons rfl GR.nil))))⟩)))))
     ·exact AW.condF eZ (nt h24) (AW.skip (TQ.qn ⟨s11.1,H,((wk_mkG [1728] (kR rfl rfl (kR rfl rfl (kR rfl rfl (kR rfl rfl (kR rfl rfl SL.nil))))) (BL.drop rfl (BL.keep rfl (BL.keep rfl BL.nil))) (BK.cons rfl (bS rfl (bS rfl bZ)) rfl rfl (BK.cons rfl (bS rfl bZ) rfl rfl BK.nil)) (GK.cons rfl (GK.cons rfl GK.nil))).trans (wk_renG 320384 320576 rfl rfl (nS rfl (nS rfl (nS rfl nZ))) (GR.cons rfl (GR.cons rfl GR.nil))))⟩))
   ·exact AW.condF eZ (dF h13) (AW.exit (TQ.qe (TQ.qe (BQ.qe (TQ.qn ⟨(s11.1,s11.2.2.1,s11.2.2.2),H,((wk_mkG [] (kR rfl rfl SL.nil) (BL.keep rfl (BL.keep rfl BL.nil)) (BK.cons rfl bZ rfl rfl (BK.cons rfl (bS rfl bZ) rfl rfl BK.nil)) (GK.cons rfl (GK.cons rfl GK.nil))).trans (wk_renG 320384 320320 rfl rfl (nS rfl (nS rfl nZ)) (GR.cons rfl (GR.cons rfl GR.nil))))⟩)))))
 ·refine aS (AW.regm (rmOne (oMov (eR rfl) (xNil ?_))))
  obtain⟨v25,h26,H⟩:=obind H
  refine rmCallIC (v0:=pv) (hg:=by exact rfl) (ON:=[0]) (ls:=[]) (G:=[]) (E:=[subKey 0]) (MB:=[(0,(.vars 3 [(.d (.pin pv)),(dI v25.2.1),(dI v25.2.2)]))]) (u:=(oB v25.1)) eC Cl.fn (c_spec_l1Once h26) (Evs.cons eZ (Evs.cons eC Evs.nil)) (AO.mut (VO.ptr (es:=[(.pin pv),(.int .i64 v5.2.1),(.int .i64 v5.2.2)]) bZ rfl rfl rfl) (AO.lent VD.plain rfl AO.nil)) rfl rfl rfl (SZ.consP bZ rfl SZ.nil) (erL.cons (v':=(.one (.ptr (.nm 0 0 0)))) rfl (erL.cons (v':=(oI v5.1)) rfl (erL.cons (v':=(oI v5.1)) rfl (erL.cons (v':=(.one (.ptr (.nm 0 0 0)))) rfl (erL.cons (v':=(.one (.sl 768 0 1))) rfl (erL.cons (v':=(.one (.sl 768 0 1))) rfl (erL.cons (v':=(.agg [(dI 0),(dI 1000),(dI v3.1)])) rfl (erL.cons (v':=(oI v3.1)) rfl (erL.cons (v':=(.one (.ptr (.nm 0 0 0)))) rfl (erL.cons (v':=(.one .zs)) rfl (erL.cons (v':=(.one (.ptr (.nm 0 0 0)))) rfl erL.nil))))))))))) (erH.cons (v':=(.vars 3 [(.d (.pin pv)),(dI v5.2.1),(dI v5.2.2)])) rfl rfl (erH.cons (v':=(.vars 3 [(dI 0),(dI 1000),(dI v3.1)])) rfl rfl (erH.cons (v':=(.vars 3 [(.d (.pin pv)),(dI v3.2.1),(dI v3.2.2)])) rfl rfl (erH.cons (v':=(.vars 3 [(.d (.pin pv)),(dI a2.1),(dI a2.2)])) rfl rfl erH.nil)))) (erL.cons (v':=(.one (.d (.both pv (.sl 1 (List.map d_u8 cb1)))))) rfl (erL.cons (v':=(.one (.ptr (.nm 0 0 0)))) rfl erL.nil)) rfl rfl (rmRest (xQ ?_))
  rcases oite H with⟨h27,H⟩|⟨h27,H⟩
  ·exact AW.condT eZ h27 (aR (oMov eC (xNil (TQ.qn ⟨(40,v25.2.1,v25.2.2),H,(wk_mkG [] (kR rfl rfl (kR rfl rfl (kR rfl rfl SL.nil))) (BL.keep rfl (BL.keep rfl (BL.keep rfl (BL.keep rfl (BL.keep rfl BL.nil))))) (BK.cons rfl bZ rfl rfl (BK.cons rfl (bS rfl (bS rfl bZ)) rfl rfl BK.nil)) (GK.cons rfl (GK.cons rfl GK.nil)))⟩))))
  ·exact AW.condF eZ (nt h27) (AW.skip (TQ.qn ⟨(v5.1,v25.2.1,v25.2.2),H,(wk_mkG [] (kR rfl rfl (kR rfl rfl (kR rfl rfl SL.nil))) (BL.keep rfl (BL.keep rfl (BL.keep rfl (BL.keep rfl (BL.keep rfl BL.nil))))) (BK.cons rfl bZ rfl rfl (BK.cons rfl (bS rfl (bS rfl bZ)) rfl rfl BK.nil)) (GK.cons rfl (GK.cons rfl GK.nil)))⟩))
theorem c_spec_l10Key{a1:Int}{r:Bool}(H:m_spec_l10Key a1=some r):Fn Try.prog 121 (lent [(.int .i64 a1)]) true [(.bool r)]:=by
 refine f121 (fle rfl) ?_
 rw[init_mk]
 refine AW.weaken (wk_mk [] (kv 0 (oI a1) rfl rfl SL.nil) BL.nil BK.nil) ?_
 unfold m_spec_l10Key at H
 unfold i121
 refine aV (oMov eC (xQ (aV (oMov (eR rfl) ?_))))
 obtain⟨v2,h3,H⟩:=obind H
 refine oCall (u:=(oB v2)) eC Cl.fn (c_spec_l1In h3) (Evs.cons eZ (Evs.cons eC (Evs.cons eC Evs.nil))) (VDs.cons VD.plain (VDs.cons VD.plain (VDs.cons VD.plain VDs.nil))) rfl (oMov eZ (xQ (AW.ret ?_)))
 cases H
 exact eE rfl rfl
theorem c_spec_l1Whole{a1:Int}{r:Bool}(H:m_spec_l1Whole a1=some r):Fn Try.prog 122 (lent [(.int .i64 a1)]) true [(.bool r)]:=by
 refine f122 (fle rfl) ?_
 rw[init_mk]
 refine AW.weaken (wk_mk [] (kv 0 (oI a1) rfl rfl SL.nil) BL.nil BK.nil) ?_
 unfold m_spec_l1Whole at H
 unfold i122
 refine aV (oMov eC (xQ (aV (oMov (eR rfl) ?_))))
 obtain⟨v2,h3,H⟩:=obind H
 refine oCall (u:=(oB v2)) eC Cl.fn (c_spec_l1In h3) (Evs.cons eZ (Evs.cons eC (Evs.cons eC Evs.nil))) (VDs.cons VD.plain (VDs.cons VD.plain (VDs.cons VD.plain VDs.nil))) rfl (oMov eZ (xQ (AW.ret ?_)))
 cases H
 exact eE rfl rfl
theorem c_spec_StoreOk{a1:(List TCell)}{r:Bool}(H:m_spec_StoreOk a1=some r):Fn Try.prog 89 (lent [(.sl 2 (List.map d_TCell a1))]) true [(.bool r)]:=by
 refine f89 (fle rfl) ?_
 rw[init_mk]
 refine AW.weaken (wk_mk [] (kv 0 (.one (.d (.sl 2 (List.map d_TCell a1)))) rfl rfl SL.nil) BL.nil BK.nil) ?_
 unfold m_spec_StoreOk at H
 unfold i89
 refine aV (oMov eC (xQ (aS (aV (oMov (eR rfl) (oLenD eZ (n:=a1.length) (List.length_map _) (oGtr eZ eC (xQ ?_))))))))
 rcases oite H with⟨h2,H⟩|⟨h2,H⟩
 ·refine AW.condT eZ (dT h2) (aV (oMov eC (xQ (AW.ret (TQ.qr ?_)))))
  cases H
  exact eE rfl rfl
 ·refine AW.condF eZ (dF h2) (AW.skip (TQ.qn (AW.seqJ (fun t3:Unit=>spec_StoreOk_j3 t3=some r) (fun t3=>mk [] [] noG) ?_ ?_)))
  ·intro t3 H
   unfold spec_StoreOk_j3 at H
   refine aV (oMov eC (xQ (AW.ret ?_)))
   cases H
   exact eE rfl rfl
  ·refine aV (oMov eC (xQ (AW.block (AW.iter (fun s5:Int=>mk [(0,(.one (.d (.sl 2 (List.map d_TCell a1))))),(3,(oI s5))] [] noG) H (wk_mk [] (kR rfl rfl (kR rfl rfl SL.nil)) BL.nil BK.nil) ?_))))
   intro kb6 s5 H
   unfold spec_StoreOk_b5 at H
   refine aS (aV (oMov (eR rfl) (oMov (eR rfl) (oLenD eZ (n:=a1.length) (List.length_map _) (oLss (eR rfl) eZ (xQ ?_))))))
   rcases oite H with⟨h7,H⟩|⟨h7,H⟩
   ·refine AW.condT eZ (dT h7) (AW.skip (TQ.qn (aS (AW.block (AW.seqJ (fun t8:Bool=>(spec_StoreOk_j8 kb6 s5) t8=some r) (fun t8=>mk [(0,(.one (.d (.sl 2 (List.map d_TCell a1))))),(3,(oI s5)),(46,(oB t8))] [] noG) ?_ ?_)))))
    ·intro t8 H
     unfold spec_StoreOk_j8 at H
     rcases oite H with⟨h10,H⟩|⟨h10,H⟩
     ·refine AW.condT (eR rfl) h10 (aV (oMov eC (xQ (AW.ret (BQ.qr (TQ.qr (TQ.qr (BQ.qr (TQ.qr ?_)))))))))
      cases H
      exact eE rfl rfl
     ·exact AW.condF (eR rfl) (nt h10) (AW.skip (BQ.qn (TQ.qn (aR (oMov (eR rfl) (oAdd eZ eC (oMov eZ (xNil (TQ.qn ⟨(IntKind.wrap .i64 (s5+1)),H,(wk_mk [] (kR rfl rfl (kR rfl rfl SL.nil)) BL.nil BK.nil)⟩)))))))))
    ·refine AW.regd (oMov (eR rfl) (oMov (eR rfl) ?_))
     obtain⟨v11,h12,H⟩:=obind H
     refine oAtD (eR rfl) eZ h12 (oFaddrB (m:=0) eZ rfl (oLoadB (e:=(.int .i64 v11.Key)) eZ rfl ?_))
     obtain⟨v13,h14,H⟩:=obind H
     refine oCall (u:=(oB v13)) eC Cl.fn (c_spec_l10Key h14) (Evs.cons eZ Evs.nil) (VDs.cons VD.plain VDs.nil) rfl (oInv eZ (oMov eZ ?_))
     rcases oite H with⟨h15,H⟩|⟨h15,H⟩
     ·refine gDo eZ (cN h15) (oMov (eR rfl) (gDo (eR rfl) (cN h15) (oMov (eR rfl) (gDo (eR rfl) (cN h15) ?_))))
      obtain⟨v16,h17,H⟩:=obind H
      refine oAtD (eR rfl) eZ h17 (gDo (eR rfl) (cN h15) (oFaddrB (m:=1) eZ rfl (gDo (eR rfl) (cN h15) (oLoadB (e:=(.int .i64 v16.Value)) eZ rfl (gDo (eR rfl) (cN h15) ?_)))))
      obtain⟨v18,h19,H⟩:=obind H
      refine oCall (u:=(oB v18)) eC Cl.fn (c_spec_l1Whole h19) (Evs.cons eZ Evs.nil) (VDs.cons VD.plain VDs.nil) rfl (gDo (eR rfl) (cN h15) (oInv eZ (oPickF (eR rfl) (cN h15) eZ (oMov eZ ?_))))
      rcases oite H with⟨h20,H⟩|⟨h20,H⟩
      ·refine gDo eZ (cN h20) (oMov (eR rfl) (gDo (eR rfl) (cN h20) (oGtr eZ eC (gDo (eR rfl) (cN h20) (oMov eZ ?_)))))
       rcases oite H with⟨h21,H⟩|⟨h21,H⟩
       ·refine gDo eZ (dT h21) (oMov (eR rfl) (gDo (eR rfl) (dT h21) (oMov (eR rfl) (gDo (eR rfl) (dT h21) (oSub eZ eC (gDo (eR rfl) (dT h21) ?_))))))
        obtain⟨v22,h23,H⟩:=obind H
        refine oAtD (eR rfl) eZ h23 (gDo (eR rfl) (dT h21) (oFaddrB (m:=0) eZ rfl (gDo (eR rfl) (dT h21) (oLoadB (e:=(.int .i64 v22.Key)) eZ rfl (gDo (eR rfl) (dT h21) (oMov (eR rfl) (gDo (eR rfl) (dT h21) (oMov (eR rfl) (gDo (eR rfl) (dT h21) ?_)))))))))
        obtain⟨v24,h25,H⟩:=obind H
        exact oAtD (eR rfl) eZ h25 (gDo (eR rfl) (dT h21) (oFaddrB (m:=0) eZ rfl (gDo (eR rfl) (dT h21) (oLoadB (e:=(.int .i64 v24.Key)) eZ rfl (gDo (eR rfl) (dT h21) (oGeq (eR rfl) eZ (gDo (eR rfl) (cN h20) (oPickT (eR rfl) (dT h21) eZ (oPickF (eR rfl) (cN h20) eZ (xNil (TQ.qn ⟨(decide (v24.Key≤v22.Key)),H,(wk_mk [] (kR rfl rfl (kR rfl rfl (kR rfl rfl SL.nil))) BL.nil BK.nil)⟩)))))))))))
       ·exact gSkip eZ (dF h21) rfl (gSkip (eR rfl) (dF h21) rfl (gSkip (eR rfl) (dF h21) rfl (gSkip (eR rfl) (dF h21) rfl (gSkip (eR rfl) (dF h21) rfl (gSkip (eR rfl) (dF h21) rfl (gSkip (eR rfl) (dF h21) rfl (gSkip (eR rfl) (dF h21) rfl (gSkip (eR rfl) (dF h21) rfl (gSkip (eR rfl) (dF h21) rfl (gSkip (eR rfl) (dF h21) rfl (gSkip (eR rfl) (dF h21) rfl (gDo (eR rfl) (cN h20) (oPickF (eR rfl) (dF h21) eC (oPickF (eR rfl) (cN h20) eZ (xNil (TQ.qn ⟨false,H,(wk_mk [] (kR rfl rfl (kR rfl rfl (kR rfl rfl SL.nil))) BL.nil BK.nil)⟩))))))))))))))))
      ·exact gSkip eZ (cN (nt h20)) rfl (gSkip (eR rfl) (cN (nt h20)) rfl (gSkip (eR rfl) (cN (nt h20)) rfl (gSkipU eZ rfl (gSkipU (eR rfl) rfl (gSkipU (eR rfl) rfl (gSkipU (eR rfl) rfl (gSkipU (eR rfl) rfl (gSkipU (eR rfl) rfl (gSkipU (eR rfl) rfl (gSkipU (eR rfl) rfl (gSkipU (eR rfl) rfl (gSkipU (eR rfl) rfl (gSkipU (eR rfl) rfl (gSkipU (eR rfl) rfl (gSkip (eR rfl) (cN (nt h20)) rfl (oPickT (eR rfl) (cN (nt h20)) eC (xNil (TQ.qn ⟨true,H,(wk_mk [] (kR rfl rfl (kR rfl rfl (kR rfl rfl SL.nil))) BL.nil BK.nil)⟩))))))))))))))))))
     ·exact gSkip eZ (cN (nt h15)) rfl (gSkip (eR rfl) (cN (nt h15)) rfl (gSkip (eR rfl) (cN (nt h15)) rfl (gSkip (eR rfl) (cN (nt h15)) rfl (gSkip (eR rfl) (cN (nt h15)) rfl (gSkip (eR rfl) (cN (nt h15)) rfl (gSkip (eR rfl) (cN (nt h15)) rfl (oPickT (eR rfl) (cN (nt h15)) eC (oMov eZ (gSkip eZ rfl rfl (gSkip (eR rfl) rfl rfl (gSkip (eR rfl) rfl rfl (gSkipU eZ rfl (gSkipU (eR rfl) rfl (gSkipU (eR rfl) rfl (gSkipU (eR rfl) rfl (gSkipU (eR rfl) rfl (gSkipU (eR rfl) rfl (gSkipU (eR rfl) rfl (gSkipU (eR rfl) rfl (gSkipU (eR rfl) rfl (gSkipU (eR rfl) rfl (gSkipU (eR rfl) rfl (gSkipU (eR rfl) rfl (gSkip (eR rfl) rfl rfl (oPickT (eR rfl) rfl eC (xNil (TQ.qn ⟨true,H,(wk_mk [] (kR rfl rfl (kR rfl rfl (kR rfl rfl SL.nil))) BL.nil BK.nil)⟩)))))))))))))))))))))))))))
   ·exact AW.condF eZ (dF h7) (AW.exit (TQ.qe (TQ.qe (BQ.qe (TQ.qn ⟨(),H,(wk_mk [] SL.nil BL.nil BK.nil)⟩)))))
theorem c_spec_RangeOk{a1:TRange}{r:Bool}(H:m_spec_RangeOk a1=some r):Fn Try.prog 90 (lent [(.agg (d_TRange a1))]) true [(.bool r)]:=by
 refine f90 (fle rfl) ?_
 rw[init_mk]
 refine AW.weaken (wk_mk [] (kv 0 (.agg [(dI a1.Lo),(dI a1.Hi)]) rfl rfl SL.nil) BL.nil BK.nil) ?_
 unfold m_spec_RangeOk at H
 unfold i90
 refine aV (oBox (n:=64) (m:=2) (cs:=[(dI a1.Lo),(dI a1.Hi)]) rfl eZ rfl rfl nZ (oMov eC (xQ (aV (oFaddrN (m:=0) (eR rfl) rfl (oLoadV (q:=0) (c:=(dI a1.Lo)) eZ bZ rfl rfl (oGeq eZ eC (oMov eZ ?_))))))))
 rcases oite H with⟨h2,H⟩|⟨h2,H⟩
 ·refine gDo eZ (dT h2) (oFaddrN (m:=0) (eR rfl) rfl (gDo (eR rfl) (dT h2) (oLoadV (q:=0) (c:=(dI a1.Lo)) eZ bZ rfl rfl (gDo (eR rfl) (dT h2) (oFaddrN (m:=1) (eR rfl) rfl (gDo (eR rfl) (dT h2) (oLoadV (q:=1) (c:=(dI a1.Hi)) eZ bZ rfl rfl (gDo (eR rfl) (dT h2) (oLss (eR rfl) eZ (oPickT (eR rfl) (dT h2) eZ (oMov eZ ?_)))))))))))
  rcases oite H with⟨h3,H⟩|⟨h3,H⟩
  ·refine gDo eZ (dT h3) (oFaddrN (m:=1) (eR rfl) rfl (gDo (eR rfl) (dT h3) (oLoadV (q:=1) (c:=(dI a1.Hi)) eZ bZ rfl rfl (gDo (eR rfl) (dT h3) (oLeq eZ eC (oPickT (eR rfl) (dT h3) eZ (oMov eZ (xQ (AW.weaken (wk_mk [64] (kr 2 rfl rfl SL.nil) (BL.drop rfl BL.nil) BK.nil) (AW.ret ?_))))))))))
   cases H
   exact eE rfl rfl
  ·refine gSkip eZ (dF h3) rfl (gSkip (eR rfl) (dF h3) rfl (gSkip (eR rfl) (dF h3) rfl (oPickF (eR rfl) (dF h3) eC (oMov eZ (xQ (AW.weaken (wk_mk [64] (kr 2 rfl rfl SL.nil) (BL.drop rfl BL.nil) BK.nil) (AW.ret ?_)))))))
   cases H
   exact eE rfl rfl
 ·refine gSkip eZ (dF h2) rfl (gSkip (eR rfl) (dF h2) rfl (gSkip (eR rfl) (dF h2) rfl (gSkip (eR rfl) (dF h2) rfl (gSkip (eR rfl) (dF h2) rfl (oPickF (eR rfl) (dF h2) eC (oMov eZ (gSkip eZ rfl rfl (gSkip (eR rfl) rfl rfl (gSkip (eR rfl) rfl rfl (oPickF (eR rfl) rfl eC (oMov eZ (xQ (AW.weaken (wk_mk [64] (kr 2 rfl rfl SL.nil) (BL.drop rfl BL.nil) BK.nil) (AW.ret ?_))))))))))))))
  cases H
  exact eE rfl rfl
theorem c_spec_l15Group{a1:Int}{r:Bool}(H:m_spec_l15Group a1=some r):Fn Try.prog 52 (lent [(.int .i64 a1)]) true [(.bool r)]:=by
 refine f52 (fle rfl) ?_
 rw[init_mk]
 refine AW.weaken (wk_mk [] (kv 0 (oI a1) rfl rfl SL.nil) BL.nil BK.nil) ?_
 unfold m_spec_l15Group at H
 unfold i52
 refine aV (oMov eC (xQ (aV (oMov (eR rfl) ?_))))
 obtain⟨v2,h3,H⟩:=obind H
 refine oCall (u:=(oB v2)) eC Cl.fn (c_spec_l1In h3) (Evs.cons eZ (Evs.cons eC (Evs.cons eC Evs.nil))) (VDs.cons VD.plain (VDs.cons VD.plain (VDs.cons VD.plain VDs.nil))) rfl (oMov eZ (xQ (AW.ret ?_)))
 cases H
 exact eE rfl rfl
theorem c_spec_l15In{a1:(List TCell)}{a2:TMove}{r:Bool}(H:m_spec_l15In a1 a2=some r):Fn Try.prog 91 (lent [(.sl 2 (List.map d_TCell a1)),(.agg (d_TMove a2))]) true [(.bool r)]:=by
 refine f91 (fle rfl) ?_
 rw[init_mk]
 refine AW.weaken (wk_mk [] (kv 0 (.one (.d (.sl 2 (List.map d_TCell a1)))) rfl rfl (kv 1 (.agg [(dI a2.No),(dI a2.Stage),(dI a2.Lo),(dI a2.Hi),(dI a2.From),(dI a2.To),(.d (.sl 2 (List.map d_TCell a2.Cells)))]) rfl rfl SL.nil)) BL.nil BK.nil) ?_
 unfold m_spec_l15In at H
 unfold i91
 refine aV (oBox (n:=192) (m:=7) (cs:=[(dI a2.No),(dI a2.Stage),(dI a2.Lo),(dI a2.Hi),(dI a2.From),(dI a2.To),(.d (.sl 2 (List.map d_TCell a2.Cells)))]) rfl (eR rfl) rfl rfl nZ (oMov eC (xQ (AW.seqJ (fun t3:Unit=>spec_l15In_j3 t3=some r) (fun t3=>mk [] [] noG) ?_ ?_))))
 ·intro t3 H
  unfold spec_l15In_j3 at H
  refine aV (oMov eC (xQ (AW.ret ?_)))
  cases H
  exact eE rfl rfl
 ·refine aV (oMov eC (xQ (AW.block (AW.iter (fun s5:Int=>mk [(0,(.one (.d (.sl 2 (List.map d_TCell a1))))),(3,(.one (.ptr (.nm 192 0 0)))),(5,(oI s5))] [(192,(.vars 7 [(dI a2.No),(dI a2.Stage),(dI a2.Lo),(dI a2.Hi),(dI a2.From),(dI a2.To),(.d (.sl 2 (List.map d_TCell a2.Cells)))]))] noG) H (wk_mk [] (kR rfl rfl (kR rfl rfl (kR rfl rfl SL.nil))) (BL.keep rfl BL.nil) (BK.cons rfl bZ rfl rfl BK.nil)) ?_))))
  intro kb6 s5 H
  unfold spec_l15In_b5 at H
  refine aS (aV (oMov (eR rfl) (oMov (eR rfl) (oLenD eZ (n:=a1.length) (List.length_map _) (oLss (eR rfl) eZ (xQ ?_))))))
  rcases oite H with⟨h7,H⟩|⟨h7,H⟩
  ·refine AW.condT eZ (dT h7) (AW.skip (TQ.qn (aS (AW.block (aS (AW.regd (oMov (eR rfl) (oMov (eR rfl) ?_))))))))
   obtain⟨v8,h9,H⟩:=obind H
   refine oAtD (eR rfl) eZ h9 (oFaddrB (m:=0) eZ rfl (oLoadB (e:=(.int .i64 v8.Key)) eZ rfl (oFaddrN (m:=2) (eR rfl) rfl (oLoadV (q:=2) (c:=(dI a2.Lo)) eZ bZ rfl rfl (oFaddrN (m:=3) (eR rfl) rfl (oLoadV (q:=3) (c:=(dI a2.Hi)) eZ bZ rfl rfl (oSub eZ eC ?_)))))))
   obtain⟨v10,h11,H⟩:=obind H
   refine oCall (u:=(oB v10)) eC Cl.fn (c_spec_l1In h11) (Evs.cons (eR rfl) (Evs.cons (eR rfl) (Evs.cons eZ Evs.nil))) (VDs.cons VD.plain (VDs.cons VD.plain (VDs.cons VD.plain VDs.nil))) rfl (oInv eZ (xQ (AW.weaken (wk_mk [] (kr 23 rfl rfl (kr 0 rfl rfl (kr 3 rfl rfl (kr 5 rfl rfl SL.nil)))) (BL.keep rfl BL.nil) (BK.cons (n:=192) rfl bZ rfl rfl BK.nil)) ?_)))
   rcases oite H with⟨h12,H⟩|⟨h12,H⟩
   ·exact AW.condF eZ (cN h12) (AW.skip (BQ.qn (TQ.qn (aR (oMov (eR rfl) (oAdd eZ eC (oMov eZ (xNil (TQ.qn ⟨(IntKind.wrap .i64 (s5+1)),H,(wk_mk [] (kR rfl rfl (kR rfl rfl (kR rfl rfl SL.nil))) (BL.keep rfl BL.nil) (BK.cons rfl bZ rfl rfl BK.nil))⟩)))))))))
   ·refine AW.condT eZ (cN (nt h12)) (aV (oMov eC (xQ (AW.ret (BQ.qr (TQ.qr (TQ.qr (BQ.qr (TQ.qr ?_)))))))))
    cases H
    exact eE rfl rfl
  ·exact AW.condF eZ (dF h7) (AW.exit (TQ.qe (TQ.qe (BQ.qe (TQ.qn ⟨(),H,(wk_mk [192] SL.nil (BL.drop rfl BL.nil) BK.nil)⟩)))))
theorem c_spec_AtlasOk{a1:TAtlas}{r:Bool}(H:m_spec_AtlasOk a1=some r):Fn Try.prog 42 (lent [(.agg (d_TAtlas a1))]) true [(.bool r)]:=by
 refine f42 (fle rfl) ?_
 rw[init_mk]
 refine AW.weaken (t:=mk [(0,(.agg [(dI a1.Epoch),(.d (.sl 3 (List.map d_TPart a1.Parts))),(dI a1.Move.No),(dI a1.Move.Stage),(dI a1.Move.Lo),(dI a1.Move.Hi),(dI a1.Move.From),(dI a1.Move.To),(.d (.sl 2 (List.map d_TCell a1.Move.Cells)))]))] [] (lk [])) (wk_mk [] (kv 0 (.agg [(dI a1.Epoch),(.d (.sl 3 (List.map d_TPart a1.Parts))),(dI a1.Move.No),(dI a1.Move.Stage),(dI a1.Move.Lo),(dI a1.Move.Hi),(dI a1.Move.From),(dI a1.Move.To),(.d (.sl 2 (List.map d_TCell a1.Move.Cells)))]) rfl rfl SL.nil) BL.nil BK.nil) ?_
 unfold m_spec_AtlasOk at H
 unfold i42
 refine aV (oBox (n:=64) (m:=9) (cs:=[(dI a1.Epoch),(.d (.sl 3 (List.map d_TPart a1.Parts))),(dI a1.Move.No),(dI a1.Move.Stage),(dI a1.Move.Lo),(dI a1.Move.Hi),(dI a1.Move.From),(dI a1.Move.To),(.d (.sl 2 (List.map d_TCell a1.Move.Cells)))]) rfl eZ rfl rfl nZ (oMov eC (xQ (aS (AW.regm (rmOne (oFaddrN (m:=2) (eR rfl) rfl (xNil (rmOne (oLoadVA (es:=[(dI a1.Move.No),(dI a1.Move.Stage),(dI a1.Move.Lo),(dI a1.Move.Hi),(dI a1.Move.From),(dI a1.Move.To),(.d (.sl 2 (List.map d_TCell a1.Move.Cells)))]) eZ bZ rfl (xNil (rmOne (oVar (n:=192) (m:=7) rfl rfl (nS rfl nZ) (xNil (rmOne (oStoreV (es:=[(dI a1.Move.No),(dI a1.Move.Stage),(dI a1.Move.Lo),(dI a1.Move.Hi),(dI a1.Move.From),(dI a1.Move.To),(.d (.sl 2 (List.map d_TCell a1.Move.Cells)))]) eZ (eR rfl) rfl rfl bZ rfl (xNil (rmRest (xQ (aS (AW.seqJ (fun t2:Bool=>(spec_AtlasOk_j2 a1) t2=some r) (fun t2=>mk [(3,(.one (.ptr (.nm 192 0 0)))),(33,(oB t2))] [(192,(.vars 7 [(dI a1.Move.No),(dI a1.Move.Stage),(dI a1.Move.Lo),(dI a1.Move.Hi),(dI a1.Move.From),(dI a1.Move.To),(.d (.sl 2 (List.map d_TCell a1.Move.Cells)))]))] (lk [])) ?_ ?_)))))))))))))))))))))
 ·intro t2 H
  unfold spec_AtlasOk_j2 at H
  rcases oite H with⟨h4,H⟩|⟨h4,H⟩
  ·refine AW.condT (eR rfl) h4 (aV (oMov eC (xQ (AW.ret (TQ.qr ?_)))))
   cases H
   exact eE rfl rfl
  ·refine AW.condF (eR rfl) (nt h4) (AW.skip (TQ.qn (aS (aV (oFaddrN (m:=1) eZ rfl (oLoadV (q:=1) (c:=(dI a1.Move.Stage)) eZ bZ rfl rfl (oEql eZ eC (xQ ?_))))))))
   rcases oite H with⟨h5,H⟩|⟨h5,H⟩
   ·refine AW.condT eZ (dT h5) (aV (oFaddrN (m:=2) (eR rfl) rfl (oLoadV (q:=2) (c:=(dI a1.Move.Lo)) eZ bZ rfl rfl (oEql eZ eC (oMov eZ ?_)))))
    rcases oite H with⟨h6,H⟩|⟨h6,H⟩
    ·refine gDo eZ (dT h6) (oFaddrN (m:=3) (eR rfl) rfl (gDo (eR rfl) (dT h6) (oLoadV (q:=3) (c:=(dI a1.Move.Hi)) eZ bZ rfl rfl (gDo (eR rfl) (dT h6) (oEql eZ eC (oPickT (eR rfl) (dT h6) eZ (oMov eZ ?_)))))))
     rcases oite H with⟨h7,H⟩|⟨h7,H⟩
     ·refine gDo eZ (dT h7) (oFaddrN (m:=4) (eR rfl) rfl (gDo (eR rfl) (dT h7) (oLoadV (q:=4) (c:=(dI a1.Move.From)) eZ bZ rfl rfl (gDo (eR rfl) (dT h7) (oEql eZ eC (oPickT (eR rfl) (dT h7) eZ (oMov eZ ?_)))))))
      rcases oite H with⟨h8,H⟩|⟨h8,H⟩
      ·refine gDo eZ (dT h8) (oFaddrN (m:=5) (eR rfl) rfl (gDo (eR rfl) (dT h8) (oLoadV (q:=5) (c:=(dI a1.Move.To)) eZ bZ rfl rfl (gDo (eR rfl) (dT h8) (oEql eZ eC (oPickT (eR rfl) (dT h8) eZ (oMov eZ ?_)))))))
       rcases oite H with⟨h9,H⟩|⟨h9,H⟩
       ·refine gDo eZ (dT h9) (oFaddrN (m:=6) (eR rfl) rfl (gDo (eR rfl) (dT h9) (oLoadV (q:=6) (c:=(.d (.sl 2 (List.map d_TCell a1.Move.Cells)))) eZ bZ rfl rfl (gDo (eR rfl) (dT h9) (oLenD eZ (n:=a1.Move.Cells.length) (List.length_map _) (gDo (eR rfl) (dT h9) (oEql eZ eC (oPickT (eR rfl) (dT h9) eZ (oMov eZ (xQ (AW.weaken (wk_mkG [192] (kr 2 rfl rfl SL.nil) (BL.drop rfl BL.nil) BK.nil GK.nil) (AW.ret (TQ.qr ?_)))))))))))))
        cases H
        exact eE rfl rfl
       ·refine gSkip eZ (dF h9) rfl (gSkip (eR rfl) (dF h9) rfl (gSkip (eR rfl) (dF h9) rfl (gSkip (eR rfl) (dF h9) rfl (oPickF (eR rfl) (dF h9) eC (oMov eZ (xQ (AW.weaken (wk_mkG [192] (kr 2 rfl rfl SL.nil) (BL.drop rfl BL.nil) BK.nil GK.nil) (AW.ret (TQ.qr ?_)))))))))
        cases H
        exact eE rfl rfl
      ·refine gSkip eZ (dF h8) rfl (gSkip (eR rfl) (dF h8) rfl (gSkip (eR rfl) (dF h8) rfl (oPickF (eR rfl) (dF h8) eC (oMov eZ (gSkip eZ rfl rfl (gSkip (eR rfl) rfl rfl (gSkip (eR rfl) rfl rfl (gSkip (eR rfl) rfl rfl (oPickF (eR rfl) rfl eC (oMov eZ (xQ (AW.weaken (wk_mkG [192] (kr 2 rfl rfl SL.nil) (BL.drop rfl BL.nil) BK.nil GK.nil) (AW.ret (TQ.qr ?_))))))))))))))
       cases H
       exact eE rfl rfl
     ·refine gSkip eZ (dF h7) rfl (gSkip (eR rfl) (dF h7) rfl (gSkip (eR rfl) (dF h7) rfl (oPickF (eR rfl) (dF h7) eC (oMov eZ (gSkip eZ rfl rfl (gSkip (eR rfl) rfl rfl (gSkip (eR rfl) rfl rfl (oPickF (eR rfl) rfl eC (oMov eZ (gSkip eZ rfl rfl (gSkip (eR rfl) rfl rfl (gSkip (eR rfl) rfl rfl (gSkip (eR rfl) rfl rfl (oPickF (eR rfl) rfl eC (oMov eZ (xQ (AW.weaken (wk_mkG [192] (kr 2 rfl rfl SL.nil) (BL.drop rfl BL.nil) BK.nil GK.nil) (AW.ret (TQ.qr ?_)))))))))))))))))))
      cases H
      exact eE rfl rfl
    ·refine gSkip eZ (dF h6) rfl (gSkip (eR rfl) (dF h6) rfl (gSkip (eR rfl) (dF h6) rfl (oPickF (eR rfl) (dF h6) eC (oMov eZ (gSkip eZ rfl rfl (gSkip (eR rfl) rfl rfl (gSkip (eR rfl) rfl rfl (oPickF (eR rfl) rfl eC (oMov eZ (gSkip eZ rfl rfl (gSkip (eR rfl) rfl rfl (gSkip (eR rfl) rfl rfl (oPickF (eR rfl) rfl eC (oMov eZ (gSkip eZ rfl rfl (gSkip (eR rfl) rfl rfl (gSkip (eR rfl) rfl rfl (gSkip (eR rfl) rfl rfl (oPickF (eR rfl) rfl eC (oMov eZ (xQ (AW.weaken (wk_mkG [192] (kr 2 rfl rfl SL.nil) (BL.drop rfl BL.nil) BK.nil GK.nil) (AW.ret (TQ.qr ?_))))))))))))))))))))))))
     cases H
     exact eE rfl rfl
   ·refine AW.condF eZ (dF h5) (AW.skip (TQ.qn (aS (AW.seqJ (fun t10:Bool=>(spec_AtlasOk_j10 a1) t10=some r) (fun t10=>mk [(3,(.one (.ptr (.nm 192 0 0)))),(91,(oB t10))] [(192,(.vars 7 [(dI a1.Move.No),(dI a1.Move.Stage),(dI a1.Move.Lo),(dI a1.Move.Hi),(dI a1.Move.From),(dI a1.Move.To),(.d (.sl 2 (List.map d_TCell a1.Move.Cells)))]))] (lk [])) ?_ ?_))))
    ·intro t10 H
     unfold spec_AtlasOk_j10 at H
     rcases oite H with⟨h12,H⟩|⟨h12,H⟩
     ·refine AW.condT (eR rfl) h12 (aV (oMov eC (xQ (AW.ret (TQ.qr ?_)))))
      cases H
      exact eE rfl rfl
     ·refine AW.condF (eR rfl) (nt h12) (AW.skip (TQ.qn (aV (oFaddrN (m:=6) eZ rfl (oLoadV (q:=6) (c:=(.d (.sl 2 (List.map d_TCell a1.Move.Cells)))) eZ bZ rfl rfl (oLoadVA (es:=[(dI a1.Move.No),(dI a1.Move.Stage),(dI a1.Move.Lo),(dI a1.Move.Hi),(dI a1.Move.From),(dI a1.Move.To),(.d (.sl 2 (List.map d_TCell a1.Move.Cells)))]) (eR rfl) bZ rfl ?_))))))
      obtain⟨v13,h14,H⟩:=obind H
      refine oCall (u:=(oB v13)) eC Cl.fn (c_spec_l15In h14) (Evs.cons (eR rfl) (Evs.cons eZ Evs.nil)) (VDs.cons VD.plain (VDs.cons (VD.agg rfl) VDs.nil)) rfl (oMov eZ ?_)
      rcases oite H with⟨h15,H⟩|⟨h15,H⟩
      ·refine gDo eZ h15 (oFaddrN (m:=1) (eR rfl) rfl (gDo (eR rfl) h15 (oLoadV (q:=1) (c:=(dI a1.Move.Stage)) eZ bZ rfl rfl (gDo (eR rfl) h15 (oEql eZ eC (gDo (eR rfl) h15 (oMov eZ ?_)))))))
       rcases oite H with⟨h16,H⟩|⟨h16,H⟩
       ·refine gSkip eZ (dT h16) rfl (gSkip (eR rfl) (dT h16) rfl (gSkip (eR rfl) (dT h16) rfl (gSkip (eR rfl) (dT h16) rfl (gDo (eR rfl) h15 (oPickT (eR rfl) (dT h16) eC (oPickT (eR rfl) h15 eZ (oMov eZ (xQ (AW.weaken (wk_mkG [192] (kr 2 rfl rfl SL.nil) (BL.drop rfl BL.nil) BK.nil GK.nil) (AW.ret ?_))))))))))
        cases H
        exact eE rfl rfl
       ·refine gDo eZ (dF h16) (oFaddrN (m:=6) (eR rfl) rfl (gDo (eR rfl) (dF h16) (oLoadV (q:=6) (c:=(.d (.sl 2 (List.map d_TCell a1.Move.Cells)))) eZ bZ rfl rfl (gDo (eR rfl) (dF h16) (oLenD eZ (n:=a1.Move.Cells.length) (List.length_map _) (gDo (eR rfl) (dF h16) (oEql eZ eC (gDo (eR rfl) h15 (oPickF (eR rfl) (dF h16) eZ (oPickT (eR rfl) h15 eZ (oMov eZ (xQ (AW.weaken (wk_mkG [192] (kr 2 rfl rfl SL.nil) (BL.drop rfl BL.nil) BK.nil GK.nil) (AW.ret ?_))))))))))))))
        cases H
        exact eE rfl rfl
      ·refine gSkip eZ (nt h15) rfl (gSkip (eR rfl) (nt h15) rfl (gSkip (eR rfl) (nt h15) rfl (gSkip (eR rfl) (nt h15) rfl (gSkipU eZ rfl (gSkipU (eR rfl) rfl (gSkipU (eR rfl) rfl (gSkipU (eR rfl) rfl (gSkip (eR rfl) (nt h15) rfl (oPickF (eR rfl) (nt h15) eC (oMov eZ (xQ (AW.weaken (wk_mkG [192] (kr 2 rfl rfl SL.nil) (BL.drop rfl BL.nil) BK.nil GK.nil) (AW.ret ?_)))))))))))))
       cases H
       exact eE rfl rfl
    ·refine aR (oFaddrN (m:=0) (eR rfl) rfl (oLoadV (q:=0) (c:=(dI a1.Move.No)) eZ bZ rfl rfl (oLss eZ eC (oMov eZ ?_))))
     rcases oite H with⟨h17,H⟩|⟨h17,H⟩
     ·exact gSkip eZ (dT h17) rfl (gSkip (eR rfl) (dT h17) rfl (gSkip (eR rfl) (dT h17) rfl (gSkip (eR rfl) (dT h17) rfl (gSkip (eR rfl) (dT h17) rfl (gSkip (eR rfl) (dT h17) rfl (gSkip (eR rfl) (dT h17) rfl (oPickT (eR rfl) (dT h17) eC (oMov eZ (gSkip eZ rfl rfl (gSkip (eR rfl) rfl rfl (gSkip (eR rfl) rfl rfl (gSkip (eR rfl) rfl rfl (oPickT (eR rfl) rfl eC (oMov eZ (gSkip eZ rfl rfl (gSkip (eR rfl) rfl rfl (gSkip (eR rfl) rfl rfl (gSkip (eR rfl) rfl rfl (oPickT (eR rfl) rfl eC (oMov eZ (gSkip eZ rfl rfl (gSkip (eR rfl) rfl rfl (gSkip (eR rfl) rfl rfl (gSkip (eR rfl) rfl rfl (gSkip (eR rfl) rfl rfl (oPickT (eR rfl) rfl eC (xNil (TQ.qn ⟨true,H,(wk_mkG [] (kR rfl rfl (kR rfl rfl SL.nil)) (BL.keep rfl BL.nil) (BK.cons rfl bZ rfl rfl BK.nil) GK.nil)⟩))))))))))))))))))))))))))))
     ·refine gDo eZ (dF h17) (oFaddrN (m:=2) (eR rfl) rfl (gDo (eR rfl) (dF h17) (oLoadV (q:=2) (c:=(dI a1.Move.Lo)) eZ bZ rfl rfl (gDo (eR rfl) (dF h17) (oFaddrN (m:=3) (eR rfl) rfl (gDo (eR rfl) (dF h17) (oLoadV (q:=3) (c:=(dI a1.Move.Hi)) eZ bZ rfl rfl (gDo (eR rfl) (dF h17) (oBuild (cs:=[(dI a1.Move.Lo),(dI a1.Move.Hi)]) (PsCons (eR rfl) (PsCons eZ PsNil)) rfl (gDo (eR rfl) (dF h17) ?_))))))))))
      obtain⟨v18,h19,H⟩:=obind H
      refine oCall (u:=(oB v18)) eC Cl.fn (c_spec_RangeOk h19) (Evs.cons eZ Evs.nil) (VDs.cons (VD.agg rfl) VDs.nil) rfl (gDo (eR rfl) (dF h17) (oInv eZ (oPickF (eR rfl) (dF h17) eZ (oMov eZ ?_))))
      rcases oite H with⟨h20,H⟩|⟨h20,H⟩
      ·refine gDo eZ (cN h20) (oFaddrN (m:=4) (eR rfl) rfl (gDo (eR rfl) (cN h20) (oLoadV (q:=4) (c:=(dI a1.Move.From)) eZ bZ rfl rfl (gDo (eR rfl) (cN h20) ?_))))
       obtain⟨v21,h22,H⟩:=obind H
       refine oCall (u:=(oB v21)) eC Cl.fn (c_spec_l15Group h22) (Evs.cons eZ Evs.nil) (VDs.cons VD.plain VDs.nil) rfl (gDo (eR rfl) (cN h20) (oInv eZ (oPickF (eR rfl) (cN h20) eZ (oMov eZ ?_))))
       rcases oite H with⟨h23,H⟩|⟨h23,H⟩
       ·refine gDo eZ (cN h23) (oFaddrN (m:=5) (eR rfl) rfl (gDo (eR rfl) (cN h23) (oLoadV (q:=5) (c:=(dI a1.Move.To)) eZ bZ rfl rfl (gDo (eR rfl) (cN h23) ?_))))
        obtain⟨v24,h25,H⟩:=obind H
        refine oCall (u:=(oB v24)) eC Cl.fn (c_spec_l15Group h25) (Evs.cons eZ Evs.nil) (VDs.cons VD.plain VDs.nil) rfl (gDo (eR rfl) (cN h23) (oInv eZ (oPickF (eR rfl) (cN h23) eZ (oMov eZ ?_))))
        rcases oite H with⟨h26,H⟩|⟨h26,H⟩
        ·exact gDo eZ (cN h26) (oFaddrN (m:=4) (eR rfl) rfl (gDo (eR rfl) (cN h26) (oLoadV (q:=4) (c:=(dI a1.Move.From)) eZ bZ rfl rfl (gDo (eR rfl) (cN h26) (oFaddrN (m:=5) (eR rfl) rfl (gDo (eR rfl) (cN h26) (oLoadV (q:=5) (c:=(dI a1.Move.To)) eZ bZ rfl rfl (gDo (eR rfl) (cN h26) (oEql (eR rfl) eZ (oPickF (eR rfl) (cN h26) eZ (xNil (TQ.qn ⟨(decide (a1.Move.From=a1.Move.To)),H,(wk_mkG [] (kR rfl rfl (kR rfl rfl SL.nil)) (BL.keep rfl BL.nil) (BK.cons rfl bZ rfl rfl BK.nil) GK.nil)⟩))))))))))))
        ·exact gSkip eZ (cN (nt h26)) rfl (gSkip (eR rfl) (cN (nt h26)) rfl (gSkip (eR rfl) (cN (nt h26)) rfl (gSkip (eR rfl) (cN (nt h26)) rfl (gSkip (eR rfl) (cN (nt h26)) rfl (oPickT (eR rfl) (cN (nt h26)) eC (xNil (TQ.qn ⟨true,H,(wk_mkG [] (kR rfl rfl (kR rfl rfl SL.nil)) (BL.keep rfl BL.nil) (BK.cons rfl bZ rfl rfl BK.nil) GK.nil)⟩)))))))
       ·exact gSkip eZ (cN (nt h23)) rfl (gSkip (eR rfl) (cN (nt h23)) rfl (gSkip (eR rfl) (cN (nt h23)) rfl (gSkip (eR rfl) (cN (nt h23)) rfl (oPickT (eR rfl) (cN (nt h23)) eC (oMov eZ (gSkip eZ rfl rfl (gSkip (eR rfl) rfl rfl (gSkip (eR rfl) rfl rfl (gSkip (eR rfl) rfl rfl (gSkip (eR rfl) rfl rfl (oPickT (eR rfl) rfl eC (xNil (TQ.qn ⟨true,H,(wk_mkG [] (kR rfl rfl (kR rfl rfl SL.nil)) (BL.keep rfl BL.nil) (BK.cons rfl bZ rfl rfl BK.nil) GK.nil)⟩)))))))))))))
      ·exact gSkip eZ (cN (nt h20)) rfl (gSkip (eR rfl) (cN (nt h20)) rfl (gSkip (eR rfl) (cN (nt h20)) rfl (gSkip (eR rfl) (cN (nt h20)) rfl (oPickT (eR rfl) (cN (nt h20)) eC (oMov eZ (gSkip eZ rfl rfl (gSkip (eR rfl) rfl rfl (gSkip (eR rfl) rfl rfl (gSkip (eR rfl) rfl rfl (oPickT (eR rfl) rfl eC (oMov eZ (gSkip eZ rfl rfl (gSkip (eR rfl) rfl rfl (gSkip (eR rfl) rfl rfl (gSkip (eR rfl) rfl rfl (gSkip (eR rfl) rfl rfl (oPickT (eR rfl) rfl eC (xNil (TQ.qn ⟨true,H,(wk_mkG [] (kR rfl rfl (kR rfl rfl SL.nil)) (BL.keep rfl BL.nil) (BK.cons rfl bZ rfl rfl BK.nil) GK.nil)⟩)))))))))))))))))))
 ·refine aR (oFaddrN (m:=0) (eR rfl) rfl (oLoadV (q:=0) (c:=(dI a1.Epoch)) eZ (bS rfl (bS rfl bZ)) rfl rfl ?_))
  obtain⟨v27,h28,H⟩:=obind H
  refine oCall (u:=(oB v27)) eC Cl.fn (c_spec_l1In h28) (Evs.cons eZ (Evs.cons eC (Evs.cons eC Evs.nil))) (VDs.cons VD.plain (VDs.cons VD.plain (VDs.cons VD.plain VDs.nil))) rfl (oInv eZ (oMov eZ ?_))
  rcases oite H with⟨h29,H⟩|⟨h29,H⟩
  ·refine gDo eZ (cN h29) (oFaddrN (m:=1) (eR rfl) rfl (gDo (eR rfl) (cN h29) (oLoadV (q:=1) (c:=(.d (.sl 3 (List.map d_TPart a1.Parts)))) eZ (bS rfl (bS rfl bZ)) rfl rfl (gDo (eR rfl) (cN h29) ?_))))
   obtain⟨v30,h31,H⟩:=obind H
   refine oCall (u:=(oB v30)) eC Cl.fn (c_spec_PartsOk h31) (Evs.cons eZ Evs.nil) (VDs.cons VD.plain VDs.nil) rfl (gDo (eR rfl) (cN h29) (oInv eZ (oPickF (eR rfl) (cN h29) eZ (oMov eZ ?_))))
   rcases oite H with⟨h32,H⟩|⟨h32,H⟩
   ·refine gDo eZ (cN h32) (oFaddrN (m:=0) (eR rfl) rfl (gDo (eR rfl) (cN h32) (oLoadV (q:=0) (c:=(dI a1.Move.No)) eZ bZ rfl rfl (gDo (eR rfl) (cN h32) ?_))))
    obtain⟨v33,h34,H⟩:=obind H
    refine oCall (u:=(oB v33)) eC Cl.fn (c_spec_l1In h34) (Evs.cons eZ (Evs.cons eC (Evs.cons eC Evs.nil))) (VDs.cons VD.plain (VDs.cons VD.plain (VDs.cons VD.plain VDs.nil))) rfl (gDo (eR rfl) (cN h32) (oInv eZ (oPickF (eR rfl) (cN h32) eZ (oMov eZ ?_))))
    rcases oite H with⟨h35,H⟩|⟨h35,H⟩
    ·refine gDo eZ (cN h35) (oFaddrN (m:=1) (eR rfl) rfl (gDo (eR rfl) (cN h35) (oLoadV (q:=1) (c:=(dI a1.Move.Stage)) eZ bZ rfl rfl (gDo (eR rfl) (cN h35) ?_))))
     obtain⟨v36,h37,H⟩:=obind H
     refine oCall (u:=(oB v36)) eC Cl.fn (c_spec_l1In h37) (Evs.cons eZ (Evs.cons eC (Evs.cons eC Evs.nil))) (VDs.cons VD.plain (VDs.cons VD.plain (VDs.cons VD.plain VDs.nil))) rfl (gDo (eR rfl) (cN h35) (oInv eZ (oPickF (eR rfl) (cN h35) eZ (oMov eZ ?_))))
     rcases oite H with⟨h38,H⟩|⟨h38,H⟩
     ·refine gDo eZ (cN h38) (oFaddrN (m:=6) (eR rfl) rfl (gDo (eR rfl) (cN h38) (oLoadV (q:=6) (c:=(.d (.sl 2 (List.map d_TCell a1.Move.Cells)))) eZ bZ rfl rfl (gDo (eR rfl) (cN h38) ?_))))
      obtain⟨v39,h40,H⟩:=obind H
      exact oCall (u:=(oB v39)) eC Cl.fn (c_spec_StoreOk h40) (Evs.cons eZ Evs.nil) (VDs.cons VD.plain VDs.nil) rfl (gDo (eR rfl) (cN h38) (oInv eZ (oPickF (eR rfl) (cN h38) eZ (xNil (TQ.qn ⟨(!v39),H,(wk_mkG [64] (kR rfl rfl (kR rfl rfl SL.nil)) (BL.keep rfl (BL.keep rfl (BL.drop rfl BL.nil))) (BK.cons rfl bZ rfl rfl BK.nil) GK.nil)⟩)))))
     ·exact gSkip eZ (cN (nt h38)) rfl (gSkip (eR rfl) (cN (nt h38)) rfl (gSkip (eR rfl) (cN (nt h38)) rfl (gSkip (eR rfl) (cN (nt h38)) rfl (oPickT (eR rfl) (cN (nt h38)) eC (xNil (TQ.qn ⟨true,H,(wk_mkG [64] (kR rfl rfl (kR rfl rfl SL.nil)) (BL.keep rfl (BL.keep rfl (BL.drop rfl BL.nil))) (BK.cons rfl bZ rfl rfl BK.nil) GK.nil)⟩))))))
    ·exact gSkip eZ (cN (nt h35)) rfl (gSkip (eR rfl) (cN (nt h35)) rfl (gSkip (eR rfl) (cN (nt h35)) rfl (gSkip (eR rfl) (cN (nt h35)) rfl (oPickT (eR rfl) (cN (nt h35)) eC (oMov eZ (gSkip eZ rfl rfl (gSkip (eR rfl) rfl rfl (gSkip (eR rfl) rfl rfl (gSkip (eR rfl) rfl rfl (oPickT (eR rfl) rfl eC (xNil (TQ.qn ⟨true,H,(wk_mkG [64] (kR rfl rfl (kR rfl rfl SL.nil)) (BL.keep rfl (BL.keep rfl (BL.drop rfl BL.nil))) (BK.cons rfl bZ rfl rfl BK.nil) GK.nil)⟩))))))))))))
   ·exact gSkip eZ (cN (nt h32)) rfl (gSkip (eR rfl) (cN (nt h32)) rfl (gSkip (eR rfl) (cN (nt h32)) rfl (gSkip (eR rfl) (cN (nt h32)) rfl (oPickT (eR rfl) (cN (nt h32)) eC (oMov eZ (gSkip eZ rfl rfl (gSkip (eR rfl) rfl rfl (gSkip (eR rfl) rfl rfl (gSkip (eR rfl) rfl rfl (oPickT (eR rfl) rfl eC (oMov eZ (gSkip eZ rfl rfl (gSkip (eR rfl) rfl rfl (gSkip (eR rfl) rfl rfl (gSkip (eR rfl) rfl rfl (oPickT (eR rfl) rfl eC (xNil (TQ.qn ⟨true,H,(wk_mkG [64] (kR rfl rfl (kR rfl rfl SL.nil)) (BL.keep rfl (BL.keep rfl (BL.drop rfl BL.nil))) (BK.cons rfl bZ rfl rfl BK.nil) GK.nil)⟩))))))))))))))))))
  ·exact gSkip eZ (cN (nt h29)) rfl (gSkip (eR rfl) (cN (nt h29)) rfl (gSkip (eR rfl) (cN (nt h29)) rfl (gSkip (eR rfl) (cN (nt h29)) rfl (oPickT (eR rfl) (cN (nt h29)) eC (oMov eZ (gSkip eZ rfl rfl (gSkip (eR rfl) rfl rfl (gSkip (eR rfl) rfl rfl (gSkip (eR rfl) rfl rfl (oPickT (eR rfl) rfl eC (oMov eZ (gSkip eZ rfl rfl (gSkip (eR rfl) rfl rfl (gSkip (eR rfl) rfl rfl (gSkip (eR rfl) rfl rfl (oPickT (eR rfl) rfl eC (oMov eZ (gSkip eZ rfl rfl (gSkip (eR rfl) rfl rfl (gSkip (eR rfl) rfl rfl (gSkip (eR rfl) rfl rfl (oPickT (eR rfl) rfl eC (xNil (TQ.qn ⟨true,H,(wk_mkG [64] (kR rfl rfl (kR rfl rfl SL.nil)) (BL.keep rfl (BL.keep rfl (BL.drop rfl BL.nil))) (BK.cons rfl bZ rfl rfl BK.nil) GK.nil)⟩))))))))))))))))))))))))
theorem c_spec_NewAtlas{a1:(List TPart)}{r:TAtlas}(H:m_spec_NewAtlas a1=some r):Fn Try.prog 113 (lent [(.sl 3 (List.map d_TPart a1))]) true [(.agg (d_TAtlas r))]:=by
 refine f113 (fle rfl) ?_
 rw[init_mk]
 refine AW.weaken (t:=mk [(0,(.one (.d (.sl 3 (List.map d_TPart a1)))))] [] (lk [])) (wk_mk [] (kv 0 (.one (.d (.sl 3 (List.map d_TPart a1)))) rfl rfl SL.nil) BL.nil BK.nil) ?_
 unfold m_spec_NewAtlas at H
 unfold i113
 refine aV (oVar (n:=128) (m:=9) rfl rfl nZ (xQ (aS (AW.regm (rmOne (oBsliceZ (m:=256) rfl (nS rfl nZ) (xNil (rmOne (oMov (eR rfl) (xNil (rmOne ?_)))))))))))
 obtain⟨h2,H⟩:=oguard H
 refine oAppZ (f:=d_TPart) (m:=384) (own:=true) (ys:=a1) (q:=a1.length) rfl rfl (eR rfl) eZ (El.lent fun _ _=>rfl) rfl h2 (by decide) (nS rfl nZ) (xNil (rmOne (oBuild (cs:=[(dI 0),(.sl 384 0 a1.length),(dI 0),(dI 0),(dI 0),(dI 0),(dI 0),(dI 0),.zs]) (PsCons eZ PsNil) rfl (xNil (rmOne (oVar (n:=192) (m:=9) rfl rfl (nS rfl (nS rfl nZ)) (xNil (rmOne (oStoreV (es:=[(dI 0),(.sl 384 0 a1.length),(dI 0),(dI 0),(dI 0),(dI 0),(dI 0),(dI 0),.zs]) eZ (eR rfl) rfl rfl bZ rfl (xNil (rmRest (xQ (aS (aV (oLoadVA (es:=[(dI 0),(.sl 384 0 a1.length),(dI 0),(dI 0),(dI 0),(dI 0),(dI 0),(dI 0),.zs]) eZ bZ rfl ?_)))))))))))))))
 obtain⟨v3,h4,H⟩:=obind H
 refine oCall (u:=(oB v3)) eC Cl.fn (Fn.args (RdAs.cons (RdI.agg (RdIs.cons RdI.rfl rfl (RdIs.cons RdI.rfl rfl (RdIs.cons RdI.rfl rfl (RdIs.cons RdI.rfl rfl (RdIs.cons RdI.rfl rfl (RdIs.cons RdI.rfl rfl (RdIs.cons RdI.rfl rfl (RdIs.cons RdI.rfl rfl (RdIs.cons RdI.zs rfl RdIs.nil)))))))))) RdAs.nil) (c_spec_AtlasOk h4)) (Evs.cons eZ Evs.nil) (VDs.cons (VD.aggs (CDs.plain (CDs.sl (bS rfl (bS rfl bZ)) (List.length_map _) (CDs.plain (CDs.plain (CDs.plain (CDs.plain (CDs.plain (CDs.plain (CDs.zs CDs.nil)))))))))) VDs.nil) rfl (oInv eZ (xQ ?_))
 rcases oite H with⟨h5,H⟩|⟨h5,H⟩
 ·refine AW.condF eZ (cN h5) (AW.skip (TQ.qn (aS (AW.regm (rmOne (oLoadVA (es:=[(dI 0),(.sl 384 0 a1.length),(dI 0),(dI 0),(dI 0),(dI 0),(dI 0),(dI 0),.zs]) (eR rfl) bZ rfl (xNil (rmOne (oStoreV (es:=[(dI 0),(.sl 384 0 a1.length),(dI 0),(dI 0),(dI 0),(dI 0),(dI 0),(dI 0),.zs]) (eR rfl) eZ rfl rfl (bS rfl (bS rfl (bS rfl bZ))) rfl (xNil (rmRest (xQ (AW.ret ?_)))))))))))))
  cases H
  exact endsR (RL.cons (RV.cellA (es:=[(dI 0),(.sl 384 0 a1.length),(dI 0),(dI 0),(dI 0),(dI 0),(dI 0),(dI 0),.zs]) (eR rfl) bZ rfl) (VO.aggs (VOs.cons (VO.flat rfl) (VOs.cons (VO.sl (bS rfl (bS rfl (bS rfl bZ))) (List.length_map _) (allFlat fun _=>rfl)) (VOs.cons (VO.flat rfl) (VOs.cons (VO.flat rfl) (VOs.cons (VO.flat rfl) (VOs.cons (VO.flat rfl) (VOs.cons (VO.flat rfl) (VOs.cons (VO.flat rfl) (VOs.cons VO.zs VOs.nil)))))))))) RL.nil) (by decide)
 ·refine AW.condT eZ (cN (nt h5)) (aS (AW.regm (rmOne (oBuild (cs:=[(dI 0),.zs,(dI 0),(dI 0),(dI 0),(dI 0),(dI 0),(dI 0),.zs]) PsNil rfl (xNil (rmOne (oStoreV (es:=[(dI 0),.zs,(dI 0),(dI 0),(dI 0),(dI 0),(dI 0),(dI 0),.zs]) (eR rfl) eZ rfl rfl (bS rfl (bS rfl (bS rfl bZ))) rfl (xNil (rmRest (xQ (AW.ret (TQ.qr ?_))))))))))))
  cases H
  exact endsR (RL.cons (RV.cellA (es:=[(dI 0),.zs,(dI 0),(dI 0),(dI 0),(dI 0),(dI 0),(dI 0),.zs]) (eR rfl) bZ rfl) (VO.aggs (VOs.cons (VO.flat rfl) (VOs.cons VO.zs (VOs.cons (VO.flat rfl) (VOs.cons (VO.flat rfl) (VOs.cons (VO.flat rfl) (VOs.cons (VO.flat rfl) (VOs.cons (VO.flat rfl) (VOs.cons (VO.flat rfl) (VOs.cons VO.zs VOs.nil)))))))))) RL.nil) List.nodup_nil
theorem c_spec_l1Min{a1:Int}{a2:Int}{r:Int}(H:m_spec_l1Min a1 a2=some r):Fn Try.prog 99 (lent [(.int .i64 a1),(.int .i64 a2)]) true [(.int .i64 r)]:=by
 refine f99 (fle rfl) ?_
 rw[init_mk]
 refine AW.weaken (wk_mk [] (kv 0 (oI a1) rfl rfl (kv 1 (oI a2) rfl rfl SL.nil)) BL.nil BK.nil) ?_
 unfold m_spec_l1Min at H
 unfold i99
 refine aV (oMov eC (xQ (aS (aV (oMov (eR rfl) (oMov (eR rfl) (oLss (eR rfl) eZ (xQ ?_))))))))
 rcases oite H with⟨h3,H⟩|⟨h3,H⟩
 ·refine AW.condT eZ (dT h3) (aV (oMov (eR rfl) (oMov eZ (xQ (AW.ret (TQ.qr ?_))))))
  cases H
  exact eE rfl rfl
 ·refine AW.condF eZ (dF h3) (AW.skip (TQ.qn (aV (oMov (eR rfl) (oMov eZ (xQ (AW.ret ?_)))))))
  cases H
  exact eE rfl rfl
theorem c_spec_MoveRank{a1:TMove}{r:Int}(H:m_spec_MoveRank a1=some r):Fn Try.prog 57 (lent [(.agg (d_TMove a1))]) true [(.int .i64 r)]:=by
 refine f57 (fle rfl) ?_
 rw[init_mk]
 refine AW.weaken (wk_mk [] (kv 0 (.agg [(dI a1.No),(dI a1.Stage),(dI a1.Lo),(dI a1.Hi),(dI a1.From),(dI a1.To),(.d (.sl 2 (List.map d_TCell a1.Cells)))]) rfl rfl SL.nil) BL.nil BK.nil) ?_
 unfold m_spec_MoveRank at H
 unfold i57
 refine aV (oBox (n:=64) (m:=7) (cs:=[(dI a1.No),(dI a1.Stage),(dI a1.Lo),(dI a1.Hi),(dI a1.From),(dI a1.To),(.d (.sl 2 (List.map d_TCell a1.Cells)))]) rfl eZ rfl rfl nZ (oMov eC (xQ (aS (AW.seqJ (fun t2:Bool=>(spec_MoveRank_j2 a1) t2=some r) (fun t2=>mk [(1,(.one (.ptr (.nm 64 0 0)))),(12,(oB t2))] [(64,(.vars 7 [(dI a1.No),(dI a1.Stage),(dI a1.Lo),(dI a1.Hi),(dI a1.From),(dI a1.To),(.d (.sl 2 (List.map d_TCell a1.Cells)))]))] noG) ?_ ?_)))))
 ·intro t2 H
  unfold spec_MoveRank_j2 at H
  rcases oite H with⟨h4,H⟩|⟨h4,H⟩
  ·refine AW.condT (eR rfl) h4 (aV (oMov eC (xQ (AW.ret (TQ.qr ?_)))))
   cases H
   exact eE rfl rfl
  ·refine AW.condF (eR rfl) (nt h4) (AW.skip (TQ.qn (aS (AW.regd (oFaddrN (m:=0) eZ rfl (oLoadV (q:=0) (c:=(dI a1.No)) eZ (hB rfl bZ) rfl rfl (oSub eZ eC (oMul eC eZ (oFaddrN (m:=1) (eR rfl) rfl (oLoadV (q:=1) (c:=(dI a1.Stage)) eZ bZ rfl rfl ?_))))))))))
   obtain⟨v5,h6,H⟩:=obind H
   refine oCall (u:=(oI v5)) eC Cl.fn (c_spec_l1Min h6) (Evs.cons eZ (Evs.cons eC Evs.nil)) (VDs.cons VD.plain (VDs.cons VD.plain VDs.nil)) rfl (oAdd (eR rfl) eZ (oMov eZ (xQ (AW.ret ?_))))
   cases H
   exact eE rfl rfl
 ·refine aR (oFaddrN (m:=0) (eR rfl) rfl (oLoadV (q:=0) (c:=(dI a1.No)) eZ bZ rfl rfl ?_))
  obtain⟨v7,h8,H⟩:=obind H
  refine oCall (u:=(oB v7)) eC Cl.fn (c_spec_l1In h8) (Evs.cons eZ (Evs.cons eC (Evs.cons eC Evs.nil))) (VDs.cons VD.plain (VDs.cons VD.plain (VDs.cons VD.plain VDs.nil))) rfl (oInv eZ (oMov eZ ?_))
  rcases oite H with⟨h9,H⟩|⟨h9,H⟩
  ·refine gDo eZ (cN h9) (oFaddrN (m:=1) (eR rfl) rfl (gDo (eR rfl) (cN h9) (oLoadV (q:=1) (c:=(dI a1.Stage)) eZ bZ rfl rfl (gDo (eR rfl) (cN h9) ?_))))
   obtain⟨v10,h11,H⟩:=obind H
   exact oCall (u:=(oB v10)) eC Cl.fn (c_spec_l1In h11) (Evs.cons eZ (Evs.cons eC (Evs.cons eC Evs.nil))) (VDs.cons VD.plain (VDs.cons VD.plain (VDs.cons VD.plain VDs.nil))) rfl (gDo (eR rfl) (cN h9) (oInv eZ (oPickF (eR rfl) (cN h9) eZ (xNil (TQ.qn ⟨(!v10),H,(wk_mk [] (kR rfl rfl (kR rfl rfl SL.nil)) (BL.keep rfl BL.nil) (BK.cons rfl bZ rfl rfl BK.nil))⟩)))))
  ·exact gSkip eZ (cN (nt h9)) rfl (gSkip (eR rfl) (cN (nt h9)) rfl (gSkip (eR rfl) (cN (nt h9)) rfl (gSkip (eR rfl) (cN (nt h9)) rfl (oPickT (eR rfl) (cN (nt h9)) eC (xNil (TQ.qn ⟨true,H,(wk_mk [] (kR rfl rfl (kR rfl rfl SL.nil)) (BL.keep rfl BL.nil) (BK.cons rfl bZ rfl rfl BK.nil))⟩))))))
theorem c_spec_l15Copy{a1:TAtlas}{r:TAtlas}(H:m_spec_l15Copy a1=some r):Fn Try.prog 43 (lent [(.agg (d_TAtlas a1))]) true [(.agg (d_TAtlas r))]:=by
 refine f43 (fle rfl) ?_
 rw[init_mk]
 refine AW.weaken (t:=mk [(0,(.agg [(dI a1.Epoch),(.d (.sl 3 (List.map d_TPart a1.Parts))),(dI a1.Move.No),(dI a1.Move.Stage),(dI a1.Move.Lo),(dI a1.Move.Hi),(dI a1.Move.From),(dI a1.Move.To),(.d (.sl 2 (List.map d_TCell a1.Move.Cells)))]))] [] (lk [])) (wk_mk [] (kv 0 (.agg [(dI a1.Epoch),(.d (.sl 3 (List.map d_TPart a1.Parts))),(dI a1.Move.No),(dI a1.Move.Stage),(dI a1.Move.Lo),(dI a1.Move.Hi),(dI a1.Move.From),(dI a1.Move.To),(.d (.sl 2 (List.map d_TCell a1.Move.Cells)))]) rfl rfl SL.nil) BL.nil BK.nil) ?_
 unfold m_spec_l15Copy at H
 unfold i43
 refine aV (oBox (n:=64) (m:=9) (cs:=[(dI a1.Epoch),(.d (.sl 3 (List.map d_TPart a1.Parts))),(dI a1.Move.No),(dI a1.Move.Stage),(dI a1.Move.Lo),(dI a1.Move.Hi),(dI a1.Move.From),(dI a1.Move.To),(.d (.sl 2 (List.map d_TCell a1.Move.Cells)))]) rfl eZ rfl rfl nZ (oVar (n:=128) (m:=9) rfl rfl (nS rfl nZ) (xQ (aS (AW.regm (rmOne (oBsliceZ (m:=192) rfl (nS rfl (nS rfl nZ)) (xNil (rmOne (oFaddrN (m:=1) (eR rfl) rfl (xNil (rmOne (oLoadV (q:=1) (c:=(.d (.sl 3 (List.map d_TPart a1.Parts)))) eZ (bS rfl bZ) rfl rfl (xNil (rmOne ?_)))))))))))))))
 obtain⟨h2,H⟩:=oguard H
 refine oAppZ (f:=d_TPart) (m:=384) (own:=true) (ys:=a1.Parts) (q:=a1.Parts.length) rfl rfl (eR rfl) eZ (El.lent fun _ _=>rfl) rfl h2 (by decide) (nS rfl (nS rfl nZ)) (xNil (rmOne (oFaddrN (m:=1) (eR rfl) rfl (xNil (rmOne (oStoreV (es:=[(dI a1.Epoch),(.sl 384 0 a1.Parts.length),(dI a1.Move.No),(dI a1.Move.Stage),(dI a1.Move.Lo),(dI a1.Move.Hi),(dI a1.Move.From),(dI a1.Move.To),(.d (.sl 2 (List.map d_TCell a1.Move.Cells)))]) eZ (eR rfl) rfl rfl (bS rfl (bS rfl bZ)) rfl (xNil (rmRest (xQ (aS (AW.regm (rmOne (oBsliceZ (m:=512) rfl (nS rfl (nS rfl (nS rfl (nS rfl nZ)))) (xNil (rmOne (oFaddrN (m:=2) (eR rfl) rfl (xNil (rmOne (oFaddrN (m:=8) eZ rfl (xNil (rmOne (oLoadV (q:=8) (c:=(.d (.sl 2 (List.map d_TCell a1.Move.Cells)))) eZ bZ rfl rfl (xNil (rmOne ?_))))))))))))))))))))))))
 obtain⟨h3,H⟩:=oguard H
 refine oAppZ (f:=d_TCell) (m:=768) (own:=true) (ys:=a1.Move.Cells) (q:=a1.Move.Cells.length) rfl rfl (eR rfl) eZ (El.lent fun _ _=>rfl) rfl h3 (by decide) (nS rfl (nS rfl (nS rfl (nS rfl nZ)))) (xNil (rmOne (oFaddrN (m:=2) (eR rfl) rfl (xNil (rmOne (oFaddrN (m:=8) eZ rfl (xNil (rmOne (oStoreV (es:=[(dI a1.Epoch),(.sl 384 0 a1.Parts.length),(dI a1.Move.No),(dI a1.Move.Stage),(dI a1.Move.Lo),(dI a1.Move.Hi),(dI a1.Move.From),(dI a1.Move.To),(.sl 768 0 a1.Move.Cells.length)]) eZ (eR rfl) rfl rfl (bS rfl bZ) rfl (xNil (rmRest (xQ (aS (AW.regm (rmOne (oLoadVA (es:=[(dI a1.Epoch),(.sl 384 0 a1.Parts.length),(dI a1.Move.No),(dI a1.Move.Stage),(dI a1.Move.Lo),(dI a1.Move.Hi),(dI a1.Move.From),(dI a1.Move.To),(.sl 768 0 a1.Move.Cells.length)]) (eR rfl) bZ rfl (xNil (rmOne (oStoreV (es:=[(dI a1.Epoch),(.sl 384 0 a1.Parts.length),(dI a1.Move.No),(dI a1.Move.Stage),(dI a1.Move.Lo),(dI a1.Move.Hi),(dI a1.Move.From),(dI a1.Move.To),(.sl 768 0 a1.Move.Cells.length)]) (eR rfl) eZ rfl rfl (bS rfl (bS rfl (bS rfl (bS rfl bZ)))) rfl (xNil (rmRest (xQ (AW.weaken (wk_mkG [64] (kr 2 rfl rfl SL.nil) (BL.keep rfl (BL.drop rfl (BL.keep rfl (BL.drop rfl (BL.keep rfl (BL.keep rfl (BL.drop rfl BL.nil))))))) (BK.cons (n:=128) rfl bZ rfl rfl (BK.cons (n:=768) rfl (bS rfl (bS rfl bZ)) rfl rfl (BK.cons (n:=384) rfl (bS rfl (bS rfl (bS rfl (bS rfl bZ)))) rfl rfl BK.nil))) GK.nil) (AW.ret ?_))))))))))))))))))))))))
 cases H
 exact endsR (RL.cons (RV.cellA (es:=[(dI a1.Epoch),(.sl 384 0 a1.Parts.length),(dI a1.Move.No),(dI a1.Move.Stage),(dI a1.Move.Lo),(dI a1.Move.Hi),(dI a1.Move.From),(dI a1.Move.To),(.sl 768 0 a1.Move.Cells.length)]) eZ bZ rfl) (VO.aggs (VOs.cons (VO.flat rfl) (VOs.cons (VO.sl (bS rfl (bS rfl bZ)) (List.length_map _) (allFlat fun _=>rfl)) (VOs.cons (VO.flat rfl) (VOs.cons (VO.flat rfl) (VOs.cons (VO.flat rfl) (VOs.cons (VO.flat rfl) (VOs.cons (VO.flat rfl) (VOs.cons (VO.flat rfl) (VOs.cons (VO.sl (bS rfl bZ) (List.length_map _) (allFlat fun _=>rfl)) VOs.nil)))))))))) RL.nil) (by decide)
theorem c_spec_AtlasSplit{a1:TAtlas}{a2:Int}{r:(TAtlas×Int)}(H:m_spec_AtlasSplit a1 a2=some r):Fn Try.prog 10 (lent [(.agg (d_TAtlas a1)),(.int .i64 a2)]) true [(.agg (d_TAtlas r.1)),(.int .i64 r.2)]:=by
 refine f10 (fle rfl) ?_
 rw[init_mk]
 refine AW.weaken (t:=mk [(0,(.agg [(dI a1.Epoch),(.d (.sl 3 (List.map d_TPart a1.Parts))),(dI a1.Move.No),(dI a1.Move.Stage),(dI a1.Move.Lo),(dI a1.Move.Hi),(dI a1.Move.From),(dI a1.Move.To),(.d (.sl 2 (List.map d_TCell a1.Move.Cells)))])),(1,(oI a2))] [] (lk [])) (wk_mk [] (kv 0 (.agg [(dI a1.Epoch),(.d (.sl 3 (List.map d_TPart a1.Parts))),(dI a1.Move.No),(dI a1.Move.Stage),(dI a1.Move.Lo),(dI a1.Move.Hi),(dI a1.Move.From),(dI a1.Move.To),(.d (.sl 2 (List.map d_TCell a1.Move.Cells)))]) rfl rfl (kv 1 (oI a2) rfl rfl SL.nil)) BL.nil BK.nil) ?_
 unfold m_spec_AtlasSplit at H
 unfold i10
 refine aV (oBox (n:=128) (m:=9) (cs:=[(dI a1.Epoch),(.d (.sl 3 (List.map d_TPart a1.Parts))),(dI a1.Move.No),(dI a1.Move.Stage),(dI a1.Move.Lo),(dI a1.Move.Hi),(dI a1.Move.From),(dI a1.Move.To),(.d (.sl 2 (List.map d_TCell a1.Move.Cells)))]) rfl eZ rfl rfl nZ (oVar (n:=256) (m:=9) rfl rfl (nS rfl nZ) (oMov eC (xQ (aS (aV (oLoadVA (es:=[(dI a1.Epoch),(.d (.sl 3 (List.map d_TPart a1.Parts))),(dI a1.Move.No),(dI a1.Move.Stage),(dI a1.Move.Lo),(dI a1.Move.Hi),(dI a1.Move.From),(dI a1.Move.To),(.d (.sl 2 (List.map d_TCell a1.Move.Cells)))]) (eR rfl) (bS rfl bZ) rfl ?_)))))))
 obtain⟨v3,h4,H⟩:=obind H
 refine oCall (u:=(oB v3)) eC Cl.fn (c_spec_AtlasOk h4) (Evs.cons eZ Evs.nil) (VDs.cons (VD.agg rfl) VDs.nil) rfl (oInv eZ (xQ ?_))
 rcases oite H with⟨h5,H⟩|⟨h5,H⟩
 ·refine AW.condF eZ (cN h5) (AW.skip (TQ.qn (aS (AW.regm (rmOne (oLoadVA (es:=[(dI a1.Epoch),(.d (.sl 3 (List.map d_TPart a1.Parts))),(dI a1.Move.No),(dI a1.Move.Stage),(dI a1.Move.Lo),(dI a1.Move.Hi),(dI a1.Move.From),(dI a1.Move.To),(.d (.sl 2 (List.map d_TCell a1.Move.Cells)))]) (eR rfl) (bS rfl bZ) rfl (xNil (rmOne ?_))))))))
  obtain⟨v6,h7,H⟩:=obind H
  refine oCallN (u:=(.agg [(dI v6.Epoch),(.sl 897 0 v6.Parts.length),(dI v6.Move.No),(dI v6.Move.Stage),(dI v6.Move.Lo),(dI v6.Move.Hi),(dI v6.Move.From),(dI v6.Move.To),(.sl 904 0 v6.Move.Cells.length)])) (bs:=[(897,(.data 3 (List.map d_TPart v6.Parts) true none)),(904,(.data 2 (List.map d_TCell v6.Move.Cells) true none))]) eC Cl.fn (c_spec_l15Copy h7) (Evs.cons eZ Evs.nil) (VDs.cons (VD.agg rfl) VDs.nil) (by simp[bindR,bindV,bindVs,bindC,bindCs]) rfl (fC (nS rfl (nS rfl nZ)) rfl (fC (nS rfl (nS rfl nZ)) rfl (fC (nS rfl (nS rfl nZ)) rfl fN))) (xNil (rmOne (oVar (n:=384) (m:=9) rfl rfl (nS rfl (nS rfl (nS rfl (nS rfl nZ)))) (xNil (rmOne (oStoreV (es:=[(dI v6.Epoch),(.sl 897 0 v6.Parts.length),(dI v6.Move.No),(dI v6.Move.Stage),(dI v6.Move.Lo),(dI v6.Move.Hi),(dI v6.Move.From),(dI v6.Move.To),(.sl 904 0 v6.Move.Cells.length)]) eZ (eR rfl) rfl rfl bZ rfl (xNil (rmRest (xQ (aV (oFaddrN (m:=1) (eR rfl) rfl (oLoadV (q:=1) (c:=(.d (.sl 3 (List.map d_TPart a1.Parts)))) eZ (bS rfl (bS rfl (bS rfl (bS rfl (bS rfl bZ))))) rfl rfl (oMov (eR rfl) ?_)))))))))))))
  obtain⟨v8,h9,H⟩:=obind H
  refine oCallN (u:=(.tup [(.one (.sl 1216 0 v8.1.length)),(oB v8.2)])) (bs:=[(1216,(.data 3 (List.map d_TPart v8.1) true none))]) eC Cl.fn (c_spec_SplitAt h9) (Evs.cons (eR rfl) (Evs.cons eZ Evs.nil)) (VDs.cons VD.plain (VDs.cons VD.plain VDs.nil)) (by simp[bindR,bindV,bindVs,bindC,bindCs]) rfl (fC (nS rfl (nS rfl (nS rfl (nS rfl (nS rfl (nS rfl nZ)))))) rfl (fC (nS rfl (nS rfl (nS rfl (nS rfl (nS rfl (nS rfl nZ)))))) rfl fN)) (oMov eZ (oExt (v:=(.one (.sl 1216 0 v8.1.length))) eZ rfl (oExt (v:=(oB v8.2)) (eR rfl) rfl (oMov (eR rfl) (oMov (eR rfl) (xQ (AW.weaken (wk_mkG [] (kr 8 rfl rfl (kr 7 rfl rfl (kr 6 rfl rfl (kr 4 rfl rfl (kr 2 rfl rfl SL.nil))))) (BL.keep rfl (BL.keep rfl (BL.keep rfl (BL.keep rfl (BL.keep rfl (BL.keep rfl (BL.keep rfl BL.nil))))))) (BK.cons (n:=1216) rfl bZ rfl rfl (BK.cons (n:=384) rfl (bS rfl bZ) rfl rfl (BK.cons (n:=904) rfl (bS rfl (bS rfl (bS rfl bZ))) rfl rfl (BK.cons (n:=897) rfl (bS rfl (bS rfl (bS rfl (bS rfl bZ)))) rfl rfl (BK.cons (n:=256) rfl (bS rfl (bS rfl (bS rfl (bS rfl (bS rfl bZ))))) rfl rfl (BK.cons (n:=128) rfl (bS rfl (bS rfl (bS rfl (bS rfl (bS rfl (bS rfl bZ)))))) rfl rfl BK.nil)))))) GK.nil) (aS (AW.seqJ (fun t10:Bool=>(spec_AtlasSplit_j10 v6 v8) t10=some r) (fun t10=>mk [(4,(.one (.ptr (.nm 256 0 0)))),(6,(.one (.ptr (.nm 384 0 0)))),(7,(.one (.sl 1216 0 v8.1.length))),(28,(oB t10))] [(256,(.vars 9 [(dI 0),.zs,(dI 0),(dI 0),(dI 0),(dI 0),(dI 0),(dI 0),.zs])),(384,(.vars 9 [(dI v6.Epoch),(.sl 897 0 v6.Parts.length),(dI v6.Move.No),(dI v6.Move.Stage),(dI v6.Move.Lo),(dI v6.Move.Hi),(dI v6.Move.From),(dI v6.Move.To),(.sl 904 0 v6.Move.Cells.length)])),(897,(.data 3 (List.map d_TPart v6.Parts) true none)),(904,(.data 2 (List.map d_TCell v6.Move.Cells) true none)),(1216,(.data 3 (List.map d_TPart v8.1) true none))] (lk [])) ?_ ?_)))))))))
  ·intro t10 H
   unfold spec_AtlasSplit_j10 at H
   rcases oite H with⟨h12,H⟩|⟨h12,H⟩
   ·refine AW.condT (eR rfl) h12 (aS (AW.regm (rmOne (oLoadVA (es:=[(dI v6.Epoch),(.sl 897 0 v6.Parts.length),(dI v6.Move.No),(dI v6.Move.Stage),(dI v6.Move.Lo),(dI v6.Move.Hi),(dI v6.Move.From),(dI v6.Move.To),(.sl 904 0 v6.Move.Cells.length)]) (eR rfl) (bS rfl bZ) rfl (xNil (rmOne (oStoreV (es:=[(dI v6.Epoch),(.sl 897 0 v6.Parts.length),(dI v6.Move.No),(dI v6.Move.Stage),(dI v6.Move.Lo),(dI v6.Move.Hi),(dI v6.Move.From),(dI v6.Move.To),(.sl 904 0 v6.Move.Cells.length)]) (eR rfl) eZ rfl rfl bZ rfl (xNil (rmRest (oMov eC (xQ (AW.ret (TQ.qr ?_)))))))))))))
    cases H
    exact endsR (RL.cons (RV.cellA (es:=[(dI v6.Epoch),(.sl 897 0 v6.Parts.length),(dI v6.Move.No),(dI v6.Move.Stage),(dI v6.Move.Lo),(dI v6.Move.Hi),(dI v6.Move.From),(dI v6.Move.To),(.sl 904 0 v6.Move.Cells.length)]) (eR rfl) bZ rfl) (VO.aggs (VOs.cons (VO.flat rfl) (VOs.cons (VO.sl (bS rfl (bS rfl (bS rfl bZ))) (List.length_map _) (allFlat fun _=>rfl)) (VOs.cons (VO.flat rfl) (VOs.cons (VO.flat rfl) (VOs.cons (VO.flat rfl) (VOs.cons (VO.flat rfl) (VOs.cons (VO.flat rfl) (VOs.cons (VO.flat rfl) (VOs.cons (VO.sl (bS rfl (bS rfl (bS rfl (bS rfl bZ)))) (List.length_map _) (allFlat fun _=>rfl)) VOs.nil)))))))))) (RL.cons (RV.tmp eZ) (VO.flat rfl) RL.nil)) (by decide)
   ·refine AW.condF (eR rfl) (nt h12) (AW.skip (TQ.qn (aS (AW.regm (rmOne (oMov (eR rfl) (xNil (rmOne (oFaddrN (m:=1) (eR rfl) rfl (xNil (rmOne (oStoreV (es:=[(dI v6.Epoch),(.sl 1216 0 v8.1.length),(dI v6.Move.No),(dI v6.Move.Stage),(dI v6.Move.Lo),(dI v6.Move.Hi),(dI v6.Move.From),(dI v6.Move.To),(.sl 904 0 v6.Move.Cells.length)]) eZ (eR rfl) rfl rfl (bS rfl bZ) rfl (xNil (rmRest (xQ (aV (oFaddrN (m:=0) (eR rfl) rfl (oLoadV (q:=0) (c:=(dI v6.Epoch)) eZ bZ rfl rfl (oAdd eZ eC (oFaddrN (m:=0) (eR rfl) rfl (oStoreV (es:=[(dI (IntKind.wrap .i64 (v6.Epoch+1))),(.sl 1216 0 v8.1.length),(dI v6.Move.No),(dI v6.Move.Stage),(dI v6.Move.Lo),(dI v6.Move.Hi),(dI v6.Move.From),(dI v6.Move.To),(.sl 904 0 v6.Move.Cells.length)]) eZ (eR rfl) rfl rfl bZ rfl (xQ (aS (AW.regm (rmOne (oLoadVA (es:=[(dI (IntKind.wrap .i64 (v6.Epoch+1))),(.sl 1216 0 v8.1.length),(dI v6.Move.No),(dI v6.Move.Stage),(dI v6.Move.Lo),(dI v6.Move.Hi),(dI v6.Move.From),(dI v6.Move.To),(.sl 904 0 v6.Move.Cells.length)]) (eR rfl) bZ rfl (xNil (rmOne (oStoreV (es:=[(dI (IntKind.wrap .i64 (v6.Epoch+1))),(.sl 1216 0 v8.1.length),(dI v6.Move.No),(dI v6.Move.Stage),(dI v6.Move.Lo),(dI v6.Move.Hi),(dI v6.Move.From),(dI v6.Move.To),(.sl 904 0 v6.Move.Cells.length)]) (eR rfl) eZ rfl rfl (bS rfl (bS rfl bZ)) rfl (xNil (rmRest (oMov eC (xQ (AW.ret ?_))))))))))))))))))))))))))))))))))
    cases H
    exact endsR (RL.cons (RV.cellA (es:=[(dI (IntKind.wrap .i64 (v6.Epoch+1))),(.sl 1216 0 v8.1.length),(dI v6.Move.No),(dI v6.Move.Stage),(dI v6.Move.Lo),(dI v6.Move.Hi),(dI v6.Move.From),(dI v6.Move.To),(.sl 904 0 v6.Move.Cells.length)]) (eR rfl) bZ rfl) (VO.aggs (VOs.cons (VO.flat rfl) (VOs.cons (VO.sl (bS rfl (bS rfl (bS rfl (bS rfl (bS rfl (bS rfl (bS rfl bZ))))))) (List.length_map _) (allFlat fun _=>rfl)) (VOs.cons (VO.flat rfl) (VOs.cons (VO.flat rfl) (VOs.cons (VO.flat rfl) (VOs.cons (VO.flat rfl) (VOs.cons (VO.flat rfl) (VOs.cons (VO.flat rfl) (VOs.cons (VO.sl (bS rfl (bS rfl (bS rfl (bS rfl (bS rfl (bS rfl bZ)))))) (List.length_map _) (allFlat fun _=>rfl)) VOs.nil)))))))))) (RL.cons (RV.tmp eZ) (VO.flat rfl) RL.nil)) (by decide)
  ·refine aR (oMov eZ (oInv eZ (oMov eZ ?_)))
   rcases oite H with⟨h13,H⟩|⟨h13,H⟩
   ·exact gDo eZ (cN h13) (oFaddrN (m:=0) (eR rfl) rfl (gDo (eR rfl) (cN h13) (oLoadV (q:=0) (c:=(dI a1.Epoch)) eZ (bS rfl (bS rfl (bS rfl (bS rfl (bS rfl bZ))))) rfl rfl (gDo (eR rfl) (cN h13) (oEql eZ eC (oPickF (eR rfl) (cN h13) eZ (xNil (TQ.qn ⟨(decide (a1.Epoch=1000000)),H,(wk_mkG [128] (kR rfl rfl (kR rfl rfl (kR rfl rfl (kR rfl rfl SL.nil)))) (BL.keep rfl (BL.keep rfl (BL.keep rfl (BL.keep rfl (BL.keep rfl (BL.drop rfl BL.nil)))))) (BK.cons rfl (bS rfl (bS rfl (bS rfl (bS rfl bZ)))) rfl rfl (BK.cons rfl (bS rfl bZ) rfl (by first|rfl|simp) (BK.cons rfl (bS rfl (bS rfl (bS rfl bZ))) rfl rfl (BK.cons rfl (bS rfl (bS rfl bZ)) rfl rfl (BK.cons rfl bZ rfl rfl BK.nil))))) GK.nil)⟩))))))))
   ·exact gSkip eZ (cN (nt h13)) rfl (gSkip (eR rfl) (cN (nt h13)) rfl (gSkip (eR rfl) (cN (nt h13)) rfl (oPickT (eR rfl) (cN (nt h13)) eC (xNil (TQ.qn ⟨true,H,(wk_mkG [128] (kR rfl rfl (kR rfl rfl (kR rfl rfl (kR rfl rfl SL.nil)))) (BL.keep rfl (BL.keep rfl (BL.keep rfl (BL.keep rfl (BL.keep rfl (BL.drop rfl BL.nil)))))) (BK.cons rfl (bS rfl (bS rfl (bS rfl (bS rfl bZ)))) rfl rfl (BK.cons rfl (bS rfl bZ) rfl (by first|rfl|simp) (BK.cons rfl (bS rfl (bS rfl (bS rfl bZ))) rfl rfl (BK.cons rfl (bS rfl (bS rfl bZ)) rfl rfl (BK.cons rfl bZ rfl rfl BK.nil))))) GK.nil)⟩)))))
 ·refine AW.condT eZ (cN (nt h5)) (aS (AW.regm (rmOne (oBuild (cs:=[(dI 0),.zs,(dI 0),(dI 0),(dI 0),(dI 0),(dI 0),(dI 0),.zs]) PsNil rfl (xNil (rmOne (oStoreV (es:=[(dI 0),.zs,(dI 0),(dI 0),(dI 0),(dI 0),(dI 0),(dI 0),.zs]) (eR rfl) eZ rfl rfl bZ rfl (xNil (rmRest (oMov eC (xQ (AW.ret (TQ.qr ?_)))))))))))))
  cases H
  exact endsR (RL.cons (RV.cellA (es:=[(dI 0),.zs,(dI 0),(dI 0),(dI 0),(dI 0),(dI 0),(dI 0),.zs]) (eR rfl) bZ rfl) (VO.aggs (VOs.cons (VO.flat rfl) (VOs.cons VO.zs (VOs.cons (VO.flat rfl) (VOs.cons (VO.flat rfl) (VOs.cons (VO.flat rfl) (VOs.cons (VO.flat rfl) (VOs.cons (VO.flat rfl) (VOs.cons (VO.flat rfl) (VOs.cons VO.zs VOs.nil)))))))))) (RL.cons (RV.tmp eZ) (VO.flat rfl) RL.nil)) List.nodup_nil
theorem c_spec_AtlasMove{a1:TAtlas}{a2:Int}{a3:Int}{r:(TAtlas×Int)}(H:m_spec_AtlasMove a1 a2 a3=some r):Fn Try.prog 16 (lent [(.agg (d_TAtlas a1)),(.int .i64 a2),(.int .i64 a3)]) true [(.agg (d_TAtlas r.1)),(.int .i64 r.2)]:=by
 refine f16 (fle rfl) ?_
 rw[init_mk]
 refine AW.weaken (t:=mk [(0,(.agg [(dI a1.Epoch),(.d (.sl 3 (List.map d_TPart a1.Parts))),(dI a1.Move.No),(dI a1.Move.Stage),(dI a1.Move.Lo),(dI a1.Move.Hi),(dI a1.Move.From),(dI a1.Move.To),(.d (.sl 2 (List.map d_TCell a1.Move.Cells)))])),(1,(oI a2)),(2,(oI a3))] [] (lk [])) (wk_mk [] (kv 0 (.agg [(dI a1.Epoch),(.d (.sl 3 (List.map d_TPart a1.Parts))),(dI a1.Move.No),(dI a1.Move.Stage),(dI a1.Move.Lo),(dI a1.Move.Hi),(dI a1.Move.From),(dI a1.Move.To),(.d (.sl 2 (List.map d_TCell a1.Move.Cells)))]) rfl rfl (kv 1 (oI a2) rfl rfl (kv 2 (oI a3) rfl rfl SL.nil))) BL.nil BK.nil) ?_
 unfold m_spec_AtlasMove at H
 unfold i16
 refine aV (oBox (n:=192) (m:=9) (cs:=[(dI a1.Epoch),(.d (.sl 3 (List.map d_TPart a1.Parts))),(dI a1.Move.No),(dI a1.Move.Stage),(dI a1.Move.Lo),(dI a1.Move.Hi),(dI a1.Move.From),(dI a1.Move.To),(.d (.sl 2 (List.map d_TCell a1.Move.Cells)))]) rfl eZ rfl rfl nZ (oVar (n:=384) (m:=9) rfl rfl (nS rfl nZ) (oMov eC (xQ (aS (aV (oLoadVA (es:=[(dI a1.Epoch),(.d (.sl 3 (List.map d_TPart a1.Parts))),(dI a1.Move.No),(dI a1.Move.Stage),(dI a1.Move.Lo),(dI a1.Move.Hi),(dI a1.Move.From),(dI a1.Move.To),(.d (.sl 2 (List.map d_TCell a1.Move.Cells)))]) (eR rfl) (bS rfl bZ) rfl ?_)))))))
 obtain⟨v4,h5,H⟩:=obind H
 refine oCall (u:=(oB v4)) eC Cl.fn (c_spec_AtlasOk h5) (Evs.cons eZ Evs.nil) (VDs.cons (VD.agg rfl) VDs.nil) rfl (oInv eZ (xQ ?_))
 rcases oite H with⟨h6,H⟩|⟨h6,H⟩
 ·refine AW.condF eZ (cN h6) (AW.skip (TQ.qn (aS (AW.regm (rmOne (oLoadVA (es:=[(dI a1.Epoch),(.d (.sl 3 (List.map d_TPart a1.Parts))),(dI a1.Move.No),(dI a1.Move.Stage),(dI a1.Move.Lo),(dI a1.Move.Hi),(dI a1.Move.From),(dI a1.Move.To),(.d (.sl 2 (List.map d_TCell a1.Move.Cells)))]) (eR rfl) (bS rfl bZ) rfl (xNil (rmOne ?_))))))))
  obtain⟨v7,h8,H⟩:=obind H
  refine oCallN (u:=(.agg [(dI v7.Epoch),(.sl 1025 0 v7.Parts.length),(dI v7.Move.No),(dI v7.Move.Stage),(dI v7.Move.Lo),(dI v7.Move.Hi),(dI v7.Move.From),(dI v7.Move.To),(.sl 1032 0 v7.Move.Cells.length)])) (bs:=[(1025,(.data 3 (List.map d_TPart v7.Parts) true none)),(1032,(.data 2 (List.map d_TCell v7.Move.Cells) true none))]) eC Cl.fn (c_spec_l15Copy h8) (Evs.cons eZ Evs.nil) (VDs.cons (VD.agg rfl) VDs.nil) (by simp[bindR,bindV,bindVs,bindC,bindCs]) rfl (fC (nS rfl (nS rfl nZ)) rfl (fC (nS rfl (nS rfl nZ)) rfl (fC (nS rfl (nS rfl nZ)) rfl fN))) (xNil (rmOne (oVar (n:=512) (m:=9) rfl rfl (nS rfl (nS rfl (nS rfl (nS rfl nZ)))) (xNil (rmOne (oStoreV (es:=[(dI v7.Epoch),(.sl 1025 0 v7.Parts.length),(dI v7.Move.No),(dI v7.Move.Stage),(dI v7.Move.Lo),(dI v7.Move.Hi),(dI v7.Move.From),(dI v7.Move.To),(.sl 1032 0 v7.Move.Cells.length)]) eZ (eR rfl) rfl rfl bZ rfl (xNil (rmRest (xQ (aS (aV (oFaddrN (m:=2) (eR rfl) rfl (oFaddrN (m:=3) eZ rfl (oLoadV (q:=3) (c:=(dI a1.Move.Stage)) eZ (bS rfl (bS rfl (bS rfl (bS rfl (bS rfl bZ))))) rfl rfl (oNeq eZ eC (xQ (AW.weaken (wk_mkG [] (kr 20 rfl rfl (kr 8 rfl rfl (kr 6 rfl rfl (kr 3 rfl rfl (kr 1 rfl rfl (kr 2 rfl rfl SL.nil)))))) (BL.keep rfl (BL.keep rfl (BL.keep rfl (BL.keep rfl (BL.keep rfl (BL.keep rfl BL.nil)))))) (BK.cons (n:=512) rfl bZ rfl rfl (BK.cons (n:=1032) rfl (bS rfl (bS rfl bZ)) rfl rfl (BK.cons (n:=1025) rfl (bS rfl (bS rfl (bS rfl bZ))) rfl rfl (BK.cons (n:=384) rfl (bS rfl (bS rfl (bS rfl (bS rfl bZ)))) rfl rfl (BK.cons (n:=192) rfl (bS rfl (bS rfl (bS rfl (bS rfl (bS rfl bZ))))) rfl rfl BK.nil))))) GK.nil) ?_)))))))))))))))))
  rcases oite H with⟨h9,H⟩|⟨h9,H⟩
  ·refine AW.condT eZ (dT h9) (aS (AW.regm (rmOne (oLoadVA (es:=[(dI v7.Epoch),(.sl 1025 0 v7.Parts.length),(dI v7.Move.No),(dI v7.Move.Stage),(dI v7.Move.Lo),(dI v7.Move.Hi),(dI v7.Move.From),(dI v7.Move.To),(.sl 1032 0 v7.Move.Cells.length)]) (eR rfl) bZ rfl (xNil (rmOne (oStoreV (es:=[(dI v7.Epoch),(.sl 1025 0 v7.Parts.length),(dI v7.Move.No),(dI v7.Move.Stage),(dI v7.Move.Lo),(dI v7.Move.Hi),(dI v7.Move.From),(dI v7.Move.To),(.sl 1032 0 v7.Move.Cells.length)]) (eR rfl) eZ rfl rfl (bS rfl (bS rfl (bS rfl bZ))) rfl (xNil (rmRest (oMov eC (xQ (AW.ret (TQ.qr ?_)))))))))))))
   cases H
   exact endsR (RL.cons (RV.cellA (es:=[(dI v7.Epoch),(.sl 1025 0 v7.Parts.length),(dI v7.Move.No),(dI v7.Move.Stage),(dI v7.Move.Lo),(dI v7.Move.Hi),(dI v7.Move.From),(dI v7.Move.To),(.sl 1032 0 v7.Move.Cells.length)]) (eR rfl) bZ rfl) (VO.aggs (VOs.cons (VO.flat rfl) (VOs.cons (VO.sl (bS rfl (bS rfl (bS rfl bZ))) (List.length_map _) (allFlat fun _=>rfl)) (VOs.cons (VO.flat rfl) (VOs.cons (VO.flat rfl) (VOs.cons (VO.flat rfl) (VOs.cons (VO.flat rfl) (VOs.cons (VO.flat rfl) (VOs.cons (VO.flat rfl) (VOs.cons (VO.sl (bS rfl (bS rfl bZ)) (List.length_map _) (allFlat fun _=>rfl)) VOs.nil)))))))))) (RL.cons (RV.tmp eZ) (VO.flat rfl) RL.nil)) (by decide)
  ·refine AW.condF eZ (dF h9) (AW.skip (TQ.qn (aV (oFaddrN (m:=1) (eR rfl) rfl (oLoadV (q:=1) (c:=(.d (.sl 3 (List.map d_TPart a1.Parts)))) eZ (bS rfl (bS rfl (bS rfl (bS rfl bZ)))) rfl rfl (oMov (eR rfl) ?_))))))
   obtain⟨v10,h11,H⟩:=obind H
   refine oCall (u:=(oI v10)) eC Cl.fn (c_spec_PartAt h11) (Evs.cons (eR rfl) (Evs.cons eZ Evs.nil)) (VDs.cons VD.plain (VDs.cons VD.plain VDs.nil)) rfl (oMov eZ (xQ (aS (AW.seqJ (fun t12:Bool=>(spec_AtlasMove_j12 v7 a1 v10 a3) t12=some r) (fun t12=>mk [(2,(oI a3)),(3,(.one (.ptr (.nm 192 0 0)))),(6,(.one (.ptr (.nm 384 0 0)))),(8,(.one (.ptr (.nm 512 0 0)))),(9,(oI v10)),(48,(oB t12))] [(192,(.vars 9 [(dI a1.Epoch),(.d (.sl 3 (List.map d_TPart a1.Parts))),(dI a1.Move.No),(dI a1.Move.Stage),(dI a1.Move.Lo),(dI a1.Move.Hi),(dI a1.Move.From),(dI a1.Move.To),(.d (.sl 2 (List.map d_TCell a1.Move.Cells)))])),(384,(.vars 9 [(dI 0),.zs,(dI 0),(dI 0),(dI 0),(dI 0),(dI 0),(dI 0),.zs])),(512,(.vars 9 [(dI v7.Epoch),(.sl 1025 0 v7.Parts.length),(dI v7.Move.No),(dI v7.Move.Stage),(dI v7.Move.Lo),(dI v7.Move.Hi),(dI v7.Move.From),(dI v7.Move.To),(.sl 1032 0 v7.Move.Cells.length)])),(1025,(.data 3 (List.map d_TPart v7.Parts) true none)),(1032,(.data 2 (List.map d_TCell v7.Move.Cells) true none))] (lk [])) ?_ ?_))))
   ·intro t12 H
    unfold spec_AtlasMove_j12 at H
    rcases oite H with⟨h14,H⟩|⟨h14,H⟩
    ·refine AW.condT (eR rfl) h14 (aS (AW.regm (rmOne (oLoadVA (es:=[(dI v7.Epoch),(.sl 1025 0 v7.Parts.length),(dI v7.Move.No),(dI v7.Move.Stage),(dI v7.Move.Lo),(dI v7.Move.Hi),(dI v7.Move.From),(dI v7.Move.To),(.sl 1032 0 v7.Move.Cells.length)]) (eR rfl) (bS rfl (bS rfl bZ)) rfl (xNil (rmOne (oStoreV (es:=[(dI v7.Epoch),(.sl 1025 0 v7.Parts.length),(dI v7.Move.No),(dI v7.Move.Stage),(dI v7.Move.Lo),(dI v7.Move.Hi),(dI v7.Move.From),(dI v7.Move.To),(.sl 1032 0 v7.Move.Cells.length)]) (eR rfl) eZ rfl rfl (bS rfl bZ) rfl (xNil (rmRest (oMov eC (xQ (AW.ret (TQ.qr ?_)))))))))))))
     cases H
     exact endsR (RL.cons (RV.cellA (es:=[(dI v7.Epoch),(.sl 1025 0 v7.Parts.length),(dI v7.Move.No),(dI v7.Move.Stage),(dI v7.Move.Lo),(dI v7.Move.Hi),(dI v7.Move.From),(dI v7.Move.To),(.sl 1032 0 v7.Move.Cells.length)]) (eR rfl) bZ rfl) (VO.aggs (VOs.cons (VO.flat rfl) (VOs.cons (VO.sl (bS rfl (bS rfl (bS rfl (bS rfl bZ)))) (List.length_map _) (allFlat fun _=>rfl)) (VOs.cons (VO.flat rfl) (VOs.cons (VO.flat rfl) (VOs.cons (VO.flat rfl) (VOs.cons (VO.flat rfl) (VOs.cons (VO.flat rfl) (VOs.cons (VO.flat rfl) (VOs.cons (VO.sl (bS rfl (bS rfl (bS rfl (bS rfl (bS rfl bZ))))) (List.length_map _) (allFlat fun _=>rfl)) VOs.nil)))))))))) (RL.cons (RV.tmp eZ) (VO.flat rfl) RL.nil)) (by decide)
    ·refine AW.condF (eR rfl) (nt h14) (AW.skip (TQ.qn (aV (oFaddrN (m:=1) (eR rfl) rfl (oLoadV (q:=1) (c:=(.d (.sl 3 (List.map d_TPart a1.Parts)))) eZ bZ rfl rfl (oMov (eR rfl) ?_))))))
     obtain⟨v15,h16,H⟩:=obind H
     refine oAtD (eR rfl) eZ h16 (oLoadBA (es:=[(dI v15.Lo),(dI v15.Hi),(dI v15.Owner)]) eZ rfl (oVar (n:=640) (m:=3) rfl rfl (nS rfl (nS rfl (nS rfl (nS rfl (nS rfl nZ))))) (oStoreV (es:=[(dI v15.Lo),(dI v15.Hi),(dI v15.Owner)]) eZ (eR rfl) rfl rfl bZ rfl (xQ (aS (AW.regm (rmOne (oFaddrN (m:=2) (eR rfl) rfl (xNil (rmOne (oFaddrN (m:=2) eZ rfl (xNil (rmOne (oLoadV (q:=2) (c:=(dI a1.Move.No)) eZ (bS rfl (bS rfl bZ)) rfl rfl (xNil (rmOne (oAdd eZ eC (xNil (rmOne (oFaddrN (m:=0) (eR rfl) rfl (xNil (rmOne (oLoadV (q:=0) (c:=(dI v15.Lo)) eZ bZ rfl rfl (xNil (rmOne (oFaddrN (m:=1) (eR rfl) rfl (xNil (rmOne (oLoadV (q:=1) (c:=(dI v15.Hi)) eZ bZ rfl rfl (xNil (rmOne (oFaddrN (m:=2) (eR rfl) rfl (xNil (rmOne (oLoadV (q:=2) (c:=(dI v15.Owner)) eZ bZ rfl rfl (xNil (rmOne (oMov (eR rfl) ?_))))))))))))))))))))))))))))))))))))))
     refine xNil (rmOne (oBuild (cs:=[(dI (IntKind.wrap .i64 (a1.Move.No+1))),(dI 1),(dI v15.Lo),(dI v15.Hi),(dI v15.Owner),(dI a3),.zs]) (PsCons (eR rfl) (PsCons eC (PsCons (eR rfl) (PsCons (eR rfl) (PsCons (eR rfl) (PsCons eZ PsNil)))))) rfl (xNil (rmOne (oFaddrN (m:=2) (eR rfl) rfl (xNil (rmOne (oStoreV (es:=[(dI v7.Epoch),(.sl 1025 0 v7.Parts.length),(dI (IntKind.wrap .i64 (a1.Move.No+1))),(dI 1),(dI v15.Lo),(dI v15.Hi),(dI v15.Owner),(dI a3),.zs]) eZ (eR rfl) rfl rfl (bS rfl (bS rfl (bS rfl (bS rfl bZ)))) rfl (xNil (rmRest (xQ (AW.weaken (wk_mkG [640,192,1032] (kr 6 rfl rfl (kr 8 rfl rfl SL.nil)) (BL.keep rfl (BL.drop rfl (BL.drop rfl (BL.drop rfl (BL.keep rfl (BL.keep rfl (BL.keep rfl (BL.drop rfl BL.nil)))))))) (BK.cons (n:=512) rfl bZ rfl rfl (BK.cons (n:=384) rfl (bS rfl (bS rfl (bS rfl (bS rfl bZ)))) rfl rfl (BK.cons (n:=1025) rfl (bS rfl (bS rfl (bS rfl (bS rfl (bS rfl (bS rfl bZ)))))) rfl rfl BK.nil))) GK.nil) (aS (AW.regm (rmOne (oLoadVA (es:=[(dI v7.Epoch),(.sl 1025 0 v7.Parts.length),(dI (IntKind.wrap .i64 (a1.Move.No+1))),(dI 1),(dI v15.Lo),(dI v15.Hi),(dI v15.Owner),(dI a3),.zs]) (eR rfl) bZ rfl (xNil (rmOne (oStoreV (es:=[(dI v7.Epoch),(.sl 1025 0 v7.Parts.length),(dI (IntKind.wrap .i64 (a1.Move.No+1))),(dI 1),(dI v15.Lo),(dI v15.Hi),(dI v15.Owner),(dI a3),.zs]) (eR rfl) eZ rfl rfl (bS rfl bZ) rfl (xNil (rmRest (oMov eC (xQ (AW.ret ?_))))))))))))))))))))))))
     cases H
     exact endsR (RL.cons (RV.cellA (es:=[(dI v7.Epoch),(.sl 1025 0 v7.Parts.length),(dI (IntKind.wrap .i64 (a1.Move.No+1))),(dI 1),(dI v15.Lo),(dI v15.Hi),(dI v15.Owner),(dI a3),.zs]) (eR rfl) bZ rfl) (VO.aggs (VOs.cons (VO.flat rfl) (VOs.cons (VO.sl (bS rfl (bS rfl (bS rfl bZ))) (List.length_map _) (allFlat fun _=>rfl)) (VOs.cons (VO.flat rfl) (VOs.cons (VO.flat rfl) (VOs.cons (VO.flat rfl) (VOs.cons (VO.flat rfl) (VOs.cons (VO.flat rfl) (VOs.cons (VO.flat rfl) (VOs.cons VO.zs VOs.nil)))))))))) (RL.cons (RV.tmp eZ) (VO.flat rfl) RL.nil)) (by decide)
   ·refine aR (oMov eZ (oLss eZ eC (oMov eZ ?_)))
    rcases oite H with⟨h17,H⟩|⟨h17,H⟩
    ·exact gSkip eZ (dT h17) rfl (gSkip (eR rfl) (dT h17) rfl (gSkip (eR rfl) (dT h17) rfl (oPickT (eR rfl) (dT h17) eC (oMov eZ (gSkip eZ rfl rfl (gSkip (eR rfl) rfl rfl (gSkip (eR rfl) rfl rfl (gSkip (eR rfl) rfl rfl (gSkip (eR rfl) rfl rfl (gSkip (eR rfl) rfl rfl (gSkip (eR rfl) rfl rfl (gSkip (eR rfl) rfl rfl (oPickT (eR rfl) rfl eC (oMov eZ (gSkip eZ rfl rfl (gSkip (eR rfl) rfl rfl (gSkip (eR rfl) rfl rfl (gSkip (eR rfl) rfl rfl (oPickT (eR rfl) rfl eC (xNil (TQ.qn ⟨true,H,(wk_mkG [] (kR rfl rfl (kR rfl rfl (kR rfl rfl (kR rfl rfl (kR rfl rfl (kR rfl rfl SL.nil)))))) (BL.keep rfl (BL.keep rfl (BL.keep rfl (BL.keep rfl (BL.keep rfl BL.nil))))) (BK.cons rfl (bS rfl (bS rfl (bS rfl (bS rfl bZ)))) rfl rfl (BK.cons rfl (bS rfl (bS rfl (bS rfl bZ))) rfl rfl (BK.cons rfl bZ rfl (by first|rfl|simp) (BK.cons rfl (bS rfl (bS rfl bZ)) rfl rfl (BK.cons rfl (bS rfl bZ) rfl rfl BK.nil))))) GK.nil)⟩)))))))))))))))))))))
    ·refine gDo eZ (dF h17) (oMov (eR rfl) (gDo (eR rfl) (dF h17) ?_))
     obtain⟨v18,h19,H⟩:=obind H
     refine oCall (u:=(oB v18)) eC Cl.fn (c_spec_l15Group h19) (Evs.cons eZ Evs.nil) (VDs.cons VD.plain VDs.nil) rfl (gDo (eR rfl) (dF h17) (oInv eZ (oPickF (eR rfl) (dF h17) eZ (oMov eZ ?_))))
     rcases oite H with⟨h20,H⟩|⟨h20,H⟩
     ·refine gDo eZ (cN h20) (oFaddrN (m:=1) (eR rfl) rfl (gDo (eR rfl) (cN h20) (oLoadV (q:=1) (c:=(.d (.sl 3 (List.map d_TPart a1.Parts)))) eZ (bS rfl (bS rfl (bS rfl (bS rfl bZ)))) rfl rfl (gDo (eR rfl) (cN h20) (oMov (eR rfl) (gDo (eR rfl) (cN h20) ?_))))))
      obtain⟨v21,h22,H⟩:=obind H
      refine oAtD (eR rfl) eZ h22 (gDo (eR rfl) (cN h20) (oFaddrB (m:=2) eZ rfl (gDo (eR rfl) (cN h20) (oLoadB (e:=(.int .i64 v21.Owner)) eZ rfl (gDo (eR rfl) (cN h20) (oMov (eR rfl) (gDo (eR rfl) (cN h20) (oEql (eR rfl) eZ (oPickF (eR rfl) (cN h20) eZ (oMov eZ ?_))))))))))
      rcases oite H with⟨h23,H⟩|⟨h23,H⟩
      ·exact gSkip eZ (dT h23) rfl (gSkip (eR rfl) (dT h23) rfl (gSkip (eR rfl) (dT h23) rfl (gSkip (eR rfl) (dT h23) rfl (oPickT (eR rfl) (dT h23) eC (xNil (TQ.qn ⟨true,H,(wk_mkG [] (kR rfl rfl (kR rfl rfl (kR rfl rfl (kR rfl rfl (kR rfl rfl (kR rfl rfl SL.nil)))))) (BL.keep rfl (BL.keep rfl (BL.keep rfl (BL.keep rfl (BL.keep rfl BL.nil))))) (BK.cons rfl (bS rfl (bS rfl (bS rfl (bS rfl bZ)))) rfl rfl (BK.cons rfl (bS rfl (bS rfl (bS rfl bZ))) rfl rfl (BK.cons rfl bZ rfl (by first|rfl|simp) (BK.cons rfl (bS rfl (bS rfl bZ)) rfl rfl (BK.cons rfl (bS rfl bZ) rfl rfl BK.nil))))) GK.nil)⟩))))))
      ·exact gDo eZ (dF h23) (oFaddrN (m:=2) (eR rfl) rfl (gDo (eR rfl) (dF h23) (oFaddrN (m:=2) eZ rfl (gDo (eR rfl) (dF h23) (oLoadV (q:=2) (c:=(dI a1.Move.No)) eZ (bS rfl (bS rfl (bS rfl (bS rfl bZ)))) rfl rfl (gDo (eR rfl) (dF h23) (oEql eZ eC (oPickF (eR rfl) (dF h23) eZ (xNil (TQ.qn ⟨(decide (a1.Move.No=300000)),H,(wk_mkG [] (kR rfl rfl (kR rfl rfl (kR rfl rfl (kR rfl rfl (kR rfl rfl (kR rfl rfl SL.nil)))))) (BL.keep rfl (BL.keep rfl (BL.keep rfl (BL.keep rfl (BL.keep rfl BL.nil))))) (BK.cons rfl (bS rfl (bS rfl (bS rfl (bS rfl bZ)))) rfl rfl (BK.cons rfl (bS rfl (bS rfl (bS rfl bZ))) rfl rfl (BK.cons rfl bZ rfl (by first|rfl|simp) (BK.cons rfl (bS rfl (bS rfl bZ)) rfl rfl (BK.cons rfl (bS rfl bZ) rfl rfl BK.nil))))) GK.nil)⟩))))))))))
     ·exact gSkip eZ (cN (nt h20)) rfl (gSkip (eR rfl) (cN (nt h20)) rfl (gSkip (eR rfl) (cN (nt h20)) rfl (gSkip (eR rfl) (cN (nt h20)) rfl (gSkip (eR rfl) (cN (nt h20)) rfl (gSkip (eR rfl) (cN (nt h20)) rfl (gSkip (eR rfl) (cN (nt h20)) rfl (gSkip (eR rfl) (cN (nt h20)) rfl (oPickT (eR rfl) (cN (nt h20)) eC (oMov eZ (gSkip eZ rfl rfl (gSkip (eR rfl) rfl rfl (gSkip (eR rfl) rfl rfl (gSkip (eR rfl) rfl rfl (oPickT (eR rfl) rfl eC (xNil (TQ.qn ⟨true,H,(wk_mkG [] (kR rfl rfl (kR rfl rfl (kR rfl rfl (kR rfl rfl (kR rfl rfl (kR rfl rfl SL.nil)))))) (BL.keep rfl (BL.keep rfl (BL.keep rfl (BL.keep rfl (BL.keep rfl BL.nil))))) (BK.cons rfl (bS rfl (bS rfl (bS rfl (bS rfl bZ)))) rfl rfl (BK.cons rfl (bS rfl (bS rfl (bS rfl bZ))) rfl rfl (BK.cons rfl bZ rfl (by first|rfl|simp) (BK.cons rfl (bS rfl (bS rfl bZ)) rfl rfl (BK.cons rfl (bS rfl bZ) rfl rfl BK.nil))))) GK.nil)⟩))))))))))))))))
 ·refine AW.condT eZ (cN (nt h6)) (aS (AW.regm (rmOne (oBuild (cs:=[(dI 0),.zs,(dI 0),(dI 0),(dI 0),(dI 0),(dI 0),(dI 0),.zs]) PsNil rfl (xNil (rmOne (oStoreV (es:=[(dI 0),.zs,(dI 0),(dI 0),(dI 0),(dI 0),(dI 0),(dI 0),.zs]) (eR rfl) eZ rfl rfl bZ rfl (xNil (rmRest (oMov eC (xQ (AW.ret (TQ.qr ?_)))))))))))))
  cases H
  exact endsR (RL.cons (RV.cellA (es:=[(dI 0),.zs,(dI 0),(dI 0),(dI 0),(dI 0),(dI 0),(dI 0),.zs]) (eR rfl) bZ rfl) (VO.aggs (VOs.cons (VO.flat rfl) (VOs.cons VO.zs (VOs.cons (VO.flat rfl) (VOs.cons (VO.flat rfl) (VOs.cons (VO.flat rfl) (VOs.cons (VO.flat rfl) (VOs.cons (VO.flat rfl) (VOs.cons (VO.flat rfl) (VOs.cons VO.zs VOs.nil)))))))))) (RL.cons (RV.tmp eZ) (VO.flat rfl) RL.nil)) List.nodup_nil
theorem c_spec_l11DrawStore{pv:Value}{cb1:(List Int)}{a2:(Int×Int)}{a3:Int}{r:((List TCell)×(Int×Int))}(H:m_spec_l11DrawStore cb1 a2 a3=some r):FnC Try.prog pv (.sl 1 (List.map d_u8 cb1)) 117 [⟨(.ptr [(.pin pv),(.int .i64 a2.1),(.int .i64 a2.2)]),.m (.ptr [(.pin pv),(.int .i64 r.2.1),(.int .i64 r.2.2)])⟩,⟨(.int .i64 a3),.b⟩] [(.sl 2 (List.map d_TCell r.1))]:=by
 refine n117 (fle rfl) (fle rfl) (fC nZ rfl fN) rfl ?_
 rw[initC_mk]
 refine AW.weaken (t:=mk [(0,(.one (.ptr (.nm 0 0 0)))),(1,(oI a3))] [(0,(.vars 3 [(.d (.pin pv)),(dI a2.1),(dI a2.2)]))] (lk [(63,(.one (.d (.both pv (.sl 1 (List.map d_u8 cb1)))))),(0,(.one (.ptr (.nm 0 0 0))))])) (wk_mkG (gl:=[(63,(.one (.d (.both pv (.sl 1 (List.map d_u8 cb1)))))),(0,(.one (.ptr (.nm 0 0 0))))]) [] (kv 0 (.one (.ptr (.nm 0 0 0))) rfl rfl (kv 1 (oI a3) rfl rfl SL.nil)) (BL.keep rfl BL.nil) (BK.cons (n:=0) rfl bZ rfl rfl BK.nil) (GK.cons rfl (GK.cons rfl GK.nil))) ?_
 unfold m_spec_l11DrawStore at H
 unfold i117
 refine aV (oMov eC (xQ (aV (oBsliceZ (m:=576) rfl (nS rfl nZ) (oMov eZ (xQ (aS (AW.regm (rmOne (oMov (eR rfl) (xNil (rmOne (oMov (eR rfl) (xNil (rmOne (oAdd eZ eC (xNil ?_)))))))))))))))))
 obtain⟨v4,h5,H⟩:=obind H
 refine rmCallIC (v0:=pv) (hg:=by exact rfl) (ON:=[0]) (ls:=[]) (G:=[]) (E:=[subKey 0]) (MB:=[(0,(.vars 3 [(.d (.pin pv)),(dI v4.2.1),(dI v4.2.2)]))]) (u:=(oI v4.1)) eC Cl.fn (c_spec_l1Below h5) (Evs.cons (eR rfl) (Evs.cons eZ Evs.nil)) (AO.mut (VO.ptr (es:=[(.pin pv),(.int .i64 a2.1),(.int .i64 a2.2)]) bZ rfl rfl rfl) (AO.lent VD.plain rfl AO.nil)) rfl rfl rfl (SZ.consP bZ rfl SZ.nil) (erL.cons (v':=(oI (IntKind.wrap .i64 (a3+1)))) rfl (erL.cons (v':=(oI a3)) rfl (erL.cons (v':=(.one (.ptr (.nm 0 0 0)))) rfl (erL.cons (v':=(.one .zs)) rfl (erL.cons (v':=(.one .zs)) rfl (erL.cons (v':=(.one .zs)) rfl (erL.cons (v':=(.one (.ptr (.nm 0 0 0)))) rfl (erL.cons (v':=(oI a3)) rfl erL.nil)))))))) (erH.cons (v':=(.vars 3 [(.d (.pin pv)),(dI a2.1),(dI a2.2)])) rfl rfl erH.nil) (erL.cons (v':=(.one (.d (.both pv (.sl 1 (List.map d_u8 cb1)))))) rfl (erL.cons (v':=(.one (.ptr (.nm 0 0 0)))) rfl erL.nil)) rfl rfl (rmRest (oMov eZ (xQ (AW.seqJ (fun t6:(Int×Int×Int)=>(spec_l11DrawStore_j6 cb1) t6=some r) (fun t6=>mk [(0,(.one (.ptr (.nm 0 0 0)))),(5,(.one .zs)),(6,(oI t6.1))] [(0,(.vars 3 [(.d (.pin pv)),(dI t6.2.1),(dI t6.2.2)]))] (lk [(63,(.one (.d (.both pv (.sl 1 (List.map d_u8 cb1)))))),(0,(.one (.ptr (.nm 0 0 0))))])) ?_ ?_))))
 ·intro t6 H
  unfold spec_l11DrawStore_j6 at H
  refine aS (AW.regm (rmOne (oMov eZ (xNil ?_))))
  obtain⟨v8,h9,H⟩:=obind H
  refine rmCallIC (v0:=pv) (hg:=by exact rfl) (ON:=[0]) (ls:=[]) (G:=[]) (E:=[subKey 0]) (MB:=[(0,(.vars 3 [(.d (.pin pv)),(dI v8.2.1),(dI v8.2.2)]))]) (u:=(oI v8.1)) eC Cl.fn (c_spec_l1Below h9) (Evs.cons eZ (Evs.cons eC Evs.nil)) (AO.mut (VO.ptr (es:=[(.pin pv),(.int .i64 t6.2.1),(.int .i64 t6.2.2)]) bZ rfl rfl rfl) (AO.lent VD.plain rfl AO.nil)) rfl rfl rfl (SZ.consP bZ rfl SZ.nil) (erL.cons (v':=(.one (.ptr (.nm 0 0 0)))) rfl (erL.cons (v':=(.one (.ptr (.nm 0 0 0)))) rfl (erL.cons (v':=(.one .zs)) rfl (erL.cons (v':=(oI t6.1)) rfl erL.nil)))) (erH.cons (v':=(.vars 3 [(.d (.pin pv)),(dI t6.2.1),(dI t6.2.2)])) rfl rfl erH.nil) (erL.cons (v':=(.one (.d (.both pv (.sl 1 (List.map d_u8 cb1)))))) rfl (erL.cons (v':=(.one (.ptr (.nm 0 0 0)))) rfl erL.nil)) rfl rfl (rmRest (oMov eZ (xQ (AW.seqJ (fun t10:((List TCell)×Int×Int)=>spec_l11DrawStore_j10 t10=some r) (fun t10=>mk [(5,(.one (.sl 320128 0 t10.1.length)))] [(320128,(.data 2 (List.map d_TCell t10.1) true none)),(0,(.vars 3 [(.d (.pin pv)),(dI t10.2.1),(dI t10.2.2)]))] (lk [(63,(.one (.d (.both pv (.sl 1 (List.map d_u8 cb1)))))),(0,(.one (.ptr (.nm 0 0 0))))])) ?_ ?_))))
  ·intro t10 H
   unfold spec_l11DrawStore_j10 at H
   refine aV (oMov eZ (oMov eZ (xQ (AW.ret ?_))))
   cases H
   exact endsRM (RL.cons (RV.tmp eZ) (VO.sl bZ (List.length_map _) (allFlat fun _=>rfl)) RL.nil) (ML.mut (eS rfl eZ) (VO.ptr (es:=[(.pin pv),(.int .i64 t10.2.1),(.int .i64 t10.2.2)]) (bS rfl bZ) rfl rfl rfl) (ML.lent ML.nil)) (by decide)
  ·refine aV (oMov eC (xQ (AW.block (AW.iter (fun s12:((List TCell)×Int×Int×Int×Int)=>mk [(0,(.one (.ptr (.nm 0 0 0)))),(5,(.one (.sl 320192 0 s12.1.length))),(6,(oI t6.1)),(7,(oI s12.2.1)),(8,(oI s12.2.2.1))] [(320192,(.data 2 (List.map d_TCell s12.1) true none)),(0,(.vars 3 [(.d (.pin pv)),(dI s12.2.2.2.1),(dI s12.2.2.2.2)]))] (lk [(63,(.one (.d (.both pv (.sl 1 (List.map d_u8 cb1)))))),(0,(.one (.ptr (.nm 0 0 0))))])) H ((wk_mkG [] (kR rfl rfl (SL.cons eZ rfl (VWk.one (CWk.len (by first|(simp;done)|(simp;omega)|omega|(simp only[List.length_map];omega)))) (kR rfl rfl (kR rfl rfl (kR rfl rfl SL.nil))))) (BL.keep rfl (BL.keep rfl (BL.keep rfl BL.nil))) (BK.cons rfl bZ rfl rfl (BK.cons rfl (bS rfl bZ) rfl rfl BK.nil)) (GK.cons rfl (GK.cons rfl GK.nil))).trans (wk_zs0 320192 2 5 true (eR rfl) (nS rfl (nS rfl nZ)))) ?_))))
   intro kb13 s12 H
   unfold spec_l11DrawStore_b12 at H
   refine aS (aV (oMov (eR rfl) (oMov (eR rfl) (oLss (eR rfl) eZ (xQ ?_)))))
   rcases oite H with⟨h14,H⟩|⟨h14,H⟩
   ·refine AW.condT eZ (dT h14) (AW.skip (TQ.qn (aS (AW.block (aS (AW.regm (rmOne (oMov (eR rfl) (xNil (rmOne (oMov (eR rfl) (xNil (rmOne (oMov (eR rfl) (xNil ?_)))))))))))))))
    obtain⟨v15,h16,H⟩:=obind H
    refine rmCallIC (v0:=pv) (hg:=by exact rfl) (ON:=[0]) (ls:=[]) (G:=[]) (E:=[subKey 0]) (MB:=[(0,(.vars 3 [(.d (.pin pv)),(dI v15.2.1),(dI v15.2.2)]))]) (u:=(oI v15.1)) eC Cl.fn (c_spec_l1Below h16) (Evs.cons eZ (Evs.cons eC Evs.nil)) (AO.mut (VO.ptr (es:=[(.pin pv),(.int .i64 s12.2.2.2.1),(.int .i64 s12.2.2.2.2)]) (bS rfl bZ) rfl rfl rfl) (AO.lent VD.plain rfl AO.nil)) rfl rfl rfl (SZ.consP (bS rfl bZ) rfl SZ.nil) (erL.cons (v':=(.one (.ptr (.nm 0 0 0)))) rfl (erL.cons (v':=(oI s12.2.1)) rfl (erL.cons (v':=(.one (.sl 320192 0 s12.1.length))) rfl (erL.cons (v':=(oB (decide (s12.2.2.1 < t6.1)))) rfl (erL.cons (v':=(oI t6.1)) rfl (erL.cons (v':=(oI s12.2.2.1)) rfl (erL.cons (v':=(.one (.ptr (.nm 0 0 0)))) rfl (erL.cons (v':=(.one (.sl 320192 0 s12.1.length))) rfl (erL.cons (v':=(oI t6.1)) rfl (erL.cons (v':=(oI s12.2.1)) rfl (erL.cons (v':=(oI s12.2.2.1)) rfl erL.nil))))))))))) (erH.cons (v':=(.data 2 (List.map d_TCell s12.1) true none)) rfl rfl (erH.cons (v':=(.vars 3 [(.d (.pin pv)),(dI s12.2.2.2.1),(dI s12.2.2.2.2)])) rfl rfl erH.nil)) (erL.cons (v':=(.one (.d (.both pv (.sl 1 (List.map d_u8 cb1)))))) rfl (erL.cons (v':=(.one (.ptr (.nm 0 0 0)))) rfl erL.nil)) rfl rfl (rmRest (oBuild (cs:=[(dI s12.2.1),(dI v15.1)]) (PsCons (eR rfl) (PsCons eZ PsNil)) rfl (oBslice (m:=1792) (q:=1) (cs:=[(dI s12.2.1),(dI v15.1)]) rfl (PsCons eZ PsNil) rfl (List.cons_ne_nil _ _) (by simp) (nS rfl (nS rfl (nS rfl nZ))) ?_)))
    obtain⟨h17,H⟩:=oguard H
    refine oAppNG (f:=d_TCell) (xs:=s12.1) (ys:=[(TCell.mk s12.2.1 v15.1)]) (q:=(s12.1++([(TCell.mk s12.2.1 v15.1)])).length) (eR rfl) eZ (bS rfl (bS rfl bZ)) rfl (El.one (f:=d_TCell) (t:=(TCell.mk s12.2.1 v15.1)) (es:=[(.int .i64 s12.2.1),(.int .i64 v15.1)]) bZ rfl rfl rfl) rfl h17 (by decide) (by decide) (erL.cons (v':=(.one (.sl 1792 0 1))) rfl (erL.cons (v':=(.agg [(dI s12.2.1),(dI v15.1)])) rfl (erL.cons (v':=(oI v15.1)) rfl (erL.cons (v':=(.one (.ptr (.nm 0 0 0)))) rfl (erL.cons (v':=(oI s12.2.1)) rfl (erL.cons (v':=(.one .any)) rfl (erL.cons (v':=(oB (decide (s12.2.2.1 < t6.1)))) rfl (erL.cons (v':=(oI t6.1)) rfl (erL.cons (v':=(oI s12.2.2.1)) rfl (erL.cons (v':=(.one (.ptr (.nm 0 0 0)))) rfl (erL.cons (v':=(.one .any)) rfl (erL.cons (v':=(oI t6.1)) rfl (erL.cons (v':=(oI s12.2.1)) rfl (erL.cons (v':=(oI s12.2.2.1)) rfl erL.nil)))))))))))))) (erH.cons (v':=(.vars 2 [(dI s12.2.1),(dI v15.1)])) rfl rfl (erH.cons (v':=(.vars 3 [(.d (.pin pv)),(dI v15.2.1),(dI v15.2.2)])) rfl rfl (erH.drop rfl (erH.cons (v':=(.vars 3 [(.d (.pin pv)),(dI s12.2.2.2.1),(dI s12.2.2.2.2)])) rfl rfl erH.nil)))) (GK.cons rfl (GK.cons rfl GK.nil)) (oMov eZ (xQ (AW.weaken (wk_mkG [1792] (kr 5 rfl rfl (kr 0 rfl rfl (kr 6 rfl rfl (kr 7 rfl rfl (kr 8 rfl rfl SL.nil))))) (BL.keep rfl (BL.drop rfl (BL.keep rfl (BL.keep rfl BL.nil)))) (BK.cons (n:=320192) rfl bZ rfl rfl (BK.cons (n:=0) rfl (bS rfl (bS rfl bZ)) rfl rfl BK.nil)) (GK.cons rfl (GK.cons rfl GK.nil))) (AW.regm (rmOne (oMov (eR rfl) (xNil (rmOne (oAdd eZ eC (xNil (rmOne (oMov (eR rfl) (xNil ?_)))))))))))))
    obtain⟨v18,h19,H⟩:=obind H
    exact rmCallIC (v0:=pv) (hg:=by exact rfl) (ON:=[0]) (ls:=[]) (G:=[]) (E:=[subKey 0]) (MB:=[(0,(.vars 3 [(.d (.pin pv)),(dI v18.2.1),(dI v18.2.2)]))]) (u:=(oI v18.1)) eC Cl.fn (c_spec_l1Below h19) (Evs.cons eZ (Evs.cons eC Evs.nil)) (AO.mut (VO.ptr (es:=[(.pin pv),(.int .i64 v15.2.1),(.int .i64 v15.2.2)]) (bS rfl bZ) rfl rfl rfl) (AO.lent VD.plain rfl AO.nil)) rfl rfl rfl (SZ.consP (bS rfl bZ) rfl SZ.nil) (erL.cons (v':=(.one (.ptr (.nm 0 0 0)))) rfl (erL.cons (v':=(oI (IntKind.wrap .i64 (s12.2.1+1)))) rfl (erL.cons (v':=(oI s12.2.1)) rfl (erL.cons (v':=(.one (.sl 320192 0 ((s12.1++([(TCell.mk s12.2.1 v15.1)])).length)))) rfl (erL.cons (v':=(.one (.ptr (.nm 0 0 0)))) rfl (erL.cons (v':=(oI t6.1)) rfl (erL.cons (v':=(oI s12.2.1)) rfl (erL.cons (v':=(oI s12.2.2.1)) rfl erL.nil)))))))) (erH.cons (v':=(.data 2 (List.map d_TCell (s12.1++([(TCell.mk s12.2.1 v15.1)]))) true none)) rfl rfl (erH.cons (v':=(.vars 3 [(.d (.pin pv)),(dI v15.2.1),(dI v15.2.2)])) rfl rfl erH.nil)) (erL.cons (v':=(.one (.d (.both pv (.sl 1 (List.map d_u8 cb1)))))) rfl (erL.cons (v':=(.one (.ptr (.nm 0 0 0)))) rfl erL.nil)) rfl rfl (rmRest (oAdd (eR rfl) eZ (oMov eZ (xNil (BQ.qn (TQ.qn (aR (oMov (eR rfl) (oAdd eZ eC (oMov eZ (xNil (TQ.qn ⟨((s12.1++([(TCell.mk s12.2.1 v15.1)])),(IntKind.wrap .i64 ((IntKind.wrap .i64 (s12.2.1+1))+v18.1)),(IntKind.wrap .i64 (s12.2.2.1+1)),v18.2.1,v18.2.2),H,(wk_mkG [] (kR rfl rfl (kR rfl rfl (kR rfl rfl (kR rfl rfl (kR rfl rfl SL.nil))))) (BL.keep rfl (BL.keep rfl (BL.keep rfl BL.nil))) (BK.cons rfl (bS rfl bZ) rfl rfl (BK.cons rfl bZ rfl rfl BK.nil)) (GK.cons rfl (GK.cons rfl GK.nil)))⟩))))))))))))
   ·exact AW.condF eZ (dF h14) (AW.exit (TQ.qe (TQ.qe (BQ.qe (TQ.qn ⟨(s12.1,s12.2.2.2.1,s12.2.2.2.2),H,((wk_mkG [] (kR rfl rfl SL.nil) (BL.keep rfl (BL.keep rfl BL.nil)) (BK.cons rfl bZ rfl rfl (BK.cons rfl (bS rfl bZ) rfl rfl BK.nil)) (GK.cons rfl (GK.cons rfl GK.nil))).trans (wk_renG 320192 320128 rfl rfl (nS rfl (nS rfl nZ)) (GR.cons rfl (GR.cons rfl GR.nil))))⟩)))))
 ·refine aS (AW.regm (rmOne (oMov (eR rfl) (xNil ?_))))
  obtain⟨v20,h21,H⟩:=obind H
  refine rmCallIC (v0:=pv) (hg:=by exact rfl) (ON:=[0]) (ls:=[]) (G:=[]) (E:=[subKey 0]) (MB:=[(0,(.vars 3 [(.d (.pin pv)),(dI v20.2.1),(dI v20.2.2)]))]) (u:=(oB v20.1)) eC Cl.fn (c_spec_l1Once h21) (Evs.cons eZ (Evs.cons eC Evs.nil)) (AO.mut (VO.ptr (es:=[(.pin pv),(.int .i64 v4.2.1),(.int .i64 v4.2.2)]) bZ rfl rfl rfl) (AO.lent VD.plain rfl AO.nil)) rfl rfl rfl (SZ.consP bZ rfl SZ.nil) (erL.cons (v':=(.one (.ptr (.nm 0 0 0)))) rfl (erL.cons (v':=(oI v4.1)) rfl (erL.cons (v':=(oI v4.1)) rfl (erL.cons (v':=(oI (IntKind.wrap .i64 (a3+1)))) rfl (erL.cons (v':=(oI a3)) rfl (erL.cons (v':=(.one (.ptr (.nm 0 0 0)))) rfl (erL.cons (v':=(.one .zs)) rfl (erL.cons (v':=(.one .zs)) rfl (erL.cons (v':=(.one .zs)) rfl (erL.cons (v':=(.one (.ptr (.nm 0 0 0)))) rfl (erL.cons (v':=(oI a3)) rfl erL.nil))))))))))) (erH.cons (v':=(.vars 3 [(.d (.pin pv)),(dI v4.2.1),(dI v4.2.2)])) rfl rfl (erH.cons (v':=(.vars 3 [(.d (.pin pv)),(dI a2.1),(dI a2.2)])) rfl rfl erH.nil)) (erL.cons (v':=(.one (.d (.both pv (.sl 1 (List.map d_u8 cb1)))))) rfl (erL.cons (v':=(.one (.ptr (.nm 0 0 0)))) rfl erL.nil)) rfl rfl (rmRest (xQ ?_))
  rcases oite H with⟨h22,H⟩|⟨h22,H⟩
  ·exact AW.condT eZ h22 (aR (oMov eC (xNil (TQ.qn ⟨(60,v20.2.1,v20.2.2),H,(wk_mkG [] (kR rfl rfl (kR rfl rfl (kR rfl rfl SL.nil))) (BL.keep rfl (BL.keep rfl (BL.keep rfl BL.nil))) (BK.cons rfl bZ rfl rfl BK.nil) (GK.cons rfl (GK.cons rfl GK.nil)))⟩))))
  ·exact AW.condF eZ (nt h22) (AW.skip (TQ.qn ⟨(v4.1,v20.2.1,v20.2.2),H,(wk_mkG [] (kR rfl rfl (kR rfl rfl (kR rfl rfl SL.nil))) (BL.keep rfl (BL.keep rfl (BL.keep rfl BL.nil))) (BK.cons rfl bZ rfl rfl BK.nil) (GK.cons rfl (GK.cons rfl GK.nil)))⟩))
theorem c_spec_l11Scan{a1:(List TCell)}{a2:TRange}{a3:Bool}{r:(List TCell)}(H:m_spec_l11Scan a1 a2 a3=some r):Fn Try.prog 132 (lent [(.sl 2 (List.map d_TCell a1)),(.agg (d_TRange a2)),(.bool a3)]) true [(.sl 2 (List.map d_TCell r))]:=by
 refine f132 (fle rfl) ?_
 rw[init_mk]
 refine AW.weaken (wk_mk [] (kv 0 (.one (.d (.sl 2 (List.map d_TCell a1)))) rfl rfl (kv 1 (.agg [(dI a2.Lo),(dI a2.Hi)]) rfl rfl (kv 2 (oB a3) rfl rfl SL.nil))) BL.nil BK.nil) ?_
 unfold m_spec_l11Scan at H
 unfold i132
 refine aV (oBox (n:=256) (m:=2) (cs:=[(dI a2.Lo),(dI a2.Hi)]) rfl (eR rfl) rfl rfl nZ (oMov eC (xQ (aV (oBsliceZ (m:=576) rfl (nS rfl nZ) (oMov eZ (xQ (AW.seqJ (fun t4:(List TCell)=>spec_l11Scan_j4 t4=some r) (fun t4=>mk [(7,(.one (.sl 320128 0 t4.length)))] [(320128,(.data 2 (List.map d_TCell t4) true none))] noG) ?_ ?_))))))))
 ·intro t4 H
  unfold spec_l11Scan_j4 at H
  refine aV (oMov eZ (oMov eZ (xQ (AW.ret ?_))))
  cases H
  exact endsR (RL.cons (RV.tmp eZ) (VO.sl bZ (List.length_map _) (allFlat fun _=>rfl)) RL.nil) (by decide)
 ·refine aV (oMov eC (xQ (AW.block (AW.iter (fun s6:((List TCell)×Int)=>mk [(0,(.one (.d (.sl 2 (List.map d_TCell a1))))),(2,(oB a3)),(4,(.one (.ptr (.nm 256 0 0)))),(7,(.one (.sl 320192 0 s6.1.length))),(8,(oI s6.2))] [(320192,(.data 2 (List.map d_TCell s6.1) true none)),(256,(.vars 2 [(dI a2.Lo),(dI a2.Hi)]))] noG) H ((wk_mk [] (kR rfl rfl (kR rfl rfl (kR rfl rfl (SL.cons eZ rfl (VWk.one (CWk.len (by first|(simp;done)|(simp;omega)|omega|(simp only[List.length_map];omega)))) (kR rfl rfl SL.nil))))) (BL.keep rfl (BL.keep rfl BL.nil)) (BK.cons rfl bZ rfl rfl (BK.cons rfl (bS rfl bZ) rfl rfl BK.nil))).trans (wk_zs 320192 2 7 true (eR rfl) (nS rfl nZ))) ?_))))
  intro kb7 s6 H
  unfold spec_l11Scan_b6 at H
  refine aS (aV (oMov (eR rfl) (oMov (eR rfl) (oLenD eZ (n:=a1.length) (List.length_map _) (oLss (eR rfl) eZ (oMov eZ ?_))))))
  rcases oite H with⟨h8,H⟩|⟨h8,H⟩
  ·refine gDo eZ (dT h8) (oMov (eR rfl) (gDo (eR rfl) (dT h8) ?_))
   obtain⟨v9,h10,H⟩:=obind H
   refine oCall (u:=(oB v9)) eC Cl.fn (c_spec_StoreOk h10) (Evs.cons eZ Evs.nil) (VDs.cons VD.plain VDs.nil) rfl (oPickT (eR rfl) (dT h8) eZ (oMov eZ ?_))
   rcases oite H with⟨h11,H⟩|⟨h11,H⟩
   ·refine gDo eZ h11 (oLoadVA (es:=[(dI a2.Lo),(dI a2.Hi)]) (eR rfl) (bS rfl bZ) rfl (gDo (eR rfl) h11 ?_))
    obtain⟨v12,h13,H⟩:=obind H
    refine oCall (u:=(oB v12)) eC Cl.fn (c_spec_RangeOk h13) (Evs.cons eZ Evs.nil) (VDs.cons (VD.agg rfl) VDs.nil) rfl (oPickT (eR rfl) h11 eZ (xQ (AW.weaken (wk_mk [] (kr 21 rfl rfl (kr 0 rfl rfl (kr 2 rfl rfl (kr 4 rfl rfl (kr 7 rfl rfl (kr 8 rfl rfl SL.nil)))))) (BL.keep rfl (BL.keep rfl BL.nil)) (BK.cons (n:=320192) rfl bZ rfl rfl (BK.cons (n:=256) rfl (bS rfl bZ) rfl rfl BK.nil))) ?_)))
    rcases oite H with⟨h14,H⟩|⟨h14,H⟩
    ·refine AW.condT eZ h14 (AW.skip (TQ.qn (aS (AW.block (aS (AW.regd (oMov (eR rfl) (oMov (eR rfl) ?_))))))))
     obtain⟨v15,h16,H⟩:=obind H
     refine oAtD (eR rfl) eZ h16 (oFaddrB (m:=0) eZ rfl (oLoadB (e:=(.int .i64 v15.Key)) eZ rfl (oFaddrN (m:=0) (eR rfl) rfl (oLoadV (q:=0) (c:=(dI a2.Lo)) eZ (bS rfl bZ) rfl rfl (oFaddrN (m:=1) (eR rfl) rfl (oLoadV (q:=1) (c:=(dI a2.Hi)) eZ (bS rfl bZ) rfl rfl (oSub eZ eC ?_)))))))
     obtain⟨v17,h18,H⟩:=obind H
     refine oCall (u:=(oB v17)) eC Cl.fn (c_spec_l1In h18) (Evs.cons (eR rfl) (Evs.cons (eR rfl) (Evs.cons eZ Evs.nil))) (VDs.cons VD.plain (VDs.cons VD.plain (VDs.cons VD.plain VDs.nil))) rfl (oMov (eR rfl) (oBeq (eR rfl) eZ (xQ (AW.weaken (wk_mk [] (kr 36 rfl rfl (kr 0 rfl rfl (kr 2 rfl rfl (kr 4 rfl rfl (kr 7 rfl rfl (kr 8 rfl rfl SL.nil)))))) (BL.keep rfl (BL.keep rfl BL.nil)) (BK.cons (n:=320192) rfl bZ rfl rfl (BK.cons (n:=256) rfl (bS rfl bZ) rfl rfl BK.nil))) ?_))))
     rcases oite H with⟨h19,H⟩|⟨h19,H⟩
     ·refine AW.condT eZ h19 (aR (oMov (eR rfl) (oMov (eR rfl) (oMov (eR rfl) ?_))))
      obtain⟨v20,h21,H⟩:=obind H
      refine oAtD (eR rfl) eZ h21 (oLoadBA (es:=[(dI v20.Key),(dI v20.Value)]) eZ rfl (oBslice (m:=2688) (q:=1) (cs:=[(dI v20.Key),(dI v20.Value)]) rfl (PsCons eZ PsNil) rfl (List.cons_ne_nil _ _) (by simp) (nS rfl (nS rfl nZ)) ?_))
      obtain⟨h22,H⟩:=oguard H
      exact oAppN (f:=d_TCell) (xs:=s6.1) (ys:=[v20]) (q:=(s6.1++([v20])).length) (eR rfl) eZ (bS rfl bZ) rfl (El.one (f:=d_TCell) (t:=v20) (es:=[(.int .i64 v20.Key),(.int .i64 v20.Value)]) bZ rfl rfl rfl) rfl h22 (by decide) (by decide) (erL.cons (v':=(.one (.sl 2688 0 1))) rfl (erL.cons (v':=(.agg [(dI v20.Key),(dI v20.Value)])) rfl (erL.cons (v':=(.one (.ptr (.bd (d_TCell v20) 0)))) rfl (erL.cons (v':=(oI s6.2)) rfl (erL.cons (v':=(.one (.d (.sl 2 (List.map d_TCell a1))))) rfl (erL.cons (v':=(.one .any)) rfl (erL.cons (v':=(oB (v17 == a3))) rfl (erL.cons (v':=(.one (.d (.sl 2 (List.map d_TCell a1))))) rfl (erL.cons (v':=(oB a3)) rfl (erL.cons (v':=(.one (.ptr (.nm 256 0 0)))) rfl (erL.cons (v':=(.one .any)) rfl (erL.cons (v':=(oI s6.2)) rfl erL.nil)))))))))))) (erH.cons (v':=(.vars 2 [(dI v20.Key),(dI v20.Value)])) rfl rfl (erH.drop rfl (erH.cons (v':=(.vars 2 [(dI a2.Lo),(dI a2.Hi)])) rfl rfl erH.nil))) (oMov eZ (xNil (BQ.qn (TQ.qn (aR (oMov (eR rfl) (oAdd eZ eC (oMov eZ (xNil (TQ.qn ⟨((s6.1++([v20])),(IntKind.wrap .i64 (s6.2+1))),H,(wk_mk [2688] (kR rfl rfl (kR rfl rfl (kR rfl rfl (kR rfl rfl (kR rfl rfl SL.nil))))) (BL.keep rfl (BL.drop rfl (BL.keep rfl BL.nil))) (BK.cons rfl bZ rfl rfl (BK.cons rfl (bS rfl (bS rfl bZ)) rfl rfl BK.nil)))⟩))))))))))
     ·exact AW.condF eZ (nt h19) (AW.skip (BQ.qn (TQ.qn (aR (oMov (eR rfl) (oAdd eZ eC (oMov eZ (xNil (TQ.qn ⟨(s6.1,(IntKind.wrap .i64 (s6.2+1))),H,(wk_mk [] (kR rfl rfl (kR rfl rfl (kR rfl rfl (kR rfl rfl (kR rfl rfl SL.nil))))) (BL.keep rfl (BL.keep rfl BL.nil)) (BK.cons rfl bZ rfl rfl (BK.cons rfl (bS rfl bZ) rfl rfl BK.nil)))⟩)))))))))
    ·exact AW.condF eZ (nt h14) (AW.exit (TQ.qe (TQ.qe (BQ.qe (TQ.qn ⟨s6.1,H,((wk_mk [256] (kR rfl rfl SL.nil) (BL.keep rfl (BL.drop rfl BL.nil)) (BK.cons rfl bZ rfl rfl BK.nil)).trans (wk_ren 320192 320128 rfl rfl (nS rfl (nS rfl nZ))))⟩)))))
   ·exact gSkip eZ (nt h11) rfl (gSkip (eR rfl) (nt h11) rfl (oPickF (eR rfl) (nt h11) eC (xQ (AW.weaken (wk_mk [] (kr 21 rfl rfl (kr 0 rfl rfl (kr 2 rfl rfl (kr 4 rfl rfl (kr 7 rfl rfl (kr 8 rfl rfl SL.nil)))))) (BL.keep rfl (BL.keep rfl BL.nil)) (BK.cons (n:=320192) rfl bZ rfl rfl (BK.cons (n:=256) rfl (bS rfl bZ) rfl rfl BK.nil))) (AW.condF eZ rfl (AW.exit (TQ.qe (TQ.qe (BQ.qe (TQ.qn ⟨s6.1,H,((wk_mk [256] (kR rfl rfl SL.nil) (BL.keep rfl (BL.drop rfl BL.nil)) (BK.cons rfl bZ rfl rfl BK.nil)).trans (wk_ren 320192 320128 rfl rfl (nS rfl (nS rfl nZ))))⟩))))))))))
  ·exact gSkip eZ (dF h8) rfl (gSkip (eR rfl) (dF h8) rfl (oPickF (eR rfl) (dF h8) eC (oMov eZ (gSkip eZ rfl rfl (gSkip (eR rfl) rfl rfl (oPickF (eR rfl) rfl eC (xQ (AW.weaken (wk_mk [] (kr 21 rfl rfl (kr 0 rfl rfl (kr 2 rfl rfl (kr 4 rfl rfl (kr 7 rfl rfl (kr 8 rfl rfl SL.nil)))))) (BL.keep rfl (BL.keep rfl BL.nil)) (BK.cons (n:=320192) rfl bZ rfl rfl (BK.cons (n:=256) rfl (bS rfl bZ) rfl rfl BK.nil))) (AW.condF eZ rfl (AW.exit (TQ.qe (TQ.qe (BQ.qe (TQ.qn ⟨s6.1,H,((wk_mk [256] (kR rfl rfl SL.nil) (BL.keep rfl (BL.drop rfl BL.nil)) (BK.cons rfl bZ rfl rfl BK.nil)).trans (wk_ren 320192 320128 rfl rfl (nS rfl (nS rfl nZ))))⟩))))))))))))))
theorem c_spec_StoreScan{a1:(List TCell)}{a2:TRange}{r:(List TCell)}(H:m_spec_StoreScan a1 a2=some r):Fn Try.prog 116 (lent [(.sl 2 (List.map d_TCell a1)),(.agg (d_TRange a2))]) true [(.sl 2 (List.map d_TCell r))]:=by
 refine f116 (fle rfl) ?_
 rw[init_mk]
 refine AW.weaken (wk_mk [] (kv 0 (.one (.d (.sl 2 (List.map d_TCell a1)))) rfl rfl (kv 1 (.agg [(dI a2.Lo),(dI a2.Hi)]) rfl rfl SL.nil)) BL.nil BK.nil) ?_
 unfold m_spec_StoreScan at H
 unfold i116
 refine aV (oBox (n:=192) (m:=2) (cs:=[(dI a2.Lo),(dI a2.Hi)]) rfl (eR rfl) rfl rfl nZ (oMov eC (xQ (aV (oMov (eR rfl) (oLoadVA (es:=[(dI a2.Lo),(dI a2.Hi)]) (eR rfl) bZ rfl ?_))))))
 obtain⟨v3,h4,H⟩:=obind H
 refine oCallN (u:=(.one (.sl 448 0 v3.length))) (bs:=[(448,(.data 2 (List.map d_TCell v3) true none))]) eC Cl.fn (c_spec_l11Scan h4) (Evs.cons (eR rfl) (Evs.cons eZ (Evs.cons eC Evs.nil))) (VDs.cons VD.plain (VDs.cons (VD.agg rfl) (VDs.cons VD.plain VDs.nil))) (by simp[bindR,bindV,bindVs,bindC,bindCs]) rfl (fC (nS rfl nZ) rfl (fC (nS rfl nZ) rfl fN)) (oMov eZ (xQ (AW.ret ?_)))
 cases H
 exact endsR (RL.cons (RV.tmp eZ) (VO.sl bZ (List.length_map _) (allFlat fun _=>rfl)) RL.nil) (by decide)
end Go.AW
