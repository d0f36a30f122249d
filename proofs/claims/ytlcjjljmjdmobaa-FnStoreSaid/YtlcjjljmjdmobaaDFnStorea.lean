/- That functions of the program compute what the plain functions say. Conditions: each theorem's own. -/
import Derived.Test.YtlcjjljmjdmobaaMFnStore
import Derived.Test.YtlcjjljmjdmobaaGFnStore
import Derived.Test.YtlcjjljmjdmobaaSFnStore
import Derived.Test.YtlcjjljmjdmobaaYt
import Derived.KernelRfl
set_option linter.unusedVariables false
set_option linter.unusedSimpArgs false
set_option maxRecDepth 100000
namespace Go.AW
open Go.Proofs
theorem c_laws_big{a1:(List Int)}{r:Bool}(H:m_laws_big a1=some r):Fn Try.prog 15 (lent [(.sl 1 (List.map d_u8 a1))]) true [(.bool r)]:=by
 refine f15 (fle rfl) ?_
 rw[init_mk]
 refine AW.weaken (wk_mk [] (kv 0 (.one (.d (.sl 1 (List.map d_u8 a1)))) rfl rfl SL.nil) BL.nil BK.nil) ?_
 unfold m_laws_big at H
 unfold i15
 refine aV (oMov eC (xQ (aV (oMov rfl (oLenD eZ (n:=a1.length) lm (oGtr eZ eC (oMov eZ (xQ (AW.ret ?_)))))))))
 cases H
 exact eE rfl rfl
theorem c_spec_l1New{pv:Value}{cb1:(List Int)}{r:(Int×Int)}(H:m_spec_l1New cb1=some r):FnC Try.prog pv (.sl 1 (List.map d_u8 cb1)) 56 [⟨(.pin pv),.b⟩] [(.ptr [(.pin pv),(.int .i64 r.1),(.int .i64 r.2)])]:=by
 refine n56 (fle rfl) (fle rfl) trivial rfl ?_
 rw[initC_mk]
 refine AW.weaken (t:=mk [(0,(.one (.d (.pin pv))))] [] (lk [(63,(.one (.d (.both pv (.sl 1 (List.map d_u8 cb1))))))])) (wk_mkG (gl:=[(63,(.one (.d (.both pv (.sl 1 (List.map d_u8 cb1))))))]) [] (kv 0 (.one (.d (.pin pv))) rfl rfl SL.nil) BL.nil BK.nil (GK.cons rfl GK.nil)) ?_
 unfold m_spec_l1New at H
 unfold i56
 refine AW.weaken (wk_both 0 (by exact rfl) (by exact rfl)) (aV (oMov eC (xQ (aV (oMov rfl (oLenB eZ (n:=cb1.length) lm (oAdd eC eZ (oMov eZ (xQ (AW.seqJ (fun t2:Int=>spec_l1New_j2 t2=some r) (fun t2=>mk [(0,(.one (.d (.both pv (.sl 1 (List.map d_u8 cb1)))))),(3,(oI t2))] [] (lk [(63,(.one (.d (.both pv (.sl 1 (List.map d_u8 cb1))))))])) ?_ ?_))))))))))
 ·intro t2 H
  unfold spec_l1New_j2 at H
  refine aV (oMov eZ (oMov rfl (oBuild (cs:=[(.d (.both pv (.sl 1 (List.map d_u8 cb1)))),(dI 0),(dI t2)]) (PsCons rfl (PsCons eZ PsNil)) rfl (oBox (n:=1984) (m:=3) (cs:=[(.d (.both pv (.sl 1 (List.map d_u8 cb1)))),(dI 0),(dI t2)]) rfl eZ rfl rfl nZ (oMov eZ (xQ (AW.weaken (wk_cellP (by exact rfl) bZ) (AW.ret ?_))))))))
  cases H
  exact endsRM (RL.cons (RV.tmp eZ) (VO.ptr (es:=[(.pin pv),(.int .i64 0),(.int .i64 t2)]) bZ rfl rfl rfl) RL.nil) (ML.lent ML.nil) (by decide)
 ·refine aV (oMov eC (xQ (AW.block (AW.iter (fun s4:(Int×Int)=>mk [(0,(.one (.d (.both pv (.sl 1 (List.map d_u8 cb1)))))),(3,(oI s4.1)),(4,(oI s4.2))] [] (lk [(63,(.one (.d (.both pv (.sl 1 (List.map d_u8 cb1))))))])) H (wk_mkG [] (sR rfl rfl) BL.nil BK.nil (GK.cons rfl GK.nil)) ?_))))
  intro kb5 s4 H
  unfold spec_l1New_b4 at H
  refine aS (aV (oMov rfl (oMov rfl (oLenB eZ (n:=cb1.length) lm (oLss rfl eZ (oMov eZ ?_))))))
  rcases oite H with⟨h6,H⟩|⟨h6,H⟩
  ·refine gDo eZ (dT h6) (oMov rfl (gDo rfl (dT h6) (oLss eZ eC (oPickT rfl (dT h6) eZ (xQ ?_)))))
   rcases oite H with⟨h7,H⟩|⟨h7,H⟩
   ·refine AW.condT eZ (dT h7) (AW.skip (TQ.qn (aS (AW.block (aR (oMov rfl (oMul eZ eC (oMov rfl (oMov rfl ?_)))))))))
    obtain⟨v8,h9,H⟩:=obind H
    exact oAtB rfl eZ h9 (oLoadB (e:=(.int .u8 v8)) eZ rfl (oConv eZ (oAdd rfl eZ (oAdd eZ eC (oAnd eZ eC (oMov eZ (xNil (BQ.qn (TQ.qn (AW.weaken (wk_mkG [] (kr 3 rfl rfl (kr 0 rfl rfl (kr 4 rfl rfl SL.nil))) BL.nil BK.nil (GK.cons rfl GK.nil)) (aR (oMov rfl (oAdd eZ eC (oMov eZ (xNil (TQ.qn ⟨((IntKind.wrap .i64 (BitVec.ofInt (IntKind.bits .i64) (IntKind.wrap .i64 ((IntKind.wrap .i64 ((IntKind.wrap .i64 (s4.1 * 131))+(IntKind.wrap .i64 v8)))+7))&&& BitVec.ofInt (IntKind.bits .i64) 1073741823).toNat),(IntKind.wrap .i64 (s4.2+1))),H,(wk_mkG [] (sR rfl rfl) BL.nil BK.nil (GK.cons rfl GK.nil))⟩))))))))))))))))
   ·exact AW.condF eZ (dF h7) (AW.exit (TQ.qe (TQ.qe (BQ.qe (TQ.qn ⟨s4.1,H,(wk_mkG [] (sR rfl rfl) BL.nil BK.nil (GK.cons rfl GK.nil))⟩)))))
  ·exact gSkip eZ (dF h6) rfl (gSkip rfl (dF h6) rfl (oPickF rfl (dF h6) eC (xQ (AW.condF eZ rfl (AW.exit (TQ.qe (TQ.qe (BQ.qe (TQ.qn ⟨s4.1,H,(wk_mkG [] (sR rfl rfl) BL.nil BK.nil (GK.cons rfl GK.nil))⟩)))))))))
theorem c_spec_l1Size{pv:Value}{cb1:(List Int)}{a2:Int}{r:Int}(H:m_spec_l1Size cb1 a2=some r):FnC Try.prog pv (.sl 1 (List.map d_u8 cb1)) 58 [⟨(.pin pv),.b⟩,⟨(.int .i64 a2),.b⟩] [(.int .i64 r)]:=by
 refine n58 (fle rfl) (fle rfl) trivial rfl ?_
 rw[initC_mk]
 refine AW.weaken (t:=mk [(0,(.one (.d (.pin pv)))),(1,(oI a2))] [] (lk [(63,(.one (.d (.both pv (.sl 1 (List.map d_u8 cb1))))))])) (wk_mkG (gl:=[(63,(.one (.d (.both pv (.sl 1 (List.map d_u8 cb1))))))]) [] (kv 0 (.one (.d (.pin pv))) rfl rfl (kv 1 (oI a2) rfl rfl SL.nil)) BL.nil BK.nil (GK.cons rfl GK.nil)) ?_
 unfold m_spec_l1Size at H
 unfold i58
 refine AW.weaken (wk_both 0 (by exact rfl) (by exact rfl)) (aV (oMov eC (xQ (aV (oMov rfl (oLenB eZ (n:=cb1.length) lm (oQuo eZ eC (by decide) (oAdd eC eZ (oMov eZ (xQ (aS (aV (oMov eZ (oMov rfl (oGtr rfl eZ (xQ ?_))))))))))))))))
 rcases oite H with⟨h3,H⟩|⟨h3,H⟩
 ·refine AW.condT eZ (dT h3) (aV (oMov rfl (oMov eZ (xQ (AW.ret (TQ.qr ?_))))))
  cases H
  exact endsRM (RL.cons (RV.tmp eZ) (VO.flat rfl) RL.nil) (ML.lent (ML.lent ML.nil)) (by decide)
 ·refine AW.condF eZ (dF h3) (AW.skip (TQ.qn (aV (oMov rfl (oMov eZ (xQ (AW.ret ?_)))))))
  cases H
  exact endsRM (RL.cons (RV.tmp eZ) (VO.flat rfl) RL.nil) (ML.lent (ML.lent ML.nil)) (by decide)
theorem c_spec_l1Byte{pv:Value}{cb1:(List Int)}{a2:(Int×Int)}{r:(Int×(Int×Int))}(H:m_spec_l1Byte cb1 a2=some r):FnC Try.prog pv (.sl 1 (List.map d_u8 cb1)) 147 [⟨(.ptr [(.pin pv),(.int .i64 a2.1),(.int .i64 a2.2)]),.m (.ptr [(.pin pv),(.int .i64 r.2.1),(.int .i64 r.2.2)])⟩] [(.int .i64 r.1)]:=by
 refine n147 (fle rfl) (fle rfl) (fC nZ rfl fN) rfl ?_
 rw[initC_mk]
 refine AW.weaken (t:=mk [(0,(.one (.ptr (.nm 0 0 0))))] [(0,(.vars 3 [(.d (.pin pv)),(dI a2.1),(dI a2.2)]))] (lk [(63,(.one (.d (.both pv (.sl 1 (List.map d_u8 cb1)))))),(0,(.one (.ptr (.nm 0 0 0))))])) (wk_mkG (gl:=[(63,(.one (.d (.both pv (.sl 1 (List.map d_u8 cb1)))))),(0,(.one (.ptr (.nm 0 0 0))))]) [] (kv 0 (.one (.ptr (.nm 0 0 0))) rfl rfl SL.nil) (blR rfl) (BK.cons (n:=0) rfl bZ rfl rfl BK.nil) (GK.cons rfl (GK.cons rfl GK.nil))) ?_
 unfold m_spec_l1Byte at H
 unfold i147
 refine AW.weaken (wk_cellB (by exact rfl) bZ) (aV (oMov eC (xQ (aV (oMov rfl (oMov rfl (oNilchk eZ (oFaddrN (m:=2) eZ rfl (oLoadV (q:=2) (c:=(dI a2.2)) eZ bZ rfl rfl (oMul eZ eC (oAdd eZ eC (oNilchk rfl (oFaddrN (m:=2) eZ rfl (oStoreV (es:=[(.d (.both pv (.sl 1 (List.map d_u8 cb1)))),(dI a2.1),(dI (IntKind.wrap .i64 ((IntKind.wrap .i64 (a2.2 * 6364136223846793005))+1442695040888963407)))]) eZ rfl rfl rfl bZ rfl (xQ (aS (AW.regd (oMov rfl (oNilchk eZ (oFaddrN (m:=2) eZ rfl (oLoadV (q:=2) (c:=(dI (IntKind.wrap .i64 ((IntKind.wrap .i64 (a2.2 * 6364136223846793005))+1442695040888963407)))) eZ bZ rfl rfl (oShr eZ eC (by decide) (oMov rfl (oNilchk eZ (oFaddrN (m:=2) eZ rfl (oLoadV (q:=2) (c:=(dI (IntKind.wrap .i64 ((IntKind.wrap .i64 (a2.2 * 6364136223846793005))+1442695040888963407)))) eZ bZ rfl rfl (oShr eZ eC (by decide) (oXor rfl eZ (oAnd eZ eC (oMov eZ (xQ (AW.weaken (wk_mkG [] (kr 3 rfl rfl (kr 0 rfl rfl SL.nil)) (blR rfl) (BK.cons (n:=0) rfl bZ rfl rfl BK.nil) (GK.cons rfl (GK.cons rfl GK.nil))) (aS (aS ?_))))))))))))))))))))))))))))))))))
 refine AW.regd (oMov rfl (oNilchk eZ (oFaddrN (m:=1) eZ rfl (oLoadV (q:=1) (c:=(dI a2.1)) eZ bZ rfl rfl (oMov rfl (oNilchk eZ (oFaddrN (m:=0) eZ rfl (oLoadV (q:=0) (c:=(.d (.both pv (.sl 1 (List.map d_u8 cb1))))) eZ bZ rfl rfl (oLenB eZ (n:=cb1.length) lm (oLss rfl eZ (xQ ?_)))))))))))
 rcases oite H with⟨h3,H⟩|⟨h3,H⟩
 ·refine AW.condT eZ (dT h3) (aS (AW.regd (oMov rfl (oMov rfl (oNilchk eZ (oFaddrN (m:=0) eZ rfl (oLoadV (q:=0) (c:=(.d (.both pv (.sl 1 (List.map d_u8 cb1))))) eZ bZ rfl rfl (oMov rfl (oNilchk eZ (oFaddrN (m:=1) eZ rfl (oLoadV (q:=1) (c:=(dI a2.1)) eZ bZ rfl rfl ?_)))))))))))
  obtain⟨v4,h5,H⟩:=obind H
  refine oAtB rfl eZ h5 (oLoadB (e:=(.int .u8 v4)) eZ rfl (oConv eZ (oAdd rfl eZ (oAnd eZ eC (oMov eZ (xQ (AW.weaken (wk_mkG [] (kr 3 rfl rfl (kr 0 rfl rfl SL.nil)) (blR rfl) (BK.cons (n:=0) rfl bZ rfl rfl BK.nil) (GK.cons rfl (GK.cons rfl GK.nil))) (aR (oMov rfl (oMov rfl (oNilchk eZ (oFaddrN (m:=1) eZ rfl (oLoadV (q:=1) (c:=(dI a2.1)) eZ bZ rfl rfl (oAdd eZ eC (oNilchk rfl (oFaddrN (m:=1) eZ rfl (oStoreV (es:=[(.d (.both pv (.sl 1 (List.map d_u8 cb1)))),(dI (IntKind.wrap .i64 (a2.1+1))),(dI (IntKind.wrap .i64 ((IntKind.wrap .i64 (a2.2 * 6364136223846793005))+1442695040888963407)))]) eZ rfl rfl rfl bZ rfl (xQ (aV (oMov rfl (oMov eZ (xQ (AW.weaken (wk_cellP (by exact rfl) bZ) (AW.ret ?_))))))))))))))))))))))))
  cases H
  exact endsRM (RL.cons (RV.tmp eZ) (VO.flat rfl) RL.nil) (ML.mut (eS rfl eZ) (VO.ptr (es:=[(.pin pv),(.int .i64 (IntKind.wrap .i64 (a2.1+1))),(.int .i64 (IntKind.wrap .i64 ((IntKind.wrap .i64 (a2.2 * 6364136223846793005))+1442695040888963407)))]) bZ rfl rfl rfl) ML.nil) (by decide)
 ·refine AW.condF eZ (dF h3) (AW.skip (TQ.qn (aV (oMov rfl (oMov eZ (xQ (AW.weaken (wk_cellP (by exact rfl) bZ) (AW.ret ?_))))))))
  cases H
  exact endsRM (RL.cons (RV.tmp eZ) (VO.flat rfl) RL.nil) (ML.mut (eS rfl eZ) (VO.ptr (es:=[(.pin pv),(.int .i64 a2.1),(.int .i64 (IntKind.wrap .i64 ((IntKind.wrap .i64 (a2.2 * 6364136223846793005))+1442695040888963407)))]) bZ rfl rfl rfl) ML.nil) (by decide)
theorem c_spec_l1Below{pv:Value}{cb1:(List Int)}{a2:(Int×Int)}{a3:Int}{r:(Int×(Int×Int))}(H:m_spec_l1Below cb1 a2 a3=some r):FnC Try.prog pv (.sl 1 (List.map d_u8 cb1)) 110 [⟨(.ptr [(.pin pv),(.int .i64 a2.1),(.int .i64 a2.2)]),.m (.ptr [(.pin pv),(.int .i64 r.2.1),(.int .i64 r.2.2)])⟩,⟨(.int .i64 a3),.b⟩] [(.int .i64 r.1)]:=by
 refine n110 (fle rfl) (fle rfl) (fC nZ rfl fN) rfl ?_
 rw[initC_mk]
 refine AW.weaken (t:=mk [(0,(.one (.ptr (.nm 0 0 0)))),(1,(oI a3))] [(0,(.vars 3 [(.d (.pin pv)),(dI a2.1),(dI a2.2)]))] (lk [(63,(.one (.d (.both pv (.sl 1 (List.map d_u8 cb1)))))),(0,(.one (.ptr (.nm 0 0 0))))])) (wk_mkG (gl:=[(63,(.one (.d (.both pv (.sl 1 (List.map d_u8 cb1)))))),(0,(.one (.ptr (.nm 0 0 0))))]) [] (kv 0 (.one (.ptr (.nm 0 0 0))) rfl rfl (kv 1 (oI a3) rfl rfl SL.nil)) (blR rfl) (BK.cons (n:=0) rfl bZ rfl rfl BK.nil) (GK.cons rfl (GK.cons rfl GK.nil))) ?_
 unfold m_spec_l1Below at H
 unfold i110
 refine aV (oMov eC (xQ (aS (aV (oMov rfl (oLeq eZ eC (xQ ?_)))))))
 rcases oite H with⟨h4,H⟩|⟨h4,H⟩
 ·refine AW.condT eZ (dT h4) (aV (oMov eC (xQ (AW.ret (TQ.qr ?_)))))
  cases H
  exact endsRM (RL.cons (RV.tmp eZ) (VO.flat rfl) RL.nil) (ML.mut (eS rfl eZ) (VO.ptr (es:=[(.pin pv),(.int .i64 a2.1),(.int .i64 a2.2)]) bZ rfl rfl rfl) (ML.lent ML.nil)) (by decide)
 ·refine AW.condF eZ (dF h4) (AW.skip (TQ.qn (aS (aV (oMov rfl (oLeq eZ eC (xQ ?_)))))))
  rcases oite H with⟨h5,H⟩|⟨h5,H⟩
  ·refine AW.condT eZ (dT h5) (aS (AW.regm (rmOne (oMov rfl (xNil ?_)))))
   obtain⟨v6,h7,H⟩:=obind H
   refine rmCallIC (v0:=pv) (hg:=by exact rfl) (ON:=[0]) (ls:=[]) (G:=[]) (E:=[subKey 0]) (MB:=[(0,(.vars 3 [(.d (.pin pv)),(dI v6.2.1),(dI v6.2.2)]))]) (u:=(oI v6.1)) eC Cl.fn (c_spec_l1Byte h7) (Ec eZ En) (AO.mut (VO.ptr (es:=[(.pin pv),(.int .i64 a2.1),(.int .i64 a2.2)]) bZ rfl rfl rfl) AO.nil) rfl rfl rfl (SZ.consP bZ rfl SZ.nil) (erL.cons (v':=(.one (.ptr (.nm 0 0 0)))) rfl (erL.cons (v':=(oB (decide (a3≤256)))) rfl (erL.cons (v':=(oI a3)) rfl (erL.cons (v':=(oB (decide (a3≤0)))) rfl (erL.cons (v':=(oI a3)) rfl (erL.cons (v':=(oI 0)) rfl (erL.cons (v':=(.one (.ptr (.nm 0 0 0)))) rfl (erL.cons (v':=(oI a3)) rfl erL.nil)))))))) (erH.cons (v':=(.vars 3 [(.d (.pin pv)),(dI a2.1),(dI a2.2)])) rfl rfl erH.nil) (erL.cons (v':=(.one (.d (.both pv (.sl 1 (List.map d_u8 cb1)))))) rfl (erL.cons (v':=(.one (.ptr (.nm 0 0 0)))) rfl erL.nil)) rfl rfl (rmRest (oMov rfl ?_))
   obtain⟨h8,H⟩:=oguard H
   refine oRem rfl eZ h8 (oMov eZ (xQ (AW.ret (TQ.qr ?_))))
   cases H
   exact endsRM (RL.cons (RV.tmp eZ) (VO.flat rfl) RL.nil) (ML.mut (eS rfl eZ) (VO.ptr (es:=[(.pin pv),(.int .i64 v6.2.1),(.int .i64 v6.2.2)]) bZ rfl rfl rfl) (ML.lent ML.nil)) (by decide)
  ·refine AW.condF eZ (dF h5) (AW.skip (TQ.qn (aS (AW.regm (rmOne (oMov rfl (xNil ?_)))))))
   obtain⟨v9,h10,H⟩:=obind H
   refine rmCallIC (v0:=pv) (hg:=by exact rfl) (ON:=[0]) (ls:=[]) (G:=[]) (E:=[subKey 0]) (MB:=[(0,(.vars 3 [(.d (.pin pv)),(dI v9.2.1),(dI v9.2.2)]))]) (u:=(oI v9.1)) eC Cl.fn (c_spec_l1Byte h10) (Ec eZ En) (AO.mut (VO.ptr (es:=[(.pin pv),(.int .i64 a2.1),(.int .i64 a2.2)]) bZ rfl rfl rfl) AO.nil) rfl rfl rfl (SZ.consP bZ rfl SZ.nil) (erL.cons (v':=(.one (.ptr (.nm 0 0 0)))) rfl (erL.cons (v':=(oB (decide (a3≤256)))) rfl (erL.cons (v':=(oI a3)) rfl (erL.cons (v':=(oB (decide (a3≤0)))) rfl (erL.cons (v':=(oI a3)) rfl (erL.cons (v':=(oI 0)) rfl (erL.cons (v':=(.one (.ptr (.nm 0 0 0)))) rfl (erL.cons (v':=(oI a3)) rfl erL.nil)))))))) (erH.cons (v':=(.vars 3 [(.d (.pin pv)),(dI a2.1),(dI a2.2)])) rfl rfl erH.nil) (erL.cons (v':=(.one (.d (.both pv (.sl 1 (List.map d_u8 cb1)))))) rfl (erL.cons (v':=(.one (.ptr (.nm 0 0 0)))) rfl erL.nil)) rfl rfl (rmRest (oMov eZ (xQ (aS (AW.regm (rmOne (oMov rfl (xNil ?_))))))))
   obtain⟨v11,h12,H⟩:=obind H
   refine rmCallIC (v0:=pv) (hg:=by exact rfl) (ON:=[0]) (ls:=[]) (G:=[]) (E:=[subKey 0]) (MB:=[(0,(.vars 3 [(.d (.pin pv)),(dI v11.2.1),(dI v11.2.2)]))]) (u:=(oI v11.1)) eC Cl.fn (c_spec_l1Byte h12) (Ec eZ En) (AO.mut (VO.ptr (es:=[(.pin pv),(.int .i64 v9.2.1),(.int .i64 v9.2.2)]) bZ rfl rfl rfl) AO.nil) rfl rfl rfl (SZ.consP bZ rfl SZ.nil) (erL.cons (v':=(.one (.ptr (.nm 0 0 0)))) rfl (erL.cons (v':=(oI v9.1)) rfl (erL.cons (v':=(oI v9.1)) rfl (erL.cons (v':=(.one (.ptr (.nm 0 0 0)))) rfl (erL.cons (v':=(oB (decide (a3≤256)))) rfl (erL.cons (v':=(oI a3)) rfl (erL.cons (v':=(oB (decide (a3≤0)))) rfl (erL.cons (v':=(oI a3)) rfl (erL.cons (v':=(oI 0)) rfl (erL.cons (v':=(.one (.ptr (.nm 0 0 0)))) rfl (erL.cons (v':=(oI a3)) rfl erL.nil))))))))))) (erH.cons (v':=(.vars 3 [(.d (.pin pv)),(dI v9.2.1),(dI v9.2.2)])) rfl rfl (erH.cons (v':=(.vars 3 [(.d (.pin pv)),(dI a2.1),(dI a2.2)])) rfl rfl erH.nil)) (erL.cons (v':=(.one (.d (.both pv (.sl 1 (List.map d_u8 cb1)))))) rfl (erL.cons (v':=(.one (.ptr (.nm 0 0 0)))) rfl erL.nil)) rfl rfl (rmRest (oMov eZ (xQ (aS (AW.regm (rmOne (oMov rfl (xNil ?_))))))))
   obtain⟨v13,h14,H⟩:=obind H
   refine rmCallIC (v0:=pv) (hg:=by exact rfl) (ON:=[0]) (ls:=[]) (G:=[]) (E:=[subKey 0]) (MB:=[(0,(.vars 3 [(.d (.pin pv)),(dI v13.2.1),(dI v13.2.2)]))]) (u:=(oI v13.1)) eC Cl.fn (c_spec_l1Byte h14) (Ec eZ En) (AO.mut (VO.ptr (es:=[(.pin pv),(.int .i64 v11.2.1),(.int .i64 v11.2.2)]) bZ rfl rfl rfl) AO.nil) rfl rfl rfl (SZ.consP bZ rfl SZ.nil) (erL.cons (v':=(.one (.ptr (.nm 0 0 0)))) rfl (erL.cons (v':=(oI v11.1)) rfl (erL.cons (v':=(oI v11.1)) rfl (erL.cons (v':=(.one (.ptr (.nm 0 0 0)))) rfl (erL.cons (v':=(oI v9.1)) rfl (erL.cons (v':=(oI v9.1)) rfl (erL.cons (v':=(.one (.ptr (.nm 0 0 0)))) rfl (erL.cons (v':=(oB (decide (a3≤256)))) rfl (erL.cons (v':=(oI a3)) rfl (erL.cons (v':=(oB (decide (a3≤0)))) rfl (erL.cons (v':=(oI a3)) rfl (erL.cons (v':=(oI 0)) rfl (erL.cons (v':=(.one (.ptr (.nm 0 0 0)))) rfl (erL.cons (v':=(oI a3)) rfl erL.nil)))))))))))))) (erH.cons (v':=(.vars 3 [(.d (.pin pv)),(dI v11.2.1),(dI v11.2.2)])) rfl rfl (erH.cons (v':=(.vars 3 [(.d (.pin pv)),(dI v9.2.1),(dI v9.2.2)])) rfl rfl (erH.cons (v':=(.vars 3 [(.d (.pin pv)),(dI a2.1),(dI a2.2)])) rfl rfl erH.nil))) (erL.cons (v':=(.one (.d (.both pv (.sl 1 (List.map d_u8 cb1)))))) rfl (erL.cons (v':=(.one (.ptr (.nm 0 0 0)))) rfl erL.nil)) rfl rfl (rmRest (oMov eZ (xQ (AW.weaken (wk_mkG [] (kr 7 rfl rfl (kr 6 rfl rfl (kr 5 rfl rfl (kr 0 rfl rfl (kr 1 rfl rfl SL.nil))))) (blR rfl) (BK.cons (n:=0) rfl bZ rfl rfl BK.nil) (GK.cons rfl (GK.cons rfl GK.nil))) (aS (AW.regm (rmOne (oMov rfl (xNil ?_)))))))))
   obtain⟨v15,h16,H⟩:=obind H
   refine rmCallIC (v0:=pv) (hg:=by exact rfl) (ON:=[0]) (ls:=[]) (G:=[]) (E:=[subKey 0]) (MB:=[(0,(.vars 3 [(.d (.pin pv)),(dI v15.2.1),(dI v15.2.2)]))]) (u:=(oI v15.1)) eC Cl.fn (c_spec_l1Byte h16) (Ec eZ En) (AO.mut (VO.ptr (es:=[(.pin pv),(.int .i64 v13.2.1),(.int .i64 v13.2.2)]) bZ rfl rfl rfl) AO.nil) rfl rfl rfl (SZ.consP bZ rfl SZ.nil) (erL.cons (v':=(.one (.ptr (.nm 0 0 0)))) rfl (erL.cons (v':=(oI v13.1)) rfl (erL.cons (v':=(oI v11.1)) rfl (erL.cons (v':=(oI v9.1)) rfl (erL.cons (v':=(.one (.ptr (.nm 0 0 0)))) rfl (erL.cons (v':=(oI a3)) rfl erL.nil)))))) (erH.cons (v':=(.vars 3 [(.d (.pin pv)),(dI v13.2.1),(dI v13.2.2)])) rfl rfl erH.nil) (erL.cons (v':=(.one (.d (.both pv (.sl 1 (List.map d_u8 cb1)))))) rfl (erL.cons (v':=(.one (.ptr (.nm 0 0 0)))) rfl erL.nil)) rfl rfl (rmRest (oMov eZ (xQ (aV (oMov rfl (oMul eZ eC (oMov rfl (oMul eZ eC (oAdd rfl eZ (oMov rfl (oMul eZ eC (oAdd rfl eZ (oMov rfl (oAdd rfl eZ (oMov rfl ?_)))))))))))))))
   obtain⟨h17,H⟩:=oguard H
   refine oRem rfl eZ h17 (oMov eZ (xQ (AW.weaken (wk_mkG [] (kr 4 rfl rfl SL.nil) (blR rfl) (BK.cons (n:=0) rfl bZ rfl rfl BK.nil) (GK.cons rfl (GK.cons rfl GK.nil))) (AW.ret ?_))))
   cases H
   exact endsRM (RL.cons (RV.tmp eZ) (VO.flat rfl) RL.nil) (ML.mut (eS rfl eZ) (VO.ptr (es:=[(.pin pv),(.int .i64 v15.2.1),(.int .i64 v15.2.2)]) bZ rfl rfl rfl) (ML.lent ML.nil)) (by decide)
theorem c_spec_l1Once{pv:Value}{cb1:(List Int)}{a2:(Int×Int)}{a3:Int}{r:(Bool×(Int×Int))}(H:m_spec_l1Once cb1 a2 a3=some r):FnC Try.prog pv (.sl 1 (List.map d_u8 cb1)) 111 [⟨(.ptr [(.pin pv),(.int .i64 a2.1),(.int .i64 a2.2)]),.m (.ptr [(.pin pv),(.int .i64 r.2.1),(.int .i64 r.2.2)])⟩,⟨(.int .i64 a3),.b⟩] [(.bool r.1)]:=by
 refine n111 (fle rfl) (fle rfl) (fC nZ rfl fN) rfl ?_
 rw[initC_mk]
 refine AW.weaken (t:=mk [(0,(.one (.ptr (.nm 0 0 0)))),(1,(oI a3))] [(0,(.vars 3 [(.d (.pin pv)),(dI a2.1),(dI a2.2)]))] (lk [(63,(.one (.d (.both pv (.sl 1 (List.map d_u8 cb1)))))),(0,(.one (.ptr (.nm 0 0 0))))])) (wk_mkG (gl:=[(63,(.one (.d (.both pv (.sl 1 (List.map d_u8 cb1)))))),(0,(.one (.ptr (.nm 0 0 0))))]) [] (kv 0 (.one (.ptr (.nm 0 0 0))) rfl rfl (kv 1 (oI a3) rfl rfl SL.nil)) (blR rfl) (BK.cons (n:=0) rfl bZ rfl rfl BK.nil) (GK.cons rfl (GK.cons rfl GK.nil))) ?_
 unfold m_spec_l1Once at H
 unfold i111
 refine aV (oMov eC (xQ (aS (AW.regm (rmOne (oMov rfl (xNil (rmOne (oMov rfl (xNil ?_))))))))))
 obtain⟨v4,h5,H⟩:=obind H
 refine rmCallIC (v0:=pv) (hg:=by exact rfl) (ON:=[0]) (ls:=[]) (G:=[]) (E:=[subKey 0]) (MB:=[(0,(.vars 3 [(.d (.pin pv)),(dI v4.2.1),(dI v4.2.2)]))]) (u:=(oI v4.1)) eC Cl.fn (c_spec_l1Below h5) (Ec rfl (Ec eZ En)) (AO.mut (VO.ptr (es:=[(.pin pv),(.int .i64 a2.1),(.int .i64 a2.2)]) bZ rfl rfl rfl) (AO.lent Vp rfl AO.nil)) rfl rfl rfl (SZ.consP bZ rfl SZ.nil) (erL.cons (v':=(oI a3)) rfl (erL.cons (v':=(.one (.ptr (.nm 0 0 0)))) rfl (erL.cons (v':=(oB false)) rfl (erL.cons (v':=(.one (.ptr (.nm 0 0 0)))) rfl (erL.cons (v':=(oI a3)) rfl erL.nil))))) (erH.cons (v':=(.vars 3 [(.d (.pin pv)),(dI a2.1),(dI a2.2)])) rfl rfl erH.nil) (erL.cons (v':=(.one (.d (.both pv (.sl 1 (List.map d_u8 cb1)))))) rfl (erL.cons (v':=(.one (.ptr (.nm 0 0 0)))) rfl erL.nil)) rfl rfl (rmRest (oEql eZ eC (oMov eZ (xQ (AW.ret ?_)))))
 cases H
 exact endsRM (RL.cons (RV.tmp eZ) (VO.flat rfl) RL.nil) (ML.mut (eS rfl eZ) (VO.ptr (es:=[(.pin pv),(.int .i64 v4.2.1),(.int .i64 v4.2.2)]) bZ rfl rfl rfl) (ML.lent ML.nil)) (by decide)
theorem c_spec_l11DrawStore{pv:Value}{cb1:(List Int)}{a2:(Int×Int)}{a3:Int}{r:((List TCell)×(Int×Int))}(H:m_spec_l11DrawStore cb1 a2 a3=some r):FnC Try.prog pv (.sl 1 (List.map d_u8 cb1)) 157 [⟨(.ptr [(.pin pv),(.int .i64 a2.1),(.int .i64 a2.2)]),.m (.ptr [(.pin pv),(.int .i64 r.2.1),(.int .i64 r.2.2)])⟩,⟨(.int .i64 a3),.b⟩] [(.sl 2 (List.map d_TCell r.1))]:=by
 refine n157 (fle rfl) (fle rfl) (fC nZ rfl fN) rfl ?_
 rw[initC_mk]
 refine AW.weaken (t:=mk [(0,(.one (.ptr (.nm 0 0 0)))),(1,(oI a3))] [(0,(.vars 3 [(.d (.pin pv)),(dI a2.1),(dI a2.2)]))] (lk [(63,(.one (.d (.both pv (.sl 1 (List.map d_u8 cb1)))))),(0,(.one (.ptr (.nm 0 0 0))))])) (wk_mkG (gl:=[(63,(.one (.d (.both pv (.sl 1 (List.map d_u8 cb1)))))),(0,(.one (.ptr (.nm 0 0 0))))]) [] (kv 0 (.one (.ptr (.nm 0 0 0))) rfl rfl (kv 1 (oI a3) rfl rfl SL.nil)) (blR rfl) (BK.cons (n:=0) rfl bZ rfl rfl BK.nil) (GK.cons rfl (GK.cons rfl GK.nil))) ?_
 unfold m_spec_l11DrawStore at H
 unfold i157
 refine aV (oMov eC (xQ (aV (oBsliceZ (m:=576) rfl (nR rfl) (oMov eZ (xQ (aS (AW.regm (rmOne (oMov rfl (xNil (rmOne (oMov rfl (xNil (rmOne (oAdd eZ eC (xNil ?_)))))))))))))))))
 obtain⟨v4,h5,H⟩:=obind H
 refine rmCallIC (v0:=pv) (hg:=by exact rfl) (ON:=[0]) (ls:=[]) (G:=[]) (E:=[subKey 0]) (MB:=[(0,(.vars 3 [(.d (.pin pv)),(dI v4.2.1),(dI v4.2.2)]))]) (u:=(oI v4.1)) eC Cl.fn (c_spec_l1Below h5) (Ec rfl (Ec eZ En)) (AO.mut (VO.ptr (es:=[(.pin pv),(.int .i64 a2.1),(.int .i64 a2.2)]) bZ rfl rfl rfl) (AO.lent Vp rfl AO.nil)) rfl rfl rfl (SZ.consP bZ rfl SZ.nil) (erL.cons (v':=(oI (IntKind.wrap .i64 (a3+1)))) rfl (erL.cons (v':=(oI a3)) rfl (erL.cons (v':=(.one (.ptr (.nm 0 0 0)))) rfl (erL.cons (v':=(.one .zs)) rfl (erL.cons (v':=(.one .zs)) rfl (erL.cons (v':=(.one .zs)) rfl (erL.cons (v':=(.one (.ptr (.nm 0 0 0)))) rfl (erL.cons (v':=(oI a3)) rfl erL.nil)))))))) (erH.cons (v':=(.vars 3 [(.d (.pin pv)),(dI a2.1),(dI a2.2)])) rfl rfl erH.nil) (erL.cons (v':=(.one (.d (.both pv (.sl 1 (List.map d_u8 cb1)))))) rfl (erL.cons (v':=(.one (.ptr (.nm 0 0 0)))) rfl erL.nil)) rfl rfl (rmRest (oMov eZ (xQ (AW.seqJ (fun t6:(Int×Int×Int)=>(spec_l11DrawStore_j6 cb1) t6=some r) (fun t6=>mk [(0,(.one (.ptr (.nm 0 0 0)))),(5,(.one .zs)),(6,(oI t6.1))] [(0,(.vars 3 [(.d (.pin pv)),(dI t6.2.1),(dI t6.2.2)]))] (lk [(63,(.one (.d (.both pv (.sl 1 (List.map d_u8 cb1)))))),(0,(.one (.ptr (.nm 0 0 0))))])) ?_ ?_))))
 ·intro t6 H
  unfold spec_l11DrawStore_j6 at H
  refine aS (AW.regm (rmOne (oMov eZ (xNil ?_))))
  obtain⟨v8,h9,H⟩:=obind H
  refine rmCallIC (v0:=pv) (hg:=by exact rfl) (ON:=[0]) (ls:=[]) (G:=[]) (E:=[subKey 0]) (MB:=[(0,(.vars 3 [(.d (.pin pv)),(dI v8.2.1),(dI v8.2.2)]))]) (u:=(oI v8.1)) eC Cl.fn (c_spec_l1Below h9) (Ec eZ (Ec eC En)) (AO.mut (VO.ptr (es:=[(.pin pv),(.int .i64 t6.2.1),(.int .i64 t6.2.2)]) bZ rfl rfl rfl) (AO.lent Vp rfl AO.nil)) rfl rfl rfl (SZ.consP bZ rfl SZ.nil) (erL.cons (v':=(.one (.ptr (.nm 0 0 0)))) rfl (erL.cons (v':=(.one (.ptr (.nm 0 0 0)))) rfl (erL.cons (v':=(.one .zs)) rfl (erL.cons (v':=(oI t6.1)) rfl erL.nil)))) (erH.cons (v':=(.vars 3 [(.d (.pin pv)),(dI t6.2.1),(dI t6.2.2)])) rfl rfl erH.nil) (erL.cons (v':=(.one (.d (.both pv (.sl 1 (List.map d_u8 cb1)))))) rfl (erL.cons (v':=(.one (.ptr (.nm 0 0 0)))) rfl erL.nil)) rfl rfl (rmRest (oMov eZ (xQ (AW.seqJ (fun t10:((List TCell)×Int×Int)=>spec_l11DrawStore_j10 t10=some r) (fun t10=>mk [(5,(.one (.sl 320128 0 t10.1.length)))] [(320128,(.data 2 (List.map d_TCell t10.1) true none)),(0,(.vars 3 [(.d (.pin pv)),(dI t10.2.1),(dI t10.2.2)]))] (lk [(63,(.one (.d (.both pv (.sl 1 (List.map d_u8 cb1)))))),(0,(.one (.ptr (.nm 0 0 0))))])) ?_ ?_))))
  ·intro t10 H
   unfold spec_l11DrawStore_j10 at H
   refine aV (oMov eZ (oMov eZ (xQ (AW.ret ?_))))
   cases H
   exact endsRM (RL.cons (RV.tmp eZ) (VO.sl bZ lm (allFlat fun _=>rfl)) RL.nil) (ML.mut (eS rfl eZ) (VO.ptr (es:=[(.pin pv),(.int .i64 t10.2.1),(.int .i64 t10.2.2)]) (bR rfl) rfl rfl rfl) (ML.lent ML.nil)) (by decide)
  ·refine aV (oMov eC (xQ (AW.block (AW.iter (fun s12:((List TCell)×Int×Int×Int×Int)=>mk [(0,(.one (.ptr (.nm 0 0 0)))),(5,(.one (.sl 320192 0 s12.1.length))),(6,(oI t6.1)),(7,(oI s12.2.1)),(8,(oI s12.2.2.1))] [(320192,(.data 2 (List.map d_TCell s12.1) true none)),(0,(.vars 3 [(.d (.pin pv)),(dI s12.2.2.2.1),(dI s12.2.2.2.2)]))] (lk [(63,(.one (.d (.both pv (.sl 1 (List.map d_u8 cb1)))))),(0,(.one (.ptr (.nm 0 0 0))))])) H ((wk_mkG [] (kR rfl rfl (SL.cons eZ rfl (VWk.one (CWk.len (by first|(simp;done)|(simp;omega)|omega|(simp only[List.length_map];omega)))) (sR rfl rfl))) (blR rfl) (bkR rfl rfl rfl) (GK.cons rfl (GK.cons rfl GK.nil))).trans (wk_zs0 320192 2 5 true rfl (nR rfl))) ?_))))
   intro kb13 s12 H
   unfold spec_l11DrawStore_b12 at H
   refine aS (aV (oMov rfl (oMov rfl (oLss rfl eZ (xQ ?_)))))
   rcases oite H with⟨h14,H⟩|⟨h14,H⟩
   ·refine AW.condT eZ (dT h14) (AW.skip (TQ.qn (aS (AW.block (aS (AW.regm (rmOne (oMov rfl (xNil (rmOne (oMov rfl (xNil (rmOne (oMov rfl (xNil ?_)))))))))))))))
    obtain⟨v15,h16,H⟩:=obind H
    refine rmCallIC (v0:=pv) (hg:=by exact rfl) (ON:=[0]) (ls:=[]) (G:=[]) (E:=[subKey 0]) (MB:=[(0,(.vars 3 [(.d (.pin pv)),(dI v15.2.1),(dI v15.2.2)]))]) (u:=(oI v15.1)) eC Cl.fn (c_spec_l1Below h16) (Ec eZ (Ec eC En)) (AO.mut (VO.ptr (es:=[(.pin pv),(.int .i64 s12.2.2.2.1),(.int .i64 s12.2.2.2.2)]) (bR rfl) rfl rfl rfl) (AO.lent Vp rfl AO.nil)) rfl rfl rfl (SZ.consP (bR rfl) rfl SZ.nil) (erL.cons (v':=(.one (.ptr (.nm 0 0 0)))) rfl (erL.cons (v':=(oI s12.2.1)) rfl (erL.cons (v':=(.one (.sl 320192 0 s12.1.length))) rfl (erL.cons (v':=(oB (decide (s12.2.2.1 < t6.1)))) rfl (erL.cons (v':=(oI t6.1)) rfl (erL.cons (v':=(oI s12.2.2.1)) rfl (erL.cons (v':=(.one (.ptr (.nm 0 0 0)))) rfl (erL.cons (v':=(.one (.sl 320192 0 s12.1.length))) rfl (erL.cons (v':=(oI t6.1)) rfl (erL.cons (v':=(oI s12.2.1)) rfl (erL.cons (v':=(oI s12.2.2.1)) rfl erL.nil))))))))))) (erH.cons (v':=(.data 2 (List.map d_TCell s12.1) true none)) rfl rfl (erH.cons (v':=(.vars 3 [(.d (.pin pv)),(dI s12.2.2.2.1),(dI s12.2.2.2.2)])) rfl rfl erH.nil)) (erL.cons (v':=(.one (.d (.both pv (.sl 1 (List.map d_u8 cb1)))))) rfl (erL.cons (v':=(.one (.ptr (.nm 0 0 0)))) rfl erL.nil)) rfl rfl (rmRest (oBuild (cs:=[(dI s12.2.1),(dI v15.1)]) (PsCons rfl (PsCons eZ PsNil)) rfl (oBslice (m:=1792) (q:=1) (cs:=[(dI s12.2.1),(dI v15.1)]) rfl (PsCons eZ PsNil) rfl (List.cons_ne_nil _ _) (by simp) (nR rfl) ?_)))
    obtain⟨h17,H⟩:=oguard H
    refine oAppNG (f:=d_TCell) (xs:=s12.1) (ys:=[(TCell.mk s12.2.1 v15.1)]) (q:=(s12.1++([(TCell.mk s12.2.1 v15.1)])).length) rfl eZ (bR rfl) rfl (El.one (f:=d_TCell) (t:=(TCell.mk s12.2.1 v15.1)) (es:=[(.int .i64 s12.2.1),(.int .i64 v15.1)]) bZ rfl rfl rfl) rfl h17 (by decide) (by decide) (erL.cons (v':=(.one (.sl 1792 0 1))) rfl (erL.cons (v':=(.agg [(dI s12.2.1),(dI v15.1)])) rfl (erL.cons (v':=(oI v15.1)) rfl (erL.cons (v':=(.one (.ptr (.nm 0 0 0)))) rfl (erL.cons (v':=(oI s12.2.1)) rfl (erL.cons (v':=(.one .any)) rfl (erL.cons (v':=(oB (decide (s12.2.2.1 < t6.1)))) rfl (erL.cons (v':=(oI t6.1)) rfl (erL.cons (v':=(oI s12.2.2.1)) rfl (erL.cons (v':=(.one (.ptr (.nm 0 0 0)))) rfl (erL.cons (v':=(.one .any)) rfl (erL.cons (v':=(oI t6.1)) rfl (erL.cons (v':=(oI s12.2.1)) rfl (erL.cons (v':=(oI s12.2.2.1)) rfl erL.nil)))))))))))))) (erH.cons (v':=(.vars 2 [(dI s12.2.1),(dI v15.1)])) rfl rfl (erH.cons (v':=(.vars 3 [(.d (.pin pv)),(dI v15.2.1),(dI v15.2.2)])) rfl rfl (erH.drop rfl (erH.cons (v':=(.vars 3 [(.d (.pin pv)),(dI s12.2.2.2.1),(dI s12.2.2.2.2)])) rfl rfl erH.nil)))) (GK.cons rfl (GK.cons rfl GK.nil)) (oMov eZ (xQ (AW.weaken (wk_mkG [1792] (kr 5 rfl rfl (kr 0 rfl rfl (kr 6 rfl rfl (kr 7 rfl rfl (kr 8 rfl rfl SL.nil))))) (blR rfl) (BK.cons (n:=320192) rfl bZ rfl rfl (BK.cons (n:=0) rfl (bR rfl) rfl rfl BK.nil)) (GK.cons rfl (GK.cons rfl GK.nil))) (AW.regm (rmOne (oMov rfl (xNil (rmOne (oAdd eZ eC (xNil (rmOne (oMov rfl (xNil ?_)))))))))))))
    obtain⟨v18,h19,H⟩:=obind H
    exact rmCallIC (v0:=pv) (hg:=by exact rfl) (ON:=[0]) (ls:=[]) (G:=[]) (E:=[subKey 0]) (MB:=[(0,(.vars 3 [(.d (.pin pv)),(dI v18.2.1),(dI v18.2.2)]))]) (u:=(oI v18.1)) eC Cl.fn (c_spec_l1Below h19) (Ec eZ (Ec eC En)) (AO.mut (VO.ptr (es:=[(.pin pv),(.int .i64 v15.2.1),(.int .i64 v15.2.2)]) (bR rfl) rfl rfl rfl) (AO.lent Vp rfl AO.nil)) rfl rfl rfl (SZ.consP (bR rfl) rfl SZ.nil) (erL.cons (v':=(.one (.ptr (.nm 0 0 0)))) rfl (erL.cons (v':=(oI (IntKind.wrap .i64 (s12.2.1+1)))) rfl (erL.cons (v':=(oI s12.2.1)) rfl (erL.cons (v':=(.one (.sl 320192 0 ((s12.1++([(TCell.mk s12.2.1 v15.1)])).length)))) rfl (erL.cons (v':=(.one (.ptr (.nm 0 0 0)))) rfl (erL.cons (v':=(oI t6.1)) rfl (erL.cons (v':=(oI s12.2.1)) rfl (erL.cons (v':=(oI s12.2.2.1)) rfl erL.nil)))))))) (erH.cons (v':=(.data 2 (List.map d_TCell (s12.1++([(TCell.mk s12.2.1 v15.1)]))) true none)) rfl rfl (erH.cons (v':=(.vars 3 [(.d (.pin pv)),(dI v15.2.1),(dI v15.2.2)])) rfl rfl erH.nil)) (erL.cons (v':=(.one (.d (.both pv (.sl 1 (List.map d_u8 cb1)))))) rfl (erL.cons (v':=(.one (.ptr (.nm 0 0 0)))) rfl erL.nil)) rfl rfl (rmRest (oAdd rfl eZ (oMov eZ (xNil (BQ.qn (TQ.qn (aR (oMov rfl (oAdd eZ eC (oMov eZ (xNil (TQ.qn ⟨((s12.1++([(TCell.mk s12.2.1 v15.1)])),(IntKind.wrap .i64 ((IntKind.wrap .i64 (s12.2.1+1))+v18.1)),(IntKind.wrap .i64 (s12.2.2.1+1)),v18.2.1,v18.2.2),H,(wk_mkG [] (sR rfl rfl) (blR rfl) (bkR rfl rfl rfl) (GK.cons rfl (GK.cons rfl GK.nil)))⟩))))))))))))
   ·exact AW.condF eZ (dF h14) (AW.exit (TQ.qe (TQ.qe (BQ.qe (TQ.qn ⟨(s12.1,s12.2.2.2.1,s12.2.2.2.2),H,((wk_mkG [] (sR rfl rfl) (blR rfl) (bkR rfl rfl rfl) (GK.cons rfl (GK.cons rfl GK.nil))).trans (wk_renG 320192 320128 rfl rfl (nR rfl) (GR.cons rfl (GR.cons rfl GR.nil))))⟩)))))
 ·refine aS (AW.regm (rmOne (oMov rfl (xNil ?_))))
  obtain⟨v20,h21,H⟩:=obind H
  refine rmCallIC (v0:=pv) (hg:=by exact rfl) (ON:=[0]) (ls:=[]) (G:=[]) (E:=[subKey 0]) (MB:=[(0,(.vars 3 [(.d (.pin pv)),(dI v20.2.1),(dI v20.2.2)]))]) (u:=(oB v20.1)) eC Cl.fn (c_spec_l1Once h21) (Ec eZ (Ec eC En)) (AO.mut (VO.ptr (es:=[(.pin pv),(.int .i64 v4.2.1),(.int .i64 v4.2.2)]) bZ rfl rfl rfl) (AO.lent Vp rfl AO.nil)) rfl rfl rfl (SZ.consP bZ rfl SZ.nil) (erL.cons (v':=(.one (.ptr (.nm 0 0 0)))) rfl (erL.cons (v':=(oI v4.1)) rfl (erL.cons (v':=(oI v4.1)) rfl (erL.cons (v':=(oI (IntKind.wrap .i64 (a3+1)))) rfl (erL.cons (v':=(oI a3)) rfl (erL.cons (v':=(.one (.ptr (.nm 0 0 0)))) rfl (erL.cons (v':=(.one .zs)) rfl (erL.cons (v':=(.one .zs)) rfl (erL.cons (v':=(.one .zs)) rfl (erL.cons (v':=(.one (.ptr (.nm 0 0 0)))) rfl (erL.cons (v':=(oI a3)) rfl erL.nil))))))))))) (erH.cons (v':=(.vars 3 [(.d (.pin pv)),(dI v4.2.1),(dI v4.2.2)])) rfl rfl (erH.cons (v':=(.vars 3 [(.d (.pin pv)),(dI a2.1),(dI a2.2)])) rfl rfl erH.nil)) (erL.cons (v':=(.one (.d (.both pv (.sl 1 (List.map d_u8 cb1)))))) rfl (erL.cons (v':=(.one (.ptr (.nm 0 0 0)))) rfl erL.nil)) rfl rfl (rmRest (xQ ?_))
  rcases oite H with⟨h22,H⟩|⟨h22,H⟩
  ·exact AW.condT eZ h22 (aR (oMov eC (xNil (TQ.qn ⟨(60,v20.2.1,v20.2.2),H,(wk_mkG [] (sR rfl rfl) (blR rfl) (bkR rfl rfl rfl) (GK.cons rfl (GK.cons rfl GK.nil)))⟩))))
  ·exact AW.condF eZ (nt h22) (AW.skip (TQ.qn ⟨(v4.1,v20.2.1,v20.2.2),H,(wk_mkG [] (sR rfl rfl) (blR rfl) (bkR rfl rfl rfl) (GK.cons rfl (GK.cons rfl GK.nil)))⟩))
theorem c_spec_l1PickInt{pv:Value}{cb1:(List Int)}{a2:(Int×Int)}{a3:(List Int)}{r:(Int×(Int×Int))}(H:m_spec_l1PickInt cb1 a2 a3=some r):FnC Try.prog pv (.sl 1 (List.map d_u8 cb1)) 112 [⟨(.ptr [(.pin pv),(.int .i64 a2.1),(.int .i64 a2.2)]),.m (.ptr [(.pin pv),(.int .i64 r.2.1),(.int .i64 r.2.2)])⟩,⟨(.sl 1 (List.map d_i64 a3)),.b⟩] [(.int .i64 r.1)]:=by
 refine n112 (fle rfl) (fle rfl) (fC nZ rfl fN) rfl ?_
 rw[initC_mk]
 refine AW.weaken (t:=mk [(0,(.one (.ptr (.nm 0 0 0)))),(1,(.one (.d (.sl 1 (List.map d_i64 a3)))))] [(0,(.vars 3 [(.d (.pin pv)),(dI a2.1),(dI a2.2)]))] (lk [(63,(.one (.d (.both pv (.sl 1 (List.map d_u8 cb1)))))),(0,(.one (.ptr (.nm 0 0 0))))])) (wk_mkG (gl:=[(63,(.one (.d (.both pv (.sl 1 (List.map d_u8 cb1)))))),(0,(.one (.ptr (.nm 0 0 0))))]) [] (kv 0 (.one (.ptr (.nm 0 0 0))) rfl rfl (kv 1 (.one (.d (.sl 1 (List.map d_i64 a3)))) rfl rfl SL.nil)) (blR rfl) (BK.cons (n:=0) rfl bZ rfl rfl BK.nil) (GK.cons rfl (GK.cons rfl GK.nil))) ?_
 unfold m_spec_l1PickInt at H
 unfold i112
 refine aV (oMov eC (xQ (aS (AW.regm (rmOne (oMov rfl (xNil (rmOne (oMov rfl (xNil (rmOne (oMov rfl (xNil (rmOne (oLenD eZ (n:=a3.length) lm (xNil ?_))))))))))))))))
 obtain⟨v4,h5,H⟩:=obind H
 refine rmCallIC (v0:=pv) (hg:=by exact rfl) (ON:=[0]) (ls:=[]) (G:=[]) (E:=[subKey 0]) (MB:=[(0,(.vars 3 [(.d (.pin pv)),(dI v4.2.1),(dI v4.2.2)]))]) (u:=(oI v4.1)) eC Cl.fn (c_spec_l1Below h5) (Ec rfl (Ec eZ En)) (AO.mut (VO.ptr (es:=[(.pin pv),(.int .i64 a2.1),(.int .i64 a2.2)]) bZ rfl rfl rfl) (AO.lent Vp rfl AO.nil)) rfl rfl rfl (SZ.consP bZ rfl SZ.nil) (erL.cons (v':=(oI (a3.length:Int))) rfl (erL.cons (v':=(.one (.d (.sl 1 (List.map d_i64 a3))))) rfl (erL.cons (v':=(.one (.ptr (.nm 0 0 0)))) rfl (erL.cons (v':=(.one (.d (.sl 1 (List.map d_i64 a3))))) rfl (erL.cons (v':=(oI 0)) rfl (erL.cons (v':=(.one (.ptr (.nm 0 0 0)))) rfl (erL.cons (v':=(.one (.d (.sl 1 (List.map d_i64 a3))))) rfl erL.nil))))))) (erH.cons (v':=(.vars 3 [(.d (.pin pv)),(dI a2.1),(dI a2.2)])) rfl rfl erH.nil) (erL.cons (v':=(.one (.d (.both pv (.sl 1 (List.map d_u8 cb1)))))) rfl (erL.cons (v':=(.one (.ptr (.nm 0 0 0)))) rfl erL.nil)) rfl rfl (rmRest ?_)
 obtain⟨v6,h7,H⟩:=obind H
 refine oAtD rfl eZ h7 (oLoadB (e:=(.int .i64 v6)) eZ rfl (oMov eZ (xQ (AW.ret ?_))))
 cases H
 exact endsRM (RL.cons (RV.tmp eZ) (VO.flat rfl) RL.nil) (ML.mut (eS rfl eZ) (VO.ptr (es:=[(.pin pv),(.int .i64 v4.2.1),(.int .i64 v4.2.2)]) bZ rfl rfl rfl) (ML.lent ML.nil)) (by decide)
theorem c_spec_l11DrawAny{pv:Value}{cb1:(List Int)}{a2:(Int×Int)}{a3:Int}{r:((List TCell)×(Int×Int))}(H:m_spec_l11DrawAny cb1 a2 a3=some r):FnC Try.prog pv (.sl 1 (List.map d_u8 cb1)) 127 [⟨(.ptr [(.pin pv),(.int .i64 a2.1),(.int .i64 a2.2)]),.m (.ptr [(.pin pv),(.int .i64 r.2.1),(.int .i64 r.2.2)])⟩,⟨(.int .i64 a3),.b⟩] [(.sl 2 (List.map d_TCell r.1))]:=by
 refine n127 (fle rfl) (fle rfl) (fC nZ rfl fN) rfl ?_
 rw[initC_mk]
 refine AW.weaken (t:=mk [(0,(.one (.ptr (.nm 0 0 0)))),(1,(oI a3))] [(0,(.vars 3 [(.d (.pin pv)),(dI a2.1),(dI a2.2)]))] (lk [(63,(.one (.d (.both pv (.sl 1 (List.map d_u8 cb1)))))),(0,(.one (.ptr (.nm 0 0 0))))])) (wk_mkG (gl:=[(63,(.one (.d (.both pv (.sl 1 (List.map d_u8 cb1)))))),(0,(.one (.ptr (.nm 0 0 0))))]) [] (kv 0 (.one (.ptr (.nm 0 0 0))) rfl rfl (kv 1 (oI a3) rfl rfl SL.nil)) (blR rfl) (BK.cons (n:=0) rfl bZ rfl rfl BK.nil) (GK.cons rfl (GK.cons rfl GK.nil))) ?_
 unfold m_spec_l11DrawAny at H
 unfold i127
 refine aV (oMov eC (xQ (aS (AW.regm (rmOne (oMov rfl (xNil (rmOne (oMov rfl (xNil ?_))))))))))
 obtain⟨v4,h5,H⟩:=obind H
 refine rmCallC (v0:=pv) (hg:=by exact rfl) (ON:=[0]) (ls:=[]) (G:=[]) (E:=[subKey 0]) (MB:=[(0,(.vars 3 [(.d (.pin pv)),(dI v4.2.1),(dI v4.2.2)]))]) (u:=(.one (.sl 512 0 v4.1.length))) (bs:=[(512,(.data 2 (List.map d_TCell v4.1) true none))]) eC Cl.fn (c_spec_l11DrawStore h5) (Ec rfl (Ec eZ En)) (AO.mut (VO.ptr (es:=[(.pin pv),(.int .i64 a2.1),(.int .i64 a2.2)]) bZ rfl rfl rfl) (AO.lent Vp rfl AO.nil)) rfl rfl rfl (SZ.consP bZ rfl SZ.nil) (erL.cons (v':=(oI a3)) rfl (erL.cons (v':=(.one (.ptr (.nm 0 0 0)))) rfl (erL.cons (v':=(.one .zs)) rfl (erL.cons (v':=(.one (.ptr (.nm 0 0 0)))) rfl (erL.cons (v':=(oI a3)) rfl erL.nil))))) (erH.cons (v':=(.vars 3 [(.d (.pin pv)),(dI a2.1),(dI a2.2)])) rfl rfl erH.nil) (erL.cons (v':=(.one (.d (.both pv (.sl 1 (List.map d_u8 cb1)))))) rfl (erL.cons (v':=(.one (.ptr (.nm 0 0 0)))) rfl erL.nil)) (by simp[bindR,bindV,bindVs,bindC,bindCs]) rfl (fC (nR rfl) rfl (fC (nR rfl) rfl fN)) (rmRest (oMov eZ (xQ (aS (aS (AW.regm (rmOne (oMov rfl (xNil ?_)))))))))
 obtain⟨v6,h7,H⟩:=obind H
 refine rmCallIC (v0:=pv) (hg:=by exact rfl) (ON:=[0]) (ls:=[]) (G:=[]) (E:=[subKey 0]) (MB:=[(0,(.vars 3 [(.d (.pin pv)),(dI v6.2.1),(dI v6.2.2)]))]) (u:=(oI v6.1)) eC Cl.fn (c_spec_l1Below h7) (Ec eZ (Ec eC En)) (AO.mut (VO.ptr (es:=[(.pin pv),(.int .i64 v4.2.1),(.int .i64 v4.2.2)]) (bR rfl) rfl rfl rfl) (AO.lent Vp rfl AO.nil)) rfl rfl rfl (SZ.consP (bR rfl) rfl SZ.nil) (erL.cons (v':=(.one (.ptr (.nm 0 0 0)))) rfl (erL.cons (v':=(.one (.sl 512 0 v4.1.length))) rfl (erL.cons (v':=(.one (.sl 512 0 v4.1.length))) rfl (erL.cons (v':=(oI a3)) rfl (erL.cons (v':=(.one (.ptr (.nm 0 0 0)))) rfl (erL.cons (v':=(.one .zs)) rfl (erL.cons (v':=(.one (.ptr (.nm 0 0 0)))) rfl (erL.cons (v':=(oI a3)) rfl erL.nil)))))))) (erH.cons (v':=(.data 2 (List.map d_TCell v4.1) true none)) rfl rfl (erH.cons (v':=(.vars 3 [(.d (.pin pv)),(dI v4.2.1),(dI v4.2.2)])) rfl rfl (erH.cons (v':=(.vars 3 [(.d (.pin pv)),(dI a2.1),(dI a2.2)])) rfl rfl erH.nil))) (erL.cons (v':=(.one (.d (.both pv (.sl 1 (List.map d_u8 cb1)))))) rfl (erL.cons (v':=(.one (.ptr (.nm 0 0 0)))) rfl erL.nil)) rfl rfl (rmRest (xQ (AW.block (aV (oEql eZ eC (oMov eZ (xQ ?_)))))))
 rcases oite H with⟨h8,H⟩|⟨h8,H⟩
 ·refine AW.condT eZ (dT h8) (AW.regm (rmOne (oMov rfl (xNil (rmOne (oMov rfl (xNil (rmOne (oBslice (m:=960) (q:=4) (cs:=[(dI (-1)),(dI 0),(dI 999),(dI 1000)]) rfl (PsCons eC (PsCons eC (PsCons eC (PsCons eC PsNil)))) rfl (List.cons_ne_nil _ _) (by simp) (nR rfl) (xNil ?_))))))))))
  obtain⟨v9,h10,H⟩:=obind H
  refine rmCallIC (v0:=pv) (hg:=by exact rfl) (ON:=[0]) (ls:=[960]) (G:=[]) (E:=[subKey 0]) (MB:=[(0,(.vars 3 [(.d (.pin pv)),(dI v9.2.1),(dI v9.2.2)]))]) (u:=(oI v9.1)) eC Cl.fn (c_spec_l1PickInt h10) (Ec rfl (Ec eZ En)) (AO.mut (VO.ptr (es:=[(.pin pv),(.int .i64 v6.2.1),(.int .i64 v6.2.2)]) (bR rfl) rfl rfl rfl) (AO.lent (VD.vars [(.int .i64 (-1)),(.int .i64 0),(.int .i64 999),(.int .i64 1000)] bZ rfl rfl) rfl AO.nil)) rfl rfl rfl (SZ.consP (bR rfl) rfl SZ.nil) (erL.cons (v':=(.one (.sl 960 0 4))) rfl (erL.cons (v':=(.one (.ptr (.nm 0 0 0)))) rfl (erL.cons (v':=(.one (.sl 512 0 v4.1.length))) rfl (erL.cons (v':=(oB (decide (v6.1=0)))) rfl (erL.cons (v':=(oB (decide (v6.1=0)))) rfl (erL.cons (v':=(oI v6.1)) rfl (erL.cons (v':=(.one (.ptr (.nm 0 0 0)))) rfl (erL.cons (v':=(.one (.sl 512 0 v4.1.length))) rfl (erL.cons (v':=(.one (.sl 512 0 v4.1.length))) rfl (erL.cons (v':=(oI a3)) rfl (erL.cons (v':=(.one (.ptr (.nm 0 0 0)))) rfl (erL.cons (v':=(.one .zs)) rfl (erL.cons (v':=(.one (.ptr (.nm 0 0 0)))) rfl (erL.cons (v':=(oI a3)) rfl erL.nil)))))))))))))) (erH.cons (v':=(.vars 1 [(dI (-1)),(dI 0),(dI 999),(dI 1000)])) rfl rfl (erH.cons (v':=(.vars 3 [(.d (.pin pv)),(dI v6.2.1),(dI v6.2.2)])) rfl rfl (erH.cons (v':=(.data 2 (List.map d_TCell v4.1) true none)) rfl rfl (erH.cons (v':=(.vars 3 [(.d (.pin pv)),(dI v4.2.1),(dI v4.2.2)])) rfl rfl (erH.cons (v':=(.vars 3 [(.d (.pin pv)),(dI a2.1),(dI a2.2)])) rfl rfl erH.nil))))) (erL.cons (v':=(.one (.d (.both pv (.sl 1 (List.map d_u8 cb1)))))) rfl (erL.cons (v':=(.one (.ptr (.nm 0 0 0)))) rfl erL.nil)) rfl rfl (rmRest (oBuild (cs:=[(dI v9.1),(dI 0)]) (PsCons eZ PsNil) rfl (oBslice (m:=1152) (q:=1) (cs:=[(dI v9.1),(dI 0)]) rfl (PsCons eZ PsNil) rfl (List.cons_ne_nil _ _) (by simp) (nR rfl) ?_)))
  obtain⟨h11,H⟩:=oguard H
  refine oAppNG (f:=d_TCell) (xs:=v4.1) (ys:=[(TCell.mk v9.1 0)]) (q:=(v4.1++([(TCell.mk v9.1 0)])).length) rfl eZ (bR rfl) rfl (El.one (f:=d_TCell) (t:=(TCell.mk v9.1 0)) (es:=[(.int .i64 v9.1),(.int .i64 0)]) bZ rfl rfl rfl) rfl h11 (by decide) (by decide) (erL.cons (v':=(.one (.sl 1152 0 1))) rfl (erL.cons (v':=(.agg [(dI v9.1),(dI 0)])) rfl (erL.cons (v':=(oI v9.1)) rfl (erL.cons (v':=(.one (.sl 960 0 4))) rfl (erL.cons (v':=(.one (.ptr (.nm 0 0 0)))) rfl (erL.cons (v':=(.one .any)) rfl (erL.cons (v':=(oB (decide (v6.1=0)))) rfl (erL.cons (v':=(oB (decide (v6.1=0)))) rfl (erL.cons (v':=(oI v6.1)) rfl (erL.cons (v':=(.one (.ptr (.nm 0 0 0)))) rfl (erL.cons (v':=(.one .any)) rfl (erL.cons (v':=(.one .any)) rfl (erL.cons (v':=(oI a3)) rfl (erL.cons (v':=(.one (.ptr (.nm 0 0 0)))) rfl (erL.cons (v':=(.one .zs)) rfl (erL.cons (v':=(.one (.ptr (.nm 0 0 0)))) rfl (erL.cons (v':=(oI a3)) rfl erL.nil))))))))))))))))) (erH.cons (v':=(.vars 2 [(dI v9.1),(dI 0)])) rfl rfl (erH.cons (v':=(.vars 3 [(.d (.pin pv)),(dI v9.2.1),(dI v9.2.2)])) rfl rfl (erH.cons (v':=(.vars 1 [(dI (-1)),(dI 0),(dI 999),(dI 1000)])) rfl rfl (erH.cons (v':=(.vars 3 [(.d (.pin pv)),(dI v6.2.1),(dI v6.2.2)])) rfl rfl (erH.drop rfl (erH.cons (v':=(.vars 3 [(.d (.pin pv)),(dI v4.2.1),(dI v4.2.2)])) rfl rfl (erH.cons (v':=(.vars 3 [(.d (.pin pv)),(dI a2.1),(dI a2.2)])) rfl rfl erH.nil))))))) (GK.cons rfl (GK.cons rfl GK.nil)) (oMov eZ (xNil (BQ.qn (TQ.qn (AW.weaken (wk_mkG [1152,960] (kr 5 rfl rfl SL.nil) (blR rfl) (BK.cons (n:=512) rfl bZ rfl rfl (BK.cons (n:=0) rfl (bR rfl) rfl rfl BK.nil)) (GK.cons rfl (GK.cons rfl GK.nil))) (aV (oMov eZ (oMov eZ (xQ (AW.ret ?_))))))))))
  cases H
  exact endsRM (RL.cons (RV.tmp eZ) (VO.sl bZ lm (allFlat fun _=>rfl)) RL.nil) (ML.mut (eS rfl eZ) (VO.ptr (es:=[(.pin pv),(.int .i64 v9.2.1),(.int .i64 v9.2.2)]) (bR rfl) rfl rfl rfl) (ML.lent ML.nil)) (by decide)
 ·refine AW.condF eZ (dF h8) (aV (oEql rfl eC (oMov eZ (xQ ?_))))
  rcases oite H with⟨h12,H⟩|⟨h12,H⟩
  ·refine AW.condT eZ (dT h12) (AW.regm (rmOne (oMov rfl (xNil (rmOne (oMov rfl (xNil (rmOne (oBslice (m:=1536) (q:=3) (cs:=[(dI (-1)),(dI 1000000000),(dI 1000000001)]) rfl (PsCons eC (PsCons eC (PsCons eC PsNil))) rfl (List.cons_ne_nil _ _) (by simp) (nR rfl) (xNil ?_))))))))))
   obtain⟨v13,h14,H⟩:=obind H
   refine rmCallIC (v0:=pv) (hg:=by exact rfl) (ON:=[0]) (ls:=[1536]) (G:=[]) (E:=[subKey 0]) (MB:=[(0,(.vars 3 [(.d (.pin pv)),(dI v13.2.1),(dI v13.2.2)]))]) (u:=(oI v13.1)) eC Cl.fn (c_spec_l1PickInt h14) (Ec rfl (Ec eZ En)) (AO.mut (VO.ptr (es:=[(.pin pv),(.int .i64 v6.2.1),(.int .i64 v6.2.2)]) (bR rfl) rfl rfl rfl) (AO.lent (VD.vars [(.int .i64 (-1)),(.int .i64 1000000000),(.int .i64 1000000001)] bZ rfl rfl) rfl AO.nil)) rfl rfl rfl (SZ.consP (bR rfl) rfl SZ.nil) (erL.cons (v':=(.one (.sl 1536 0 3))) rfl (erL.cons (v':=(.one (.ptr (.nm 0 0 0)))) rfl (erL.cons (v':=(.one (.sl 512 0 v4.1.length))) rfl (erL.cons (v':=(oB (decide (v6.1=1)))) rfl (erL.cons (v':=(oB (decide (v6.1=1)))) rfl (erL.cons (v':=(oB (decide (v6.1=0)))) rfl (erL.cons (v':=(oB (decide (v6.1=0)))) rfl (erL.cons (v':=(oI v6.1)) rfl (erL.cons (v':=(.one (.ptr (.nm 0 0 0)))) rfl (erL.cons (v':=(.one (.sl 512 0 v4.1.length))) rfl (erL.cons (v':=(.one (.sl 512 0 v4.1.length))) rfl (erL.cons (v':=(oI a3)) rfl (erL.cons (v':=(.one (.ptr (.nm 0 0 0)))) rfl (erL.cons (v':=(.one .zs)) rfl (erL.cons (v':=(.one (.ptr (.nm 0 0 0)))) rfl (erL.cons (v':=(oI a3)) rfl erL.nil)))))))))))))))) (erH.cons (v':=(.vars 1 [(dI (-1)),(dI 1000000000),(dI 1000000001)])) rfl rfl (erH.cons (v':=(.vars 3 [(.d (.pin pv)),(dI v6.2.1),(dI v6.2.2)])) rfl rfl (erH.cons (v':=(.data 2 (List.map d_TCell v4.1) true none)) rfl rfl (erH.cons (v':=(.vars 3 [(.d (.pin pv)),(dI v4.2.1),(dI v4.2.2)])) rfl rfl (erH.cons (v':=(.vars 3 [(.d (.pin pv)),(dI a2.1),(dI a2.2)])) rfl rfl erH.nil))))) (erL.cons (v':=(.one (.d (.both pv (.sl 1 (List.map d_u8 cb1)))))) rfl (erL.cons (v':=(.one (.ptr (.nm 0 0 0)))) rfl erL.nil)) rfl rfl (rmRest (oBuild (cs:=[(dI 900),(dI v13.1)]) (PsCons eC (PsCons eZ PsNil)) rfl (oBslice (m:=1728) (q:=1) (cs:=[(dI 900),(dI v13.1)]) rfl (PsCons eZ PsNil) rfl (List.cons_ne_nil _ _) (by simp) (nR rfl) ?_)))
   obtain⟨h15,H⟩:=oguard H
   refine oAppNG (f:=d_TCell) (xs:=v4.1) (ys:=[(TCell.mk 900 v13.1)]) (q:=(v4.1++([(TCell.mk 900 v13.1)])).length) rfl eZ (bR rfl) rfl (El.one (f:=d_TCell) (t:=(TCell.mk 900 v13.1)) (es:=[(.int .i64 900),(.int .i64 v13.1)]) bZ rfl rfl rfl) rfl h15 (by decide) (by decide) (erL.cons (v':=(.one (.sl 1728 0 1))) rfl (erL.cons (v':=(.agg [(dI 900),(dI v13.1)])) rfl (erL.cons (v':=(oI v13.1)) rfl (erL.cons (v':=(.one (.sl 1536 0 3))) rfl (erL.cons (v':=(.one (.ptr (.nm 0 0 0)))) rfl (erL.cons (v':=(.one .any)) rfl (erL.cons (v':=(oB (decide (v6.1=1)))) rfl (erL.cons (v':=(oB (decide (v6.1=1)))) rfl (erL.cons (v':=(oB (decide (v6.1=0)))) rfl (erL.cons (v':=(oB (decide (v6.1=0)))) rfl (erL.cons (v':=(oI v6.1)) rfl (erL.cons (v':=(.one (.ptr (.nm 0 0 0)))) rfl (erL.cons (v':=(.one .any)) rfl (erL.cons (v':=(.one .any)) rfl (erL.cons (v':=(oI a3)) rfl (erL.cons (v':=(.one (.ptr (.nm 0 0 0)))) rfl (erL.cons (v':=(.one .zs)) rfl (erL.cons (v':=(.one (.ptr (.nm 0 0 0)))) rfl (erL.cons (v':=(oI a3)) rfl erL.nil))))))))))))))))))) (erH.cons (v':=(.vars 2 [(dI 900),(dI v13.1)])) rfl rfl (erH.cons (v':=(.vars 3 [(.d (.pin pv)),(dI v13.2.1),(dI v13.2.2)])) rfl rfl (erH.cons (v':=(.vars 1 [(dI (-1)),(dI 1000000000),(dI 1000000001)])) rfl rfl (erH.cons (v':=(.vars 3 [(.d (.pin pv)),(dI v6.2.1),(dI v6.2.2)])) rfl rfl (erH.drop rfl (erH.cons (v':=(.vars 3 [(.d (.pin pv)),(dI v4.2.1),(dI v4.2.2)])) rfl rfl (erH.cons (v':=(.vars 3 [(.d (.pin pv)),(dI a2.1),(dI a2.2)])) rfl rfl erH.nil))))))) (GK.cons rfl (GK.cons rfl GK.nil)) (oMov eZ (xNil (BQ.qn (TQ.qn (AW.weaken (wk_mkG [1728,1536] (kr 5 rfl rfl SL.nil) (blR rfl) (BK.cons (n:=512) rfl bZ rfl rfl (BK.cons (n:=0) rfl (bR rfl) rfl rfl BK.nil)) (GK.cons rfl (GK.cons rfl GK.nil))) (aV (oMov eZ (oMov eZ (xQ (AW.ret ?_))))))))))
   cases H
   exact endsRM (RL.cons (RV.tmp eZ) (VO.sl bZ lm (allFlat fun _=>rfl)) RL.nil) (ML.mut (eS rfl eZ) (VO.ptr (es:=[(.pin pv),(.int .i64 v13.2.1),(.int .i64 v13.2.2)]) (bR rfl) rfl rfl rfl) (ML.lent ML.nil)) (by decide)
  ·refine AW.condF eZ (dF h12) (AW.skip (BQ.qn (TQ.qn (aV (oMov rfl (oMov eZ (xQ (AW.ret ?_))))))))
   cases H
   exact endsRM (RL.cons (RV.tmp eZ) (VO.sl (bR rfl) lm (allFlat fun _=>rfl)) RL.nil) (ML.mut (eS rfl eZ) (VO.ptr (es:=[(.pin pv),(.int .i64 v6.2.1),(.int .i64 v6.2.2)]) bZ rfl rfl rfl) (ML.lent ML.nil)) (by decide)
theorem c_spec_l11DrawWrites{pv:Value}{cb1:(List Int)}{a2:(Int×Int)}{a3:Int}{r:((List TCell)×(Int×Int))}(H:m_spec_l11DrawWrites cb1 a2 a3=some r):FnC Try.prog pv (.sl 1 (List.map d_u8 cb1)) 128 [⟨(.ptr [(.pin pv),(.int .i64 a2.1),(.int .i64 a2.2)]),.m (.ptr [(.pin pv),(.int .i64 r.2.1),(.int .i64 r.2.2)])⟩,⟨(.int .i64 a3),.b⟩] [(.sl 2 (List.map d_TCell r.1))]:=by
 refine n128 (fle rfl) (fle rfl) (fC nZ rfl fN) rfl ?_
 rw[initC_mk]
 refine AW.weaken (t:=mk [(0,(.one (.ptr (.nm 0 0 0)))),(1,(oI a3))] [(0,(.vars 3 [(.d (.pin pv)),(dI a2.1),(dI a2.2)]))] (lk [(63,(.one (.d (.both pv (.sl 1 (List.map d_u8 cb1)))))),(0,(.one (.ptr (.nm 0 0 0))))])) (wk_mkG (gl:=[(63,(.one (.d (.both pv (.sl 1 (List.map d_u8 cb1)))))),(0,(.one (.ptr (.nm 0 0 0))))]) [] (kv 0 (.one (.ptr (.nm 0 0 0))) rfl rfl (kv 1 (oI a3) rfl rfl SL.nil)) (blR rfl) (BK.cons (n:=0) rfl bZ rfl rfl BK.nil) (GK.cons rfl (GK.cons rfl GK.nil))) ?_
 unfold m_spec_l11DrawWrites at H
 unfold i128
 refine aV (oMov eC (xQ (aV (oBsliceZ (m:=640) rfl (nR rfl) (oMov eZ (xQ (aS (AW.regm (rmOne (oMov rfl (xNil (rmOne (oMov rfl (xNil (rmOne (oAdd eZ eC (xNil ?_)))))))))))))))))
 obtain⟨v4,h5,H⟩:=obind H
 refine rmCallIC (v0:=pv) (hg:=by exact rfl) (ON:=[0]) (ls:=[]) (G:=[]) (E:=[subKey 0]) (MB:=[(0,(.vars 3 [(.d (.pin pv)),(dI v4.2.1),(dI v4.2.2)]))]) (u:=(oI v4.1)) eC Cl.fn (c_spec_l1Below h5) (Ec rfl (Ec eZ En)) (AO.mut (VO.ptr (es:=[(.pin pv),(.int .i64 a2.1),(.int .i64 a2.2)]) bZ rfl rfl rfl) (AO.lent Vp rfl AO.nil)) rfl rfl rfl (SZ.consP bZ rfl SZ.nil) (erL.cons (v':=(oI (IntKind.wrap .i64 (a3+1)))) rfl (erL.cons (v':=(oI a3)) rfl (erL.cons (v':=(.one (.ptr (.nm 0 0 0)))) rfl (erL.cons (v':=(.one .zs)) rfl (erL.cons (v':=(.one .zs)) rfl (erL.cons (v':=(.one .zs)) rfl (erL.cons (v':=(.one (.ptr (.nm 0 0 0)))) rfl (erL.cons (v':=(oI a3)) rfl erL.nil)))))))) (erH.cons (v':=(.vars 3 [(.d (.pin pv)),(dI a2.1),(dI a2.2)])) rfl rfl erH.nil) (erL.cons (v':=(.one (.d (.both pv (.sl 1 (List.map d_u8 cb1)))))) rfl (erL.cons (v':=(.one (.ptr (.nm 0 0 0)))) rfl erL.nil)) rfl rfl (rmRest (oMov eZ (xQ (aS (AW.regm (rmOne (oMov rfl (xNil ?_))))))))
 obtain⟨v6,h7,H⟩:=obind H
 refine rmCallIC (v0:=pv) (hg:=by exact rfl) (ON:=[0]) (ls:=[]) (G:=[]) (E:=[subKey 0]) (MB:=[(0,(.vars 3 [(.d (.pin pv)),(dI v6.2.1),(dI v6.2.2)]))]) (u:=(oI v6.1)) eC Cl.fn (c_spec_l1Below h7) (Ec eZ (Ec eC En)) (AO.mut (VO.ptr (es:=[(.pin pv),(.int .i64 v4.2.1),(.int .i64 v4.2.2)]) bZ rfl rfl rfl) (AO.lent Vp rfl AO.nil)) rfl rfl rfl (SZ.consP bZ rfl SZ.nil) (erL.cons (v':=(.one (.ptr (.nm 0 0 0)))) rfl (erL.cons (v':=(oI v4.1)) rfl (erL.cons (v':=(oI v4.1)) rfl (erL.cons (v':=(oI (IntKind.wrap .i64 (a3+1)))) rfl (erL.cons (v':=(oI a3)) rfl (erL.cons (v':=(.one (.ptr (.nm 0 0 0)))) rfl (erL.cons (v':=(.one .zs)) rfl (erL.cons (v':=(.one .zs)) rfl (erL.cons (v':=(.one .zs)) rfl (erL.cons (v':=(.one (.ptr (.nm 0 0 0)))) rfl (erL.cons (v':=(oI a3)) rfl erL.nil))))))))))) (erH.cons (v':=(.vars 3 [(.d (.pin pv)),(dI v4.2.1),(dI v4.2.2)])) rfl rfl (erH.cons (v':=(.vars 3 [(.d (.pin pv)),(dI a2.1),(dI a2.2)])) rfl rfl erH.nil)) (erL.cons (v':=(.one (.d (.both pv (.sl 1 (List.map d_u8 cb1)))))) rfl (erL.cons (v':=(.one (.ptr (.nm 0 0 0)))) rfl erL.nil)) rfl rfl (rmRest (oMov eZ (xQ (AW.seqJ (fun t8:((List TCell)×Int×Int)=>(spec_l11DrawWrites_j8 cb1) t8=some r) (fun t8=>mk [(0,(.one (.ptr (.nm 0 0 0)))),(5,(.one (.sl 320128 0 t8.1.length)))] [(320128,(.data 2 (List.map d_TCell t8.1) true none)),(0,(.vars 3 [(.d (.pin pv)),(dI t8.2.1),(dI t8.2.2)]))] (lk [(63,(.one (.d (.both pv (.sl 1 (List.map d_u8 cb1)))))),(0,(.one (.ptr (.nm 0 0 0))))])) ?_ ?_))))
 ·intro t8 H
  unfold spec_l11DrawWrites_j8 at H
  refine aS (aS (AW.regm (rmOne (oMov eZ (xNil ?_)))))
  obtain⟨v10,h11,H⟩:=obind H
  refine rmCallIC (v0:=pv) (hg:=by exact rfl) (ON:=[0]) (ls:=[]) (G:=[]) (E:=[subKey 0]) (MB:=[(0,(.vars 3 [(.d (.pin pv)),(dI v10.2.1),(dI v10.2.2)]))]) (u:=(oI v10.1)) eC Cl.fn (c_spec_l1Below h11) (Ec eZ (Ec eC En)) (AO.mut (VO.ptr (es:=[(.pin pv),(.int .i64 t8.2.1),(.int .i64 t8.2.2)]) (bR rfl) rfl rfl rfl) (AO.lent Vp rfl AO.nil)) rfl rfl rfl (SZ.consP (bR rfl) rfl SZ.nil) (erL.cons (v':=(.one (.ptr (.nm 0 0 0)))) rfl (erL.cons (v':=(.one (.ptr (.nm 0 0 0)))) rfl (erL.cons (v':=(.one (.sl 320128 0 t8.1.length))) rfl erL.nil))) (erH.cons (v':=(.data 2 (List.map d_TCell t8.1) true none)) rfl rfl (erH.cons (v':=(.vars 3 [(.d (.pin pv)),(dI t8.2.1),(dI t8.2.2)])) rfl rfl erH.nil)) (erL.cons (v':=(.one (.d (.both pv (.sl 1 (List.map d_u8 cb1)))))) rfl (erL.cons (v':=(.one (.ptr (.nm 0 0 0)))) rfl erL.nil)) rfl rfl (rmRest (xQ (AW.block (aV (oEql eZ eC (oMov eZ (xQ ?_)))))))
  rcases oite H with⟨h12,H⟩|⟨h12,H⟩
  ·refine AW.condT eZ (dT h12) (AW.regm (rmOne (oMov rfl (xNil (rmOne (oMov rfl (xNil (rmOne (oBslice (m:=2816) (q:=3) (cs:=[(dI (-1)),(dI 0),(dI 1000)]) rfl (PsCons eC (PsCons eC (PsCons eC PsNil))) rfl (List.cons_ne_nil _ _) (by simp) (nR rfl) (xNil ?_))))))))))
   obtain⟨v13,h14,H⟩:=obind H
   refine rmCallIC (v0:=pv) (hg:=by exact rfl) (ON:=[0]) (ls:=[2816]) (G:=[]) (E:=[subKey 0]) (MB:=[(0,(.vars 3 [(.d (.pin pv)),(dI v13.2.1),(dI v13.2.2)]))]) (u:=(oI v13.1)) eC Cl.fn (c_spec_l1PickInt h14) (Ec rfl (Ec eZ En)) (AO.mut (VO.ptr (es:=[(.pin pv),(.int .i64 v10.2.1),(.int .i64 v10.2.2)]) (bR rfl) rfl rfl rfl) (AO.lent (VD.vars [(.int .i64 (-1)),(.int .i64 0),(.int .i64 1000)] bZ rfl rfl) rfl AO.nil)) rfl rfl rfl (SZ.consP (bR rfl) rfl SZ.nil) (erL.cons (v':=(.one (.sl 2816 0 3))) rfl (erL.cons (v':=(.one (.ptr (.nm 0 0 0)))) rfl (erL.cons (v':=(.one (.sl 320128 0 t8.1.length))) rfl (erL.cons (v':=(oB (decide (v10.1=0)))) rfl (erL.cons (v':=(oB (decide (v10.1=0)))) rfl (erL.cons (v':=(oI v10.1)) rfl (erL.cons (v':=(.one (.ptr (.nm 0 0 0)))) rfl (erL.cons (v':=(.one (.ptr (.nm 0 0 0)))) rfl (erL.cons (v':=(.one (.sl 320128 0 t8.1.length))) rfl erL.nil))))))))) (erH.cons (v':=(.vars 1 [(dI (-1)),(dI 0),(dI 1000)])) rfl rfl (erH.cons (v':=(.vars 3 [(.d (.pin pv)),(dI v10.2.1),(dI v10.2.2)])) rfl rfl (erH.cons (v':=(.data 2 (List.map d_TCell t8.1) true none)) rfl rfl (erH.cons (v':=(.vars 3 [(.d (.pin pv)),(dI t8.2.1),(dI t8.2.2)])) rfl rfl erH.nil)))) (erL.cons (v':=(.one (.d (.both pv (.sl 1 (List.map d_u8 cb1)))))) rfl (erL.cons (v':=(.one (.ptr (.nm 0 0 0)))) rfl erL.nil)) rfl rfl (rmRest (oBuild (cs:=[(dI v13.1),(dI 0)]) (PsCons eZ PsNil) rfl (oBslice (m:=3008) (q:=1) (cs:=[(dI v13.1),(dI 0)]) rfl (PsCons eZ PsNil) rfl (List.cons_ne_nil _ _) (by simp) (nR rfl) ?_)))
   obtain⟨h15,H⟩:=oguard H
   refine oAppNG (f:=d_TCell) (xs:=t8.1) (ys:=[(TCell.mk v13.1 0)]) (q:=(t8.1++([(TCell.mk v13.1 0)])).length) rfl eZ (bR rfl) rfl (El.one (f:=d_TCell) (t:=(TCell.mk v13.1 0)) (es:=[(.int .i64 v13.1),(.int .i64 0)]) bZ rfl rfl rfl) rfl h15 (by decide) (by decide) (erL.cons (v':=(.one (.sl 3008 0 1))) rfl (erL.cons (v':=(.agg [(dI v13.1),(dI 0)])) rfl (erL.cons (v':=(oI v13.1)) rfl (erL.cons (v':=(.one (.sl 2816 0 3))) rfl (erL.cons (v':=(.one (.ptr (.nm 0 0 0)))) rfl (erL.cons (v':=(.one .any)) rfl (erL.cons (v':=(oB (decide (v10.1=0)))) rfl (erL.cons (v':=(oB (decide (v10.1=0)))) rfl (erL.cons (v':=(oI v10.1)) rfl (erL.cons (v':=(.one (.ptr (.nm 0 0 0)))) rfl (erL.cons (v':=(.one (.ptr (.nm 0 0 0)))) rfl (erL.cons (v':=(.one .any)) rfl erL.nil)))))))))))) (erH.cons (v':=(.vars 2 [(dI v13.1),(dI 0)])) rfl rfl (erH.cons (v':=(.vars 3 [(.d (.pin pv)),(dI v13.2.1),(dI v13.2.2)])) rfl rfl (erH.cons (v':=(.vars 1 [(dI (-1)),(dI 0),(dI 1000)])) rfl rfl (erH.cons (v':=(.vars 3 [(.d (.pin pv)),(dI v10.2.1),(dI v10.2.2)])) rfl rfl (erH.drop rfl (erH.cons (v':=(.vars 3 [(.d (.pin pv)),(dI t8.2.1),(dI t8.2.2)])) rfl rfl erH.nil)))))) (GK.cons rfl (GK.cons rfl GK.nil)) (oMov eZ (xNil (BQ.qn (TQ.qn (aV (oMov eZ (oMov eZ (xQ (AW.weaken (wk_mkG [3008,2816] (kr 4 rfl rfl SL.nil) (blR rfl) (BK.cons (n:=320128) rfl bZ rfl rfl (BK.cons (n:=0) rfl (bR rfl) rfl rfl BK.nil)) (GK.cons rfl (GK.cons rfl GK.nil))) (AW.ret ?_))))))))))
   cases H
   exact endsRM (RL.cons (RV.tmp eZ) (VO.sl bZ lm (allFlat fun _=>rfl)) RL.nil) (ML.mut (eS rfl eZ) (VO.ptr (es:=[(.pin pv),(.int .i64 v13.2.1),(.int .i64 v13.2.2)]) (bR rfl) rfl rfl rfl) (ML.lent ML.nil)) (by decide)
  ·refine AW.condF eZ (dF h12) (aV (oEql rfl eC (oMov eZ (xQ ?_))))
   rcases oite H with⟨h16,H⟩|⟨h16,H⟩
   ·refine AW.condT eZ (dT h16) (AW.regm (rmOne (oMov rfl (xNil (rmOne (oMov rfl (xNil (rmOne (oBslice (m:=3392) (q:=3) (cs:=[(dI (-2)),(dI 1000000000),(dI 1000000001)]) rfl (PsCons eC (PsCons eC (PsCons eC PsNil))) rfl (List.cons_ne_nil _ _) (by simp) (nR rfl) (xNil ?_))))))))))
    obtain⟨v17,h18,H⟩:=obind H
    refine rmCallIC (v0:=pv) (hg:=by exact rfl) (ON:=[0]) (ls:=[3392]) (G:=[]) (E:=[subKey 0]) (MB:=[(0,(.vars 3 [(.d (.pin pv)),(dI v17.2.1),(dI v17.2.2)]))]) (u:=(oI v17.1)) eC Cl.fn (c_spec_l1PickInt h18) (Ec rfl (Ec eZ En)) (AO.mut (VO.ptr (es:=[(.pin pv),(.int .i64 v10.2.1),(.int .i64 v10.2.2)]) (bR rfl) rfl rfl rfl) (AO.lent (VD.vars [(.int .i64 (-2)),(.int .i64 1000000000),(.int .i64 1000000001)] bZ rfl rfl) rfl AO.nil)) rfl rfl rfl (SZ.consP (bR rfl) rfl SZ.nil) (erL.cons (v':=(.one (.sl 3392 0 3))) rfl (erL.cons (v':=(.one (.ptr (.nm 0 0 0)))) rfl (erL.cons (v':=(.one (.sl 320128 0 t8.1.length))) rfl (erL.cons (v':=(oB (decide (v10.1=1)))) rfl (erL.cons (v':=(oB (decide (v10.1=1)))) rfl (erL.cons (v':=(oB (decide (v10.1=0)))) rfl (erL.cons (v':=(oB (decide (v10.1=0)))) rfl (erL.cons (v':=(oI v10.1)) rfl (erL.cons (v':=(.one (.ptr (.nm 0 0 0)))) rfl (erL.cons (v':=(.one (.ptr (.nm 0 0 0)))) rfl (erL.cons (v':=(.one (.sl 320128 0 t8.1.length))) rfl erL.nil))))))))))) (erH.cons (v':=(.vars 1 [(dI (-2)),(dI 1000000000),(dI 1000000001)])) rfl rfl (erH.cons (v':=(.vars 3 [(.d (.pin pv)),(dI v10.2.1),(dI v10.2.2)])) rfl rfl (erH.cons (v':=(.data 2 (List.map d_TCell t8.1) true none)) rfl rfl (erH.cons (v':=(.vars 3 [(.d (.pin pv)),(dI t8.2.1),(dI t8.2.2)])) rfl rfl erH.nil)))) (erL.cons (v':=(.one (.d (.both pv (.sl 1 (List.map d_u8 cb1)))))) rfl (erL.cons (v':=(.one (.ptr (.nm 0 0 0)))) rfl erL.nil)) rfl rfl (rmRest (oBuild (cs:=[(dI 900),(dI v17.1)]) (PsCons eC (PsCons eZ PsNil)) rfl (oBslice (m:=3584) (q:=1) (cs:=[(dI 900),(dI v17.1)]) rfl (PsCons eZ PsNil) rfl (List.cons_ne_nil _ _) (by simp) (nR rfl) ?_)))
    obtain⟨h19,H⟩:=oguard H
    refine oAppNG (f:=d_TCell) (xs:=t8.1) (ys:=[(TCell.mk 900 v17.1)]) (q:=(t8.1++([(TCell.mk 900 v17.1)])).length) rfl eZ (bR rfl) rfl (El.one (f:=d_TCell) (t:=(TCell.mk 900 v17.1)) (es:=[(.int .i64 900),(.int .i64 v17.1)]) bZ rfl rfl rfl) rfl h19 (by decide) (by decide) (erL.cons (v':=(.one (.sl 3584 0 1))) rfl (erL.cons (v':=(.agg [(dI 900),(dI v17.1)])) rfl (erL.cons (v':=(oI v17.1)) rfl (erL.cons (v':=(.one (.sl 3392 0 3))) rfl (erL.cons (v':=(.one (.ptr (.nm 0 0 0)))) rfl (erL.cons (v':=(.one .any)) rfl (erL.cons (v':=(oB (decide (v10.1=1)))) rfl (erL.cons (v':=(oB (decide (v10.1=1)))) rfl (erL.cons (v':=(oB (decide (v10.1=0)))) rfl (erL.cons (v':=(oB (decide (v10.1=0)))) rfl (erL.cons (v':=(oI v10.1)) rfl (erL.cons (v':=(.one (.ptr (.nm 0 0 0)))) rfl (erL.cons (v':=(.one (.ptr (.nm 0 0 0)))) rfl (erL.cons (v':=(.one .any)) rfl erL.nil)))))))))))))) (erH.cons (v':=(.vars 2 [(dI 900),(dI v17.1)])) rfl rfl (erH.cons (v':=(.vars 3 [(.d (.pin pv)),(dI v17.2.1),(dI v17.2.2)])) rfl rfl (erH.cons (v':=(.vars 1 [(dI (-2)),(dI 1000000000),(dI 1000000001)])) rfl rfl (erH.cons (v':=(.vars 3 [(.d (.pin pv)),(dI v10.2.1),(dI v10.2.2)])) rfl rfl (erH.drop rfl (erH.cons (v':=(.vars 3 [(.d (.pin pv)),(dI t8.2.1),(dI t8.2.2)])) rfl rfl erH.nil)))))) (GK.cons rfl (GK.cons rfl GK.nil)) (oMov eZ (xNil (BQ.qn (TQ.qn (AW.weaken (wk_mkG [3584,3392] (kr 5 rfl rfl SL.nil) (blR rfl) (BK.cons (n:=320128) rfl bZ rfl rfl (BK.cons (n:=0) rfl (bR rfl) rfl rfl BK.nil)) (GK.cons rfl (GK.cons rfl GK.nil))) (aV (oMov eZ (oMov eZ (xQ (AW.ret ?_))))))))))
    cases H
    exact endsRM (RL.cons (RV.tmp eZ) (VO.sl bZ lm (allFlat fun _=>rfl)) RL.nil) (ML.mut (eS rfl eZ) (VO.ptr (es:=[(.pin pv),(.int .i64 v17.2.1),(.int .i64 v17.2.2)]) (bR rfl) rfl rfl rfl) (ML.lent ML.nil)) (by decide)
   ·refine AW.condF eZ (dF h16) (AW.skip (BQ.qn (TQ.qn (aV (oMov rfl (oMov eZ (xQ (AW.ret ?_))))))))
    cases H
    exact endsRM (RL.cons (RV.tmp eZ) (VO.sl (bR rfl) lm (allFlat fun _=>rfl)) RL.nil) (ML.mut (eS rfl eZ) (VO.ptr (es:=[(.pin pv),(.int .i64 v10.2.1),(.int .i64 v10.2.2)]) bZ rfl rfl rfl) (ML.lent ML.nil)) (by decide)
 ·refine aV (oMov eC (xQ (AW.block (AW.iter (fun s20:((List TCell)×Int×Int×Int×Int)=>mk [(0,(.one (.ptr (.nm 0 0 0)))),(5,(.one (.sl 320192 0 s20.1.length))),(6,(oI v4.1)),(7,(oI s20.2.1)),(8,(oI s20.2.2.1))] [(320192,(.data 2 (List.map d_TCell s20.1) true none)),(0,(.vars 3 [(.d (.pin pv)),(dI s20.2.2.2.1),(dI s20.2.2.2.2)]))] (lk [(63,(.one (.d (.both pv (.sl 1 (List.map d_u8 cb1)))))),(0,(.one (.ptr (.nm 0 0 0))))])) H ((wk_mkG [] (kR rfl rfl (SL.cons eZ rfl (VWk.one (CWk.len (by first|(simp;done)|(simp;omega)|omega|(simp only[List.length_map];omega)))) (sR rfl rfl))) (blR rfl) (bkR rfl rfl rfl) (GK.cons rfl (GK.cons rfl GK.nil))).trans (wk_zs0 320192 2 5 true rfl (nR rfl))) ?_))))
  intro kb21 s20 H
  unfold spec_l11DrawWrites_b20 at H
  refine aS (aV (oMov rfl (oMov rfl (oLss rfl eZ (xQ ?_)))))
  rcases oite H with⟨h22,H⟩|⟨h22,H⟩
  ·refine AW.condT eZ (dT h22) (AW.skip (TQ.qn (aS (AW.block (aS (AW.regm (rmOne (oMov rfl (xNil (rmOne (oMov rfl (xNil ?_))))))))))))
   obtain⟨v23,h24,H⟩:=obind H
   refine rmCallIC (v0:=pv) (hg:=by exact rfl) (ON:=[0]) (ls:=[]) (G:=[]) (E:=[subKey 0]) (MB:=[(0,(.vars 3 [(.d (.pin pv)),(dI v23.2.1),(dI v23.2.2)]))]) (u:=(oI v23.1)) eC Cl.fn (c_spec_l1Below h24) (Ec eZ (Ec eC En)) (AO.mut (VO.ptr (es:=[(.pin pv),(.int .i64 s20.2.2.2.1),(.int .i64 s20.2.2.2.2)]) (bR rfl) rfl rfl rfl) (AO.lent Vp rfl AO.nil)) rfl rfl rfl (SZ.consP (bR rfl) rfl SZ.nil) (erL.cons (v':=(.one (.ptr (.nm 0 0 0)))) rfl (erL.cons (v':=(oI s20.2.1)) rfl (erL.cons (v':=(oB (decide (s20.2.2.1 < v4.1)))) rfl (erL.cons (v':=(oI v4.1)) rfl (erL.cons (v':=(oI s20.2.2.1)) rfl (erL.cons (v':=(.one (.ptr (.nm 0 0 0)))) rfl (erL.cons (v':=(.one (.sl 320192 0 s20.1.length))) rfl (erL.cons (v':=(oI v4.1)) rfl (erL.cons (v':=(oI s20.2.1)) rfl (erL.cons (v':=(oI s20.2.2.1)) rfl erL.nil)))))))))) (erH.cons (v':=(.data 2 (List.map d_TCell s20.1) true none)) rfl rfl (erH.cons (v':=(.vars 3 [(.d (.pin pv)),(dI s20.2.2.2.1),(dI s20.2.2.2.2)])) rfl rfl erH.nil)) (erL.cons (v':=(.one (.d (.both pv (.sl 1 (List.map d_u8 cb1)))))) rfl (erL.cons (v':=(.one (.ptr (.nm 0 0 0)))) rfl erL.nil)) rfl rfl (rmRest (oBuild (cs:=[(dI s20.2.1),(dI v23.1)]) (PsCons rfl (PsCons eZ PsNil)) rfl (oVar (n:=576) (m:=2) rfl rfl (nR rfl) (oStoreV (es:=[(dI s20.2.1),(dI v23.1)]) eZ rfl rfl rfl bZ rfl (xQ (AW.seqJ (fun t25:(Int×Int×Int)=>(spec_l11DrawWrites_j25 s20 cb1 kb21) t25=some r) (fun t25=>mk [(0,(.one (.ptr (.nm 0 0 0)))),(5,(.one (.sl 320192 0 s20.1.length))),(6,(oI v4.1)),(7,(oI s20.2.1)),(8,(oI s20.2.2.1)),(9,(.one (.ptr (.nm 576 0 0))))] [(0,(.vars 3 [(.d (.pin pv)),(dI t25.1),(dI t25.2.1)])),(576,(.vars 2 [(dI s20.2.1),(dI t25.2.2)])),(320192,(.data 2 (List.map d_TCell s20.1) true none))] (lk [(63,(.one (.d (.both pv (.sl 1 (List.map d_u8 cb1)))))),(0,(.one (.ptr (.nm 0 0 0))))])) ?_ ?_))))))
   ·intro t25 H
    unfold spec_l11DrawWrites_j25 at H
    refine aV (oMov rfl (oLoadVA (es:=[(dI s20.2.1),(dI t25.2.2)]) rfl (bR rfl) rfl (oBslice (m:=1984) (q:=1) (cs:=[(dI s20.2.1),(dI t25.2.2)]) rfl (PsCons eZ PsNil) rfl (List.cons_ne_nil _ _) (by simp) (nR rfl) ?_)))
    obtain⟨h27,H⟩:=oguard H
    refine oAppNG (f:=d_TCell) (xs:=s20.1) (ys:=[(TCell.mk s20.2.1 t25.2.2)]) (q:=(s20.1++([(TCell.mk s20.2.1 t25.2.2)])).length) rfl eZ (bR rfl) rfl (El.one (f:=d_TCell) (t:=(TCell.mk s20.2.1 t25.2.2)) (es:=[(.int .i64 s20.2.1),(.int .i64 t25.2.2)]) bZ rfl rfl rfl) rfl h27 (by decide) (by decide) (erL.cons (v':=(.one (.sl 1984 0 1))) rfl (erL.cons (v':=(.agg [(dI s20.2.1),(dI t25.2.2)])) rfl (erL.cons (v':=(.one .any)) rfl (erL.cons (v':=(.one (.ptr (.nm 0 0 0)))) rfl (erL.cons (v':=(.one .any)) rfl (erL.cons (v':=(oI v4.1)) rfl (erL.cons (v':=(oI s20.2.1)) rfl (erL.cons (v':=(oI s20.2.2.1)) rfl (erL.cons (v':=(.one (.ptr (.nm 576 0 0)))) rfl erL.nil))))))))) (erH.cons (v':=(.vars 2 [(dI s20.2.1),(dI t25.2.2)])) rfl rfl (erH.cons (v':=(.vars 3 [(.d (.pin pv)),(dI t25.1),(dI t25.2.1)])) rfl rfl (erH.cons (v':=(.vars 2 [(dI s20.2.1),(dI t25.2.2)])) rfl rfl (erH.drop rfl erH.nil)))) (GK.cons rfl (GK.cons rfl GK.nil)) (oMov eZ (xQ (AW.regm (rmOne (oMov rfl (xNil (rmOne (oAdd eZ eC (xNil (rmOne (oMov rfl (xNil ?_))))))))))))
    obtain⟨v28,h29,H⟩:=obind H
    exact rmCallIC (v0:=pv) (hg:=by exact rfl) (ON:=[0]) (ls:=[]) (G:=[]) (E:=[subKey 0]) (MB:=[(0,(.vars 3 [(.d (.pin pv)),(dI v28.2.1),(dI v28.2.2)]))]) (u:=(oI v28.1)) eC Cl.fn (c_spec_l1Below h29) (Ec eZ (Ec eC En)) (AO.mut (VO.ptr (es:=[(.pin pv),(.int .i64 t25.1),(.int .i64 t25.2.1)]) (bR rfl) rfl rfl rfl) (AO.lent Vp rfl AO.nil)) rfl rfl rfl (SZ.consP (bR rfl) rfl SZ.nil) (erL.cons (v':=(.one (.ptr (.nm 0 0 0)))) rfl (erL.cons (v':=(oI (IntKind.wrap .i64 (s20.2.1+1)))) rfl (erL.cons (v':=(oI s20.2.1)) rfl (erL.cons (v':=(.one (.sl 320192 0 ((s20.1++([(TCell.mk s20.2.1 t25.2.2)])).length)))) rfl (erL.cons (v':=(.one (.sl 320192 0 ((s20.1++([(TCell.mk s20.2.1 t25.2.2)])).length)))) rfl (erL.cons (v':=(.one (.sl 1984 0 1))) rfl (erL.cons (v':=(.agg [(dI s20.2.1),(dI t25.2.2)])) rfl (erL.cons (v':=(.one .any)) rfl (erL.cons (v':=(.one (.ptr (.nm 0 0 0)))) rfl (erL.cons (v':=(.one .any)) rfl (erL.cons (v':=(oI v4.1)) rfl (erL.cons (v':=(oI s20.2.1)) rfl (erL.cons (v':=(oI s20.2.2.1)) rfl (erL.cons (v':=(.one (.ptr (.nm 576 0 0)))) rfl erL.nil)))))))))))))) (erH.cons (v':=(.data 2 (List.map d_TCell (s20.1++([(TCell.mk s20.2.1 t25.2.2)]))) true none)) rfl rfl (erH.cons (v':=(.vars 2 [(dI s20.2.1),(dI t25.2.2)])) rfl rfl (erH.cons (v':=(.vars 3 [(.d (.pin pv)),(dI t25.1),(dI t25.2.1)])) rfl rfl (erH.cons (v':=(.vars 2 [(dI s20.2.1),(dI t25.2.2)])) rfl rfl erH.nil)))) (erL.cons (v':=(.one (.d (.both pv (.sl 1 (List.map d_u8 cb1)))))) rfl (erL.cons (v':=(.one (.ptr (.nm 0 0 0)))) rfl erL.nil)) rfl rfl (rmRest (oAdd rfl eZ (oMov eZ (xNil (BQ.qn (TQ.qn (AW.weaken (wk_mkG [1984,576] (kr 7 rfl rfl (kr 5 rfl rfl (kr 0 rfl rfl (kr 6 rfl rfl (kr 8 rfl rfl SL.nil))))) (blR rfl) (BK.cons (n:=0) rfl bZ rfl rfl (BK.cons (n:=320192) rfl (bR rfl) rfl rfl BK.nil)) (GK.cons rfl (GK.cons rfl GK.nil))) (aR (oMov rfl (oAdd eZ eC (oMov eZ (xNil (TQ.qn ⟨((s20.1++([(TCell.mk s20.2.1 t25.2.2)])),(IntKind.wrap .i64 ((IntKind.wrap .i64 (s20.2.1+1))+v28.1)),(IntKind.wrap .i64 (s20.2.2.1+1)),v28.2.1,v28.2.2),H,(wk_mkG [] (sR rfl rfl) (blR rfl) (bkR rfl rfl rfl) (GK.cons rfl (GK.cons rfl GK.nil)))⟩)))))))))))))
   ·refine aS (AW.regm (rmOne (oMov rfl (xNil ?_))))
    obtain⟨v30,h31,H⟩:=obind H
    refine rmCallIC (v0:=pv) (hg:=by exact rfl) (ON:=[0]) (ls:=[]) (G:=[]) (E:=[subKey 0]) (MB:=[(0,(.vars 3 [(.d (.pin pv)),(dI v30.2.1),(dI v30.2.2)]))]) (u:=(oB v30.1)) eC Cl.fn (c_spec_l1Once h31) (Ec eZ (Ec eC En)) (AO.mut (VO.ptr (es:=[(.pin pv),(.int .i64 v23.2.1),(.int .i64 v23.2.2)]) (bR rfl) rfl rfl rfl) (AO.lent Vp rfl AO.nil)) rfl rfl rfl (SZ.consP (bR rfl) rfl SZ.nil) (erL.cons (v':=(.one (.ptr (.nm 0 0 0)))) rfl (erL.cons (v':=(.one (.ptr (.nm 576 0 0)))) rfl (erL.cons (v':=(.agg [(dI s20.2.1),(dI v23.1)])) rfl (erL.cons (v':=(oI v23.1)) rfl (erL.cons (v':=(.one (.ptr (.nm 0 0 0)))) rfl (erL.cons (v':=(oI s20.2.1)) rfl (erL.cons (v':=(oB (decide (s20.2.2.1 < v4.1)))) rfl (erL.cons (v':=(oI v4.1)) rfl (erL.cons (v':=(oI s20.2.2.1)) rfl (erL.cons (v':=(.one (.ptr (.nm 0 0 0)))) rfl (erL.cons (v':=(.one (.sl 320192 0 s20.1.length))) rfl (erL.cons (v':=(oI v4.1)) rfl (erL.cons (v':=(oI s20.2.1)) rfl (erL.cons (v':=(oI s20.2.2.1)) rfl erL.nil)))))))))))))) (erH.cons (v':=(.vars 2 [(dI s20.2.1),(dI v23.1)])) rfl rfl (erH.cons (v':=(.vars 2 [(dI 0),(dI 0)])) rfl rfl (erH.cons (v':=(.vars 3 [(.d (.pin pv)),(dI v23.2.1),(dI v23.2.2)])) rfl rfl (erH.cons (v':=(.data 2 (List.map d_TCell s20.1) true none)) rfl rfl (erH.cons (v':=(.vars 3 [(.d (.pin pv)),(dI s20.2.2.2.1),(dI s20.2.2.2.2)])) rfl rfl erH.nil))))) (erL.cons (v':=(.one (.d (.both pv (.sl 1 (List.map d_u8 cb1)))))) rfl (erL.cons (v':=(.one (.ptr (.nm 0 0 0)))) rfl erL.nil)) rfl rfl (rmRest (xQ ?_))
    rcases oite H with⟨h32,H⟩|⟨h32,H⟩
    ·exact AW.condT eZ h32 (aR (oFaddrN (m:=1) rfl rfl (oStoreV (es:=[(dI s20.2.1),(dI (-1))]) eZ eC rfl rfl (bR rfl) rfl (xNil (TQ.qn ⟨(v30.2.1,v30.2.2,(-1)),H,(wk_mkG [] (sR rfl rfl) (blR rfl) (bkR rfl rfl rfl) (GK.cons rfl (GK.cons rfl GK.nil)))⟩)))))
    ·exact AW.condF eZ (nt h32) (AW.skip (TQ.qn ⟨(v30.2.1,v30.2.2,v23.1),H,(wk_mkG [] (sR rfl rfl) (blR rfl) (bkR rfl rfl rfl) (GK.cons rfl (GK.cons rfl GK.nil)))⟩))
  ·exact AW.condF eZ (dF h22) (AW.exit (TQ.qe (TQ.qe (BQ.qe (TQ.qn ⟨(s20.1,s20.2.2.2.1,s20.2.2.2.2),H,((wk_mkG [] (sR rfl rfl) (blR rfl) (bkR rfl rfl rfl) (GK.cons rfl (GK.cons rfl GK.nil))).trans (wk_renG 320192 320128 rfl rfl (nR rfl) (GR.cons rfl (GR.cons rfl GR.nil))))⟩)))))
theorem c_spec_l11DrawBoth{pv:Value}{cb1:(List Int)}{r:((List TCell)×(List TCell))}(H:m_spec_l11DrawBoth cb1=some r):FnC Try.prog pv (.sl 1 (List.map d_u8 cb1)) 97 [⟨(.pin pv),.b⟩] [(.sl 2 (List.map d_TCell r.1)),(.sl 2 (List.map d_TCell r.2))]:=by
 refine n97 (fle rfl) (fle rfl) trivial rfl ?_
 rw[initC_mk]
 refine AW.weaken (t:=mk [(0,(.one (.d (.pin pv))))] [] (lk [(63,(.one (.d (.both pv (.sl 1 (List.map d_u8 cb1))))))])) (wk_mkG (gl:=[(63,(.one (.d (.both pv (.sl 1 (List.map d_u8 cb1))))))]) [] (kv 0 (.one (.d (.pin pv))) rfl rfl SL.nil) BL.nil BK.nil (GK.cons rfl GK.nil)) ?_
 unfold m_spec_l11DrawBoth at H
 unfold i97
 refine aV (oMov eC (oMov eC (xQ (aS (AW.regm (rmOne (oMov rfl (xNil ?_))))))))
 obtain⟨v2,h3,H⟩:=obind H
 refine rmCallC (v0:=pv) (hg:=by exact rfl) (ON:=[]) (ls:=[]) (G:=[]) (E:=[]) (MB:=[]) (u:=(.one (.ptr (.nm 448 0 0)))) (bs:=[(448,(.vars 3 [(.d (.pin pv)),(dI v2.1),(dI v2.2)]))]) eC Cl.fn (c_spec_l1New h3) (Ec eZ En) (AO.lent Vp rfl AO.nil) rfl rfl rfl SZ.nil (erL.cons (v':=(.one (.d (.pin pv)))) rfl (erL.cons (v':=(.one .zs)) rfl (erL.cons (v':=(.one .zs)) rfl (erL.cons (v':=(.one (.d (.pin pv)))) rfl erL.nil)))) erH.nil (erL.cons (v':=(.one (.d (.both pv (.sl 1 (List.map d_u8 cb1)))))) rfl erL.nil) (by simp[bindR,bindV,bindVs,bindC,bindCs,D.flat]) rfl (fC nZ rfl (fC nZ rfl fN)) (rmRest (oMov eZ (xQ (aS (AW.regm (rmOne (oMov eZ (xNil (rmOne (oMov rfl (xNil ?_)))))))))))
 obtain⟨v4,h5,H⟩:=obind H
 refine rmCallIC (v0:=pv) (hg:=by exact rfl) (ON:=[]) (ls:=[]) (G:=[]) (E:=[]) (MB:=[]) (u:=(oI v4)) eC Cl.fn (c_spec_l1Size h5) (Ec eZ (Ec eC En)) (AO.lent Vp rfl (AO.lent Vp rfl AO.nil)) rfl rfl rfl SZ.nil (erL.cons (v':=(.one (.d (.pin pv)))) rfl (erL.cons (v':=(.one (.ptr (.nm 448 0 0)))) rfl (erL.cons (v':=(.one (.ptr (.nm 448 0 0)))) rfl (erL.cons (v':=(.one (.ptr (.nm 448 0 0)))) rfl (erL.cons (v':=(.one (.d (.pin pv)))) rfl (erL.cons (v':=(.one .zs)) rfl (erL.cons (v':=(.one .zs)) rfl (erL.cons (v':=(.one (.d (.pin pv)))) rfl erL.nil)))))))) (erH.cons (v':=(.vars 3 [(.d (.pin pv)),(dI v2.1),(dI v2.2)])) rfl rfl erH.nil) (erL.cons (v':=(.one (.d (.both pv (.sl 1 (List.map d_u8 cb1)))))) rfl erL.nil) rfl rfl ?_
 obtain⟨v6,h7,H⟩:=obind H
 refine rmCallC (v0:=pv) (hg:=by exact rfl) (ON:=[448]) (ls:=[]) (G:=[]) (E:=[subKey 448]) (MB:=[(448,(.vars 3 [(.d (.pin pv)),(dI v6.2.1),(dI v6.2.2)]))]) (u:=(.one (.sl 704 0 v6.1.length))) (bs:=[(704,(.data 2 (List.map d_TCell v6.1) true none))]) eC Cl.fn (c_spec_l11DrawAny h7) (Ec rfl (Ec eZ En)) (AO.mut (VO.ptr (es:=[(.pin pv),(.int .i64 v2.1),(.int .i64 v2.2)]) bZ rfl rfl rfl) (AO.lent Vp rfl AO.nil)) rfl rfl rfl (SZ.consP bZ rfl SZ.nil) (erL.cons (v':=(oI v4)) rfl (erL.cons (v':=(.one (.d (.pin pv)))) rfl (erL.cons (v':=(.one (.ptr (.nm 448 0 0)))) rfl (erL.cons (v':=(.one (.ptr (.nm 448 0 0)))) rfl (erL.cons (v':=(.one (.ptr (.nm 448 0 0)))) rfl (erL.cons (v':=(.one (.d (.pin pv)))) rfl (erL.cons (v':=(.one .zs)) rfl (erL.cons (v':=(.one .zs)) rfl (erL.cons (v':=(.one (.d (.pin pv)))) rfl erL.nil))))))))) (erH.cons (v':=(.vars 3 [(.d (.pin pv)),(dI v2.1),(dI v2.2)])) rfl rfl erH.nil) (erL.cons (v':=(.one (.d (.both pv (.sl 1 (List.map d_u8 cb1)))))) rfl erL.nil) (by simp[bindR,bindV,bindVs,bindC,bindCs]) rfl (fC (nR rfl) rfl (fC (nR rfl) rfl fN)) (rmRest (oMov eZ (xQ (aS (AW.regm (rmOne (oMov eZ (xNil (rmOne (oMov rfl (xNil (rmOne (oMov rfl (xNil ?_))))))))))))))
 obtain⟨v8,h9,H⟩:=obind H
 refine rmCallIC (v0:=pv) (hg:=by exact rfl) (ON:=[]) (ls:=[]) (G:=[]) (E:=[]) (MB:=[]) (u:=(oI v8)) eC Cl.fn (c_spec_l1Size h9) (Ec eZ (Ec eC En)) (AO.lent Vp rfl (AO.lent Vp rfl AO.nil)) rfl rfl rfl SZ.nil (erL.cons (v':=(.one (.d (.pin pv)))) rfl (erL.cons (v':=(.one (.ptr (.nm 448 0 0)))) rfl (erL.cons (v':=(.one (.sl 704 0 v6.1.length))) rfl (erL.cons (v':=(.one (.sl 704 0 v6.1.length))) rfl (erL.cons (v':=(.one (.sl 704 0 v6.1.length))) rfl (erL.cons (v':=(oI v4)) rfl (erL.cons (v':=(.one (.d (.pin pv)))) rfl (erL.cons (v':=(.one (.ptr (.nm 448 0 0)))) rfl (erL.cons (v':=(.one (.ptr (.nm 448 0 0)))) rfl (erL.cons (v':=(.one (.ptr (.nm 448 0 0)))) rfl (erL.cons (v':=(.one (.d (.pin pv)))) rfl (erL.cons (v':=(.one .zs)) rfl (erL.cons (v':=(.one .zs)) rfl (erL.cons (v':=(.one (.d (.pin pv)))) rfl erL.nil)))))))))))))) (erH.cons (v':=(.data 2 (List.map d_TCell v6.1) true none)) rfl rfl (erH.cons (v':=(.vars 3 [(.d (.pin pv)),(dI v6.2.1),(dI v6.2.2)])) rfl rfl (erH.cons (v':=(.vars 3 [(.d (.pin pv)),(dI v2.1),(dI v2.2)])) rfl rfl erH.nil))) (erL.cons (v':=(.one (.d (.both pv (.sl 1 (List.map d_u8 cb1)))))) rfl erL.nil) rfl rfl ?_
 obtain⟨v10,h11,H⟩:=obind H
 refine rmCallC (v0:=pv) (hg:=by exact rfl) (ON:=[448]) (ls:=[]) (G:=[]) (E:=[subKey 448]) (MB:=[(448,(.vars 3 [(.d (.pin pv)),(dI v10.2.1),(dI v10.2.2)]))]) (u:=(.one (.sl 1024 0 v10.1.length))) (bs:=[(1024,(.data 2 (List.map d_TCell v10.1) true none))]) eC Cl.fn (c_spec_l11DrawWrites h11) (Ec rfl (Ec eZ En)) (AO.mut (VO.ptr (es:=[(.pin pv),(.int .i64 v6.2.1),(.int .i64 v6.2.2)]) (bR rfl) rfl rfl rfl) (AO.lent Vp rfl AO.nil)) rfl rfl rfl (SZ.consP (bR rfl) rfl SZ.nil) (erL.cons (v':=(oI v8)) rfl (erL.cons (v':=(.one (.d (.pin pv)))) rfl (erL.cons (v':=(.one (.ptr (.nm 448 0 0)))) rfl (erL.cons (v':=(.one (.sl 704 0 v6.1.length))) rfl (erL.cons (v':=(.one (.sl 704 0 v6.1.length))) rfl (erL.cons (v':=(.one (.sl 704 0 v6.1.length))) rfl (erL.cons (v':=(oI v4)) rfl (erL.cons (v':=(.one (.d (.pin pv)))) rfl (erL.cons (v':=(.one (.ptr (.nm 448 0 0)))) rfl (erL.cons (v':=(.one (.ptr (.nm 448 0 0)))) rfl (erL.cons (v':=(.one (.ptr (.nm 448 0 0)))) rfl (erL.cons (v':=(.one (.d (.pin pv)))) rfl (erL.cons (v':=(.one .zs)) rfl (erL.cons (v':=(.one .zs)) rfl (erL.cons (v':=(.one (.d (.pin pv)))) rfl erL.nil))))))))))))))) (erH.cons (v':=(.data 2 (List.map d_TCell v6.1) true none)) rfl rfl (erH.cons (v':=(.vars 3 [(.d (.pin pv)),(dI v6.2.1),(dI v6.2.2)])) rfl rfl (erH.cons (v':=(.vars 3 [(.d (.pin pv)),(dI v2.1),(dI v2.2)])) rfl rfl erH.nil))) (erL.cons (v':=(.one (.d (.both pv (.sl 1 (List.map d_u8 cb1)))))) rfl erL.nil) (by simp[bindR,bindV,bindVs,bindC,bindCs]) rfl (fC (nR rfl) rfl (fC (nR rfl) rfl fN)) (rmRest (oMov rfl (oMov rfl (xQ (AW.weaken (wk_mkG [448] (kr 3 rfl rfl (kr 2 rfl rfl SL.nil)) (blR rfl) (BK.cons (n:=1024) rfl bZ rfl rfl (BK.cons (n:=704) rfl (bR rfl) rfl rfl BK.nil)) (GK.cons rfl GK.nil)) (AW.ret ?_))))))
 cases H
 exact endsRM (RL.cons (RV.tmp rfl) (VO.sl (bR rfl) lm (allFlat fun _=>rfl)) (RL.cons (RV.tmp eZ) (VO.sl bZ lm (allFlat fun _=>rfl)) RL.nil)) (ML.lent ML.nil) (by decide)
theorem c0_spec_DrawStoreApply{pv:Value}{cb1:(List Int)}{r:((List TCell)×(List TCell))}(H:m_spec_DrawStoreApply cb1=some r):FnC Try.prog pv (.sl 1 (List.map d_u8 cb1)) 38 [⟨(.pin pv),.b⟩] [(.sl 2 (List.map d_TCell r.1)),(.sl 2 (List.map d_TCell r.2))]:=by
 refine n38 (fle rfl) (fle rfl) trivial rfl ?_
 rw[initC_mk]
 refine AW.weaken (t:=mk [(0,(.one (.d (.pin pv))))] [] (lk [(63,(.one (.d (.both pv (.sl 1 (List.map d_u8 cb1))))))])) (wk_mkG (gl:=[(63,(.one (.d (.both pv (.sl 1 (List.map d_u8 cb1))))))]) [] (kv 0 (.one (.d (.pin pv))) rfl rfl SL.nil) BL.nil BK.nil (GK.cons rfl GK.nil)) ?_
 unfold m_spec_DrawStoreApply at H
 unfold i38
 refine aV (oMov eC (oMov eC (xQ (aS (AW.regm (rmOne (oMov rfl (xNil ?_))))))))
 obtain⟨v2,h3,H⟩:=obind H
 refine rmCallC (v0:=pv) (hg:=by exact rfl) (ON:=[]) (ls:=[]) (G:=[]) (E:=[]) (MB:=[]) (u:=(.tup [(.one (.sl 512 0 v2.1.length)),(.one (.sl 528 0 v2.2.length))])) (bs:=[(512,(.data 2 (List.map d_TCell v2.1) true none)),(528,(.data 2 (List.map d_TCell v2.2) true none))]) eC Cl.fn (c_spec_l11DrawBoth h3) (Ec eZ En) (AO.lent Vp rfl AO.nil) rfl rfl rfl SZ.nil (erL.cons (v':=(.one (.d (.pin pv)))) rfl (erL.cons (v':=(.one .zs)) rfl (erL.cons (v':=(.one .zs)) rfl (erL.cons (v':=(.one (.d (.pin pv)))) rfl erL.nil)))) erH.nil (erL.cons (v':=(.one (.d (.both pv (.sl 1 (List.map d_u8 cb1)))))) rfl erL.nil) (by simp[bindR,bindV,bindVs,bindC,bindCs]) rfl (fC nZ rfl (fC nZ rfl (fC nZ rfl fN))) (rmRest (oMov eZ (oExt (v:=(.one (.sl 512 0 v2.1.length))) eZ rfl (oExt (v:=(.one (.sl 528 0 v2.2.length))) rfl rfl (oMov rfl (oMov rfl (xQ (aV (oMov rfl (oMov rfl (oMov rfl (oMov rfl (xQ (AW.ret ?_))))))))))))))
 cases H
 exact endsRM (RL.cons (RV.tmp rfl) (VO.sl (bR rfl) lm (allFlat fun _=>rfl)) (RL.cons (RV.tmp eZ) (VO.sl bZ lm (allFlat fun _=>rfl)) RL.nil)) (ML.lent ML.nil) (by decide)
theorem c_spec_DrawStoreApply{cb1:(List Int)}{r:((List TCell)×(List TCell))}(H:m_spec_DrawStoreApply cb1=some r):Fn Try.prog 38 (lent [(.sl 1 (List.map d_u8 cb1))]) true [(.sl 2 (List.map d_TCell r.1)),(.sl 2 (List.map d_TCell r.2))]:=
 FnC.fn fun pv=>c0_spec_DrawStoreApply (pv:=pv) H
theorem c_laws_at{a1:(List Int)}{a2:Int}{r:Int}(H:m_laws_at a1 a2=some r):Fn Try.prog 26 (lent [(.sl 1 (List.map d_u8 a1)),(.int .i64 a2)]) true [(.int .i64 r)]:=by
 refine f26 (fle rfl) ?_
 rw[init_mk]
 refine AW.weaken (wk_mk [] (kv 0 (.one (.d (.sl 1 (List.map d_u8 a1)))) rfl rfl (kv 1 (oI a2) rfl rfl SL.nil)) BL.nil BK.nil) ?_
 unfold m_laws_at at H
 unfold i26
 refine aV (oMov eC (xQ (aS (aV (oMov rfl (oMov rfl (oLenD eZ (n:=a1.length) lm (oLss rfl eZ (xQ ?_)))))))))
 rcases oite H with⟨h3,H⟩|⟨h3,H⟩
 ·refine AW.condT eZ (dT h3) (aV (oMov rfl (oMov rfl ?_)))
  obtain⟨v4,h5,H⟩:=obind H
  refine oAtD rfl eZ h5 (oLoadB (e:=(.int .u8 v4)) eZ rfl (oConv eZ (oMov eZ (xQ (AW.ret (TQ.qr ?_))))))
  cases H
  exact eE rfl rfl
 ·refine AW.condF eZ (dF h3) (AW.skip (TQ.qn (aV (oMov rfl (oMul eZ eC (oMov rfl (oLenD eZ (n:=a1.length) lm (oAdd rfl eZ (oRem eZ eC (by decide) (oMov eZ (xQ (AW.ret ?_))))))))))))
  cases H
  exact eE rfl rfl
theorem c_impl_from{a1:Int}{a2:Int}{a3:Int}{r:Bool}(H:m_impl_from a1 a2 a3=some r):Fn Try.prog 76 (lent [(.int .i64 a1),(.int .i64 a2),(.int .i64 a3)]) true [(.bool r)]:=by
 refine f76 (fle rfl) ?_
 rw[init_mk]
 refine AW.weaken (wk_mk [] (kv 0 (oI a1) rfl rfl (kv 1 (oI a2) rfl rfl (kv 2 (oI a3) rfl rfl SL.nil))) BL.nil BK.nil) ?_
 unfold m_impl_from at H
 unfold i76
 refine aV (oMov eC (xQ (aV (oMov rfl (oMov rfl (oGeq rfl eZ (oMov eZ ?_)))))))
 rcases oite H with⟨h4,H⟩|⟨h4,H⟩
 ·refine gDo eZ (dT h4) (oMov rfl (gDo rfl (dT h4) (oMov rfl (gDo rfl (dT h4) (oLeq rfl eZ (oPickT rfl (dT h4) eZ (oMov eZ (xQ (AW.ret ?_)))))))))
  cases H
  exact eE rfl rfl
 ·refine gSkip eZ (dF h4) rfl (gSkip rfl (dF h4) rfl (gSkip rfl (dF h4) rfl (oPickF rfl (dF h4) eC (oMov eZ (xQ (AW.ret ?_))))))
  cases H
  exact eE rfl rfl
theorem c_impl_isKey{a1:Int}{r:Bool}(H:m_impl_isKey a1=some r):Fn Try.prog 100 (lent [(.int .i64 a1)]) true [(.bool r)]:=by
 refine f100 (fle rfl) ?_
 rw[init_mk]
 refine AW.weaken (wk_mk [] (kv 0 (oI a1) rfl rfl SL.nil) BL.nil BK.nil) ?_
 unfold m_impl_isKey at H
 unfold i100
 refine aV (oMov eC (xQ (aV (oMov rfl ?_))))
 obtain⟨v2,h3,H⟩:=obind H
 refine oCall (u:=(oB v2)) eC Cl.fn (c_impl_from h3) (Ec eZ (Ec eC (Ec eC En))) (Vc Vp (Vc Vp (Vc Vp Vn))) rfl (oMov eZ (xQ (AW.ret ?_)))
 cases H
 exact eE rfl rfl
theorem c_impl_isWhole{a1:Int}{r:Bool}(H:m_impl_isWhole a1=some r):Fn Try.prog 60 (lent [(.int .i64 a1)]) true [(.bool r)]:=by
 refine f60 (fle rfl) ?_
 rw[init_mk]
 refine AW.weaken (wk_mk [] (kv 0 (oI a1) rfl rfl SL.nil) BL.nil BK.nil) ?_
 unfold m_impl_isWhole at H
 unfold i60
 refine aV (oMov eC (xQ (aV (oMov rfl ?_))))
 obtain⟨v2,h3,H⟩:=obind H
 refine oCall (u:=(oB v2)) eC Cl.fn (c_impl_from h3) (Ec eZ (Ec eC (Ec eC En))) (Vc Vp (Vc Vp (Vc Vp Vn))) rfl (oMov eZ (xQ (AW.ret ?_)))
 cases H
 exact eE rfl rfl
theorem c_impl_StoreOk{a1:(List TCell)}{r:Bool}(H:m_impl_StoreOk a1=some r):Fn Try.prog 42 (lent [(.sl 2 (List.map d_TCell a1))]) true [(.bool r)]:=by
 refine f42 (fle rfl) ?_
 rw[init_mk]
 refine AW.weaken (wk_mk [] (kv 0 (.one (.d (.sl 2 (List.map d_TCell a1)))) rfl rfl SL.nil) BL.nil BK.nil) ?_
 unfold m_impl_StoreOk at H
 unfold i42
 refine aV (oMov eC (xQ (AW.seqJ (fun t2:Unit=>(impl_StoreOk_j2 a1) t2=some r) (fun t2=>mk [(0,(.one (.d (.sl 2 (List.map d_TCell a1)))))] [] noG) ?_ ?_)))
 ·intro t2 H
  unfold impl_StoreOk_j2 at H
  refine aV (oMov eZ (oLenD eZ (n:=a1.length) lm (oLeq eZ eC (oMov eZ (xQ (AW.ret ?_))))))
  cases H
  exact eE rfl rfl
 ·refine aV (oMov rfl (oLenD eZ (n:=a1.length) lm (oMov eC (xQ (AW.block (AW.iter (fun s4:Int=>mk [(0,(.one (.d (.sl 2 (List.map d_TCell a1))))),(5,(.one (.d (.sl 2 (List.map d_TCell a1))))),(6,(oI (a1.length:Int))),(7,(oI s4))] [] noG) H (wk_mk [] (sR rfl rfl) BL.nil BK.nil) ?_))))))
  intro kb5 s4 H
  unfold impl_StoreOk_b4 at H
  refine aV (oLss rfl rfl (xQ (aS ?_)))
  rcases oite H with⟨h6,H⟩|⟨h6,H⟩
  ·refine AW.condT eZ (dT h6) (AW.skip (TQ.qn (aS (AW.block (aV (oMov rfl ?_))))))
   obtain⟨v7,h8,H⟩:=obind H
   refine oAtD rfl rfl h8 (oLoadBA (es:=[(dI v7.Key),(dI v7.Value)]) eZ rfl (oVar (n:=256) (m:=2) rfl rfl nZ (oMov rfl (oStoreV (es:=[(dI v7.Key),(dI v7.Value)]) rfl rfl rfl rfl bZ rfl (xQ (AW.seqJ (fun t9:Bool=>(impl_StoreOk_j9 kb5 s4) t9=some r) (fun t9=>mk [(0,(.one (.d (.sl 2 (List.map d_TCell a1))))),(5,(.one (.d (.sl 2 (List.map d_TCell a1))))),(6,(oI (a1.length:Int))),(7,(oI s4)),(36,(oB t9))] [] noG) ?_ ?_))))))
   ·intro t9 H
    unfold impl_StoreOk_j9 at H
    rcases oite H with⟨h11,H⟩|⟨h11,H⟩
    ·refine AW.condT rfl h11 (aV (oMov eC (xQ (AW.ret (BQ.qr (TQ.qr (TQ.qr (BQ.qr (TQ.qr ?_)))))))))
     cases H
     exact eE rfl rfl
    ·exact AW.condF rfl (nt h11) (AW.skip (BQ.qn (TQ.qn (aR (oAdd rfl eC (oMov eZ (xNil (TQ.qn ⟨(IntKind.wrap .i64 (s4+1)),H,(wk_mk [] (sR rfl rfl) BL.nil BK.nil)⟩))))))))
   ·refine AW.regd (oFaddrN (m:=0) rfl rfl (oLoadV (q:=0) (c:=(dI v7.Key)) eZ bZ rfl rfl ?_))
    obtain⟨v12,h13,H⟩:=obind H
    refine oCall (u:=(oB v12)) eC Cl.fn (c_impl_isKey h13) (Ec eZ En) (Vc Vp Vn) rfl (oInv eZ (oMov eZ ?_))
    rcases oite H with⟨h14,H⟩|⟨h14,H⟩
    ·refine gDo eZ (cN h14) (oFaddrN (m:=1) rfl rfl (gDo rfl (cN h14) (oLoadV (q:=1) (c:=(dI v7.Value)) eZ bZ rfl rfl (gDo rfl (cN h14) ?_))))
     obtain⟨v15,h16,H⟩:=obind H
     refine oCall (u:=(oB v15)) eC Cl.fn (c_impl_isWhole h16) (Ec eZ En) (Vc Vp Vn) rfl (gDo rfl (cN h14) (oInv eZ (oPickF rfl (cN h14) eZ (oMov eZ ?_))))
     rcases oite H with⟨h17,H⟩|⟨h17,H⟩
     ·refine gDo eZ (cN h17) (oMov rfl (gDo rfl (cN h17) (oGtr eZ eC (gDo rfl (cN h17) (oMov eZ ?_)))))
      rcases oite H with⟨h18,H⟩|⟨h18,H⟩
      ·refine gDo eZ (dT h18) (oMov rfl (gDo rfl (dT h18) (oMov rfl (gDo rfl (dT h18) (oSub eZ eC (gDo rfl (dT h18) ?_))))))
       obtain⟨v19,h20,H⟩:=obind H
       exact oAtD rfl eZ h20 (gDo rfl (dT h18) (oFaddrB (m:=0) eZ rfl (gDo rfl (dT h18) (oLoadB (e:=(.int .i64 v19.Key)) eZ rfl (gDo rfl (dT h18) (oFaddrN (m:=0) rfl rfl (gDo rfl (dT h18) (oLoadV (q:=0) (c:=(dI v7.Key)) eZ bZ rfl rfl (gDo rfl (dT h18) (oGeq rfl eZ (gDo rfl (cN h17) (oPickT rfl (dT h18) eZ (oPickF rfl (cN h17) eZ (xNil (TQ.qn ⟨(decide (v7.Key≤v19.Key)),H,(wk_mk [256] (sR rfl rfl) (blR rfl) BK.nil)⟩)))))))))))))))
      ·exact gSkip eZ (dF h18) rfl (gSkip rfl (dF h18) rfl (gSkip rfl (dF h18) rfl (gSkip rfl (dF h18) rfl (gSkip rfl (dF h18) rfl (gSkip rfl (dF h18) rfl (gSkip rfl (dF h18) rfl (gSkip rfl (dF h18) rfl (gSkip rfl (dF h18) rfl (gDo rfl (cN h17) (oPickF rfl (dF h18) eC (oPickF rfl (cN h17) eZ (xNil (TQ.qn ⟨false,H,(wk_mk [256] (sR rfl rfl) (blR rfl) BK.nil)⟩)))))))))))))
     ·exact gSkip eZ (cN (nt h17)) rfl (gSkip rfl (cN (nt h17)) rfl (gSkip rfl (cN (nt h17)) rfl (gSkipU eZ rfl (gSkipU rfl rfl (gSkipU rfl rfl (gSkipU rfl rfl (gSkipU rfl rfl (gSkipU rfl rfl (gSkipU rfl rfl (gSkipU rfl rfl (gSkipU rfl rfl (gSkip rfl (cN (nt h17)) rfl (oPickT rfl (cN (nt h17)) eC (xNil (TQ.qn ⟨true,H,(wk_mk [256] (sR rfl rfl) (blR rfl) BK.nil)⟩)))))))))))))))
    ·exact gSkip eZ (cN (nt h14)) rfl (gSkip rfl (cN (nt h14)) rfl (gSkip rfl (cN (nt h14)) rfl (gSkip rfl (cN (nt h14)) rfl (oPickT rfl (cN (nt h14)) eC (oMov eZ (gSkip eZ rfl rfl (gSkip rfl rfl rfl (gSkip rfl rfl rfl (gSkipU eZ rfl (gSkipU rfl rfl (gSkipU rfl rfl (gSkipU rfl rfl (gSkipU rfl rfl (gSkipU rfl rfl (gSkipU rfl rfl (gSkipU rfl rfl (gSkipU rfl rfl (gSkip rfl rfl rfl (oPickT rfl rfl eC (xNil (TQ.qn ⟨true,H,(wk_mk [256] (sR rfl rfl) (blR rfl) BK.nil)⟩)))))))))))))))))))))
  ·exact AW.condF eZ (dF h6) (AW.exit (TQ.qe (TQ.qe (BQ.qe (TQ.qn ⟨(),H,(wk_mk [] (sR rfl rfl) BL.nil BK.nil)⟩)))))
theorem c_impl_RangeOk{a1:TRange}{r:Bool}(H:m_impl_RangeOk a1=some r):Fn Try.prog 129 (lent [(.agg (d_TRange a1))]) true [(.bool r)]:=by
 refine f129 (fle rfl) ?_
 rw[init_mk]
 refine AW.weaken (wk_mk [] (kv 0 (.agg [(dI a1.Lo),(dI a1.Hi)]) rfl rfl SL.nil) BL.nil BK.nil) ?_
 unfold m_impl_RangeOk at H
 unfold i129
 refine aV (oBox (n:=64) (m:=2) (cs:=[(dI a1.Lo),(dI a1.Hi)]) rfl eZ rfl rfl nZ (oMov eC (xQ (aV (oFaddrN (m:=0) rfl rfl (oLoadV (q:=0) (c:=(dI a1.Lo)) eZ bZ rfl rfl (oGeq eZ eC (oMov eZ ?_))))))))
 rcases oite H with⟨h2,H⟩|⟨h2,H⟩
 ·refine gDo eZ (dT h2) (oFaddrN (m:=0) rfl rfl (gDo rfl (dT h2) (oLoadV (q:=0) (c:=(dI a1.Lo)) eZ bZ rfl rfl (gDo rfl (dT h2) (oFaddrN (m:=1) rfl rfl (gDo rfl (dT h2) (oLoadV (q:=1) (c:=(dI a1.Hi)) eZ bZ rfl rfl (gDo rfl (dT h2) (oLss rfl eZ (oPickT rfl (dT h2) eZ (oMov eZ ?_)))))))))))
  rcases oite H with⟨h3,H⟩|⟨h3,H⟩
  ·refine gDo eZ (dT h3) (oFaddrN (m:=1) rfl rfl (gDo rfl (dT h3) (oLoadV (q:=1) (c:=(dI a1.Hi)) eZ bZ rfl rfl (gDo rfl (dT h3) (oLeq eZ eC (oPickT rfl (dT h3) eZ (oMov eZ (xQ (AW.weaken (wk_mk [64] (kr 2 rfl rfl SL.nil) (blR rfl) BK.nil) (AW.ret ?_))))))))))
   cases H
   exact eE rfl rfl
  ·refine gSkip eZ (dF h3) rfl (gSkip rfl (dF h3) rfl (gSkip rfl (dF h3) rfl (oPickF rfl (dF h3) eC (oMov eZ (xQ (AW.weaken (wk_mk [64] (kr 2 rfl rfl SL.nil) (blR rfl) BK.nil) (AW.ret ?_)))))))
   cases H
   exact eE rfl rfl
 ·refine gSkip eZ (dF h2) rfl (gSkip rfl (dF h2) rfl (gSkip rfl (dF h2) rfl (gSkip rfl (dF h2) rfl (gSkip rfl (dF h2) rfl (oPickF rfl (dF h2) eC (oMov eZ (gSkip eZ rfl rfl (gSkip rfl rfl rfl (gSkip rfl rfl rfl (oPickF rfl rfl eC (oMov eZ (xQ (AW.weaken (wk_mk [64] (kr 2 rfl rfl SL.nil) (blR rfl) BK.nil) (AW.ret ?_))))))))))))))
  cases H
  exact eE rfl rfl
theorem c_slices_Clone_Cell{a1:(List TCell)}{r:(List TCell)}(H:m_slices_Clone_Cell a1=some r):Fn Try.prog 104 (lent [(.sl 2 (List.map d_TCell a1))]) true [(.sl 2 (List.map d_TCell r))]:=by
 refine f104 (fle rfl) ?_
 rw[init_mk]
 refine AW.weaken (wk_mk [] (kv 0 (.one (.d (.sl 2 (List.map d_TCell a1)))) rfl rfl SL.nil) BL.nil BK.nil) ?_
 unfold m_slices_Clone_Cell at H
 unfold i104
 refine aV (oMov eC (xQ (AW.seqJ (fun t2:Unit=>(slices_Clone_Cell_j2 a1) t2=some r) (fun t2=>mk [(0,(.one (.d (.sl 2 (List.map d_TCell a1)))))] [] noG) ?_ ?_)))
 ·intro t2 H
  unfold slices_Clone_Cell_j2 at H
  refine aV (oBsliceZ (m:=320) rfl nZ (oMov rfl ?_))
  obtain⟨h4,H⟩:=oguard H
  refine oAppZ (f:=d_TCell) (m:=448) (own:=true) (ys:=a1) (q:=a1.length) rfl rfl rfl eZ (El.lent fun _ _=>rfl) rfl h4 (by decide) nZ (oMov eZ (xQ (AW.ret ?_)))
  obtain rfl:=(Option.some.inj H)
  exact endsR (RL.cons (RV.tmp eZ) (VO.sl bZ lm (allFlat fun _=>rfl)) RL.nil) (by decide)
 ·refine aV (oMov rfl ?_)
  rcases oite H with⟨h5,H⟩|⟨h5,H⟩
  ·refine oNilD0 eZ h5 (xQ (AW.condU eZ ?_ ?_))
   ·have H:(some ([]:(List TCell)))=some r:=by rw[←H];simp[List.eq_nil_of_length_eq_zero h5,slices_Clone_Cell_j2]
    refine aV (oMov eC (xQ (AW.ret (TQ.qr ?_))))
    cases H
    exact endsR (RL.cons (RV.tmp eZ) VO.zs RL.nil) List.nodup_nil
   ·exact AW.skip (TQ.qn ⟨(),H,(wk_mk [] (sR rfl rfl) BL.nil BK.nil)⟩)
  ·exact oNilD eZ h5 (xQ (AW.condF eZ rfl (AW.skip (TQ.qn ⟨(),H,(wk_mk [] (sR rfl rfl) BL.nil BK.nil)⟩))))
theorem c_impl_Range_has{a1:TRange}{a2:Int}{r:Bool}(H:m_impl_Range_has a1 a2=some r):Fn Try.prog 132 (lent [(.agg (d_TRange a1)),(.int .i64 a2)]) true [(.bool r)]:=by
 refine f132 (fle rfl) ?_
 rw[init_mk]
 refine AW.weaken (wk_mk [] (kv 0 (.agg [(dI a1.Lo),(dI a1.Hi)]) rfl rfl (kv 1 (oI a2) rfl rfl SL.nil)) BL.nil BK.nil) ?_
 unfold m_impl_Range_has at H
 unfold i132
 refine aV (oBox (n:=128) (m:=2) (cs:=[(dI a1.Lo),(dI a1.Hi)]) rfl eZ rfl rfl nZ (oMov eC (xQ (aV (oMov rfl (oFaddrN (m:=0) rfl rfl (oLoadV (q:=0) (c:=(dI a1.Lo)) eZ bZ rfl rfl (oFaddrN (m:=1) rfl rfl (oLoadV (q:=1) (c:=(dI a1.Hi)) eZ bZ rfl rfl (oSub eZ eC ?_))))))))))
 obtain⟨v3,h4,H⟩:=obind H
 refine oCall (u:=(oB v3)) eC Cl.fn (c_impl_from h4) (Ec rfl (Ec rfl (Ec eZ En))) (Vc Vp (Vc Vp (Vc Vp Vn))) rfl (oMov eZ (xQ (AW.ret ?_)))
 cases H
 exact eE rfl rfl
theorem c_impl_within_1{a1:TCell}{a2:TRange}{a3:Bool}{r:Bool}(H:m_impl_within_1 a1 a2 a3=some r):Fn Try.prog 131 (lent [(.agg (d_TCell a1)),(.ptr (d_TRange a2)),(.ptr (d_bool a3))]) true [(.bool r)]:=by
 refine f131 (fle rfl) ?_
 rw[init_mk]
 refine AW.weaken (wk_mk [] (kv 0 (.agg [(dI a1.Key),(dI a1.Value)]) rfl rfl (SL.cons (v:=(.one (.ptr (.bd (d_TRange a2) 0)))) (eS rfl eZ) rfl (VWk.one CWk.ptr) (SL.cons (v:=(.one (.ptr (.bd (d_bool a3) 0)))) (eS rfl (eS rfl eZ)) rfl (VWk.one CWk.ptr) SL.nil))) BL.nil BK.nil) ?_
 unfold m_impl_within_1 at H
 unfold i131
 refine aV (oBox (n:=192) (m:=2) (cs:=[(dI a1.Key),(dI a1.Value)]) rfl eZ rfl rfl nZ (oMov eC (xQ (aS (AW.regd (oLoadBA (es:=[(dI a2.Lo),(dI a2.Hi)]) rfl rfl (oFaddrN (m:=0) rfl rfl (oLoadV (q:=0) (c:=(dI a1.Key)) eZ bZ rfl rfl ?_))))))))
 obtain⟨v4,h5,H⟩:=obind H
 refine oCall (u:=(oB v4)) eC Cl.fn (c_impl_Range_has h5) (Ec rfl (Ec eZ En)) (Vc (VD.agg rfl) (Vc Vp Vn)) rfl (oLoadB (e:=(.bool a3)) rfl rfl (oBne rfl eZ (oMov eZ (xQ (AW.ret ?_)))))
 cases H
 exact eE rfl rfl
theorem c_slices_IndexFunc_Cell__within_1{a1:(List TCell)}{a2:TRange}{a3:Bool}{r:Int}(H:m_slices_IndexFunc_Cell__within_1 a1 a2 a3=some r):Fn Try.prog 158 (lent [(.sl 2 (List.map d_TCell a1)),(.fn 131 [.ptr (d_TRange a2),.ptr (d_bool a3)])]) true [(.int .i64 r)]:=by
 refine f158 (fle rfl) ?_
 rw[init_mk]
 refine AW.weaken (wk_mk [] (kv 0 (.one (.d (.sl 2 (List.map d_TCell a1)))) rfl rfl (SL.cons (v:=(.one (.fn 131 [(.bd (d_TRange a2) 0),(.bd (d_bool a3) 0)]))) (eS rfl eZ) rfl (VWk.one (CWk.fn (css:=[d_TRange a2,d_bool a3]))) SL.nil)) BL.nil BK.nil) ?_
 unfold m_slices_IndexFunc_Cell__within_1 at H
 unfold i158
 refine aV (oMov eC (xQ (AW.seqJ (fun t4:Unit=>slices_IndexFunc_Cell__within_1_j4 t4=some r) (fun t4=>mk [] [] noG) ?_ ?_)))
 ·intro t4 H
  unfold slices_IndexFunc_Cell__within_1_j4 at H
  refine aV (oMov eC (xQ (AW.ret ?_)))
  cases H
  exact eE rfl rfl
 ·refine aV (oMov rfl (oLenD eZ (n:=a1.length) lm (oMov eC (xQ (AW.block (AW.iter (fun s6:Int=>mk [(0,(.one (.d (.sl 2 (List.map d_TCell a1))))),(1,(.one (.fn 131 [(.bd (d_TRange a2) 0),(.bd (d_bool a3) 0)]))),(7,(oI (a1.length:Int))),(8,(oI s6))] [] noG) H (wk_mk [] (sR rfl rfl) BL.nil BK.nil) ?_))))))
  intro kb7 s6 H
  unfold slices_IndexFunc_Cell__within_1_b6 at H
  refine aV (oLss rfl rfl (xQ (aS ?_)))
  rcases oite H with⟨h8,H⟩|⟨h8,H⟩
  ·refine AW.condT eZ (dT h8) (AW.skip (TQ.qn (aS (AW.block (aV (oMov rfl (oMov eZ (xQ (aV (oMov rfl (oMov rfl (oMov rfl ?_))))))))))))
   obtain⟨v9,h10,H⟩:=obind H
   refine oAtD rfl eZ h10 (oLoadBA (es:=[(dI v9.Key),(dI v9.Value)]) eZ rfl ?_)
   obtain⟨v11,h12,H⟩:=obind H
   refine oCall (u:=(oB v11)) rfl Cl.fn (c_impl_within_1 h12) (Ec eZ En) (Vc (VD.agg rfl) (Vc VD.ptrB (Vc VD.ptrB Vn))) rfl (xQ ?_)
   rcases oite H with⟨h13,H⟩|⟨h13,H⟩
   ·refine AW.condT eZ h13 (aV (oMov rfl (oMov eZ (xQ (AW.ret (BQ.qr (TQ.qr (TQ.qr (BQ.qr (TQ.qr ?_))))))))))
    cases H
    exact eE rfl rfl
   ·exact AW.condF eZ (nt h13) (AW.skip (BQ.qn (TQ.qn (aR (oAdd rfl eC (oMov eZ (xNil (TQ.qn ⟨(IntKind.wrap .i64 (s6+1)),H,(wk_mk [] (sR rfl rfl) BL.nil BK.nil)⟩))))))))
  ·exact AW.condF eZ (dF h8) (AW.exit (TQ.qe (TQ.qe (BQ.qe (TQ.qn ⟨(),H,(wk_mk [] SL.nil BL.nil BK.nil)⟩)))))
theorem c_slices_DeleteFunc_Cell__within_1{a1:(List TCell)}{a2:TRange}{a3:Bool}{r:(List TCell)}(H:m_slices_DeleteFunc_Cell__within_1 a1 a2 a3=some r):Fn Try.prog 130 [⟨(.sl 2 (List.map d_TCell a1)),.g⟩,⟨(.fn 131 [.ptr (d_TRange a2),.ptr (d_bool a3)]),.b⟩] true [(.sl 2 (List.map d_TCell r))]:=by
 refine m130 (fle rfl) (fC nZ rfl fN) rfl ?_
 rw[initM_mk]
 refine AW.weaken (t:=mk [(0,(.one (.sl 0 0 a1.length))),(1,(.one (.fn 131 [(.bd (d_TRange a2) 0),(.bd (d_bool a3) 0)])))] [(0,(.data 2 (List.map d_TCell a1) true none))] (lk [])) (wk_mkG (gl:=[]) [] (SL.cons (v:=(.one (.sl 0 0 a1.length))) eZ rfl (VWk.one (CWk.len lm)) (SL.cons (v:=(.one (.fn 131 [(.bd (d_TRange a2) 0),(.bd (d_bool a3) 0)]))) (eS rfl eZ) rfl (VWk.one (CWk.fn (css:=[d_TRange a2,d_bool a3]))) SL.nil)) (blR rfl) (BK.cons (n:=0) rfl bZ rfl rfl BK.nil) GK.nil) ?_
 unfold m_slices_DeleteFunc_Cell__within_1 at H
 unfold i130
 refine aV (oMov eC (xQ (aV (oMov rfl (oMov rfl ?_)))))
 obtain⟨v4,h5,H⟩:=obind H
 refine oCall (u:=(oI v4)) eC Cl.fn (c_slices_IndexFunc_Cell__within_1 h5) (Ec rfl (Ec eZ En)) (Vc (VD.sl bZ lm) (Vc (VD.fn (PDs.cons VD.ptrB (PDs.cons VD.ptrB PDs.nil))) Vn)) rfl (oMov eZ (xQ (aS (aV (oMov eZ (oEql eZ eC (xQ ?_)))))))
 rcases oite H with⟨h6,H⟩|⟨h6,H⟩
 ·refine AW.condT eZ (dT h6) (aV (oMov rfl (oMov eZ (xQ (AW.ret (TQ.qr ?_))))))
  cases H
  exact endsRM (RL.cons (RV.tmp eZ) (VO.sl bZ lm (allFlat fun _=>rfl)) RL.nil) (ML.give (ML.lent ML.nil)) (by decide)
 ·refine AW.condF eZ (dF h6) (AW.skip (TQ.qn (AW.seqJ (fun t7:((List TCell)×Int)=>slices_DeleteFunc_Cell__within_1_j7 t7=some r) (fun t7=>mk [(0,(.one (.sl 320128 0 t7.1.length))),(5,(oI t7.2))] [(320128,(.data 2 (List.map d_TCell t7.1) true none))] (lk [])) ?_ ?_)))
  ·intro t7 H
   unfold slices_DeleteFunc_Cell__within_1_j7 at H
   refine aV (oMov eZ (oMov rfl ?_))
   obtain⟨h9,H⟩:=oguard H
   refine oCutN (r:=(Int.toNat t7.2)) (s:=(Int.toNat ((t7.1.length:Nat):Int) - Int.toNat t7.2)) rfl bZ rfl (Bd.at eZ) Bd.no rfl rfl h9 ?_
   obtain⟨h10,H⟩:=oguard H
   refine oClear (zv:=(TCell.mk 0 0)) eZ bZ rfl rfl h10 (xQ (aV (oMov rfl (oMov rfl ?_))))
   obtain⟨h11,H⟩:=oguard H
   refine oCutN (r:=0) (s:=(Int.toNat t7.2)) rfl bZ rfl Bd.no (Bd.at eZ) rfl rfl h11 (oMov eZ (xQ (AW.weaken (wk_take 320128 (Int.toNat t7.2) bZ) (AW.ret ?_))))
   cases H
   exact endsRM (RL.cons (RV.tmp eZ) (VO.sl bZ (by first|(simp;done)|(simp;omega)|omega|(simp only[List.length_map];omega)) (allFlat fun _=>rfl)) RL.nil) (ML.give (ML.lent ML.nil)) (by decide)
  ·refine aV (oMov rfl (oAdd eZ eC (oMov eZ (xQ (AW.block (AW.iter (fun s12:((List TCell)×Int×Int)=>mk [(0,(.one (.sl 320192 0 s12.1.length))),(1,(.one (.fn 131 [(.bd (d_TRange a2) 0),(.bd (d_bool a3) 0)]))),(5,(oI s12.2.1)),(6,(oI s12.2.2))] [(320192,(.data 2 (List.map d_TCell s12.1) true none))] (lk [])) H ((wk_mkG [] (sR rfl rfl) (blR rfl) (bkR rfl rfl rfl) GK.nil).trans (wk_renG 0 320192 rfl rfl (nR rfl) GR.nil)) ?_))))))
   intro kb13 s12 H
   unfold slices_DeleteFunc_Cell__within_1_b12 at H
   refine aS (aV (oMov rfl (oMov rfl (oLenN eZ (oLss rfl eZ (xQ ?_))))))
   rcases oite H with⟨h14,H⟩|⟨h14,H⟩
   ·refine AW.condT eZ (dT h14) (AW.skip (TQ.qn (aS (AW.block (aV (oMov rfl (oMov rfl ?_)))))))
    obtain⟨v15,h16,H⟩:=obind H
    refine oAtN rfl eZ bZ rfl h16 (oLoadDA (t:=v15) (es:=[(.int .i64 v15.Key),(.int .i64 v15.Value)]) (cs:=[(dI v15.Key),(dI v15.Value)]) eZ bZ (idx_at h16) rfl rfl rfl (oVar (n:=448) (m:=2) rfl rfl (nR rfl) (oStoreV (es:=[(dI v15.Key),(dI v15.Value)]) eZ rfl rfl rfl bZ rfl (xQ (aV (oMov rfl (oLoadVA (es:=[(dI v15.Key),(dI v15.Value)]) rfl bZ rfl ?_)))))))
    obtain⟨v17,h18,H⟩:=obind H
    refine oCall (u:=(oB v17)) rfl Cl.fn (c_impl_within_1 h18) (Ec eZ En) (Vc (VD.agg rfl) (Vc VD.ptrB (Vc VD.ptrB Vn))) rfl (oInv eZ (xQ (AW.weaken (wk_mkG [] (kr 29 rfl rfl (kr 7 rfl rfl (kr 0 rfl rfl (kr 1 rfl rfl (kr 5 rfl rfl (kr 6 rfl rfl SL.nil)))))) (blR rfl) (BK.cons (n:=448) rfl bZ rfl rfl (BK.cons (n:=320192) rfl (bR rfl) rfl rfl BK.nil)) GK.nil) ?_)))
    rcases oite H with⟨h19,H⟩|⟨h19,H⟩
    ·exact AW.condF eZ (cN h19) (AW.skip (BQ.qn (TQ.qn (aR (oMov rfl (oAdd eZ eC (oMov eZ (xNil (TQ.qn ⟨(s12.1,s12.2.1,(IntKind.wrap .i64 (s12.2.2+1))),H,(wk_mkG [448] (sR rfl rfl) (blR rfl) (bkR rfl rfl rfl) GK.nil)⟩)))))))))
    ·refine AW.condT eZ (cN (nt h19)) (aV (oMov rfl (oMov rfl (oLoadVA (es:=[(dI v15.Key),(dI v15.Value)]) rfl bZ rfl ?_))))
     obtain⟨v20,h21,H⟩:=obind H
     exact oAtN rfl rfl (bR rfl) rfl h21 (oStoreD (t:=v20) (t':=v15) (es:=[(.int .i64 v15.Key),(.int .i64 v15.Value)]) eZ rfl rfl rfl (bR rfl) (idx_at h21) rfl rfl (xQ (aR (oMov rfl (oAdd eZ eC (oMov eZ (xNil (BQ.qn (TQ.qn (aR (oMov rfl (oAdd eZ eC (oMov eZ (xNil (TQ.qn ⟨(s12.1.set (Int.toNat s12.2.1) v15,(IntKind.wrap .i64 (s12.2.1+1)),(IntKind.wrap .i64 (s12.2.2+1))),H,(wk_mkG [448] (SL.cons rfl rfl (VWk.one (CWk.len (by first|(simp;done)|(simp;omega)|omega|(simp only[List.length_map];omega)))) (sR rfl rfl)) (blR rfl) (bkR rfl rfl rfl) GK.nil)⟩)))))))))))))))
   ·exact AW.condF eZ (dF h14) (AW.exit (TQ.qe (TQ.qe (BQ.qe (TQ.qn ⟨(s12.1,s12.2.1),H,((wk_mkG [] (sR rfl rfl) (blR rfl) (bkR rfl rfl rfl) GK.nil).trans (wk_renG 320192 320128 rfl rfl (nR rfl) GR.nil))⟩)))))
theorem c_impl_within{a1:(List TCell)}{a2:TRange}{a3:Bool}{r:(List TCell)}(H:m_impl_within a1 a2 a3=some r):Fn Try.prog 98 (lent [(.sl 2 (List.map d_TCell a1)),(.agg (d_TRange a2)),(.bool a3)]) true [(.sl 2 (List.map d_TCell r))]:=by
 refine f98 (fle rfl) ?_
 rw[init_mk]
 refine AW.weaken (t:=mk [(0,(.one (.d (.sl 2 (List.map d_TCell a1))))),(1,(.agg [(dI a2.Lo),(dI a2.Hi)])),(2,(oB a3))] [] (lk [])) (wk_mk [] (sR rfl rfl) BL.nil BK.nil) ?_
 unfold m_impl_within at H
 unfold i98
 refine aV (oBox (n:=256) (m:=2) (cs:=[(dI a2.Lo),(dI a2.Hi)]) rfl rfl rfl rfl nZ (oBox (n:=320) (m:=1) (cs:=[(.d (.bool a3))]) rfl rfl rfl rfl (nR rfl) (oMov eC (xQ (aS (AW.seqJ (fun t4:Bool=>(impl_within_j4 a1 a2 a3) t4=some r) (fun t4=>mk [(0,(.one (.d (.sl 2 (List.map d_TCell a1))))),(4,(.one (.ptr (.nm 256 0 0)))),(5,(.one (.ptr (.nm 320 0 0)))),(14,(oB t4))] [(256,(.vars 2 [(dI a2.Lo),(dI a2.Hi)])),(320,(.vars 1 [(.d (.bool a3))]))] (lk [])) ?_ ?_))))))
 ·intro t4 H
  unfold impl_within_j4 at H
  rcases oite H with⟨h6,H⟩|⟨h6,H⟩
  ·refine AW.condT rfl h6 (aV (oMov eC (xQ (AW.ret (TQ.qr ?_)))))
   cases H
   exact endsR (RL.cons (RV.tmp eZ) VO.zs RL.nil) List.nodup_nil
  ·refine AW.condF rfl (nt h6) (AW.skip (TQ.qn (aS (AW.regm (rmOne (oMov eZ (xNil (rmOne ?_))))))))
   obtain⟨v7,h8,H⟩:=obind H
   refine oCallN (u:=(.one (.sl 1024 0 v7.length))) (bs:=[(1024,(.data 2 (List.map d_TCell v7) true none))]) eC Cl.fn (c_slices_Clone_Cell h8) (Ec eZ En) (Vc Vp Vn) (by simp[bindR,bindV,bindVs,bindC,bindCs]) rfl (fC (nR rfl) rfl (fC (nR rfl) rfl fN)) (xNil (rmOne (oMkfn (ps:=[(.nm 256 0 0),(.nm 320 0 0)]) (Ec rfl (Ec rfl En)) (xNil ?_))))
   obtain⟨v9,h10,H⟩:=obind H
   refine rmCall (ON:=[1024]) (ls:=[256,320]) (G:=[1024]) (E:=[1024]) (MB:=[]) (u:=(.one (.sl 1152 0 v9.length))) (bs:=[(1152,(.data 2 (List.map d_TCell v9) true none))]) eC Cl.fn (c_slices_DeleteFunc_Cell__within_1 h10) (Ec rfl (Ec eZ En)) (AO.give (VO.sl bZ lm (allFlat fun _=>rfl)) (AO.lent (VD.fn (PDs.cons (VD.ptrN (bR rfl) (CDs.plain (CDs.plain CDs.nil))) (PDs.cons (VD.ptrN (bR rfl) (CDs.plain CDs.nil)) PDs.nil))) rfl AO.nil)) rfl rfl rfl SZ.nil (erL.cons (v':=(.one (.fn 131 [(.nm 256 0 0),(.nm 320 0 0)]))) rfl (erL.cons (v':=(.one .any)) rfl (erL.cons (v':=(.one (.d (.sl 2 (List.map d_TCell a1))))) rfl (erL.cons (v':=(.one (.d (.sl 2 (List.map d_TCell a1))))) rfl (erL.cons (v':=(.one (.ptr (.nm 256 0 0)))) rfl (erL.cons (v':=(.one (.ptr (.nm 320 0 0)))) rfl (erL.cons (v':=(oB t4)) rfl erL.nil))))))) (erH.drop rfl (erH.cons (v':=(.vars 2 [(dI a2.Lo),(dI a2.Hi)])) rfl rfl (erH.cons (v':=(.vars 1 [(.d (.bool a3))])) rfl rfl erH.nil))) erL.nil (by simp[bindR,bindV,bindVs,bindC,bindCs]) rfl (fC (nR rfl) rfl (fC (nR rfl) rfl fN)) (rmRest (oMov eZ (xQ (AW.ret ?_))))
   obtain rfl:=(Option.some.inj H)
   exact endsR (RL.cons (RV.tmp eZ) (VO.sl bZ lm (allFlat fun _=>rfl)) RL.nil) (by decide)
 ·refine aR (oMov rfl ?_)
  obtain⟨v11,h12,H⟩:=obind H
  refine oCall (u:=(oB v11)) eC Cl.fn (c_impl_StoreOk h12) (Ec eZ En) (Vc Vp Vn) rfl (oInv eZ (oMov eZ ?_))
  rcases oite H with⟨h13,H⟩|⟨h13,H⟩
  ·refine gDo eZ (cN h13) (oLoadVA (es:=[(dI a2.Lo),(dI a2.Hi)]) rfl (bR rfl) rfl (gDo rfl (cN h13) ?_))
   obtain⟨v14,h15,H⟩:=obind H
   exact oCall (u:=(oB v14)) eC Cl.fn (c_impl_RangeOk h15) (Ec eZ En) (Vc (VD.agg rfl) Vn) rfl (gDo rfl (cN h13) (oInv eZ (oPickF rfl (cN h13) eZ (xNil (TQ.qn ⟨(!v14),H,(wk_mkG [] (sR rfl rfl) (blR rfl) (bkR rfl rfl rfl) GK.nil)⟩)))))
  ·exact gSkip eZ (cN (nt h13)) rfl (gSkip rfl (cN (nt h13)) rfl (gSkip rfl (cN (nt h13)) rfl (oPickT rfl (cN (nt h13)) eC (xNil (TQ.qn ⟨true,H,(wk_mkG [] (sR rfl rfl) (blR rfl) (bkR rfl rfl rfl) GK.nil)⟩)))))
theorem c_impl_StoreCut{a1:(List TCell)}{a2:TRange}{r:(List TCell)}(H:m_impl_StoreCut a1 a2=some r):Fn Try.prog 39 (lent [(.sl 2 (List.map d_TCell a1)),(.agg (d_TRange a2))]) true [(.sl 2 (List.map d_TCell r))]:=by
 refine f39 (fle rfl) ?_
 rw[init_mk]
 refine AW.weaken (wk_mk [] (kv 0 (.one (.d (.sl 2 (List.map d_TCell a1)))) rfl rfl (kv 1 (.agg [(dI a2.Lo),(dI a2.Hi)]) rfl rfl SL.nil)) BL.nil BK.nil) ?_
 unfold m_impl_StoreCut at H
 unfold i39
 refine aV (oBox (n:=192) (m:=2) (cs:=[(dI a2.Lo),(dI a2.Hi)]) rfl rfl rfl rfl nZ (oMov eC (xQ (aV (oMov rfl (oLoadVA (es:=[(dI a2.Lo),(dI a2.Hi)]) rfl bZ rfl ?_))))))
 obtain⟨v3,h4,H⟩:=obind H
 refine oCallN (u:=(.one (.sl 448 0 v3.length))) (bs:=[(448,(.data 2 (List.map d_TCell v3) true none))]) eC Cl.fn (c_impl_within h4) (Ec rfl (Ec eZ (Ec eC En))) (Vc Vp (Vc (VD.agg rfl) (Vc Vp Vn))) (by simp[bindR,bindV,bindVs,bindC,bindCs]) rfl (fC (nR rfl) rfl (fC (nR rfl) rfl fN)) (oMov eZ (xQ (AW.ret ?_)))
 obtain rfl:=(Option.some.inj H)
 exact endsR (RL.cons (RV.tmp eZ) (VO.sl bZ lm (allFlat fun _=>rfl)) RL.nil) (by decide)
theorem c_impl_StoreScan{a1:(List TCell)}{a2:TRange}{r:(List TCell)}(H:m_impl_StoreScan a1 a2=some r):Fn Try.prog 40 (lent [(.sl 2 (List.map d_TCell a1)),(.agg (d_TRange a2))]) true [(.sl 2 (List.map d_TCell r))]:=by
 refine f40 (fle rfl) ?_
 rw[init_mk]
 refine AW.weaken (wk_mk [] (kv 0 (.one (.d (.sl 2 (List.map d_TCell a1)))) rfl rfl (kv 1 (.agg [(dI a2.Lo),(dI a2.Hi)]) rfl rfl SL.nil)) BL.nil BK.nil) ?_
 unfold m_impl_StoreScan at H
 unfold i40
 refine aV (oBox (n:=192) (m:=2) (cs:=[(dI a2.Lo),(dI a2.Hi)]) rfl rfl rfl rfl nZ (oMov eC (xQ (aV (oMov rfl (oLoadVA (es:=[(dI a2.Lo),(dI a2.Hi)]) rfl bZ rfl ?_))))))
 obtain⟨v3,h4,H⟩:=obind H
 refine oCallN (u:=(.one (.sl 448 0 v3.length))) (bs:=[(448,(.data 2 (List.map d_TCell v3) true none))]) eC Cl.fn (c_impl_within h4) (Ec rfl (Ec eZ (Ec eC En))) (Vc Vp (Vc (VD.agg rfl) (Vc Vp Vn))) (by simp[bindR,bindV,bindVs,bindC,bindCs]) rfl (fC (nR rfl) rfl (fC (nR rfl) rfl fN)) (oMov eZ (xQ (AW.ret ?_)))
 obtain rfl:=(Option.some.inj H)
 exact endsR (RL.cons (RV.tmp eZ) (VO.sl bZ lm (allFlat fun _=>rfl)) RL.nil) (by decide)
theorem c_slices_Grow_Cell{a1 r:List TCell}{a2:Int}(H:m_slices_Grow_Cell a1 a2=some r):Fn Try.prog 106 [⟨(.sl 2 []),.z⟩,⟨(.int .i64 a2),.b⟩] true [(.sl 2 (List.map d_TCell r))]:=by
 obtain⟨⟨h1,h2⟩,H⟩:=oguard H
 cases H
 obtain⟨n,rfl⟩:∃n:Nat,a2=(n:Int):=⟨Int.toNat a2,by omega⟩
 exact grow_ok Try.grow106 (by kernel_rfl) (by kernel_rfl) (by kernel_rfl) n (by omega)
theorem c_slices_Concat_Cell{a1:(List (List TCell))}{r:(List TCell)}(H:m_slices_Concat_Cell a1=some r):Fn Try.prog 52 (lent [(.sl 1 (List.map dS_TCell a1))]) true [(.sl 2 (List.map d_TCell r))]:=by
 refine f52 (fle rfl) ?_
 rw[init_mk]
 refine AW.weaken (t:=mk [(0,(.one (.d (.sl 1 (List.map dS_TCell a1)))))] [] (lk [])) (wk_mk [] (sR rfl rfl) BL.nil BK.nil) ?_
 unfold m_slices_Concat_Cell at H
 unfold i52
 refine aV (oMov eC (xQ (aV (oMov eC (xQ (AW.seqJ (fun t2:Int=>(slices_Concat_Cell_j2 a1) t2=some r) (fun t2=>mk [(0,(.one (.d (.sl 1 (List.map dS_TCell a1))))),(3,(oI t2))] [] (lk [])) ?_ ?_))))))
 ·intro t2 H
  unfold slices_Concat_Cell_j2 at H
  refine aS (AW.regm (rmOne (oMov rfl (xNil ?_))))
  obtain⟨v4,h5,H⟩:=obind H
  refine rmCall (ON:=[]) (ls:=[]) (G:=[]) (E:=[]) (MB:=[]) (u:=(.one (.sl 1536 0 v4.length))) (bs:=[(1536,(.data 2 (List.map d_TCell v4) true none))]) eC Cl.fn (c_slices_Grow_Cell h5) (Ec eC (Ec eZ En)) (AO.zs (AO.lent Vp rfl AO.nil)) rfl rfl rfl SZ.nil (erL.cons (v':=(oI t2)) rfl (erL.cons (v':=(.one (.d (.sl 1 (List.map dS_TCell a1))))) rfl (erL.cons (v':=(oI t2)) rfl erL.nil))) erH.nil erL.nil (by simp[bindR,bindV,bindVs,bindC,bindCs]) rfl (fC nZ rfl (fC nZ rfl fN)) (rmRest (oMov eZ (xQ (AW.seqJ (fun t6:(List TCell)=>slices_Concat_Cell_j6 t6=some r) (fun t6=>mk [(6,(.one (.sl 320128 0 t6.length)))] [(320128,(.data 2 (List.map d_TCell t6) true none))] (lk [])) ?_ ?_))))
  ·intro t6 H
   unfold slices_Concat_Cell_j6 at H
   refine aV (oMov eZ (oMov eZ (xQ (AW.ret ?_))))
   obtain rfl:=(Option.some.inj H)
   exact endsR (RL.cons (RV.tmp eZ) (VO.sl bZ lm (allFlat fun _=>rfl)) RL.nil) (by decide)
  ·refine aV (oMov rfl (oLenD eZ (n:=a1.length) lm (oMov eC (xQ (AW.block (AW.iter (fun s8:((List TCell)×Int)=>mk [(6,(.one (.sl 320192 0 s8.1.length))),(25,(.one (.d (.sl 1 (List.map dS_TCell a1))))),(26,(oI (a1.length:Int))),(27,(oI s8.2))] [(320192,(.data 2 (List.map d_TCell s8.1) true none))] (lk [])) H ((wk_mkG [] (sR rfl rfl) (blR rfl) (bkR rfl rfl rfl) GK.nil).trans (wk_renG 1536 320192 rfl rfl (nR rfl) GR.nil)) ?_))))))
   intro kb9 s8 H
   unfold slices_Concat_Cell_b8 at H
   refine aV (oLss rfl rfl (xQ (aS ?_)))
   rcases oite H with⟨h10,H⟩|⟨h10,H⟩
   ·refine AW.condT eZ (dT h10) (AW.skip (TQ.qn (aS (AW.block (aV ?_)))))
    obtain⟨v11,h12,H⟩:=obind H
    refine oAtD rfl rfl h12 (oLoadB (e:=(.sl 2 (List.map d_TCell v11))) eZ rfl (oMov eZ (xQ (aR (oMov rfl (oMov rfl ?_))))))
    obtain⟨h13,H⟩:=oguard H
    exact oAppNG (f:=d_TCell) (xs:=s8.1) (ys:=v11) (q:=(s8.1++v11).length) rfl eZ bZ rfl (El.lent fun _ _=>rfl) rfl h13 (by decide) (by decide) (erL.cons (v':=(.one (.d (.sl 2 (List.map d_TCell v11))))) rfl (erL.cons (v':=(.one .any)) rfl (erL.cons (v':=(.one (.d (.sl 2 (List.map d_TCell v11))))) rfl (erL.cons (v':=(.one (.d (.sl 2 (List.map d_TCell v11))))) rfl (erL.cons (v':=(.one (.ptr (.bd (dS_TCell v11) 0)))) rfl (erL.cons (v':=(oB (decide (s8.2 < (a1.length:Int))))) rfl (erL.cons (v':=(.one .any)) rfl (erL.cons (v':=(.one (.d (.sl 1 (List.map dS_TCell a1))))) rfl (erL.cons (v':=(oI (a1.length:Int))) rfl (erL.cons (v':=(oI s8.2)) rfl erL.nil)))))))))) (erH.drop rfl erH.nil) GK.nil (oMov eZ (xNil (BQ.qn (TQ.qn (aR (oAdd rfl eC (oMov eZ (xNil (TQ.qn ⟨((s8.1++v11),(IntKind.wrap .i64 (s8.2+1))),H,(wk_mkG [] (sR rfl rfl) (blR rfl) (bkR rfl rfl rfl) GK.nil)⟩)))))))))
   ·exact AW.condF eZ (dF h10) (AW.exit (TQ.qe (TQ.qe (BQ.qe (TQ.qn ⟨s8.1,H,((wk_mkG [] (sR rfl rfl) (blR rfl) (bkR rfl rfl rfl) GK.nil).trans (wk_renG 320192 320128 rfl rfl (nR rfl) GR.nil))⟩)))))
 ·refine aV (oMov rfl (oLenD eZ (n:=a1.length) lm (oMov eC (xQ (AW.block (AW.iter (fun s14:(Int×Int)=>mk [(0,(.one (.d (.sl 1 (List.map dS_TCell a1))))),(3,(oI s14.1)),(9,(.one (.d (.sl 1 (List.map dS_TCell a1))))),(10,(oI (a1.length:Int))),(11,(oI s14.2))] [] (lk [])) H (wk_mkG [] (sR rfl rfl) BL.nil BK.nil GK.nil) ?_))))))
  intro kb15 s14 H
  unfold slices_Concat_Cell_b14 at H
  refine aV (oLss rfl rfl (xQ (aS ?_)))
  rcases oite H with⟨h16,H⟩|⟨h16,H⟩
  ·refine AW.condT eZ (dT h16) (AW.skip (TQ.qn (aS (AW.block (aV ?_)))))
   obtain⟨v17,h18,H⟩:=obind H
   refine oAtD rfl rfl h18 (oLoadB (e:=(.sl 2 (List.map d_TCell v17))) eZ rfl (oMov eZ (xQ (aV (oMov rfl (oMov rfl (oLenD eZ (n:=v17.length) lm (oAdd rfl eZ (oMov eZ (xQ (aV (oMov eZ (oLss eZ eC (xQ (AW.weaken (wk_mkG [] (kr 20 rfl rfl (kr 3 rfl rfl (kr 0 rfl rfl (kr 9 rfl rfl (kr 10 rfl rfl (kr 11 rfl rfl SL.nil)))))) BL.nil BK.nil GK.nil) ?_)))))))))))))))
   rcases oite H with⟨h19,H⟩|⟨h19,H⟩
   ·refine AW.condT eZ (dT h19) (aR ?_)
    cases H
   ·exact AW.condF eZ (dF h19) (AW.skip (BQ.qn (TQ.qn (aR (oAdd rfl eC (oMov eZ (xNil (TQ.qn ⟨((IntKind.wrap .i64 (s14.1+(v17.length:Int))),(IntKind.wrap .i64 (s14.2+1))),H,(wk_mkG [] (sR rfl rfl) BL.nil BK.nil GK.nil)⟩))))))))
  ·exact AW.condF eZ (dF h16) (AW.exit (TQ.qe (TQ.qe (BQ.qe (TQ.qn ⟨s14.1,H,(wk_mkG [] (sR rfl rfl) BL.nil BK.nil GK.nil)⟩)))))
theorem c_slices_SortFunc_Cell__StoreJoin_1{a1 r:List TCell}(H:m_slices_SortFunc_Cell__StoreJoin_1 a1=some r):Fn Try.prog 53 [⟨(.sl 2 (List.map d_TCell a1)),.m (.sl 2 (List.map d_TCell r))⟩,⟨(.fn 54 []),.b⟩] true []:=by
 unfold m_slices_SortFunc_Cell__StoreJoin_1 at H
 split at H
 ·rename_i h
  cases H
  have e1:List.map d_TCell a1=(a1.pmap (fun c hc=>(⟨(c.Key,c.Value),hc⟩:KC)) h.1).map dK:=by rw[List.map_pmap];exact(List.pmap_eq_map _).symm
  have e2:∀l:List KC,List.map d_TCell (l.map fun p=>(⟨p.1.1,p.1.2⟩:TCell))=l.map dK:=fun l=>by rw[List.map_map];rfl
  rw[e1,e2]
  exact sortK_fn Try.sort53 (by kernel_rfl) (by kernel_rfl) (fun w=>run_isAgg Try.underlying74) (fun w=>(run_sizeOf (Option.some_get (by kernel_rfl:(Try.prog.info? 74).isSome=true)).symm).trans (by kernel_rfl)) (enters_of Try.func54 (by kernel_rfl) rfl) Try.less54 _ (by simp;omega)
 ·cases H
theorem c_impl_StoreJoin{a1:(List TCell)}{a2:(List TCell)}{r:((List TCell)×Bool)}(H:m_impl_StoreJoin a1 a2=some r):Fn Try.prog 11 (lent [(.sl 2 (List.map d_TCell a1)),(.sl 2 (List.map d_TCell a2))]) true [(.sl 2 (List.map d_TCell r.1)),(.bool r.2)]:=by
 refine f11 (fle rfl) ?_
 rw[init_mk]
 refine AW.weaken (t:=mk [(0,(.one (.d (.sl 2 (List.map d_TCell a1))))),(1,(.one (.d (.sl 2 (List.map d_TCell a2)))))] [] (lk [])) (wk_mk [] (sR rfl rfl) BL.nil BK.nil) ?_
 unfold m_impl_StoreJoin at H
 unfold i11
 refine aV (oMov eC (oMov eC (xQ (aS (AW.seqJ (fun t3:Bool=>(impl_StoreJoin_j3 a1 a2) t3=some r) (fun t3=>mk [(0,(.one (.d (.sl 2 (List.map d_TCell a1))))),(1,(.one (.d (.sl 2 (List.map d_TCell a2))))),(22,(oB t3))] [] (lk [])) ?_ ?_)))))
 ·intro t3 H
  unfold impl_StoreJoin_j3 at H
  rcases oite H with⟨h5,H⟩|⟨h5,H⟩
  ·refine AW.condT rfl h5 (aV (oMov eC (oMov eC (xQ (AW.ret (TQ.qr ?_))))))
   cases H
   exact endsR (RL.cons (RV.tmp rfl) VO.zs (RL.cons (RV.tmp eZ) (VO.flat rfl) RL.nil)) List.nodup_nil
  ·refine AW.condF rfl (nt h5) (AW.skip (TQ.qn (aV (oMov eZ (oMov rfl (oBslice (m:=1600) (q:=2) (cs:=[(.d (.sl 2 (List.map d_TCell a1))),(.d (.sl 2 (List.map d_TCell a2)))]) rfl (PsCons rfl (PsCons eZ PsNil)) rfl (List.cons_ne_nil _ _) (by simp) nZ ?_))))))
   obtain⟨v6,h7,H⟩:=obind H
   refine oCallN (u:=(.one (.sl 1664 0 v6.length))) (bs:=[(1664,(.data 2 (List.map d_TCell v6) true none))]) eC Cl.fn (c_slices_Concat_Cell h7) (Ec eZ En) (Vc (VD.vars [(.sl 2 (List.map d_TCell a1)),(.sl 2 (List.map d_TCell a2))] bZ rfl rfl) Vn) (by simp[bindR,bindV,bindVs,bindC,bindCs]) rfl (fC (nR rfl) rfl (fC (nR rfl) rfl fN)) (oMov eZ (xQ (aS (AW.regm (rmOne (oMov eZ (xNil ?_)))))))
   obtain⟨v8,h9,H⟩:=obind H
   obtain⟨h10,H⟩:=oguard H
   refine rmCallI (ON:=[1664]) (ls:=[]) (G:=[]) (E:=[subKey 1664]) (MB:=[(1664,(.data 2 (List.map d_TCell v8) true none))]) (u:=(.tup [])) eC Cl.fn (c_slices_SortFunc_Cell__StoreJoin_1 h9) (Ec eZ (Ec eC En)) (AO.mut (VO.sl bZ lm (allFlat fun _=>rfl)) (AO.lent (VD.fn PDs.nil) rfl AO.nil)) rfl rfl rfl (SZ.cons bZ SZ.nil) (erL.cons (v':=(.one (.sl 1664 0 v6.length))) rfl (erL.cons (v':=(.one (.sl 1664 0 v6.length))) rfl (erL.cons (v':=(.one (.sl 1664 0 v6.length))) rfl (erL.cons (v':=(.one (.sl 1600 0 2))) rfl (erL.cons (v':=(.one (.d (.sl 2 (List.map d_TCell a2))))) rfl (erL.cons (v':=(.one (.d (.sl 2 (List.map d_TCell a1))))) rfl (erL.cons (v':=(.one (.d (.sl 2 (List.map d_TCell a1))))) rfl (erL.cons (v':=(.one (.d (.sl 2 (List.map d_TCell a2))))) rfl (erL.cons (v':=(oB t3)) rfl erL.nil))))))))) (erH.cons (v':=(.data 2 (List.map d_TCell v6) true none)) rfl rfl (erH.cons (v':=(.vars 1 [(.d (.sl 2 (List.map d_TCell a1))),(.d (.sl 2 (List.map d_TCell a2)))])) rfl rfl erH.nil)) erL.nil rfl rfl (rmRest (xQ (aS (aV (oMov rfl ?_)))))
   obtain⟨v11,h12,H⟩:=obind H
   refine oCall (u:=(oB v11)) eC Cl.fn (c_impl_StoreOk h12) (Ec eZ En) (Vc (VD.sl bZ (by first|(simp;done)|(simp;omega)|omega|(simp only[List.length_map];omega))) Vn) rfl (oInv eZ (xQ ?_))
   rcases oite H with⟨h13,H⟩|⟨h13,H⟩
   ·refine AW.condF eZ (cN h13) (AW.skip (TQ.qn (aV (oMov rfl (oMov eZ (oMov eC (xQ (AW.weaken (wk_mkG [1600] (kr 5 rfl rfl (kr 4 rfl rfl SL.nil)) (blR rfl) (BK.cons (n:=1664) rfl bZ rfl rfl BK.nil) GK.nil) (AW.ret ?_)))))))))
    cases H
    exact endsR (RL.cons (RV.tmp rfl) (VO.sl bZ (by first|(simp;done)|(simp;omega)|omega|(simp only[List.length_map];omega)) (allFlat fun _=>rfl)) (RL.cons (RV.tmp eZ) (VO.flat rfl) RL.nil)) (by decide)
   ·refine AW.condT eZ (cN (nt h13)) (aV (oMov eC (oMov eC (xQ (AW.ret (TQ.qr ?_))))))
    cases H
    exact endsR (RL.cons (RV.tmp rfl) VO.zs (RL.cons (RV.tmp eZ) (VO.flat rfl) RL.nil)) List.nodup_nil
 ·refine aR (oMov rfl ?_)
  obtain⟨v14,h15,H⟩:=obind H
  refine oCall (u:=(oB v14)) eC Cl.fn (c_impl_StoreOk h15) (Ec eZ En) (Vc Vp Vn) rfl (oInv eZ (oMov eZ ?_))
  rcases oite H with⟨h16,H⟩|⟨h16,H⟩
  ·refine gDo eZ (cN h16) (oMov rfl (gDo rfl (cN h16) ?_))
   obtain⟨v17,h18,H⟩:=obind H
   refine oCall (u:=(oB v17)) eC Cl.fn (c_impl_StoreOk h18) (Ec eZ En) (Vc Vp Vn) rfl (gDo rfl (cN h16) (oInv eZ (oPickF rfl (cN h16) eZ (oMov eZ ?_))))
   rcases oite H with⟨h19,H⟩|⟨h19,H⟩
   ·exact gDo eZ (cN h19) (oMov rfl (gDo rfl (cN h19) (oLenD eZ (n:=a1.length) lm (gDo rfl (cN h19) (oMov rfl (gDo rfl (cN h19) (oLenD eZ (n:=a2.length) lm (gDo rfl (cN h19) (oAdd rfl eZ (gDo rfl (cN h19) (oGtr eZ eC (oPickF rfl (cN h19) eZ (xNil (TQ.qn ⟨(decide (60 < (IntKind.wrap .i64 ((a1.length:Int)+(a2.length:Int))))),H,(wk_mkG [] (sR rfl rfl) BL.nil BK.nil GK.nil)⟩))))))))))))))
   ·exact gSkip eZ (cN (nt h19)) rfl (gSkip rfl (cN (nt h19)) rfl (gSkip rfl (cN (nt h19)) rfl (gSkip rfl (cN (nt h19)) rfl (gSkip rfl (cN (nt h19)) rfl (gSkip rfl (cN (nt h19)) rfl (oPickT rfl (cN (nt h19)) eC (xNil (TQ.qn ⟨true,H,(wk_mkG [] (sR rfl rfl) BL.nil BK.nil GK.nil)⟩))))))))
  ·exact gSkip eZ (cN (nt h16)) rfl (gSkip rfl (cN (nt h16)) rfl (gSkip rfl (cN (nt h16)) rfl (oPickT rfl (cN (nt h16)) eC (oMov eZ (gSkip eZ rfl rfl (gSkip rfl rfl rfl (gSkip rfl rfl rfl (gSkip rfl rfl rfl (gSkip rfl rfl rfl (gSkip rfl rfl rfl (oPickT rfl rfl eC (xNil (TQ.qn ⟨true,H,(wk_mkG [] (sR rfl rfl) BL.nil BK.nil GK.nil)⟩)))))))))))))
theorem c_spec_l1In{a1:Int}{a2:Int}{a3:Int}{r:Bool}(H:m_spec_l1In a1 a2 a3=some r):Fn Try.prog 64 (lent [(.int .i64 a1),(.int .i64 a2),(.int .i64 a3)]) true [(.bool r)]:=by
 refine f64 (fle rfl) ?_
 rw[init_mk]
 refine AW.weaken (wk_mk [] (kv 0 (oI a1) rfl rfl (kv 1 (oI a2) rfl rfl (kv 2 (oI a3) rfl rfl SL.nil))) BL.nil BK.nil) ?_
 unfold m_spec_l1In at H
 unfold i64
 refine aV (oMov eC (xQ (aV (oMov rfl (oMov rfl (oGeq rfl eZ (oMov eZ ?_)))))))
 rcases oite H with⟨h4,H⟩|⟨h4,H⟩
 ·refine gDo eZ (dT h4) (oMov rfl (gDo rfl (dT h4) (oMov rfl (gDo rfl (dT h4) (oLeq rfl eZ (oPickT rfl (dT h4) eZ (oMov eZ (xQ (AW.ret ?_)))))))))
  cases H
  exact eE rfl rfl
 ·refine gSkip eZ (dF h4) rfl (gSkip rfl (dF h4) rfl (gSkip rfl (dF h4) rfl (oPickF rfl (dF h4) eC (oMov eZ (xQ (AW.ret ?_))))))
  cases H
  exact eE rfl rfl
theorem c_spec_l10Key{a1:Int}{r:Bool}(H:m_spec_l10Key a1=some r):Fn Try.prog 99 (lent [(.int .i64 a1)]) true [(.bool r)]:=by
 refine f99 (fle rfl) ?_
 rw[init_mk]
 refine AW.weaken (wk_mk [] (kv 0 (oI a1) rfl rfl SL.nil) BL.nil BK.nil) ?_
 unfold m_spec_l10Key at H
 unfold i99
 refine aV (oMov eC (xQ (aV (oMov rfl ?_))))
 obtain⟨v2,h3,H⟩:=obind H
 refine oCall (u:=(oB v2)) eC Cl.fn (c_spec_l1In h3) (Ec eZ (Ec eC (Ec eC En))) (Vc Vp (Vc Vp (Vc Vp Vn))) rfl (oMov eZ (xQ (AW.ret ?_)))
 cases H
 exact eE rfl rfl
theorem c_spec_l1Whole{a1:Int}{r:Bool}(H:m_spec_l1Whole a1=some r):Fn Try.prog 63 (lent [(.int .i64 a1)]) true [(.bool r)]:=by
 refine f63 (fle rfl) ?_
 rw[init_mk]
 refine AW.weaken (wk_mk [] (kv 0 (oI a1) rfl rfl SL.nil) BL.nil BK.nil) ?_
 unfold m_spec_l1Whole at H
 unfold i63
 refine aV (oMov eC (xQ (aV (oMov rfl ?_))))
 obtain⟨v2,h3,H⟩:=obind H
 refine oCall (u:=(oB v2)) eC Cl.fn (c_spec_l1In h3) (Ec eZ (Ec eC (Ec eC En))) (Vc Vp (Vc Vp (Vc Vp Vn))) rfl (oMov eZ (xQ (AW.ret ?_)))
 cases H
 exact eE rfl rfl
theorem c_spec_StoreOk{a1:(List TCell)}{r:Bool}(H:m_spec_StoreOk a1=some r):Fn Try.prog 41 (lent [(.sl 2 (List.map d_TCell a1))]) true [(.bool r)]:=by
 refine f41 (fle rfl) ?_
 rw[init_mk]
 refine AW.weaken (wk_mk [] (kv 0 (.one (.d (.sl 2 (List.map d_TCell a1)))) rfl rfl SL.nil) BL.nil BK.nil) ?_
 unfold m_spec_StoreOk at H
 unfold i41
 refine aV (oMov eC (xQ (aS (aV (oMov rfl (oLenD eZ (n:=a1.length) lm (oGtr eZ eC (xQ ?_))))))))
 rcases oite H with⟨h2,H⟩|⟨h2,H⟩
 ·refine AW.condT eZ (dT h2) (aV (oMov eC (xQ (AW.ret (TQ.qr ?_)))))
  cases H
  exact eE rfl rfl
 ·refine AW.condF eZ (dF h2) (AW.skip (TQ.qn (AW.seqJ (fun t3:Unit=>spec_StoreOk_j3 t3=some r) (fun t3=>mk [] [] noG) ?_ ?_)))
  ·intro t3 H
   unfold spec_StoreOk_j3 at H
   refine aV (oMov eC (xQ (AW.ret ?_)))
   cases H
   exact eE rfl rfl
  ·refine aV (oMov eC (xQ (AW.block (AW.iter (fun s5:Int=>mk [(0,(.one (.d (.sl 2 (List.map d_TCell a1))))),(3,(oI s5))] [] noG) H (wk_mk [] (sR rfl rfl) BL.nil BK.nil) ?_))))
   intro kb6 s5 H
   unfold spec_StoreOk_b5 at H
   refine aS (aV (oMov rfl (oMov rfl (oLenD eZ (n:=a1.length) lm (oLss rfl eZ (xQ ?_))))))
   rcases oite H with⟨h7,H⟩|⟨h7,H⟩
   ·refine AW.condT eZ (dT h7) (AW.skip (TQ.qn (aS (AW.block (AW.seqJ (fun t8:Bool=>(spec_StoreOk_j8 kb6 s5) t8=some r) (fun t8=>mk [(0,(.one (.d (.sl 2 (List.map d_TCell a1))))),(3,(oI s5)),(46,(oB t8))] [] noG) ?_ ?_)))))
    ·intro t8 H
     unfold spec_StoreOk_j8 at H
     rcases oite H with⟨h10,H⟩|⟨h10,H⟩
     ·refine AW.condT rfl h10 (aV (oMov eC (xQ (AW.ret (BQ.qr (TQ.qr (TQ.qr (BQ.qr (TQ.qr ?_)))))))))
      cases H
      exact eE rfl rfl
     ·exact AW.condF rfl (nt h10) (AW.skip (BQ.qn (TQ.qn (aR (oMov rfl (oAdd eZ eC (oMov eZ (xNil (TQ.qn ⟨(IntKind.wrap .i64 (s5+1)),H,(wk_mk [] (sR rfl rfl) BL.nil BK.nil)⟩)))))))))
    ·refine AW.regd (oMov rfl (oMov rfl ?_))
     obtain⟨v11,h12,H⟩:=obind H
     refine oAtD rfl eZ h12 (oFaddrB (m:=0) eZ rfl (oLoadB (e:=(.int .i64 v11.Key)) eZ rfl ?_))
     obtain⟨v13,h14,H⟩:=obind H
     refine oCall (u:=(oB v13)) eC Cl.fn (c_spec_l10Key h14) (Ec eZ En) (Vc Vp Vn) rfl (oInv eZ (oMov eZ ?_))
     rcases oite H with⟨h15,H⟩|⟨h15,H⟩
     ·refine gDo eZ (cN h15) (oMov rfl (gDo rfl (cN h15) (oMov rfl (gDo rfl (cN h15) ?_))))
      obtain⟨v16,h17,H⟩:=obind H
      refine oAtD rfl eZ h17 (gDo rfl (cN h15) (oFaddrB (m:=1) eZ rfl (gDo rfl (cN h15) (oLoadB (e:=(.int .i64 v16.Value)) eZ rfl (gDo rfl (cN h15) ?_)))))
      obtain⟨v18,h19,H⟩:=obind H
      refine oCall (u:=(oB v18)) eC Cl.fn (c_spec_l1Whole h19) (Ec eZ En) (Vc Vp Vn) rfl (gDo rfl (cN h15) (oInv eZ (oPickF rfl (cN h15) eZ (oMov eZ ?_))))
      rcases oite H with⟨h20,H⟩|⟨h20,H⟩
      ·refine gDo eZ (cN h20) (oMov rfl (gDo rfl (cN h20) (oGtr eZ eC (gDo rfl (cN h20) (oMov eZ ?_)))))
       rcases oite H with⟨h21,H⟩|⟨h21,H⟩
       ·refine gDo eZ (dT h21) (oMov rfl (gDo rfl (dT h21) (oMov rfl (gDo rfl (dT h21) (oSub eZ eC (gDo rfl (dT h21) ?_))))))
        obtain⟨v22,h23,H⟩:=obind H
        refine oAtD rfl eZ h23 (gDo rfl (dT h21) (oFaddrB (m:=0) eZ rfl (gDo rfl (dT h21) (oLoadB (e:=(.int .i64 v22.Key)) eZ rfl (gDo rfl (dT h21) (oMov rfl (gDo rfl (dT h21) (oMov rfl (gDo rfl (dT h21) ?_)))))))))
        obtain⟨v24,h25,H⟩:=obind H
        exact oAtD rfl eZ h25 (gDo rfl (dT h21) (oFaddrB (m:=0) eZ rfl (gDo rfl (dT h21) (oLoadB (e:=(.int .i64 v24.Key)) eZ rfl (gDo rfl (dT h21) (oGeq rfl eZ (gDo rfl (cN h20) (oPickT rfl (dT h21) eZ (oPickF rfl (cN h20) eZ (xNil (TQ.qn ⟨(decide (v24.Key≤v22.Key)),H,(wk_mk [] (sR rfl rfl) BL.nil BK.nil)⟩)))))))))))
       ·exact gSkip eZ (dF h21) rfl (gSkip rfl (dF h21) rfl (gSkip rfl (dF h21) rfl (gSkip rfl (dF h21) rfl (gSkip rfl (dF h21) rfl (gSkip rfl (dF h21) rfl (gSkip rfl (dF h21) rfl (gSkip rfl (dF h21) rfl (gSkip rfl (dF h21) rfl (gSkip rfl (dF h21) rfl (gSkip rfl (dF h21) rfl (gSkip rfl (dF h21) rfl (gDo rfl (cN h20) (oPickF rfl (dF h21) eC (oPickF rfl (cN h20) eZ (xNil (TQ.qn ⟨false,H,(wk_mk [] (sR rfl rfl) BL.nil BK.nil)⟩))))))))))))))))
      ·exact gSkip eZ (cN (nt h20)) rfl (gSkip rfl (cN (nt h20)) rfl (gSkip rfl (cN (nt h20)) rfl (gSkipU eZ rfl (gSkipU rfl rfl (gSkipU rfl rfl (gSkipU rfl rfl (gSkipU rfl rfl (gSkipU rfl rfl (gSkipU rfl rfl (gSkipU rfl rfl (gSkipU rfl rfl (gSkipU rfl rfl (gSkipU rfl rfl (gSkipU rfl rfl (gSkip rfl (cN (nt h20)) rfl (oPickT rfl (cN (nt h20)) eC (xNil (TQ.qn ⟨true,H,(wk_mk [] (sR rfl rfl) BL.nil BK.nil)⟩))))))))))))))))))
     ·exact gSkip eZ (cN (nt h15)) rfl (gSkip rfl (cN (nt h15)) rfl (gSkip rfl (cN (nt h15)) rfl (gSkip rfl (cN (nt h15)) rfl (gSkip rfl (cN (nt h15)) rfl (gSkip rfl (cN (nt h15)) rfl (gSkip rfl (cN (nt h15)) rfl (oPickT rfl (cN (nt h15)) eC (oMov eZ (gSkip eZ rfl rfl (gSkip rfl rfl rfl (gSkip rfl rfl rfl (gSkipU eZ rfl (gSkipU rfl rfl (gSkipU rfl rfl (gSkipU rfl rfl (gSkipU rfl rfl (gSkipU rfl rfl (gSkipU rfl rfl (gSkipU rfl rfl (gSkipU rfl rfl (gSkipU rfl rfl (gSkipU rfl rfl (gSkipU rfl rfl (gSkip rfl rfl rfl (oPickT rfl rfl eC (xNil (TQ.qn ⟨true,H,(wk_mk [] (sR rfl rfl) BL.nil BK.nil)⟩)))))))))))))))))))))))))))
   ·exact AW.condF eZ (dF h7) (AW.exit (TQ.qe (TQ.qe (BQ.qe (TQ.qn ⟨(),H,(wk_mk [] SL.nil BL.nil BK.nil)⟩)))))
theorem c_impl_cellFor_1{a1:TCell}{a2:Int}{r:Int}(H:m_impl_cellFor_1 a1 a2=some r):Fn Try.prog 160 (lent [(.agg (d_TCell a1)),(.int .i64 a2)]) true [(.int .i64 r)]:=by
 refine f160 (fle rfl) ?_
 rw[init_mk]
 refine AW.weaken (wk_mk [] (kv 0 (.agg [(dI a1.Key),(dI a1.Value)]) rfl rfl (kv 1 (oI a2) rfl rfl SL.nil)) BL.nil BK.nil) ?_
 unfold m_impl_cellFor_1 at H
 unfold i160
 refine aV (oBox (n:=128) (m:=2) (cs:=[(dI a1.Key),(dI a1.Value)]) rfl eZ rfl rfl nZ (oMov eC (xQ (aV (oFaddrN (m:=0) rfl rfl (oLoadV (q:=0) (c:=(dI a1.Key)) eZ bZ rfl rfl (oMov rfl (oSub rfl eZ (oMov eZ (xQ (AW.ret ?_)))))))))))
 cases H
 exact eE rfl rfl
theorem c_slices_BinarySearchFunc_Cell_int__cellFor_1{a1:(List TCell)}{a2:Int}{r:(Int×Bool)}(H:m_slices_BinarySearchFunc_Cell_int__cellFor_1 a1 a2=some r):Fn Try.prog 159 (lent [(.sl 2 (List.map d_TCell a1)),(.int .i64 a2),(.fn 160 [])]) true [(.int .i64 r.1),(.bool r.2)]:=by
 refine f159 (fle rfl) ?_
 rw[init_mk]
 refine AW.weaken (wk_mk [] (kv 0 (.one (.d (.sl 2 (List.map d_TCell a1)))) rfl rfl (kv 1 (oI a2) rfl rfl (SL.cons (v:=(.one (.fn 160 []))) (eS rfl (eS rfl eZ)) rfl (VWk.one (CWk.fn (css:=[]))) SL.nil))) BL.nil BK.nil) ?_
 unfold m_slices_BinarySearchFunc_Cell_int__cellFor_1 at H
 unfold i159
 refine aV (oMov eC (oMov eC (xQ (aV (oMov rfl (oLenD eZ (n:=a1.length) lm (oMov eZ (xQ (aV (oMov eZ (oMov eC (oMov rfl (xQ (AW.seqJ (fun t3:Int=>(slices_BinarySearchFunc_Cell_int__cellFor_1_j3 a1 a2) t3=some r) (fun t3=>mk [(0,(.one (.d (.sl 2 (List.map d_TCell a1))))),(1,(oI a2)),(2,(.one (.fn 160 []))),(8,(oI (a1.length:Int))),(9,(oI t3))] [] noG) ?_ ?_))))))))))))))
 ·intro t3 H
  unfold slices_BinarySearchFunc_Cell_int__cellFor_1_j3 at H
  refine aV (oMov rfl (oMov rfl (oMov rfl (oLss rfl eZ (oMov eZ ?_)))))
  rcases oite H with⟨h5,H⟩|⟨h5,H⟩
  ·refine gDo eZ (dT h5) (oMov rfl (gDo rfl (dT h5) (oMov rfl (gDo rfl (dT h5) (oMov rfl (gDo rfl (dT h5) ?_))))))
   obtain⟨v6,h7,H⟩:=obind H
   refine oAtD rfl eZ h7 (gDo rfl (dT h5) (oLoadBA (es:=[(dI v6.Key),(dI v6.Value)]) eZ rfl (gDo rfl (dT h5) (oMov rfl (gDo rfl (dT h5) ?_)))))
   obtain⟨v8,h9,H⟩:=obind H
   refine oCall (u:=(oI v8)) rfl Cl.fn (c_impl_cellFor_1 h9) (Ec rfl (Ec eZ En)) (Vc (VD.agg rfl) (Vc Vp Vn)) rfl (gDo rfl (dT h5) (oEql eZ eC (oPickT rfl (dT h5) eZ (oMov rfl (oMov rfl (xQ (AW.weaken (wk_mk [] (kr 7 rfl rfl (kr 6 rfl rfl SL.nil)) BL.nil BK.nil) (AW.ret ?_))))))))
   cases H
   exact endsR (RL.cons (RV.tmp rfl) (VO.flat rfl) (RL.cons (RV.tmp eZ) (VO.flat rfl) RL.nil)) List.nodup_nil
  ·refine gSkip eZ (dF h5) rfl (gSkip rfl (dF h5) rfl (gSkip rfl (dF h5) rfl (gSkip rfl (dF h5) rfl (gSkip rfl (dF h5) rfl (gSkip rfl (dF h5) rfl (gSkip rfl (dF h5) rfl (gSkip rfl (dF h5) rfl (oPickF rfl (dF h5) eC (oMov rfl (oMov rfl (xQ (AW.weaken (wk_mk [] (kr 7 rfl rfl (kr 6 rfl rfl SL.nil)) BL.nil BK.nil) (AW.ret ?_)))))))))))))
   cases H
   exact endsR (RL.cons (RV.tmp rfl) (VO.flat rfl) (RL.cons (RV.tmp eZ) (VO.flat rfl) RL.nil)) List.nodup_nil
 ·refine AW.block (AW.iter (fun s10:(Int×Int)=>mk [(0,(.one (.d (.sl 2 (List.map d_TCell a1))))),(1,(oI a2)),(2,(.one (.fn 160 []))),(8,(oI (a1.length:Int))),(9,(oI s10.1)),(10,(oI s10.2))] [] noG) H (wk_mk [] (sR rfl rfl) BL.nil BK.nil) ?_)
  intro kb11 s10 H
  unfold slices_BinarySearchFunc_Cell_int__cellFor_1_b10 at H
  refine aS (aV (oMov rfl (oMov rfl (oLss rfl eZ (xQ ?_)))))
  rcases oite H with⟨h12,H⟩|⟨h12,H⟩
  ·refine AW.condT eZ (dT h12) (AW.skip (TQ.qn (AW.block (aV (oMov rfl (oMov rfl (oAdd rfl eZ (oConv eZ (oShr eZ eC (by decide) (oConv eZ (oMov eZ (xQ (AW.weaken (wk_mk [] (kr 11 rfl rfl (kr 0 rfl rfl (kr 1 rfl rfl (kr 2 rfl rfl (kr 8 rfl rfl (kr 9 rfl rfl (kr 10 rfl rfl SL.nil))))))) BL.nil BK.nil) (aV (oMov rfl (oMov rfl (oMov rfl ?_)))))))))))))))))
   obtain⟨v13,h14,H⟩:=obind H
   refine oAtD rfl eZ h14 (oLoadBA (es:=[(dI v13.Key),(dI v13.Value)]) eZ rfl (oMov rfl ?_))
   obtain⟨v15,h16,H⟩:=obind H
   refine oCall (u:=(oI v15)) rfl Cl.fn (c_impl_cellFor_1 h16) (Ec rfl (Ec eZ En)) (Vc (VD.agg rfl) (Vc Vp Vn)) rfl (oLss eZ eC (xQ ?_))
   rcases oite H with⟨h17,H⟩|⟨h17,H⟩
   ·exact AW.condT eZ (dT h17) (aR (oMov rfl (oAdd eZ eC (oMov eZ (xNil (BQ.qn (TQ.qn ⟨((IntKind.wrap .i64 ((IntKind.wrap .i64 (Int.fdiv (IntKind.wrap .u64 (IntKind.wrap .i64 (s10.1+s10.2))) (2 ^ (min (Int.toNat 1) (IntKind.bits .u64)))))+1)),s10.2),H,(wk_mk [] (sR rfl rfl) BL.nil BK.nil)⟩)))))))
   ·exact AW.condF eZ (dF h17) (aR (oMov rfl (oMov eZ (xNil (BQ.qn (TQ.qn ⟨(s10.1,(IntKind.wrap .i64 (Int.fdiv (IntKind.wrap .u64 (IntKind.wrap .i64 (s10.1+s10.2))) (2 ^ (min (Int.toNat 1) (IntKind.bits .u64)))))),H,(wk_mk [] (sR rfl rfl) BL.nil BK.nil)⟩))))))
  ·exact AW.condF eZ (dF h12) (AW.exit (TQ.qe (TQ.qe (BQ.qe (TQ.qn ⟨s10.1,H,(wk_mk [] (sR rfl rfl) BL.nil BK.nil)⟩)))))
theorem c_impl_cellFor{a1:(List TCell)}{a2:Int}{r:(Int×Bool)}(H:m_impl_cellFor a1 a2=some r):Fn Try.prog 133 (lent [(.sl 2 (List.map d_TCell a1)),(.int .i64 a2)]) true [(.int .i64 r.1),(.bool r.2)]:=by
 refine f133 (fle rfl) ?_
 rw[init_mk]
 refine AW.weaken (wk_mk [] (kv 0 (.one (.d (.sl 2 (List.map d_TCell a1)))) rfl rfl (kv 1 (oI a2) rfl rfl SL.nil)) BL.nil BK.nil) ?_
 unfold m_impl_cellFor at H
 unfold i133
 refine aV (oMov eC (oMov eC (xQ (aV (oMov rfl (oMov rfl ?_))))))
 obtain⟨v3,h4,H⟩:=obind H
 refine oCall (u:=(.tup [(oI v3.1),(oB v3.2)])) eC Cl.fn (c_slices_BinarySearchFunc_Cell_int__cellFor_1 h4) (Ec rfl (Ec eZ (Ec eC En))) (Vc Vp (Vc Vp (Vc (VD.fn PDs.nil) Vn))) rfl (oExt (v:=(oI v3.1)) eZ rfl (oExt (v:=(oB v3.2)) rfl rfl (oMov rfl (oMov rfl (xQ (AW.ret ?_))))))
 cases H
 exact endsR (RL.cons (RV.tmp rfl) (VO.flat rfl) (RL.cons (RV.tmp eZ) (VO.flat rfl) RL.nil)) List.nodup_nil
theorem c_impl_valueOf{a1:(List TCell)}{a2:Int}{r:Int}(H:m_impl_valueOf a1 a2=some r):Fn Try.prog 101 (lent [(.sl 2 (List.map d_TCell a1)),(.int .i64 a2)]) true [(.int .i64 r)]:=by
 refine f101 (fle rfl) ?_
 rw[init_mk]
 refine AW.weaken (wk_mk [] (kv 0 (.one (.d (.sl 2 (List.map d_TCell a1)))) rfl rfl (kv 1 (oI a2) rfl rfl SL.nil)) BL.nil BK.nil) ?_
 unfold m_impl_valueOf at H
 unfold i101
 refine aV (oMov eC (xQ (aV (oMov rfl (oMov rfl ?_)))))
 obtain⟨v3,h4,H⟩:=obind H
 refine oCall (u:=(.tup [(oI v3.1),(oB v3.2)])) eC Cl.fn (c_impl_cellFor h4) (Ec rfl (Ec eZ En)) (Vc Vp (Vc Vp Vn)) rfl (oMov eZ (oExt (v:=(oI v3.1)) eZ rfl (oExt (v:=(oB v3.2)) rfl rfl (oMov rfl (oMov rfl (xQ (aS (aV (oMov eZ (oInv eZ (xQ ?_)))))))))))
 rcases oite H with⟨h5,H⟩|⟨h5,H⟩
 ·refine AW.condF eZ (cN h5) (AW.skip (TQ.qn (aV (oMov rfl (oMov rfl ?_)))))
  obtain⟨v6,h7,H⟩:=obind H
  refine oAtD rfl eZ h7 (oFaddrB (m:=1) eZ rfl (oLoadB (e:=(.int .i64 v6.Value)) eZ rfl (oMov eZ (xQ (AW.weaken (wk_mk [] (kr 4 rfl rfl SL.nil) BL.nil BK.nil) (AW.ret ?_))))))
  cases H
  exact eE rfl rfl
 ·refine AW.condT eZ (cN (nt h5)) (aV (oMov eC (xQ (AW.ret (TQ.qr ?_)))))
  cases H
  exact eE rfl rfl
theorem c_impl_StoreGet{a1:(List TCell)}{a2:Int}{r:Int}(H:m_impl_StoreGet a1 a2=some r):Fn Try.prog 43 (lent [(.sl 2 (List.map d_TCell a1)),(.int .i64 a2)]) true [(.int .i64 r)]:=by
 refine f43 (fle rfl) ?_
 rw[init_mk]
 refine AW.weaken (wk_mk [] (kv 0 (.one (.d (.sl 2 (List.map d_TCell a1)))) rfl rfl (kv 1 (oI a2) rfl rfl SL.nil)) BL.nil BK.nil) ?_
 unfold m_impl_StoreGet at H
 unfold i43
 refine aV (oMov eC (xQ (aS (aV (oMov rfl ?_)))))
 obtain⟨v3,h4,H⟩:=obind H
 refine oCall (u:=(oB v3)) eC Cl.fn (c_impl_StoreOk h4) (Ec eZ En) (Vc Vp Vn) rfl (oInv eZ (xQ ?_))
 rcases oite H with⟨h5,H⟩|⟨h5,H⟩
 ·refine AW.condF eZ (cN h5) (AW.skip (TQ.qn (aV (oMov rfl (oMov rfl ?_)))))
  obtain⟨v6,h7,H⟩:=obind H
  refine oCall (u:=(oI v6)) eC Cl.fn (c_impl_valueOf h7) (Ec rfl (Ec eZ En)) (Vc Vp (Vc Vp Vn)) rfl (oMov eZ (xQ (AW.ret ?_)))
  cases H
  exact eE rfl rfl
 ·refine AW.condT eZ (cN (nt h5)) (aV (oMov eC (xQ (AW.ret (TQ.qr ?_)))))
  cases H
  exact eE rfl rfl
theorem c_laws_sameCells{a1:(List TCell)}{a2:(List TCell)}{r:Bool}(H:m_laws_sameCells a1 a2=some r):Fn Try.prog 44 (lent [(.sl 2 (List.map d_TCell a1)),(.sl 2 (List.map d_TCell a2))]) true [(.bool r)]:=by
 refine f44 (fle rfl) ?_
 rw[init_mk]
 refine AW.weaken (wk_mk [] (kv 0 (.one (.d (.sl 2 (List.map d_TCell a1)))) rfl rfl (kv 1 (.one (.d (.sl 2 (List.map d_TCell a2)))) rfl rfl SL.nil)) BL.nil BK.nil) ?_
 unfold m_laws_sameCells at H
 unfold i44
 refine aV (oMov eC (xQ (aS (aV (oMov rfl (oLenD eZ (n:=a1.length) lm (oMov rfl (oLenD eZ (n:=a2.length) lm (oNeq rfl eZ (xQ ?_))))))))))
 rcases oite H with⟨h3,H⟩|⟨h3,H⟩
 ·refine AW.condT eZ (dT h3) (aV (oMov eC (xQ (AW.ret (TQ.qr ?_)))))
  cases H
  exact eE rfl rfl
 ·refine AW.condF eZ (dF h3) (AW.skip (TQ.qn (AW.seqJ (fun t4:Unit=>laws_sameCells_j4 t4=some r) (fun t4=>mk [] [] noG) ?_ ?_)))
  ·intro t4 H
   unfold laws_sameCells_j4 at H
   refine aV (oMov eC (xQ (AW.ret ?_)))
   cases H
   exact eE rfl rfl
  ·refine aV (oMov eC (xQ (AW.block (AW.iter (fun s6:Int=>mk [(0,(.one (.d (.sl 2 (List.map d_TCell a1))))),(1,(.one (.d (.sl 2 (List.map d_TCell a2))))),(5,(oI s6))] [] noG) H (wk_mk [] (sR rfl rfl) BL.nil BK.nil) ?_))))
   intro kb7 s6 H
   unfold laws_sameCells_b6 at H
   refine aS (aV (oMov rfl (oMov rfl (oLenD eZ (n:=a1.length) lm (oLss rfl eZ (xQ ?_))))))
   rcases oite H with⟨h8,H⟩|⟨h8,H⟩
   ·refine AW.condT eZ (dT h8) (AW.skip (TQ.qn (aS (AW.block (aS (AW.regd (oMov rfl (oMov rfl ?_))))))))
    obtain⟨v9,h10,H⟩:=obind H
    refine oAtD rfl eZ h10 (oLoadBA (es:=[(dI v9.Key),(dI v9.Value)]) eZ rfl (oMov rfl (oMov rfl ?_)))
    obtain⟨v11,h12,H⟩:=obind H
    refine oAtD rfl eZ h12 (oLoadBA (es:=[(dI v11.Key),(dI v11.Value)]) eZ rfl (oSneq (b:=(decide (v9.Key=v11.Key)&&(decide (v9.Value=v11.Value)&&true))) rfl eZ rfl rfl rfl (xQ (AW.weaken (wk_mk [] (kr 25 rfl rfl (kr 0 rfl rfl (kr 1 rfl rfl (kr 5 rfl rfl SL.nil)))) BL.nil BK.nil) ?_))))
    rcases oite H with⟨h13,H⟩|⟨h13,H⟩
    ·exact AW.condF eZ (cN h13) (AW.skip (BQ.qn (TQ.qn (aR (oMov rfl (oAdd eZ eC (oMov eZ (xNil (TQ.qn ⟨(IntKind.wrap .i64 (s6+1)),H,(wk_mk [] (sR rfl rfl) BL.nil BK.nil)⟩)))))))))
    ·refine AW.condT eZ (cN (nt h13)) (aV (oMov eC (xQ (AW.ret (BQ.qr (TQ.qr (TQ.qr (BQ.qr (TQ.qr ?_)))))))))
     cases H
     exact eE rfl rfl
   ·exact AW.condF eZ (dF h8) (AW.exit (TQ.qe (TQ.qe (BQ.qe (TQ.qn ⟨(),H,(wk_mk [] SL.nil BL.nil BK.nil)⟩)))))
theorem c_impl_isAnswer{a1:Int}{r:Bool}(H:m_impl_isAnswer a1=some r):Fn Try.prog 134 (lent [(.int .i64 a1)]) true [(.bool r)]:=by
 refine f134 (fle rfl) ?_
 rw[init_mk]
 refine AW.weaken (wk_mk [] (kv 0 (oI a1) rfl rfl SL.nil) BL.nil BK.nil) ?_
 unfold m_impl_isAnswer at H
 unfold i134
 refine aV (oMov eC (xQ (aV (oMov rfl ?_))))
 obtain⟨v2,h3,H⟩:=obind H
 refine oCall (u:=(oB v2)) eC Cl.fn (c_impl_from h3) (Ec eZ (Ec eC (Ec eC En))) (Vc Vp (Vc Vp (Vc Vp Vn))) rfl (oMov eZ (xQ (AW.ret ?_)))
 cases H
 exact eE rfl rfl
theorem c_impl_WritesOk{a1:(List TCell)}{r:Bool}(H:m_impl_WritesOk a1=some r):Fn Try.prog 102 (lent [(.sl 2 (List.map d_TCell a1))]) true [(.bool r)]:=by
 refine f102 (fle rfl) ?_
 rw[init_mk]
 refine AW.weaken (wk_mk [] (kv 0 (.one (.d (.sl 2 (List.map d_TCell a1)))) rfl rfl SL.nil) BL.nil BK.nil) ?_
 unfold m_impl_WritesOk at H
 unfold i102
 refine aV (oMov eC (xQ (AW.seqJ (fun t2:Unit=>(impl_WritesOk_j2 a1) t2=some r) (fun t2=>mk [(0,(.one (.d (.sl 2 (List.map d_TCell a1)))))] [] noG) ?_ ?_)))
 ·intro t2 H
  unfold impl_WritesOk_j2 at H
  refine aV (oMov eZ (oLenD eZ (n:=a1.length) lm (oLeq eZ eC (oMov eZ (xQ (AW.ret ?_))))))
  cases H
  exact eE rfl rfl
 ·refine aV (oMov rfl (oLenD eZ (n:=a1.length) lm (oMov eC (xQ (AW.block (AW.iter (fun s4:Int=>mk [(0,(.one (.d (.sl 2 (List.map d_TCell a1))))),(5,(.one (.d (.sl 2 (List.map d_TCell a1))))),(6,(oI (a1.length:Int))),(7,(oI s4))] [] noG) H (wk_mk [] (sR rfl rfl) BL.nil BK.nil) ?_))))))
  intro kb5 s4 H
  unfold impl_WritesOk_b4 at H
  refine aV (oLss rfl rfl (xQ (aS ?_)))
  rcases oite H with⟨h6,H⟩|⟨h6,H⟩
  ·refine AW.condT eZ (dT h6) (AW.skip (TQ.qn (aS (AW.block (aV (oMov rfl ?_))))))
   obtain⟨v7,h8,H⟩:=obind H
   refine oAtD rfl rfl h8 (oLoadBA (es:=[(dI v7.Key),(dI v7.Value)]) eZ rfl (oVar (n:=256) (m:=2) rfl rfl nZ (oMov rfl (oStoreV (es:=[(dI v7.Key),(dI v7.Value)]) rfl rfl rfl rfl bZ rfl (xQ (AW.seqJ (fun t9:Bool=>(impl_WritesOk_j9 kb5 s4) t9=some r) (fun t9=>mk [(0,(.one (.d (.sl 2 (List.map d_TCell a1))))),(5,(.one (.d (.sl 2 (List.map d_TCell a1))))),(6,(oI (a1.length:Int))),(7,(oI s4)),(36,(oB t9))] [] noG) ?_ ?_))))))
   ·intro t9 H
    unfold impl_WritesOk_j9 at H
    rcases oite H with⟨h11,H⟩|⟨h11,H⟩
    ·refine AW.condT rfl h11 (aV (oMov eC (xQ (AW.ret (BQ.qr (TQ.qr (TQ.qr (BQ.qr (TQ.qr ?_)))))))))
     cases H
     exact eE rfl rfl
    ·exact AW.condF rfl (nt h11) (AW.skip (BQ.qn (TQ.qn (aR (oAdd rfl eC (oMov eZ (xNil (TQ.qn ⟨(IntKind.wrap .i64 (s4+1)),H,(wk_mk [] (sR rfl rfl) BL.nil BK.nil)⟩))))))))
   ·refine AW.regd (oFaddrN (m:=0) rfl rfl (oLoadV (q:=0) (c:=(dI v7.Key)) eZ bZ rfl rfl ?_))
    obtain⟨v12,h13,H⟩:=obind H
    refine oCall (u:=(oB v12)) eC Cl.fn (c_impl_isKey h13) (Ec eZ En) (Vc Vp Vn) rfl (oInv eZ (oMov eZ ?_))
    rcases oite H with⟨h14,H⟩|⟨h14,H⟩
    ·refine gDo eZ (cN h14) (oFaddrN (m:=1) rfl rfl (gDo rfl (cN h14) (oLoadV (q:=1) (c:=(dI v7.Value)) eZ bZ rfl rfl (gDo rfl (cN h14) ?_))))
     obtain⟨v15,h16,H⟩:=obind H
     refine oCall (u:=(oB v15)) eC Cl.fn (c_impl_isAnswer h16) (Ec eZ En) (Vc Vp Vn) rfl (gDo rfl (cN h14) (oInv eZ (oPickF rfl (cN h14) eZ (oMov eZ ?_))))
     rcases oite H with⟨h17,H⟩|⟨h17,H⟩
     ·refine gDo eZ (cN h17) (oMov rfl (gDo rfl (cN h17) (oGtr eZ eC (gDo rfl (cN h17) (oMov eZ ?_)))))
      rcases oite H with⟨h18,H⟩|⟨h18,H⟩
      ·refine gDo eZ (dT h18) (oMov rfl (gDo rfl (dT h18) (oMov rfl (gDo rfl (dT h18) (oSub eZ eC (gDo rfl (dT h18) ?_))))))
       obtain⟨v19,h20,H⟩:=obind H
       exact oAtD rfl eZ h20 (gDo rfl (dT h18) (oFaddrB (m:=0) eZ rfl (gDo rfl (dT h18) (oLoadB (e:=(.int .i64 v19.Key)) eZ rfl (gDo rfl (dT h18) (oFaddrN (m:=0) rfl rfl (gDo rfl (dT h18) (oLoadV (q:=0) (c:=(dI v7.Key)) eZ bZ rfl rfl (gDo rfl (dT h18) (oGeq rfl eZ (gDo rfl (cN h17) (oPickT rfl (dT h18) eZ (oPickF rfl (cN h17) eZ (xNil (TQ.qn ⟨(decide (v7.Key≤v19.Key)),H,(wk_mk [256] (sR rfl rfl) (blR rfl) BK.nil)⟩)))))))))))))))
      ·exact gSkip eZ (dF h18) rfl (gSkip rfl (dF h18) rfl (gSkip rfl (dF h18) rfl (gSkip rfl (dF h18) rfl (gSkip rfl (dF h18) rfl (gSkip rfl (dF h18) rfl (gSkip rfl (dF h18) rfl (gSkip rfl (dF h18) rfl (gSkip rfl (dF h18) rfl (gDo rfl (cN h17) (oPickF rfl (dF h18) eC (oPickF rfl (cN h17) eZ (xNil (TQ.qn ⟨false,H,(wk_mk [256] (sR rfl rfl) (blR rfl) BK.nil)⟩)))))))))))))
     ·exact gSkip eZ (cN (nt h17)) rfl (gSkip rfl (cN (nt h17)) rfl (gSkip rfl (cN (nt h17)) rfl (gSkipU eZ rfl (gSkipU rfl rfl (gSkipU rfl rfl (gSkipU rfl rfl (gSkipU rfl rfl (gSkipU rfl rfl (gSkipU rfl rfl (gSkipU rfl rfl (gSkipU rfl rfl (gSkip rfl (cN (nt h17)) rfl (oPickT rfl (cN (nt h17)) eC (xNil (TQ.qn ⟨true,H,(wk_mk [256] (sR rfl rfl) (blR rfl) BK.nil)⟩)))))))))))))))
    ·exact gSkip eZ (cN (nt h14)) rfl (gSkip rfl (cN (nt h14)) rfl (gSkip rfl (cN (nt h14)) rfl (gSkip rfl (cN (nt h14)) rfl (oPickT rfl (cN (nt h14)) eC (oMov eZ (gSkip eZ rfl rfl (gSkip rfl rfl rfl (gSkip rfl rfl rfl (gSkipU eZ rfl (gSkipU rfl rfl (gSkipU rfl rfl (gSkipU rfl rfl (gSkipU rfl rfl (gSkipU rfl rfl (gSkipU rfl rfl (gSkipU rfl rfl (gSkipU rfl rfl (gSkip rfl rfl rfl (oPickT rfl rfl eC (xNil (TQ.qn ⟨true,H,(wk_mk [256] (sR rfl rfl) (blR rfl) BK.nil)⟩)))))))))))))))))))))
  ·exact AW.condF eZ (dF h6) (AW.exit (TQ.qe (TQ.qe (BQ.qe (TQ.qn ⟨(),H,(wk_mk [] (sR rfl rfl) BL.nil BK.nil)⟩)))))
theorem c_slices_Delete_Cell{a1:List TCell}{a2 a3:Int}{r:List TCell}(H:m_slices_Delete_Cell a1 a2 a3=some r):Fn Try.prog 161 [⟨(.sl 2 (List.map d_TCell a1)),.g⟩,⟨(.int .i64 a2),.b⟩,⟨(.int .i64 a3),.b⟩] true [(.sl 2 (List.map d_TCell r))]:=by
 obtain⟨⟨h1,h2,h3,h4⟩,H⟩:=oguard H
 cases H
 obtain⟨i,rfl⟩:∃i:Nat,a2=(i:Int):=⟨Int.toNat a2,by omega⟩
 obtain⟨j,rfl⟩:∃j:Nat,a3=(j:Int):=⟨Int.toNat a3,by omega⟩
 rw[Int.toNat_natCast,Int.toNat_natCast]
 refine m161 (fle rfl) (fC nZ rfl fN) rfl ?_
 rw[initM_mk]
 exact AW.weaken (t:=mk [(0,.one (.sl 0 0 a1.length)),(1,.one (dI (i:Int))),(2,.one (dI (j:Int)))] [(0,.data 2 (List.map d_TCell a1) true none)] (lk [])) (wk_mkG (gl:=[]) [] (SL.cons (v:=(.one (.sl 0 0 a1.length))) eZ rfl (VWk.one (CWk.len (by simp))) (SL.cons (v:=(oI (i:Int))) (eS rfl eZ) rfl VWk.rfl (SL.cons (v:=(oI (j:Int))) (eS rfl (eS rfl eZ)) rfl VWk.rfl SL.nil))) (blR rfl) (BK.cons (n:=0) rfl bZ rfl rfl BK.nil) GK.nil) (delAW (f:=d_TCell) (zv:=(TCell.mk 0 0)) (sz:=2) (bytes:=16) (zs:=[(.int .i64 0),(.int .i64 0)]) (fun _=>rfl) rfl rfl (by omega) (by omega) (by omega))
theorem c_slices_Insert_Cell{a1:List TCell}{a2:Int}{a3 r:List TCell}(H:m_slices_Insert_Cell a1 a2 a3=some r):Fn Try.prog 162 [⟨(.sl 2 (List.map d_TCell a1)),.g⟩,⟨(.int .i64 a2),.b⟩,⟨(.sl 2 (List.map d_TCell a3)),.g⟩] true [(.sl 2 (List.map d_TCell r))]:=by
 obtain⟨⟨h1,h2,h3,h4⟩,H⟩:=oguard H
 cases H
 obtain⟨i,rfl⟩:∃i:Nat,a2=(i:Int):=⟨Int.toNat a2,by omega⟩
 obtain⟨x,rfl⟩:=List.length_eq_one_iff.1 h3
 rw[Int.toNat_natCast]
 refine m162 (fle rfl) (fC nZ rfl (fC nZ rfl fN)) rfl ?_
 rw[initM_mk]
 exact AW.weaken (t:=mk [(0,.one (.sl 0 0 a1.length)),(1,.one (dI (i:Int))),(2,.one (.sl 128 0 1))] [(128,.data 2 (List.map d_TCell [x]) true none),(0,.data 2 (List.map d_TCell a1) true none)] (lk [])) (wk_mkG (gl:=[]) [] (SL.cons (v:=(.one (.sl 0 0 a1.length))) eZ rfl (VWk.one (CWk.len (by simp))) (SL.cons (v:=(oI (i:Int))) (eS rfl eZ) rfl VWk.rfl (SL.cons (v:=(.one (.sl 128 0 1))) (eS rfl (eS rfl eZ)) rfl (VWk.one (CWk.len (by simp))) SL.nil))) (blR rfl) (BK.cons (n:=128) rfl bZ rfl rfl (BK.cons (n:=0) rfl (bR rfl) rfl rfl BK.nil)) GK.nil) (insAW (f:=d_TCell) (zv:=(TCell.mk 0 0)) (sz:=2) (bytes:=16) (zs:=[(.int .i64 0),(.int .i64 0)]) (ov:=174) (sx:=175) (fun _=>rfl) rfl (by decide) (by decide) (by omega) (by omega) (ovlOk (fn:=Try.f174) (tS:=24) (tR:=4) (e:=74) Try.func174 (by kernel_rfl) (by kernel_rfl) (by kernel_rfl) (by kernel_rfl) Try.underlying24 (Option.some_get (by kernel_rfl:(Try.prog.info? 74).isSome=true)).symm))
theorem c_impl_put{a1:(List TCell)}{a2:Int}{a3:Int}{r:(List TCell)}(H:m_impl_put a1 a2 a3=some r):Fn Try.prog 135 (lent [(.sl 2 (List.map d_TCell a1)),(.int .i64 a2),(.int .i64 a3)]) true [(.sl 2 (List.map d_TCell r))]:=by
 refine f135 (fle rfl) ?_
 rw[init_mk]
 refine AW.weaken (t:=mk [(0,(.one (.d (.sl 2 (List.map d_TCell a1))))),(1,(oI a2)),(2,(oI a3))] [] (lk [])) (wk_mk [] (sR rfl rfl) BL.nil BK.nil) ?_
 unfold m_impl_put at H
 unfold i135
 refine aV (oMov eC (xQ (aV (oMov rfl (oMov rfl ?_)))))
 obtain⟨v4,h5,H⟩:=obind H
 refine oCall (u:=(.tup [(oI v4.1),(oB v4.2)])) eC Cl.fn (c_impl_cellFor h5) (Ec rfl (Ec eZ En)) (Vc Vp (Vc Vp Vn)) rfl (oMov eZ (oExt (v:=(oI v4.1)) eZ rfl (oExt (v:=(oB v4.2)) rfl rfl (oMov rfl (oMov rfl (xQ (aS (AW.block (AW.seqJ (fun t6:Bool=>(impl_put_j6 a1 v4 a3 a2) t6=some r) (fun t6=>mk [(0,(.one (.d (.sl 2 (List.map d_TCell a1))))),(1,(oI a2)),(2,(oI a3)),(7,(oI v4.1)),(8,(oB v4.2)),(16,(oB t6))] [] (lk [])) ?_ ?_)))))))))
 ·intro t6 H
  unfold impl_put_j6 at H
  rcases oite H with⟨h8,H⟩|⟨h8,H⟩
  ·refine AW.condT rfl h8 (aS (AW.regm (rmOne (oMov eZ (xNil (rmOne ?_))))))
   obtain⟨v9,h10,H⟩:=obind H
   refine oCallN (u:=(.one (.sl 1472 0 v9.length))) (bs:=[(1472,(.data 2 (List.map d_TCell v9) true none))]) eC Cl.fn (c_slices_Clone_Cell h10) (Ec eZ En) (Vc Vp Vn) (by simp[bindR,bindV,bindVs,bindC,bindCs]) rfl (fC nZ rfl (fC nZ rfl fN)) (xNil (rmOne (oMov rfl (xNil (rmOne (oMov rfl (xNil (rmOne (oAdd eZ eC (xNil ?_))))))))))
   obtain⟨v11,h12,H⟩:=obind H
   refine rmCall (ON:=[1472]) (ls:=[]) (G:=[1472]) (E:=[1472]) (MB:=[]) (u:=(.one (.sl 1728 0 v11.length))) (bs:=[(1728,(.data 2 (List.map d_TCell v11) true none))]) eC Cl.fn (c_slices_Delete_Cell h12) (Ec rfl (Ec rfl (Ec eZ En))) (AO.give (VO.sl bZ lm (allFlat fun _=>rfl)) (AO.lent Vp rfl (AO.lent Vp rfl AO.nil))) rfl rfl rfl SZ.nil (erL.cons (v':=(oI (IntKind.wrap .i64 (v4.1+1)))) rfl (erL.cons (v':=(oI v4.1)) rfl (erL.cons (v':=(oI v4.1)) rfl (erL.cons (v':=(.one .any)) rfl (erL.cons (v':=(.one (.d (.sl 2 (List.map d_TCell a1))))) rfl (erL.cons (v':=(.one (.d (.sl 2 (List.map d_TCell a1))))) rfl (erL.cons (v':=(oI a2)) rfl (erL.cons (v':=(oI a3)) rfl (erL.cons (v':=(oI v4.1)) rfl (erL.cons (v':=(oB v4.2)) rfl (erL.cons (v':=(oB t6)) rfl erL.nil))))))))))) (erH.drop rfl erH.nil) erL.nil (by simp[bindR,bindV,bindVs,bindC,bindCs]) rfl (fC nZ rfl (fC nZ rfl fN)) (rmRest (oMov eZ (xQ (AW.ret (BQ.qr (TQ.qr ?_))))))
   obtain rfl:=(Option.some.inj H)
   exact endsR (RL.cons (RV.tmp eZ) (VO.sl bZ lm (allFlat fun _=>rfl)) RL.nil) (by decide)
  ·refine AW.condF rfl (nt h8) (aV (oMov rfl (oEql eZ eC (oMov eZ (xQ ?_)))))
   rcases oite H with⟨h13,H⟩|⟨h13,H⟩
   ·refine AW.condT eZ (dT h13) (aV (oMov rfl ?_))
    obtain⟨v14,h15,H⟩:=obind H
    refine oCallN (u:=(.one (.sl 2048 0 v14.length))) (bs:=[(2048,(.data 2 (List.map d_TCell v14) true none))]) eC Cl.fn (c_slices_Clone_Cell h15) (Ec eZ En) (Vc Vp Vn) (by simp[bindR,bindV,bindVs,bindC,bindCs]) rfl (fC nZ rfl (fC nZ rfl fN)) (oMov eZ (xQ (AW.ret (BQ.qr (TQ.qr ?_)))))
    obtain rfl:=(Option.some.inj H)
    exact endsR (RL.cons (RV.tmp eZ) (VO.sl bZ lm (allFlat fun _=>rfl)) RL.nil) (by decide)
   ·refine AW.condF eZ (dF h13) (aV (oMov rfl (oMov eZ (xQ ?_))))
    rcases oite H with⟨h16,H⟩|⟨h16,H⟩
    ·refine AW.condT eZ h16 (aV (oMov rfl ?_))
     obtain⟨v17,h18,H⟩:=obind H
     refine oCallN (u:=(.one (.sl 2304 0 v17.length))) (bs:=[(2304,(.data 2 (List.map d_TCell v17) true none))]) eC Cl.fn (c_slices_Clone_Cell h18) (Ec eZ En) (Vc Vp Vn) (by simp[bindR,bindV,bindVs,bindC,bindCs]) rfl (fC nZ rfl (fC nZ rfl fN)) (oMov eZ (xQ (aV (oMov eZ (oMov rfl (oMov rfl ?_))))))
     obtain⟨v19,h20,H⟩:=obind H
     refine oAtN rfl rfl bZ rfl h20 (oFaddrN (m:=1) eZ rfl (oStoreD (t:=v19) (t':=(TCell.mk v19.Key a3)) (es:=[(.int .i64 a3)]) eZ rfl rfl rfl bZ (idx_at h20) rfl rfl (xQ (AW.weaken (wk_mkG [] (kr 9 rfl rfl SL.nil) (blR rfl) (BK.cons (n:=2304) rfl bZ rfl rfl BK.nil) GK.nil) (aV (oMov eZ (oMov eZ (xQ (AW.ret (BQ.qr (TQ.qr ?_)))))))))))
     cases H
     exact endsR (RL.cons (RV.tmp eZ) (VO.sl bZ (by first|(simp;done)|(simp;omega)|omega|(simp only[List.length_map];omega)) (allFlat fun _=>rfl)) RL.nil) (by decide)
    ·refine AW.condF eZ (nt h16) (AW.skip (BQ.qn (TQ.qn (aS (AW.regm (rmOne (oMov rfl (xNil (rmOne ?_)))))))))
     obtain⟨v21,h22,H⟩:=obind H
     refine oCallN (u:=(.one (.sl 2816 0 v21.length))) (bs:=[(2816,(.data 2 (List.map d_TCell v21) true none))]) eC Cl.fn (c_slices_Clone_Cell h22) (Ec eZ En) (Vc Vp Vn) (by simp[bindR,bindV,bindVs,bindC,bindCs]) rfl (fC nZ rfl (fC nZ rfl fN)) (xNil (rmOne (oMov rfl (xNil (rmOne (oMov rfl (xNil (rmOne (oMov rfl (xNil (rmOne (oBuild (cs:=[(dI a2),(dI a3)]) (PsCons rfl (PsCons eZ PsNil)) rfl (xNil (rmOne (oBslice (m:=3136) (q:=1) (cs:=[(dI a2),(dI a3)]) rfl (PsCons eZ PsNil) rfl (List.cons_ne_nil _ _) (by simp) (nR rfl) (xNil ?_))))))))))))))))
     obtain⟨v23,h24,H⟩:=obind H
     refine rmWeaken (wk_dataF 3136 (zs:=[]) (f:=d_TCell) (t:=(TCell.mk a2 a3)) bZ rfl rfl) (rmCall (ON:=[2816,3136]) (ls:=[]) (G:=[2816,3136]) (E:=[2816,3136]) (MB:=[]) (u:=(.one (.sl 3200 0 v23.length))) (bs:=[(3200,(.data 2 (List.map d_TCell v23) true none))]) eC Cl.fn (c_slices_Insert_Cell h24) (Ec rfl (Ec rfl (Ec eZ En))) (AO.give (VO.sl (bR rfl) lm (allFlat fun _=>rfl)) (AO.lent Vp rfl (AO.give (VO.sl bZ rfl (allFlat fun _=>rfl)) AO.nil))) rfl rfl rfl SZ.nil (erL.cons (v':=(.one .any)) rfl (erL.cons (v':=(.agg [(dI a2),(dI a3)])) rfl (erL.cons (v':=(oI a3)) rfl (erL.cons (v':=(oI a2)) rfl (erL.cons (v':=(oI v4.1)) rfl (erL.cons (v':=(.one .any)) rfl (erL.cons (v':=(.one (.d (.sl 2 (List.map d_TCell a1))))) rfl (erL.cons (v':=(oB v4.2)) rfl (erL.cons (v':=(oB v4.2)) rfl (erL.cons (v':=(oB (decide (a3=(-1))))) rfl (erL.cons (v':=(oB (decide (a3=(-1))))) rfl (erL.cons (v':=(oI a3)) rfl (erL.cons (v':=(.one (.d (.sl 2 (List.map d_TCell a1))))) rfl (erL.cons (v':=(oI a2)) rfl (erL.cons (v':=(oI a3)) rfl (erL.cons (v':=(oI v4.1)) rfl (erL.cons (v':=(oB v4.2)) rfl (erL.cons (v':=(oB t6)) rfl erL.nil)))))))))))))))))) (erH.drop rfl (erH.drop rfl (erH.drop rfl erH.nil))) erL.nil (by simp[bindR,bindV,bindVs,bindC,bindCs]) rfl (fC nZ rfl (fC nZ rfl fN)) (rmRest (oMov eZ (xQ (AW.weaken (wk_mkG [] (kr 6 rfl rfl SL.nil) (blR rfl) (BK.cons (n:=3200) rfl bZ rfl rfl BK.nil) GK.nil) (AW.ret ?_))))))
     obtain rfl:=(Option.some.inj H)
     exact endsR (RL.cons (RV.tmp eZ) (VO.sl bZ lm (allFlat fun _=>rfl)) RL.nil) (by decide)
 ·refine aR (oMov rfl (oEql eZ eC (oMov eZ ?_)))
  rcases oite H with⟨h25,H⟩|⟨h25,H⟩
  ·exact gDo eZ (dT h25) (oMov rfl (oPickT rfl (dT h25) eZ (oMov eZ (xNil (TQ.qn ⟨v4.2,H,(wk_mkG [] (sR rfl rfl) BL.nil BK.nil GK.nil)⟩)))))
  ·exact gSkip eZ (dF h25) rfl (oPickF rfl (dF h25) eC (oMov eZ (xNil (TQ.qn ⟨false,H,(wk_mkG [] (sR rfl rfl) BL.nil BK.nil GK.nil)⟩))))
theorem c_impl_written{a1:(List TCell)}{a2:(List TCell)}{r:(List TCell)}(H:m_impl_written a1 a2=some r):Fn Try.prog 103 [⟨(.sl 2 (List.map d_TCell a1)),.g⟩,⟨(.sl 2 (List.map d_TCell a2)),.b⟩] true [(.sl 2 (List.map d_TCell r))]:=by
 refine m103 (fle rfl) (fC nZ rfl fN) rfl ?_
 rw[initM_mk]
 refine AW.weaken (t:=mk [(0,(.one (.sl 0 0 a1.length))),(1,(.one (.d (.sl 2 (List.map d_TCell a2)))))] [(0,(.data 2 (List.map d_TCell a1) true none))] (lk [])) (wk_mkG (gl:=[]) [] (SL.cons (v:=(.one (.sl 0 0 a1.length))) eZ rfl (VWk.one (CWk.len lm)) (kv 1 (.one (.d (.sl 2 (List.map d_TCell a2)))) rfl rfl SL.nil)) (blR rfl) (BK.cons (n:=0) rfl bZ rfl rfl BK.nil) GK.nil) ?_
 unfold m_impl_written at H
 unfold i103
 refine aV (oMov eC (xQ (AW.seqJ (fun t3:(List TCell)=>impl_written_j3 t3=some r) (fun t3=>mk [(0,(.one (.sl 320128 0 t3.length)))] [(320128,(.data 2 (List.map d_TCell t3) true none))] (lk [])) ?_ ?_)))
 ·intro t3 H
  unfold impl_written_j3 at H
  refine aV (oMov eZ (oMov eZ (xQ (AW.ret ?_))))
  cases H
  exact endsRM (RL.cons (RV.tmp eZ) (VO.sl bZ lm (allFlat fun _=>rfl)) RL.nil) (ML.give (ML.lent ML.nil)) (by decide)
 ·refine aV (oMov rfl (oLenD eZ (n:=a2.length) lm (oMov eC (xQ (AW.block (AW.iter (fun s5:((List TCell)×Int)=>mk [(0,(.one (.sl 320192 0 s5.1.length))),(7,(.one (.d (.sl 2 (List.map d_TCell a2))))),(8,(oI (a2.length:Int))),(9,(oI s5.2))] [(320192,(.data 2 (List.map d_TCell s5.1) true none))] (lk [])) H ((wk_mkG [] (sR rfl rfl) (blR rfl) (bkR rfl rfl rfl) GK.nil).trans (wk_renG 0 320192 rfl rfl (nR rfl) GR.nil)) ?_))))))
  intro kb6 s5 H
  unfold impl_written_b5 at H
  refine aV (oLss rfl rfl (xQ (aS ?_)))
  rcases oite H with⟨h7,H⟩|⟨h7,H⟩
  ·refine AW.condT eZ (dT h7) (AW.skip (TQ.qn (aS (AW.block (aV ?_)))))
   obtain⟨v8,h9,H⟩:=obind H
   refine oAtD rfl rfl h9 (oLoadBA (es:=[(dI v8.Key),(dI v8.Value)]) eZ rfl (oVar (n:=384) (m:=2) rfl rfl (nR rfl) (oStoreV (es:=[(dI v8.Key),(dI v8.Value)]) eZ rfl rfl rfl bZ rfl (xQ (aR (oMov rfl (oFaddrN (m:=0) rfl rfl (oLoadV (q:=0) (c:=(dI v8.Key)) eZ bZ rfl rfl (oFaddrN (m:=1) rfl rfl (oLoadV (q:=1) (c:=(dI v8.Value)) eZ bZ rfl rfl ?_))))))))))
   obtain⟨v10,h11,H⟩:=obind H
   exact oCallN (u:=(.one (.sl 1152 0 v10.length))) (bs:=[(1152,(.data 2 (List.map d_TCell v10) true none))]) eC Cl.fn (c_impl_put h11) (Ec rfl (Ec rfl (Ec eZ En))) (Vc (VD.sl (bR rfl) lm) (Vc Vp (Vc Vp Vn))) (by simp[bindR,bindV,bindVs,bindC,bindCs]) rfl (fC (nR rfl) rfl (fC (nR rfl) rfl fN)) (oMov eZ (xNil (BQ.qn (TQ.qn (aR (oAdd rfl eC (oMov eZ (xNil (TQ.qn ⟨(v10,(IntKind.wrap .i64 (s5.2+1))),H,(Wk.trans (s:=mk [(0,(.one (.sl 1152 0 v10.length))),(7,(.one (.d (.sl 2 (List.map d_TCell a2))))),(8,(oI (a2.length:Int))),(9,(oI (IntKind.wrap .i64 (s5.2+1))))] [(1152,(.data 2 (List.map d_TCell v10) true none))] (lk [])) ((wk_mkG [] (sR rfl rfl) (blR rfl) (bkR rfl rfl rfl) GK.nil).trans (wk_renG 1152 320192 rfl rfl (nR rfl) GR.nil)) (wk_mkG [384,320192] (kr 0 rfl rfl (kr 7 rfl rfl (kr 8 rfl rfl (kr 9 rfl rfl SL.nil)))) (blR rfl) (BK.cons (n:=1152) rfl bZ rfl rfl BK.nil) GK.nil))⟩)))))))))
  ·exact AW.condF eZ (dF h7) (AW.exit (TQ.qe (TQ.qe (BQ.qe (TQ.qn ⟨s5.1,H,((wk_mkG [] (sR rfl rfl) (blR rfl) (bkR rfl rfl rfl) GK.nil).trans (wk_renG 320192 320128 rfl rfl (nR rfl) GR.nil))⟩)))))
theorem c_impl_StoreApply{a1:(List TCell)}{a2:(List TCell)}{r:((List TCell)×Bool)}(H:m_impl_StoreApply a1 a2=some r):Fn Try.prog 45 (lent [(.sl 2 (List.map d_TCell a1)),(.sl 2 (List.map d_TCell a2))]) true [(.sl 2 (List.map d_TCell r.1)),(.bool r.2)]:=by
 refine f45 (fle rfl) ?_
 rw[init_mk]
 refine AW.weaken (t:=mk [(0,(.one (.d (.sl 2 (List.map d_TCell a1))))),(1,(.one (.d (.sl 2 (List.map d_TCell a2)))))] [] (lk [])) (wk_mk [] (sR rfl rfl) BL.nil BK.nil) ?_
 unfold m_impl_StoreApply at H
 unfold i45
 refine aV (oMov eC (oMov eC (xQ (aS (AW.seqJ (fun t3:Bool=>(impl_StoreApply_j3 a1 a2) t3=some r) (fun t3=>mk [(0,(.one (.d (.sl 2 (List.map d_TCell a1))))),(1,(.one (.d (.sl 2 (List.map d_TCell a2))))),(14,(oB t3))] [] (lk [])) ?_ ?_)))))
 ·intro t3 H
  unfold impl_StoreApply_j3 at H
  rcases oite H with⟨h5,H⟩|⟨h5,H⟩
  ·refine AW.condT rfl h5 (aV (oMov eC (oMov eC (xQ (AW.ret (TQ.qr ?_))))))
   cases H
   exact endsR (RL.cons (RV.tmp rfl) VO.zs (RL.cons (RV.tmp eZ) (VO.flat rfl) RL.nil)) List.nodup_nil
  ·refine AW.condF rfl (nt h5) (AW.skip (TQ.qn (aS (AW.regm (rmOne (oMov eZ (xNil (rmOne ?_))))))))
   obtain⟨v6,h7,H⟩:=obind H
   refine oCallN (u:=(.one (.sl 1024 0 v6.length))) (bs:=[(1024,(.data 2 (List.map d_TCell v6) true none))]) eC Cl.fn (c_slices_Clone_Cell h7) (Ec eZ En) (Vc Vp Vn) (by simp[bindR,bindV,bindVs,bindC,bindCs]) rfl (fC nZ rfl (fC nZ rfl fN)) (xNil (rmOne (oMov rfl (xNil ?_))))
   obtain⟨v8,h9,H⟩:=obind H
   refine rmCall (ON:=[1024]) (ls:=[]) (G:=[1024]) (E:=[1024]) (MB:=[]) (u:=(.one (.sl 1152 0 v8.length))) (bs:=[(1152,(.data 2 (List.map d_TCell v8) true none))]) eC Cl.fn (c_impl_written h9) (Ec rfl (Ec eZ En)) (AO.give (VO.sl bZ lm (allFlat fun _=>rfl)) (AO.lent Vp rfl AO.nil)) rfl rfl rfl SZ.nil (erL.cons (v':=(.one (.d (.sl 2 (List.map d_TCell a2))))) rfl (erL.cons (v':=(.one .any)) rfl (erL.cons (v':=(.one (.d (.sl 2 (List.map d_TCell a1))))) rfl (erL.cons (v':=(.one (.d (.sl 2 (List.map d_TCell a1))))) rfl (erL.cons (v':=(.one (.d (.sl 2 (List.map d_TCell a2))))) rfl (erL.cons (v':=(oB t3)) rfl erL.nil)))))) (erH.drop rfl erH.nil) erL.nil (by simp[bindR,bindV,bindVs,bindC,bindCs]) rfl (fC nZ rfl (fC nZ rfl fN)) (rmRest (oMov eZ (xQ (aS (aV (oMov eZ (oLenN eZ (oGtr eZ eC (xQ ?_)))))))))
   rcases oite H with⟨h10,H⟩|⟨h10,H⟩
   ·refine AW.condT eZ (dT h10) (aV (oMov eC (oMov eC (xQ (AW.ret (TQ.qr ?_))))))
    cases H
    exact endsR (RL.cons (RV.tmp rfl) VO.zs (RL.cons (RV.tmp eZ) (VO.flat rfl) RL.nil)) List.nodup_nil
   ·refine AW.condF eZ (dF h10) (AW.skip (TQ.qn (aV (oMov rfl (oMov eZ (oMov eC (xQ (AW.ret ?_))))))))
    cases H
    exact endsR (RL.cons (RV.tmp rfl) (VO.sl bZ lm (allFlat fun _=>rfl)) (RL.cons (RV.tmp eZ) (VO.flat rfl) RL.nil)) (by decide)
 ·refine aR (oMov rfl ?_)
  obtain⟨v11,h12,H⟩:=obind H
  refine oCall (u:=(oB v11)) eC Cl.fn (c_impl_StoreOk h12) (Ec eZ En) (Vc Vp Vn) rfl (oInv eZ (oMov eZ ?_))
  rcases oite H with⟨h13,H⟩|⟨h13,H⟩
  ·refine gDo eZ (cN h13) (oMov rfl (gDo rfl (cN h13) ?_))
   obtain⟨v14,h15,H⟩:=obind H
   exact oCall (u:=(oB v14)) eC Cl.fn (c_impl_WritesOk h15) (Ec eZ En) (Vc Vp Vn) rfl (gDo rfl (cN h13) (oInv eZ (oPickF rfl (cN h13) eZ (xNil (TQ.qn ⟨(!v14),H,(wk_mkG [] (sR rfl rfl) BL.nil BK.nil GK.nil)⟩)))))
  ·exact gSkip eZ (cN (nt h13)) rfl (gSkip rfl (cN (nt h13)) rfl (gSkip rfl (cN (nt h13)) rfl (oPickT rfl (cN (nt h13)) eC (xNil (TQ.qn ⟨true,H,(wk_mkG [] (sR rfl rfl) BL.nil BK.nil GK.nil)⟩)))))
end Go.AW
