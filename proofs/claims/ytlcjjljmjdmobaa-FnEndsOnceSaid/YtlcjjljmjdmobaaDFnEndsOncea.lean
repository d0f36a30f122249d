/- That functions of the program compute what the plain functions say. Conditions: each theorem's own. -/
import Derived.Test.YtlcjjljmjdmobaaMFnEndsOnce
import Derived.Test.YtlcjjljmjdmobaaGFnEndsOnce
import Derived.Test.YtlcjjljmjdmobaaYp
set_option linter.unusedVariables false
set_option linter.unusedSimpArgs false
set_option maxRecDepth 100000
namespace Go.AW
open Go.Proofs
theorem zdm{a1:(List Int)}{r:Bool}(H:xw a1=some r):Fn Try.prog 15 (lent [(.sl 1 (List.map zN a1))]) true [(.bool r)]:=by
 refine f15 (fle rfl) ?_
 rw[zT]
 refine AW.weaken (zF [] (kv 0 (.one (.d (.sl 1 (List.map zN a1)))) rfl rfl SL.nil) BL.nil BK.nil) ?_
 unfold xw at H
 unfold i15
 refine aV (za eC (xQ (aV (za rfl (qE eZ (n:=a1.length) lm (Yt eZ eC (za eZ (xQ (AW.ret ?_)))))))))
 cases H
 exact eE rfl rfl
theorem zbN{pv:Value}{cb1:(List Int)}{r:(Int×Int)}(H:JT cb1=some r):FnC Try.prog pv (.sl 1 (List.map zN cb1)) 56 [⟨(.pin pv),.b⟩] [(.ptr [(.pin pv),(.int .i64 r.1),(.int .i64 r.2)])]:=by
 refine n56 (fle rfl) (fle rfl) trivial rfl ?_
 rw[QC]
 refine AW.weaken (t:=mk [(0,(.one (.d (.pin pv))))] [] (lk [(63,(.one (.d (.both pv (.sl 1 (List.map zN cb1))))))])) (zk (gl:=[(63,(.one (.d (.both pv (.sl 1 (List.map zN cb1))))))]) [] (kv 0 (.one (.d (.pin pv))) rfl rfl SL.nil) BL.nil BK.nil (GK.cons rfl GK.nil)) ?_
 unfold JT at H
 unfold i56
 refine AW.weaken (zdN 0 (by exact rfl) (by exact rfl)) (aV (za eC (xQ (aV (za rfl (zdR eZ (n:=cb1.length) lm (qf eC eZ (za eZ (xQ (zM (fun t2:Int=>Yh t2=some r) (fun t2=>mk [(0,(.one (.d (.both pv (.sl 1 (List.map zN cb1)))))),(3,(oI t2))] [] (lk [(63,(.one (.d (.both pv (.sl 1 (List.map zN cb1))))))])) ?_ ?_))))))))))
 ·intro t2 H
  unfold Yh at H
  refine aV (za eZ (za rfl (Zo (cs:=[(.d (.both pv (.sl 1 (List.map zN cb1)))),(dI 0),(dI t2)]) (qp rfl (qp eZ jV)) rfl (Q8 (n:=1984) (m:=3) (cs:=[(.d (.both pv (.sl 1 (List.map zN cb1)))),(dI 0),(dI t2)]) rfl eZ rfl rfl nZ (za eZ (xQ (AW.weaken (zaM (by exact rfl) bZ) (AW.ret ?_))))))))
  cases H
  exact y7 (RL.cons (RV.tmp eZ) (VO.ptr (es:=[(.pin pv),(.int .i64 0),(.int .i64 t2)]) bZ rfl rfl rfl) RL.nil) (ML.lent ML.nil) (by decide)
 ·refine aV (za eC (xQ (AW.block (AW.iter (fun s4:(Int×Int)=>mk [(0,(.one (.d (.both pv (.sl 1 (List.map zN cb1)))))),(3,(oI s4.1)),(4,(oI s4.2))] [] (lk [(63,(.one (.d (.both pv (.sl 1 (List.map zN cb1))))))])) H (zk [] (sR rfl rfl) BL.nil BK.nil (GK.cons rfl GK.nil)) ?_))))
  intro kb5 s4 H
  unfold Yi at H
  refine aS (aV (za rfl (za rfl (zdR eZ (n:=cb1.length) lm (ZD rfl eZ (za eZ ?_))))))
  rcases zD H with⟨h6,H⟩|⟨h6,H⟩
  ·refine gDo eZ (dT h6) (za rfl (gDo rfl (dT h6) (ZD eZ eC (zJ rfl (dT h6) eZ (xQ ?_)))))
   rcases zD H with⟨h7,H⟩|⟨h7,H⟩
   ·refine zo eZ (dT h7) (AW.skip (TQ.qn (aS (AW.block (aR (za rfl (za0 eZ eC (za rfl (za rfl ?_)))))))))
    obtain⟨v8,h9,H⟩:=zp H
    exact zoX rfl eZ h9 (qW (e:=(.int .u8 v8)) eZ rfl (zeI eZ (qf rfl eZ (qf eZ eC (zjm eZ eC (za eZ (zb (BQ.qn (TQ.qn (AW.weaken (zk [] (kr 3 rfl rfl (kr 0 rfl rfl (kr 4 rfl rfl SL.nil))) BL.nil BK.nil (GK.cons rfl GK.nil)) (aR (za rfl (qf eZ eC (za eZ (zb (TQ.qn ⟨((IntKind.wrap .i64 (BitVec.ofInt (IntKind.bits .i64) (IntKind.wrap .i64 ((IntKind.wrap .i64 ((IntKind.wrap .i64 (s4.1 * 131))+(IntKind.wrap .i64 v8)))+7))&&& BitVec.ofInt (IntKind.bits .i64) 1073741823).toNat),(IntKind.wrap .i64 (s4.2+1))),H,(zk [] (sR rfl rfl) BL.nil BK.nil (GK.cons rfl GK.nil))⟩))))))))))))))))
   ·exact zn eZ (dF h7) (AW.exit (TQ.qe (TQ.qe (BQ.qe (TQ.qn ⟨s4.1,H,(zk [] (sR rfl rfl) BL.nil BK.nil (GK.cons rfl GK.nil))⟩)))))
  ·exact ze eZ (dF h6) rfl (ze rfl (dF h6) rfl (zU rfl (dF h6) eC (xQ (zn eZ rfl (AW.exit (TQ.qe (TQ.qe (BQ.qe (TQ.qn ⟨s4.1,H,(zk [] (sR rfl rfl) BL.nil BK.nil (GK.cons rfl GK.nil))⟩)))))))))
theorem za4{pv:Value}{cb1:(List Int)}{a2:Int}{r:Int}(H:Jb cb1 a2=some r):FnC Try.prog pv (.sl 1 (List.map zN cb1)) 58 [⟨(.pin pv),.b⟩,⟨(.int .i64 a2),.b⟩] [(.int .i64 r)]:=by
 refine n58 (fle rfl) (fle rfl) trivial rfl ?_
 rw[QC]
 refine AW.weaken (t:=mk [(0,(.one (.d (.pin pv)))),(1,(oI a2))] [] (lk [(63,(.one (.d (.both pv (.sl 1 (List.map zN cb1))))))])) (zk (gl:=[(63,(.one (.d (.both pv (.sl 1 (List.map zN cb1))))))]) [] (kv 0 (.one (.d (.pin pv))) rfl rfl (kv 1 (oI a2) rfl rfl SL.nil)) BL.nil BK.nil (GK.cons rfl GK.nil)) ?_
 unfold Jb at H
 unfold i58
 refine AW.weaken (zdN 0 (by exact rfl) (by exact rfl)) (aV (za eC (xQ (aV (za rfl (zdR eZ (n:=cb1.length) lm (zqS eZ eC (by decide) (qf eC eZ (za eZ (xQ (aS (aV (za eZ (za rfl (Yt rfl eZ (xQ ?_))))))))))))))))
 rcases zD H with⟨h3,H⟩|⟨h3,H⟩
 ·refine zo eZ (dT h3) (aV (za rfl (za eZ (xQ (AW.ret (TQ.qr ?_))))))
  cases H
  exact y7 (RL.cons (RV.tmp eZ) (VO.flat rfl) RL.nil) (ML.lent (ML.lent ML.nil)) (by decide)
 ·refine zn eZ (dF h3) (AW.skip (TQ.qn (aV (za rfl (za eZ (xQ (AW.ret ?_)))))))
  cases H
  exact y7 (RL.cons (RV.tmp eZ) (VO.flat rfl) RL.nil) (ML.lent (ML.lent ML.nil)) (by decide)
theorem Q9{pv:Value}{cb1:(List Int)}{a2:(Int×Int)}{r:(Int×(Int×Int))}(H:ym cb1 a2=some r):FnC Try.prog pv (.sl 1 (List.map zN cb1)) 147 [⟨(.ptr [(.pin pv),(.int .i64 a2.1),(.int .i64 a2.2)]),.m (.ptr [(.pin pv),(.int .i64 r.2.1),(.int .i64 r.2.2)])⟩] [(.int .i64 r.1)]:=by
 refine zqh (fle rfl) (fle rfl) (fC nZ rfl fN) rfl ?_
 rw[QC]
 refine AW.weaken (t:=mk [(0,(.one (.ptr (.nm 0 0 0))))] [(0,(.vars 3 [(.d (.pin pv)),(dI a2.1),(dI a2.2)]))] (lk [(63,(.one (.d (.both pv (.sl 1 (List.map zN cb1)))))),(0,(.one (.ptr (.nm 0 0 0))))])) (zk (gl:=[(63,(.one (.d (.both pv (.sl 1 (List.map zN cb1)))))),(0,(.one (.ptr (.nm 0 0 0))))]) [] (kv 0 (.one (.ptr (.nm 0 0 0))) rfl rfl SL.nil) (blR rfl) (BK.cons (n:=0) rfl bZ rfl rfl BK.nil) (GK.cons rfl (GK.cons rfl GK.nil))) ?_
 unfold ym at H
 unfold zhj
 refine AW.weaken (zeS (by exact rfl) bZ) (aV (za eC (xQ (aV (za rfl (za rfl (yE eZ (zl (m:=2) eZ rfl (zu (q:=2) (c:=(dI a2.2)) eZ bZ rfl rfl (za0 eZ eC (qf eZ eC (yE rfl (zl (m:=2) eZ rfl (zv (es:=[(.d (.both pv (.sl 1 (List.map zN cb1)))),(dI a2.1),(dI (IntKind.wrap .i64 ((IntKind.wrap .i64 (a2.2 * 6364136223846793005))+1442695040888963407)))]) eZ rfl rfl rfl bZ rfl (xQ (aS (AW.regd (za rfl (yE eZ (zl (m:=2) eZ rfl (zu (q:=2) (c:=(dI (IntKind.wrap .i64 ((IntKind.wrap .i64 (a2.2 * 6364136223846793005))+1442695040888963407)))) eZ bZ rfl rfl (zkO eZ eC (by decide) (za rfl (yE eZ (zl (m:=2) eZ rfl (zu (q:=2) (c:=(dI (IntKind.wrap .i64 ((IntKind.wrap .i64 (a2.2 * 6364136223846793005))+1442695040888963407)))) eZ bZ rfl rfl (zkO eZ eC (by decide) (zp9 rfl eZ (zjm eZ eC (za eZ (xQ (AW.weaken (zk [] (kr 3 rfl rfl (kr 0 rfl rfl SL.nil)) (blR rfl) (BK.cons (n:=0) rfl bZ rfl rfl BK.nil) (GK.cons rfl (GK.cons rfl GK.nil))) (aS (aS ?_))))))))))))))))))))))))))))))))))
 refine AW.regd (za rfl (yE eZ (zl (m:=1) eZ rfl (zu (q:=1) (c:=(dI a2.1)) eZ bZ rfl rfl (za rfl (yE eZ (zl (m:=0) eZ rfl (zu (q:=0) (c:=(.d (.both pv (.sl 1 (List.map zN cb1))))) eZ bZ rfl rfl (zdR eZ (n:=cb1.length) lm (ZD rfl eZ (xQ ?_)))))))))))
 rcases zD H with⟨h3,H⟩|⟨h3,H⟩
 ·refine zo eZ (dT h3) (aS (AW.regd (za rfl (za rfl (yE eZ (zl (m:=0) eZ rfl (zu (q:=0) (c:=(.d (.both pv (.sl 1 (List.map zN cb1))))) eZ bZ rfl rfl (za rfl (yE eZ (zl (m:=1) eZ rfl (zu (q:=1) (c:=(dI a2.1)) eZ bZ rfl rfl ?_)))))))))))
  obtain⟨v4,h5,H⟩:=zp H
  refine zoX rfl eZ h5 (qW (e:=(.int .u8 v4)) eZ rfl (zeI eZ (qf rfl eZ (zjm eZ eC (za eZ (xQ (AW.weaken (zk [] (kr 3 rfl rfl (kr 0 rfl rfl SL.nil)) (blR rfl) (BK.cons (n:=0) rfl bZ rfl rfl BK.nil) (GK.cons rfl (GK.cons rfl GK.nil))) (aR (za rfl (za rfl (yE eZ (zl (m:=1) eZ rfl (zu (q:=1) (c:=(dI a2.1)) eZ bZ rfl rfl (qf eZ eC (yE rfl (zl (m:=1) eZ rfl (zv (es:=[(.d (.both pv (.sl 1 (List.map zN cb1)))),(dI (IntKind.wrap .i64 (a2.1+1))),(dI (IntKind.wrap .i64 ((IntKind.wrap .i64 (a2.2 * 6364136223846793005))+1442695040888963407)))]) eZ rfl rfl rfl bZ rfl (xQ (aV (za rfl (za eZ (xQ (AW.weaken (zaM (by exact rfl) bZ) (AW.ret ?_))))))))))))))))))))))))
  cases H
  exact y7 (RL.cons (RV.tmp eZ) (VO.flat rfl) RL.nil) (ML.mut (eS rfl eZ) (VO.ptr (es:=[(.pin pv),(.int .i64 (IntKind.wrap .i64 (a2.1+1))),(.int .i64 (IntKind.wrap .i64 ((IntKind.wrap .i64 (a2.2 * 6364136223846793005))+1442695040888963407)))]) bZ rfl rfl rfl) ML.nil) (by decide)
 ·refine zn eZ (dF h3) (AW.skip (TQ.qn (aV (za rfl (za eZ (xQ (AW.weaken (zaM (by exact rfl) bZ) (AW.ret ?_))))))))
  cases H
  exact y7 (RL.cons (RV.tmp eZ) (VO.flat rfl) RL.nil) (ML.mut (eS rfl eZ) (VO.ptr (es:=[(.pin pv),(.int .i64 a2.1),(.int .i64 (IntKind.wrap .i64 ((IntKind.wrap .i64 (a2.2 * 6364136223846793005))+1442695040888963407)))]) bZ rfl rfl rfl) ML.nil) (by decide)
theorem zL{pv:Value}{cb1:(List Int)}{a2:(Int×Int)}{a3:Int}{r:(Int×(Int×Int))}(H:zC cb1 a2 a3=some r):FnC Try.prog pv (.sl 1 (List.map zN cb1)) 110 [⟨(.ptr [(.pin pv),(.int .i64 a2.1),(.int .i64 a2.2)]),.m (.ptr [(.pin pv),(.int .i64 r.2.1),(.int .i64 r.2.2)])⟩,⟨(.int .i64 a3),.b⟩] [(.int .i64 r.1)]:=by
 refine zqc (fle rfl) (fle rfl) (fC nZ rfl fN) rfl ?_
 rw[QC]
 refine AW.weaken (t:=mk [(0,(.one (.ptr (.nm 0 0 0)))),(1,(oI a3))] [(0,(.vars 3 [(.d (.pin pv)),(dI a2.1),(dI a2.2)]))] (lk [(63,(.one (.d (.both pv (.sl 1 (List.map zN cb1)))))),(0,(.one (.ptr (.nm 0 0 0))))])) (zk (gl:=[(63,(.one (.d (.both pv (.sl 1 (List.map zN cb1)))))),(0,(.one (.ptr (.nm 0 0 0))))]) [] (kv 0 (.one (.ptr (.nm 0 0 0))) rfl rfl (kv 1 (oI a3) rfl rfl SL.nil)) (blR rfl) (BK.cons (n:=0) rfl bZ rfl rfl BK.nil) (GK.cons rfl (GK.cons rfl GK.nil))) ?_
 unfold zC at H
 unfold zgY
 refine aV (za eC (xQ (aS (aV (za rfl (za1 eZ eC (xQ ?_)))))))
 rcases zD H with⟨h4,H⟩|⟨h4,H⟩
 ·refine zo eZ (dT h4) (aV (za eC (xQ (AW.ret (TQ.qr ?_)))))
  cases H
  exact y7 (RL.cons (RV.tmp eZ) (VO.flat rfl) RL.nil) (ML.mut (eS rfl eZ) (VO.ptr (es:=[(.pin pv),(.int .i64 a2.1),(.int .i64 a2.2)]) bZ rfl rfl rfl) (ML.lent ML.nil)) (by decide)
 ·refine zn eZ (dF h4) (AW.skip (TQ.qn (aS (aV (za rfl (za1 eZ eC (xQ ?_)))))))
  rcases zD H with⟨h5,H⟩|⟨h5,H⟩
  ·refine zo eZ (dT h5) (aS (zt (zd (za rfl (zb ?_)))))
   obtain⟨v6,h7,H⟩:=zp H
   refine qQ (v0:=pv) (hg:=by exact rfl) (ON:=[0]) (ls:=[]) (G:=[]) (E:=[zR 0]) (MB:=[(0,(.vars 3 [(.d (.pin pv)),(dI v6.2.1),(dI v6.2.2)]))]) (u:=(oI v6.1)) eC Cl.fn (Q9 h7) (Ec eZ En) (AO.mut (VO.ptr (es:=[(.pin pv),(.int .i64 a2.1),(.int .i64 a2.2)]) bZ rfl rfl rfl) AO.nil) rfl rfl rfl (zV bZ rfl SZ.nil) (erL.cons (v':=(.one (.ptr (.nm 0 0 0)))) rfl (erL.cons (v':=(oB (decide (a3≤256)))) rfl (erL.cons (v':=(oI a3)) rfl (erL.cons (v':=(oB (decide (a3≤0)))) rfl (erL.cons (v':=(oI a3)) rfl (erL.cons (v':=(oI 0)) rfl (erL.cons (v':=(.one (.ptr (.nm 0 0 0)))) rfl (erL.cons (v':=(oI a3)) rfl erL.nil)))))))) (erH.cons (v':=(.vars 3 [(.d (.pin pv)),(dI a2.1),(dI a2.2)])) rfl rfl erH.nil) (erL.cons (v':=(.one (.d (.both pv (.sl 1 (List.map zN cb1)))))) rfl (erL.cons (v':=(.one (.ptr (.nm 0 0 0)))) rfl erL.nil)) rfl rfl (zy (za rfl ?_))
   obtain⟨h8,H⟩:=yx H
   refine KC rfl eZ h8 (za eZ (xQ (AW.ret (TQ.qr ?_))))
   cases H
   exact y7 (RL.cons (RV.tmp eZ) (VO.flat rfl) RL.nil) (ML.mut (eS rfl eZ) (VO.ptr (es:=[(.pin pv),(.int .i64 v6.2.1),(.int .i64 v6.2.2)]) bZ rfl rfl rfl) (ML.lent ML.nil)) (by decide)
  ·refine zn eZ (dF h5) (AW.skip (TQ.qn (aS (zt (zd (za rfl (zb ?_)))))))
   obtain⟨v9,h10,H⟩:=zp H
   refine qQ (v0:=pv) (hg:=by exact rfl) (ON:=[0]) (ls:=[]) (G:=[]) (E:=[zR 0]) (MB:=[(0,(.vars 3 [(.d (.pin pv)),(dI v9.2.1),(dI v9.2.2)]))]) (u:=(oI v9.1)) eC Cl.fn (Q9 h10) (Ec eZ En) (AO.mut (VO.ptr (es:=[(.pin pv),(.int .i64 a2.1),(.int .i64 a2.2)]) bZ rfl rfl rfl) AO.nil) rfl rfl rfl (zV bZ rfl SZ.nil) (erL.cons (v':=(.one (.ptr (.nm 0 0 0)))) rfl (erL.cons (v':=(oB (decide (a3≤256)))) rfl (erL.cons (v':=(oI a3)) rfl (erL.cons (v':=(oB (decide (a3≤0)))) rfl (erL.cons (v':=(oI a3)) rfl (erL.cons (v':=(oI 0)) rfl (erL.cons (v':=(.one (.ptr (.nm 0 0 0)))) rfl (erL.cons (v':=(oI a3)) rfl erL.nil)))))))) (erH.cons (v':=(.vars 3 [(.d (.pin pv)),(dI a2.1),(dI a2.2)])) rfl rfl erH.nil) (erL.cons (v':=(.one (.d (.both pv (.sl 1 (List.map zN cb1)))))) rfl (erL.cons (v':=(.one (.ptr (.nm 0 0 0)))) rfl erL.nil)) rfl rfl (zy (za eZ (xQ (aS (zt (zd (za rfl (zb ?_))))))))
   obtain⟨v11,h12,H⟩:=zp H
   refine qQ (v0:=pv) (hg:=by exact rfl) (ON:=[0]) (ls:=[]) (G:=[]) (E:=[zR 0]) (MB:=[(0,(.vars 3 [(.d (.pin pv)),(dI v11.2.1),(dI v11.2.2)]))]) (u:=(oI v11.1)) eC Cl.fn (Q9 h12) (Ec eZ En) (AO.mut (VO.ptr (es:=[(.pin pv),(.int .i64 v9.2.1),(.int .i64 v9.2.2)]) bZ rfl rfl rfl) AO.nil) rfl rfl rfl (zV bZ rfl SZ.nil) (erL.cons (v':=(.one (.ptr (.nm 0 0 0)))) rfl (erL.cons (v':=(oI v9.1)) rfl (erL.cons (v':=(oI v9.1)) rfl (erL.cons (v':=(.one (.ptr (.nm 0 0 0)))) rfl (erL.cons (v':=(oB (decide (a3≤256)))) rfl (erL.cons (v':=(oI a3)) rfl (erL.cons (v':=(oB (decide (a3≤0)))) rfl (erL.cons (v':=(oI a3)) rfl (erL.cons (v':=(oI 0)) rfl (erL.cons (v':=(.one (.ptr (.nm 0 0 0)))) rfl (erL.cons (v':=(oI a3)) rfl erL.nil))))))))))) (erH.cons (v':=(.vars 3 [(.d (.pin pv)),(dI v9.2.1),(dI v9.2.2)])) rfl rfl (erH.cons (v':=(.vars 3 [(.d (.pin pv)),(dI a2.1),(dI a2.2)])) rfl rfl erH.nil)) (erL.cons (v':=(.one (.d (.both pv (.sl 1 (List.map zN cb1)))))) rfl (erL.cons (v':=(.one (.ptr (.nm 0 0 0)))) rfl erL.nil)) rfl rfl (zy (za eZ (xQ (aS (zt (zd (za rfl (zb ?_))))))))
   obtain⟨v13,h14,H⟩:=zp H
   refine qQ (v0:=pv) (hg:=by exact rfl) (ON:=[0]) (ls:=[]) (G:=[]) (E:=[zR 0]) (MB:=[(0,(.vars 3 [(.d (.pin pv)),(dI v13.2.1),(dI v13.2.2)]))]) (u:=(oI v13.1)) eC Cl.fn (Q9 h14) (Ec eZ En) (AO.mut (VO.ptr (es:=[(.pin pv),(.int .i64 v11.2.1),(.int .i64 v11.2.2)]) bZ rfl rfl rfl) AO.nil) rfl rfl rfl (zV bZ rfl SZ.nil) (erL.cons (v':=(.one (.ptr (.nm 0 0 0)))) rfl (erL.cons (v':=(oI v11.1)) rfl (erL.cons (v':=(oI v11.1)) rfl (erL.cons (v':=(.one (.ptr (.nm 0 0 0)))) rfl (erL.cons (v':=(oI v9.1)) rfl (erL.cons (v':=(oI v9.1)) rfl (erL.cons (v':=(.one (.ptr (.nm 0 0 0)))) rfl (erL.cons (v':=(oB (decide (a3≤256)))) rfl (erL.cons (v':=(oI a3)) rfl (erL.cons (v':=(oB (decide (a3≤0)))) rfl (erL.cons (v':=(oI a3)) rfl (erL.cons (v':=(oI 0)) rfl (erL.cons (v':=(.one (.ptr (.nm 0 0 0)))) rfl (erL.cons (v':=(oI a3)) rfl erL.nil)))))))))))))) (erH.cons (v':=(.vars 3 [(.d (.pin pv)),(dI v11.2.1),(dI v11.2.2)])) rfl rfl (erH.cons (v':=(.vars 3 [(.d (.pin pv)),(dI v9.2.1),(dI v9.2.2)])) rfl rfl (erH.cons (v':=(.vars 3 [(.d (.pin pv)),(dI a2.1),(dI a2.2)])) rfl rfl erH.nil))) (erL.cons (v':=(.one (.d (.both pv (.sl 1 (List.map zN cb1)))))) rfl (erL.cons (v':=(.one (.ptr (.nm 0 0 0)))) rfl erL.nil)) rfl rfl (zy (za eZ (xQ (AW.weaken (zk [] (kr 7 rfl rfl (kr 6 rfl rfl (kr 5 rfl rfl (kr 0 rfl rfl (kr 1 rfl rfl SL.nil))))) (blR rfl) (BK.cons (n:=0) rfl bZ rfl rfl BK.nil) (GK.cons rfl (GK.cons rfl GK.nil))) (aS (zt (zd (za rfl (zb ?_)))))))))
   obtain⟨v15,h16,H⟩:=zp H
   refine qQ (v0:=pv) (hg:=by exact rfl) (ON:=[0]) (ls:=[]) (G:=[]) (E:=[zR 0]) (MB:=[(0,(.vars 3 [(.d (.pin pv)),(dI v15.2.1),(dI v15.2.2)]))]) (u:=(oI v15.1)) eC Cl.fn (Q9 h16) (Ec eZ En) (AO.mut (VO.ptr (es:=[(.pin pv),(.int .i64 v13.2.1),(.int .i64 v13.2.2)]) bZ rfl rfl rfl) AO.nil) rfl rfl rfl (zV bZ rfl SZ.nil) (erL.cons (v':=(.one (.ptr (.nm 0 0 0)))) rfl (erL.cons (v':=(oI v13.1)) rfl (erL.cons (v':=(oI v11.1)) rfl (erL.cons (v':=(oI v9.1)) rfl (erL.cons (v':=(.one (.ptr (.nm 0 0 0)))) rfl (erL.cons (v':=(oI a3)) rfl erL.nil)))))) (erH.cons (v':=(.vars 3 [(.d (.pin pv)),(dI v13.2.1),(dI v13.2.2)])) rfl rfl erH.nil) (erL.cons (v':=(.one (.d (.both pv (.sl 1 (List.map zN cb1)))))) rfl (erL.cons (v':=(.one (.ptr (.nm 0 0 0)))) rfl erL.nil)) rfl rfl (zy (za eZ (xQ (aV (za rfl (za0 eZ eC (za rfl (za0 eZ eC (qf rfl eZ (za rfl (za0 eZ eC (qf rfl eZ (za rfl (qf rfl eZ (za rfl ?_)))))))))))))))
   obtain⟨h17,H⟩:=yx H
   refine KC rfl eZ h17 (za eZ (xQ (AW.weaken (zk [] (kr 4 rfl rfl SL.nil) (blR rfl) (BK.cons (n:=0) rfl bZ rfl rfl BK.nil) (GK.cons rfl (GK.cons rfl GK.nil))) (AW.ret ?_))))
   cases H
   exact y7 (RL.cons (RV.tmp eZ) (VO.flat rfl) RL.nil) (ML.mut (eS rfl eZ) (VO.ptr (es:=[(.pin pv),(.int .i64 v15.2.1),(.int .i64 v15.2.2)]) bZ rfl rfl rfl) (ML.lent ML.nil)) (by decide)
theorem yl{pv:Value}{cb1:(List Int)}{a2:(Int×Int)}{a3:Int}{r:(Bool×(Int×Int))}(H:qw cb1 a2 a3=some r):FnC Try.prog pv (.sl 1 (List.map zN cb1)) 111 [⟨(.ptr [(.pin pv),(.int .i64 a2.1),(.int .i64 a2.2)]),.m (.ptr [(.pin pv),(.int .i64 r.2.1),(.int .i64 r.2.2)])⟩,⟨(.int .i64 a3),.b⟩] [(.bool r.1)]:=by
 refine zqD (fle rfl) (fle rfl) (fC nZ rfl fN) rfl ?_
 rw[QC]
 refine AW.weaken (t:=mk [(0,(.one (.ptr (.nm 0 0 0)))),(1,(oI a3))] [(0,(.vars 3 [(.d (.pin pv)),(dI a2.1),(dI a2.2)]))] (lk [(63,(.one (.d (.both pv (.sl 1 (List.map zN cb1)))))),(0,(.one (.ptr (.nm 0 0 0))))])) (zk (gl:=[(63,(.one (.d (.both pv (.sl 1 (List.map zN cb1)))))),(0,(.one (.ptr (.nm 0 0 0))))]) [] (kv 0 (.one (.ptr (.nm 0 0 0))) rfl rfl (kv 1 (oI a3) rfl rfl SL.nil)) (blR rfl) (BK.cons (n:=0) rfl bZ rfl rfl BK.nil) (GK.cons rfl (GK.cons rfl GK.nil))) ?_
 unfold qw at H
 unfold zjQ
 refine aV (za eC (xQ (aS (zt (zd (za rfl (zb (zd (za rfl (zb ?_))))))))))
 obtain⟨v4,h5,H⟩:=zp H
 refine qQ (v0:=pv) (hg:=by exact rfl) (ON:=[0]) (ls:=[]) (G:=[]) (E:=[zR 0]) (MB:=[(0,(.vars 3 [(.d (.pin pv)),(dI v4.2.1),(dI v4.2.2)]))]) (u:=(oI v4.1)) eC Cl.fn (zL h5) (Ec rfl (Ec eZ En)) (AO.mut (VO.ptr (es:=[(.pin pv),(.int .i64 a2.1),(.int .i64 a2.2)]) bZ rfl rfl rfl) (AO.lent Vp rfl AO.nil)) rfl rfl rfl (zV bZ rfl SZ.nil) (erL.cons (v':=(oI a3)) rfl (erL.cons (v':=(.one (.ptr (.nm 0 0 0)))) rfl (erL.cons (v':=(oB false)) rfl (erL.cons (v':=(.one (.ptr (.nm 0 0 0)))) rfl (erL.cons (v':=(oI a3)) rfl erL.nil))))) (erH.cons (v':=(.vars 3 [(.d (.pin pv)),(dI a2.1),(dI a2.2)])) rfl rfl erH.nil) (erL.cons (v':=(.one (.d (.both pv (.sl 1 (List.map zN cb1)))))) rfl (erL.cons (v':=(.one (.ptr (.nm 0 0 0)))) rfl erL.nil)) rfl rfl (zy (jZ eZ eC (za eZ (xQ (AW.ret ?_)))))
 cases H
 exact y7 (RL.cons (RV.tmp eZ) (VO.flat rfl) RL.nil) (ML.mut (eS rfl eZ) (VO.ptr (es:=[(.pin pv),(.int .i64 v4.2.1),(.int .i64 v4.2.2)]) bZ rfl rfl rfl) (ML.lent ML.nil)) (by decide)
theorem jU{a1:Int}{a2:Int}{a3:Int}{r:Bool}(H:jb a1 a2 a3=some r):Fn Try.prog 64 (lent [(.int .i64 a1),(.int .i64 a2),(.int .i64 a3)]) true [(.bool r)]:=by
 refine f64 (fle rfl) ?_
 rw[zT]
 refine AW.weaken (zF [] (kv 0 (oI a1) rfl rfl (kv 1 (oI a2) rfl rfl (kv 2 (oI a3) rfl rfl SL.nil))) BL.nil BK.nil) ?_
 unfold jb at H
 unfold i64
 refine aV (za eC (xQ (aV (za rfl (za rfl (KG rfl eZ (za eZ ?_)))))))
 rcases zD H with⟨h4,H⟩|⟨h4,H⟩
 ·refine gDo eZ (dT h4) (za rfl (gDo rfl (dT h4) (za rfl (gDo rfl (dT h4) (za1 rfl eZ (zJ rfl (dT h4) eZ (za eZ (xQ (AW.ret ?_)))))))))
  cases H
  exact eE rfl rfl
 ·refine ze eZ (dF h4) rfl (ze rfl (dF h4) rfl (ze rfl (dF h4) rfl (zU rfl (dF h4) eC (za eZ (xQ (AW.ret ?_))))))
  cases H
  exact eE rfl rfl
theorem kl{a1:Int}{r:Bool}(H:ZU a1=some r):Fn Try.prog 63 (lent [(.int .i64 a1)]) true [(.bool r)]:=by
 refine f63 (fle rfl) ?_
 rw[zT]
 refine AW.weaken (zF [] (kv 0 (oI a1) rfl rfl SL.nil) BL.nil BK.nil) ?_
 unfold ZU at H
 unfold i63
 refine aV (za eC (xQ (aV (za rfl ?_))))
 obtain⟨v2,h3,H⟩:=zp H
 refine zQ (u:=(oB v2)) eC Cl.fn (jU h3) (Ec eZ (Ec eC (Ec eC En))) (Vc Vp (Vc Vp (Vc Vp Vn))) rfl (za eZ (xQ (AW.ret ?_)))
 cases H
 exact eE rfl rfl
theorem zaV{a1:Int}{r:Bool}(H:Jg a1=some r):Fn Try.prog 99 (lent [(.int .i64 a1)]) true [(.bool r)]:=by
 refine f99 (fle rfl) ?_
 rw[zT]
 refine AW.weaken (zF [] (kv 0 (oI a1) rfl rfl SL.nil) BL.nil BK.nil) ?_
 unfold Jg at H
 unfold i99
 refine aV (za eC (xQ (aV (za rfl ?_))))
 obtain⟨v2,h3,H⟩:=zp H
 refine zQ (u:=(oB v2)) eC Cl.fn (jU h3) (Ec eZ (Ec eC (Ec eC En))) (Vc Vp (Vc Vp (Vc Vp Vn))) rfl (za eZ (xQ (AW.ret ?_)))
 cases H
 exact eE rfl rfl
theorem xE{a1:(List qj)}{r:Bool}(H:Zq a1=some r):Fn Try.prog 105 (lent [(.sl 2 (List.map zW a1))]) true [(.bool r)]:=by
 refine zqd (fle rfl) ?_
 rw[zT]
 refine AW.weaken (zF [] (kv 0 (.one (.d (.sl 2 (List.map zW a1)))) rfl rfl SL.nil) BL.nil BK.nil) ?_
 unfold Zq at H
 unfold zoE
 refine aV (za eC (xQ (aS (aV (za rfl (qE eZ (n:=a1.length) lm (Yt eZ eC (xQ ?_))))))))
 rcases zD H with⟨h2,H⟩|⟨h2,H⟩
 ·refine zo eZ (dT h2) (aV (za eC (xQ (AW.ret (TQ.qr ?_)))))
  cases H
  exact eE rfl rfl
 ·refine zn eZ (dF h2) (AW.skip (TQ.qn (zM (fun t3:Unit=>J4 t3=some r) (fun t3=>mk [] [] noG) ?_ ?_)))
  ·intro t3 H
   unfold J4 at H
   refine aV (za eC (xQ (AW.ret ?_)))
   cases H
   exact eE rfl rfl
  ·refine aV (za eC (xQ (AW.block (AW.iter (fun s5:Int=>mk [(0,(.one (.d (.sl 2 (List.map zW a1))))),(3,(oI s5))] [] noG) H (zF [] (sR rfl rfl) BL.nil BK.nil) ?_))))
   intro kb6 s5 H
   unfold QQ at H
   refine aS (aV (za rfl (za rfl (qE eZ (n:=a1.length) lm (ZD rfl eZ (xQ ?_))))))
   rcases zD H with⟨h7,H⟩|⟨h7,H⟩
   ·refine zo eZ (dT h7) (AW.skip (TQ.qn (aS (AW.block (zM (fun t8:Bool=>(yh kb6 s5) t8=some r) (fun t8=>mk [(0,(.one (.d (.sl 2 (List.map zW a1))))),(3,(oI s5)),(46,(oB t8))] [] noG) ?_ ?_)))))
    ·intro t8 H
     unfold yh at H
     rcases zD H with⟨h10,H⟩|⟨h10,H⟩
     ·refine zo rfl h10 (aV (za eC (xQ (AW.ret (BQ.qr (TQ.qr (TQ.qr (BQ.qr (TQ.qr ?_)))))))))
      cases H
      exact eE rfl rfl
     ·exact zn rfl (nt h10) (AW.skip (BQ.qn (TQ.qn (aR (za rfl (qf eZ eC (za eZ (zb (TQ.qn ⟨(IntKind.wrap .i64 (s5+1)),H,(zF [] (sR rfl rfl) BL.nil BK.nil)⟩)))))))))
    ·refine AW.regd (za rfl (za rfl ?_))
     obtain⟨v11,h12,H⟩:=zp H
     refine yS rfl eZ h12 (jr (m:=0) eZ rfl (qW (e:=(.int .i64 v11.Key)) eZ rfl ?_))
     obtain⟨v13,h14,H⟩:=zp H
     refine zQ (u:=(oB v13)) eC Cl.fn (zaV h14) (Ec eZ En) (Vc Vp Vn) rfl (jF eZ (za eZ ?_))
     rcases zD H with⟨h15,H⟩|⟨h15,H⟩
     ·refine gDo eZ (cN h15) (za rfl (gDo rfl (cN h15) (za rfl (gDo rfl (cN h15) ?_))))
      obtain⟨v16,h17,H⟩:=zp H
      refine yS rfl eZ h17 (gDo rfl (cN h15) (jr (m:=1) eZ rfl (gDo rfl (cN h15) (qW (e:=(.int .i64 v16.Value)) eZ rfl (gDo rfl (cN h15) ?_)))))
      obtain⟨v18,h19,H⟩:=zp H
      refine zQ (u:=(oB v18)) eC Cl.fn (jU h19) (Ec eZ (Ec eC (Ec eC En))) (Vc Vp (Vc Vp (Vc Vp Vn))) rfl (gDo rfl (cN h15) (jF eZ (zU rfl (cN h15) eZ (za eZ ?_))))
      rcases zD H with⟨h20,H⟩|⟨h20,H⟩
      ·refine gDo eZ (cN h20) (za rfl (gDo rfl (cN h20) (Yt eZ eC (gDo rfl (cN h20) (za eZ ?_)))))
       rcases zD H with⟨h21,H⟩|⟨h21,H⟩
       ·refine gDo eZ (dT h21) (za rfl (gDo rfl (dT h21) (za rfl (gDo rfl (dT h21) (Yn eZ eC (gDo rfl (dT h21) ?_))))))
        obtain⟨v22,h23,H⟩:=zp H
        refine yS rfl eZ h23 (gDo rfl (dT h21) (jr (m:=0) eZ rfl (gDo rfl (dT h21) (qW (e:=(.int .i64 v22.Key)) eZ rfl (gDo rfl (dT h21) (za rfl (gDo rfl (dT h21) (za rfl (gDo rfl (dT h21) ?_)))))))))
        obtain⟨v24,h25,H⟩:=zp H
        exact yS rfl eZ h25 (gDo rfl (dT h21) (jr (m:=0) eZ rfl (gDo rfl (dT h21) (qW (e:=(.int .i64 v24.Key)) eZ rfl (gDo rfl (dT h21) (KG rfl eZ (gDo rfl (cN h20) (zJ rfl (dT h21) eZ (zU rfl (cN h20) eZ (zb (TQ.qn ⟨(decide (v24.Key≤v22.Key)),H,(zF [] (sR rfl rfl) BL.nil BK.nil)⟩)))))))))))
       ·exact ze eZ (dF h21) rfl (ze rfl (dF h21) rfl (ze rfl (dF h21) rfl (ze rfl (dF h21) rfl (ze rfl (dF h21) rfl (ze rfl (dF h21) rfl (ze rfl (dF h21) rfl (ze rfl (dF h21) rfl (ze rfl (dF h21) rfl (ze rfl (dF h21) rfl (ze rfl (dF h21) rfl (ze rfl (dF h21) rfl (gDo rfl (cN h20) (zU rfl (dF h21) eC (zU rfl (cN h20) eZ (zb (TQ.qn ⟨false,H,(zF [] (sR rfl rfl) BL.nil BK.nil)⟩))))))))))))))))
      ·exact ze eZ (cN (nt h20)) rfl (ze rfl (cN (nt h20)) rfl (ze rfl (cN (nt h20)) rfl (z7 eZ rfl (z7 rfl rfl (z7 rfl rfl (z7 rfl rfl (z7 rfl rfl (z7 rfl rfl (z7 rfl rfl (z7 rfl rfl (z7 rfl rfl (z7 rfl rfl (z7 rfl rfl (z7 rfl rfl (ze rfl (cN (nt h20)) rfl (zJ rfl (cN (nt h20)) eC (zb (TQ.qn ⟨true,H,(zF [] (sR rfl rfl) BL.nil BK.nil)⟩))))))))))))))))))
     ·exact ze eZ (cN (nt h15)) rfl (ze rfl (cN (nt h15)) rfl (ze rfl (cN (nt h15)) rfl (ze rfl (cN (nt h15)) rfl (ze rfl (cN (nt h15)) rfl (ze rfl (cN (nt h15)) rfl (ze rfl (cN (nt h15)) rfl (zJ rfl (cN (nt h15)) eC (za eZ (ze eZ rfl rfl (ze rfl rfl rfl (ze rfl rfl rfl (z7 eZ rfl (z7 rfl rfl (z7 rfl rfl (z7 rfl rfl (z7 rfl rfl (z7 rfl rfl (z7 rfl rfl (z7 rfl rfl (z7 rfl rfl (z7 rfl rfl (z7 rfl rfl (z7 rfl rfl (ze rfl rfl rfl (zJ rfl rfl eC (zb (TQ.qn ⟨true,H,(zF [] (sR rfl rfl) BL.nil BK.nil)⟩)))))))))))))))))))))))))))
   ·exact zn eZ (dF h7) (AW.exit (TQ.qe (TQ.qe (BQ.qe (TQ.qn ⟨(),H,(zF [] SL.nil BL.nil BK.nil)⟩)))))
theorem zay{a1:qi}{r:Bool}(H:QI a1=some r):Fn Try.prog 121 (lent [(.agg (z4 a1))]) true [(.bool r)]:=by
 refine zqg (fle rfl) ?_
 rw[zT]
 refine AW.weaken (zF [] (kv 0 (.agg [(dI a1.Lo),(dI a1.Hi)]) rfl rfl SL.nil) BL.nil BK.nil) ?_
 unfold QI at H
 unfold zlK
 refine aV (Q8 (n:=64) (m:=2) (cs:=[(dI a1.Lo),(dI a1.Hi)]) rfl eZ rfl rfl nZ (za eC (xQ (aV (zl (m:=0) rfl rfl (zu (q:=0) (c:=(dI a1.Lo)) eZ bZ rfl rfl (KG eZ eC (za eZ ?_))))))))
 rcases zD H with⟨h2,H⟩|⟨h2,H⟩
 ·refine gDo eZ (dT h2) (zl (m:=0) rfl rfl (gDo rfl (dT h2) (zu (q:=0) (c:=(dI a1.Lo)) eZ bZ rfl rfl (gDo rfl (dT h2) (zl (m:=1) rfl rfl (gDo rfl (dT h2) (zu (q:=1) (c:=(dI a1.Hi)) eZ bZ rfl rfl (gDo rfl (dT h2) (ZD rfl eZ (zJ rfl (dT h2) eZ (za eZ ?_)))))))))))
  rcases zD H with⟨h3,H⟩|⟨h3,H⟩
  ·refine gDo eZ (dT h3) (zl (m:=1) rfl rfl (gDo rfl (dT h3) (zu (q:=1) (c:=(dI a1.Hi)) eZ bZ rfl rfl (gDo rfl (dT h3) (za1 eZ eC (zJ rfl (dT h3) eZ (za eZ (xQ (AW.weaken (zF [64] (kr 2 rfl rfl SL.nil) (blR rfl) BK.nil) (AW.ret ?_))))))))))
   cases H
   exact eE rfl rfl
  ·refine ze eZ (dF h3) rfl (ze rfl (dF h3) rfl (ze rfl (dF h3) rfl (zU rfl (dF h3) eC (za eZ (xQ (AW.weaken (zF [64] (kr 2 rfl rfl SL.nil) (blR rfl) BK.nil) (AW.ret ?_)))))))
   cases H
   exact eE rfl rfl
 ·refine ze eZ (dF h2) rfl (ze rfl (dF h2) rfl (ze rfl (dF h2) rfl (ze rfl (dF h2) rfl (ze rfl (dF h2) rfl (zU rfl (dF h2) eC (za eZ (ze eZ rfl rfl (ze rfl rfl rfl (ze rfl rfl rfl (zU rfl rfl eC (za eZ (xQ (AW.weaken (zF [64] (kr 2 rfl rfl SL.nil) (blR rfl) BK.nil) (AW.ret ?_))))))))))))))
  cases H
  exact eE rfl rfl
theorem xF{a1:(List zf)}{r:Bool}(H:Zr a1=some r):Fn Try.prog 81 (lent [(.sl 4 (List.map zg a1))]) true [(.bool r)]:=by
 refine f81 (fle rfl) ?_
 rw[zT]
 refine AW.weaken (t:=mk [(0,(.one (.d (.sl 4 (List.map zg a1)))))] [] (lk [])) (zF [] (sR rfl rfl) BL.nil BK.nil) ?_
 unfold Zr at H
 unfold i81
 refine aV (za eC (xQ (aS (aV (za rfl (qE eZ (n:=a1.length) lm (Yt eZ eC (xQ ?_))))))))
 rcases zD H with⟨h2,H⟩|⟨h2,H⟩
 ·refine zo eZ (dT h2) (aV (za eC (xQ (AW.ret (TQ.qr ?_)))))
  cases H
  exact eE rfl rfl
 ·refine zn eZ (dF h2) (AW.skip (TQ.qn (zM (fun t3:Unit=>J5 t3=some r) (fun t3=>mk [] [] (lk [])) ?_ ?_)))
  ·intro t3 H
   unfold J5 at H
   refine aV (za eC (xQ (AW.ret ?_)))
   cases H
   exact eE rfl rfl
  ·refine aV (za eC (xQ (AW.block (AW.iter (fun s5:Int=>mk [(0,(.one (.d (.sl 4 (List.map zg a1))))),(3,(oI s5))] [] (lk [])) H (zk [] (sR rfl rfl) BL.nil BK.nil GK.nil) ?_))))
   intro kb6 s5 H
   unfold QL at H
   refine aS (aV (za rfl (za rfl (qE eZ (n:=a1.length) lm (ZD rfl eZ (xQ ?_))))))
   rcases zD H with⟨h7,H⟩|⟨h7,H⟩
   ·refine zo eZ (dT h7) (AW.skip (TQ.qn (zM (fun t8:Unit=>(qJ kb6 s5) t8=some r) (fun t8=>mk [(0,(.one (.d (.sl 4 (List.map zg a1))))),(3,(oI s5))] [] (lk [])) ?_ ?_)))
    ·intro t8 H
     unfold qJ at H
     exact aR (za rfl (qf eZ eC (za eZ (zb (TQ.qn ⟨(IntKind.wrap .i64 (s5+1)),H,(zk [] (sR rfl rfl) BL.nil BK.nil GK.nil)⟩)))))
    ·refine AW.block (aS (zt (zd (za rfl (zb (zd (za rfl (zb (zd ?_)))))))))
     obtain⟨v10,h11,H⟩:=zp H
     refine yS rfl eZ h11 (zb (zd (Qe (es:=(yC v10)) eZ rfl (zb (zd (ZG (n:=256) (m:=4) rfl rfl nZ (zb (zd (zv (es:=(yC v10)) eZ rfl rfl rfl bZ rfl (zb (zy (xQ (aS (zM (fun t12:Bool=>(qL v10 (qJ kb6 s5)) t12=some r) (fun t12=>mk [(0,(.one (.d (.sl 4 (List.map zg a1))))),(3,(oI s5)),(4,(.one (.ptr (.nm 256 0 0)))),(55,(oB t12))] [(256,(.vars 4 (yC v10)))] (lk [])) ?_ ?_))))))))))))))
     ·intro t12 H
      unfold qL at H
      rcases zD H with⟨h14,H⟩|⟨h14,H⟩
      ·refine zo rfl h14 (aV (za eC (xQ (AW.ret (TQ.qr (BQ.qr (TQ.qr (TQ.qr (BQ.qr (TQ.qr ?_))))))))))
       cases H
       exact eE rfl rfl
      ·refine zn rfl (nt h14) (AW.skip (TQ.qn (aV (za eC (xQ (AW.block (AW.iter (fun s15:Int=>mk [(0,(.one (.d (.sl 4 (List.map zg a1))))),(3,(oI s5)),(4,(.one (.ptr (.nm 256 0 0)))),(5,(oI s15))] [(256,(.vars 4 (yC v10)))] (lk [])) H (zk [] (sR rfl rfl) (blR rfl) (bkR rfl rfl rfl) GK.nil) ?_)))))))
       intro kb16 s15 H
       unfold Zw at H
       refine aS (aV (za rfl (zl (m:=1) rfl rfl (zu (q:=1) (c:=(.d (.sl 2 (List.map z4 v10.Reads)))) eZ bZ rfl rfl (qE eZ (n:=v10.Reads.length) lm (ZD rfl eZ (xQ ?_)))))))
       rcases zD H with⟨h17,H⟩|⟨h17,H⟩
       ·refine zo eZ (dT h17) (AW.skip (TQ.qn (aS (AW.block (aV (zl (m:=1) rfl rfl (zu (q:=1) (c:=(.d (.sl 2 (List.map z4 v10.Reads)))) eZ bZ rfl rfl (za rfl ?_))))))))
        obtain⟨v18,h19,H⟩:=zp H
        refine yS rfl eZ h19 (Qe (es:=[(dI v18.Lo),(dI v18.Hi)]) eZ rfl ?_)
        obtain⟨v20,h21,H⟩:=zp H
        refine zQ (u:=(oB v20)) eC Cl.fn (zay h21) (Ec eZ En) (Vc (VD.agg rfl) Vn) rfl (jF eZ (xQ (AW.weaken (zk [] (kr 69 rfl rfl (kr 0 rfl rfl (kr 3 rfl rfl (kr 4 rfl rfl (kr 5 rfl rfl SL.nil))))) (blR rfl) (BK.cons (n:=256) rfl bZ rfl rfl BK.nil) GK.nil) ?_)))
        rcases zD H with⟨h22,H⟩|⟨h22,H⟩
        ·exact zn eZ (cN h22) (AW.skip (BQ.qn (TQ.qn (aR (za rfl (qf eZ eC (za eZ (zb (TQ.qn ⟨(IntKind.wrap .i64 (s15+1)),H,(zk [] (sR rfl rfl) (blR rfl) (bkR rfl rfl rfl) GK.nil)⟩)))))))))
        ·refine zo eZ (cN (nt h22)) (aV (za eC (xQ (AW.ret (BQ.qr (TQ.qr (TQ.qr (BQ.qr (BQ.qr (TQ.qr (TQ.qr (BQ.qr (TQ.qr ?_)))))))))))))
         cases H
         exact eE rfl rfl
       ·exact zn eZ (dF h17) (AW.exit (TQ.qe (TQ.qe (BQ.qe (BQ.qn (TQ.qn ⟨(),H,(zk [256] (sR rfl rfl) (blR rfl) BK.nil GK.nil)⟩))))))
     ·refine AW.regd (zl (m:=0) eZ rfl (zu (q:=0) (c:=(dI v10.Group)) eZ bZ rfl rfl ?_))
      obtain⟨v23,h24,H⟩:=zp H
      refine zQ (u:=(oB v23)) eC Cl.fn (jU h24) (Ec eZ (Ec eC (Ec eC En))) (Vc Vp (Vc Vp (Vc Vp Vn))) rfl (jF eZ (za eZ ?_))
      rcases zD H with⟨h25,H⟩|⟨h25,H⟩
      ·refine gDo eZ (cN h25) (za rfl (gDo rfl (cN h25) (Yt eZ eC (gDo rfl (cN h25) (za eZ ?_)))))
       rcases zD H with⟨h26,H⟩|⟨h26,H⟩
       ·refine gDo eZ (dT h26) (za rfl (gDo rfl (dT h26) (za rfl (gDo rfl (dT h26) (Yn eZ eC (gDo rfl (dT h26) ?_))))))
        obtain⟨v27,h28,H⟩:=zp H
        refine yS rfl eZ h28 (gDo rfl (dT h26) (jr (m:=0) eZ rfl (gDo rfl (dT h26) (qW (e:=(.int .i64 v27.Group)) eZ rfl (gDo rfl (dT h26) (zl (m:=0) rfl rfl (gDo rfl (dT h26) (zu (q:=0) (c:=(dI v10.Group)) eZ bZ rfl rfl (gDo rfl (dT h26) (KG rfl eZ (gDo rfl (cN h25) (zJ rfl (dT h26) eZ (zU rfl (cN h25) eZ (za eZ ?_))))))))))))))
        rcases zD H with⟨h29,H⟩|⟨h29,H⟩
        ·exact ze eZ (dT h29) rfl (ze rfl (dT h29) rfl (ze rfl (dT h29) rfl (ze rfl (dT h29) rfl (zJ rfl (dT h29) eC (za eZ (ze eZ rfl rfl (ze rfl rfl rfl (ze rfl rfl rfl (ze rfl rfl rfl (zJ rfl rfl eC (za eZ (ze eZ rfl rfl (ze rfl rfl rfl (ze rfl rfl rfl (ze rfl rfl rfl (zJ rfl rfl eC (zb (TQ.qn ⟨true,H,(zk [] (sR rfl rfl) (blR rfl) (bkR rfl rfl rfl) GK.nil)⟩))))))))))))))))))
        ·refine gDo eZ (dF h29) (zl (m:=1) rfl rfl (gDo rfl (dF h29) (zu (q:=1) (c:=(.d (.sl 2 (List.map z4 v10.Reads)))) eZ bZ rfl rfl (gDo rfl (dF h29) (qE eZ (n:=v10.Reads.length) lm (gDo rfl (dF h29) (Yt eZ eC (zU rfl (dF h29) eZ (za eZ ?_)))))))))
         rcases zD H with⟨h30,H⟩|⟨h30,H⟩
         ·exact ze eZ (dT h30) rfl (ze rfl (dT h30) rfl (ze rfl (dT h30) rfl (ze rfl (dT h30) rfl (zJ rfl (dT h30) eC (za eZ (ze eZ rfl rfl (ze rfl rfl rfl (ze rfl rfl rfl (ze rfl rfl rfl (zJ rfl rfl eC (zb (TQ.qn ⟨true,H,(zk [] (sR rfl rfl) (blR rfl) (bkR rfl rfl rfl) GK.nil)⟩))))))))))))
         ·refine gDo eZ (dF h30) (zl (m:=2) rfl rfl (gDo rfl (dF h30) (zu (q:=2) (c:=(.d (.sl 2 (List.map zW v10.Writes)))) eZ bZ rfl rfl (gDo rfl (dF h30) ?_))))
          obtain⟨v31,h32,H⟩:=zp H
          refine zQ (u:=(oB v31)) eC Cl.fn (xE h32) (Ec eZ En) (Vc Vp Vn) rfl (gDo rfl (dF h30) (jF eZ (zU rfl (dF h30) eZ (za eZ ?_))))
          rcases zD H with⟨h33,H⟩|⟨h33,H⟩
          ·refine gDo eZ (cN h33) (zl (m:=3) rfl rfl (gDo rfl (cN h33) (zu (q:=3) (c:=(dI v10.Vote)) eZ bZ rfl rfl (gDo rfl (cN h33) ?_))))
           obtain⟨v34,h35,H⟩:=zp H
           exact zQ (u:=(oB v34)) eC Cl.fn (jU h35) (Ec eZ (Ec eC (Ec eC En))) (Vc Vp (Vc Vp (Vc Vp Vn))) rfl (gDo rfl (cN h33) (jF eZ (zU rfl (cN h33) eZ (zb (TQ.qn ⟨(!v34),H,(zk [] (sR rfl rfl) (blR rfl) (bkR rfl rfl rfl) GK.nil)⟩)))))
          ·exact ze eZ (cN (nt h33)) rfl (ze rfl (cN (nt h33)) rfl (ze rfl (cN (nt h33)) rfl (ze rfl (cN (nt h33)) rfl (zJ rfl (cN (nt h33)) eC (zb (TQ.qn ⟨true,H,(zk [] (sR rfl rfl) (blR rfl) (bkR rfl rfl rfl) GK.nil)⟩))))))
       ·refine ze eZ (dF h26) rfl (ze rfl (dF h26) rfl (ze rfl (dF h26) rfl (ze rfl (dF h26) rfl (ze rfl (dF h26) rfl (ze rfl (dF h26) rfl (ze rfl (dF h26) rfl (ze rfl (dF h26) rfl (ze rfl (dF h26) rfl (gDo rfl (cN h25) (zU rfl (dF h26) eC (zU rfl (cN h25) eZ (za eZ (gDo eZ rfl (zl (m:=1) rfl rfl (gDo rfl rfl (zu (q:=1) (c:=(.d (.sl 2 (List.map z4 v10.Reads)))) eZ bZ rfl rfl (gDo rfl rfl (qE eZ (n:=v10.Reads.length) lm (gDo rfl rfl (Yt eZ eC (zU rfl rfl eZ (za eZ ?_))))))))))))))))))))))
        rcases zD H with⟨h36,H⟩|⟨h36,H⟩
        ·exact ze eZ (dT h36) rfl (ze rfl (dT h36) rfl (ze rfl (dT h36) rfl (ze rfl (dT h36) rfl (zJ rfl (dT h36) eC (za eZ (ze eZ rfl rfl (ze rfl rfl rfl (ze rfl rfl rfl (ze rfl rfl rfl (zJ rfl rfl eC (zb (TQ.qn ⟨true,H,(zk [] (sR rfl rfl) (blR rfl) (bkR rfl rfl rfl) GK.nil)⟩))))))))))))
        ·refine gDo eZ (dF h36) (zl (m:=2) rfl rfl (gDo rfl (dF h36) (zu (q:=2) (c:=(.d (.sl 2 (List.map zW v10.Writes)))) eZ bZ rfl rfl (gDo rfl (dF h36) ?_))))
         obtain⟨v37,h38,H⟩:=zp H
         refine zQ (u:=(oB v37)) eC Cl.fn (xE h38) (Ec eZ En) (Vc Vp Vn) rfl (gDo rfl (dF h36) (jF eZ (zU rfl (dF h36) eZ (za eZ ?_))))
         rcases zD H with⟨h39,H⟩|⟨h39,H⟩
         ·refine gDo eZ (cN h39) (zl (m:=3) rfl rfl (gDo rfl (cN h39) (zu (q:=3) (c:=(dI v10.Vote)) eZ bZ rfl rfl (gDo rfl (cN h39) ?_))))
          obtain⟨v40,h41,H⟩:=zp H
          exact zQ (u:=(oB v40)) eC Cl.fn (jU h41) (Ec eZ (Ec eC (Ec eC En))) (Vc Vp (Vc Vp (Vc Vp Vn))) rfl (gDo rfl (cN h39) (jF eZ (zU rfl (cN h39) eZ (zb (TQ.qn ⟨(!v40),H,(zk [] (sR rfl rfl) (blR rfl) (bkR rfl rfl rfl) GK.nil)⟩)))))
         ·exact ze eZ (cN (nt h39)) rfl (ze rfl (cN (nt h39)) rfl (ze rfl (cN (nt h39)) rfl (ze rfl (cN (nt h39)) rfl (zJ rfl (cN (nt h39)) eC (zb (TQ.qn ⟨true,H,(zk [] (sR rfl rfl) (blR rfl) (bkR rfl rfl rfl) GK.nil)⟩))))))
      ·exact ze eZ (cN (nt h25)) rfl (ze rfl (cN (nt h25)) rfl (ze rfl (cN (nt h25)) rfl (z7 eZ rfl (z7 rfl rfl (z7 rfl rfl (z7 rfl rfl (z7 rfl rfl (z7 rfl rfl (z7 rfl rfl (z7 rfl rfl (z7 rfl rfl (ze rfl (cN (nt h25)) rfl (zJ rfl (cN (nt h25)) eC (za eZ (ze eZ rfl rfl (ze rfl rfl rfl (ze rfl rfl rfl (ze rfl rfl rfl (zJ rfl rfl eC (za eZ (ze eZ rfl rfl (ze rfl rfl rfl (ze rfl rfl rfl (ze rfl rfl rfl (zJ rfl rfl eC (za eZ (ze eZ rfl rfl (ze rfl rfl rfl (ze rfl rfl rfl (ze rfl rfl rfl (zJ rfl rfl eC (zb (TQ.qn ⟨true,H,(zk [] (sR rfl rfl) (blR rfl) (bkR rfl rfl rfl) GK.nil)⟩)))))))))))))))))))))))))))))))))
   ·exact zn eZ (dF h7) (AW.exit (TQ.qe (TQ.qe (BQ.qe (TQ.qn ⟨(),H,(zk [] SL.nil BL.nil BK.nil GK.nil)⟩)))))
theorem Qj{a1:(List zf)}{a2:Int}{r:Int}(H:jP a1 a2=some r):Fn Try.prog 82 (lent [(.sl 4 (List.map zg a1)),(.int .i64 a2)]) true [(.int .i64 r)]:=by
 refine f82 (fle rfl) ?_
 rw[zT]
 refine AW.weaken (zF [] (kv 0 (.one (.d (.sl 4 (List.map zg a1)))) rfl rfl (kv 1 (oI a2) rfl rfl SL.nil)) BL.nil BK.nil) ?_
 unfold jP at H
 unfold i82
 refine aV (za eC (xQ (aV (za eC (xQ (zM (fun t3:Int=>QY t3=some r) (fun t3=>mk [(5,(oI t3))] [] noG) ?_ ?_))))))
 ·intro t3 H
  unfold QY at H
  refine aV (za eZ (za eZ (xQ (AW.ret ?_))))
  cases H
  exact eE rfl rfl
 ·refine aV (za eC (xQ (AW.block (AW.iter (fun s5:(Int×Int)=>mk [(0,(.one (.d (.sl 4 (List.map zg a1))))),(1,(oI a2)),(5,(oI s5.1)),(6,(oI s5.2))] [] noG) H (zF [] (sR rfl rfl) BL.nil BK.nil) ?_))))
  intro kb6 s5 H
  unfold QV at H
  refine aS (aV (za rfl (za rfl (qE eZ (n:=a1.length) lm (ZD rfl eZ (xQ ?_))))))
  rcases zD H with⟨h7,H⟩|⟨h7,H⟩
  ·refine zo eZ (dT h7) (AW.skip (TQ.qn (aS (AW.block (aV (za rfl (za rfl ?_)))))))
   obtain⟨v8,h9,H⟩:=zp H
   refine yS rfl eZ h9 (jr (m:=3) eZ rfl (qW (e:=(.int .i64 v8.Vote)) eZ rfl (za rfl (jZ rfl eZ (xQ ?_)))))
   rcases zD H with⟨h10,H⟩|⟨h10,H⟩
   ·exact zo eZ (dT h10) (aR (za rfl (qf eZ eC (za eZ (zb (BQ.qn (TQ.qn (AW.weaken (zF [] (kr 5 rfl rfl (kr 0 rfl rfl (kr 1 rfl rfl (kr 6 rfl rfl SL.nil)))) BL.nil BK.nil) (aR (za rfl (qf eZ eC (za eZ (zb (TQ.qn ⟨((IntKind.wrap .i64 (s5.1+1)),(IntKind.wrap .i64 (s5.2+1))),H,(zF [] (sR rfl rfl) BL.nil BK.nil)⟩))))))))))))))
   ·exact zn eZ (dF h10) (AW.skip (BQ.qn (TQ.qn (aR (za rfl (qf eZ eC (za eZ (zb (TQ.qn ⟨(s5.1,(IntKind.wrap .i64 (s5.2+1))),H,(zF [] (sR rfl rfl) BL.nil BK.nil)⟩)))))))))
  ·exact zn eZ (dF h7) (AW.exit (TQ.qe (TQ.qe (BQ.qe (TQ.qn ⟨s5.1,H,(zF [] (sR rfl rfl) BL.nil BK.nil)⟩)))))
theorem KF{a1:zi}{r:Bool}(H:Qm a1=some r):Fn Try.prog 71 (lent [(.agg (zh a1))]) true [(.bool r)]:=by
 refine f71 (fle rfl) ?_
 rw[zT]
 refine AW.weaken (zF [] (kv 0 (.agg (y6 a1)) rfl rfl SL.nil) BL.nil BK.nil) ?_
 unfold Qm at H
 unfold i71
 refine aV (Q8 (n:=64) (m:=5) (cs:=(y6 a1)) rfl eZ rfl rfl nZ (za eC (xQ (aS (zM (fun t2:Bool=>(yT a1) t2=some r) (fun t2=>mk [(1,(.one (.ptr (.nm 64 0 0)))),(18,(oB t2))] [(64,(.vars 5 (y6 a1)))] noG) ?_ ?_)))))
 ·intro t2 H
  unfold yT at H
  rcases zD H with⟨h4,H⟩|⟨h4,H⟩
  ·refine zo rfl h4 (aV (za eC (xQ (AW.ret (TQ.qr ?_)))))
   cases H
   exact eE rfl rfl
  ·refine zn rfl (nt h4) (AW.skip (TQ.qn (aS (aV (zl (m:=3) eZ rfl (zu (q:=3) (c:=(dI a1.State)) eZ bZ rfl rfl (xQ (AW.block (aV (jZ eZ eC (za eZ (xQ ?_))))))))))))
   rcases zD H with⟨h5,H⟩|⟨h5,H⟩
   ·refine zo eZ (dT h5) (aV (zl (m:=4) rfl rfl (zu (q:=4) (c:=(.d (.sl 4 (List.map zg a1.Shares)))) eZ bZ rfl rfl (qE eZ (n:=a1.Shares.length) lm (jZ eZ eC (za eZ (xQ (AW.ret (BQ.qr (TQ.qr ?_))))))))))
    cases H
    exact eE rfl rfl
   ·refine zn eZ (dF h5) (aV (jZ rfl eC (za eZ (xQ ?_))))
    rcases zD H with⟨h6,H⟩|⟨h6,H⟩
    ·refine zo eZ (dT h6) (aV (zl (m:=4) rfl rfl (zu (q:=4) (c:=(.d (.sl 4 (List.map zg a1.Shares)))) eZ bZ rfl rfl ?_)))
     obtain⟨v7,h8,H⟩:=zp H
     refine zQ (u:=(oI v7)) eC Cl.fn (Qj h8) (Ec eZ (Ec eC En)) (Vc Vp (Vc Vp Vn)) rfl (Yt eZ eC (za eZ ?_))
     rcases zD H with⟨h9,H⟩|⟨h9,H⟩
     ·refine gDo eZ (dT h9) (zl (m:=4) rfl rfl (gDo rfl (dT h9) (zu (q:=4) (c:=(.d (.sl 4 (List.map zg a1.Shares)))) eZ bZ rfl rfl (gDo rfl (dT h9) ?_))))
      obtain⟨v10,h11,H⟩:=zp H
      refine zQ (u:=(oI v10)) eC Cl.fn (Qj h11) (Ec eZ (Ec eC En)) (Vc Vp (Vc Vp Vn)) rfl (gDo rfl (dT h9) (jZ eZ eC (zJ rfl (dT h9) eZ (za eZ (xQ (AW.weaken (zF [64] (kr 2 rfl rfl SL.nil) (blR rfl) BK.nil) (AW.ret (BQ.qr (TQ.qr ?_)))))))))
      cases H
      exact eE rfl rfl
     ·refine ze eZ (dF h9) rfl (ze rfl (dF h9) rfl (ze rfl (dF h9) rfl (ze rfl (dF h9) rfl (zU rfl (dF h9) eC (za eZ (xQ (AW.weaken (zF [64] (kr 2 rfl rfl SL.nil) (blR rfl) BK.nil) (AW.ret (BQ.qr (TQ.qr ?_))))))))))
      cases H
      exact eE rfl rfl
    ·refine zn eZ (dF h6) (aV (jZ rfl eC (za eZ (xQ ?_))))
     rcases zD H with⟨h12,H⟩|⟨h12,H⟩
     ·refine zo eZ (dT h12) (aS (AW.regd (zl (m:=4) rfl rfl (zu (q:=4) (c:=(.d (.sl 4 (List.map zg a1.Shares)))) eZ bZ rfl rfl ?_))))
      obtain⟨v13,h14,H⟩:=zp H
      refine zQ (u:=(oI v13)) eC Cl.fn (Qj h14) (Ec eZ (Ec eC En)) (Vc Vp (Vc Vp Vn)) rfl (zl (m:=4) rfl rfl (zu (q:=4) (c:=(.d (.sl 4 (List.map zg a1.Shares)))) eZ (hB rfl bZ) rfl rfl (qE eZ (n:=a1.Shares.length) lm (jZ rfl eZ (za eZ (xQ (AW.weaken (zF [64] (kr 2 rfl rfl SL.nil) (blR rfl) BK.nil) (AW.ret (BQ.qr (TQ.qr ?_))))))))))
      cases H
      exact eE rfl rfl
     ·refine zn eZ (dF h12) (AW.skip (BQ.qn (TQ.qn (aV (zl (m:=3) rfl rfl (zu (q:=3) (c:=(dI a1.State)) eZ bZ rfl rfl (jZ eZ eC (za eZ (xQ (AW.ret ?_))))))))))
      cases H
      exact eE rfl rfl
 ·refine aR (zl (m:=1) rfl rfl (zu (q:=1) (c:=(dI a1.Client)) eZ bZ rfl rfl ?_))
  obtain⟨v15,h16,H⟩:=zp H
  refine zQ (u:=(oB v15)) eC Cl.fn (kl h16) (Ec eZ En) (Vc Vp Vn) rfl (jF eZ (za eZ ?_))
  rcases zD H with⟨h17,H⟩|⟨h17,H⟩
  ·refine gDo eZ (cN h17) (zl (m:=2) rfl rfl (gDo rfl (cN h17) (zu (q:=2) (c:=(dI a1.Req)) eZ bZ rfl rfl (gDo rfl (cN h17) ?_))))
   obtain⟨v18,h19,H⟩:=zp H
   refine zQ (u:=(oB v18)) eC Cl.fn (jU h19) (Ec eZ (Ec eC (Ec eC En))) (Vc Vp (Vc Vp (Vc Vp Vn))) rfl (gDo rfl (cN h17) (jF eZ (zU rfl (cN h17) eZ (za eZ ?_))))
   rcases zD H with⟨h20,H⟩|⟨h20,H⟩
   ·refine gDo eZ (cN h20) (zl (m:=4) rfl rfl (gDo rfl (cN h20) (zu (q:=4) (c:=(.d (.sl 4 (List.map zg a1.Shares)))) eZ bZ rfl rfl (gDo rfl (cN h20) ?_))))
    obtain⟨v21,h22,H⟩:=zp H
    exact zQ (u:=(oB v21)) eC Cl.fn (xF h22) (Ec eZ En) (Vc Vp Vn) rfl (gDo rfl (cN h20) (jF eZ (zU rfl (cN h20) eZ (zb (TQ.qn ⟨(!v21),H,(zF [] (sR rfl rfl) (blR rfl) (bkR rfl rfl rfl))⟩)))))
   ·exact ze eZ (cN (nt h20)) rfl (ze rfl (cN (nt h20)) rfl (ze rfl (cN (nt h20)) rfl (ze rfl (cN (nt h20)) rfl (zJ rfl (cN (nt h20)) eC (zb (TQ.qn ⟨true,H,(zF [] (sR rfl rfl) (blR rfl) (bkR rfl rfl rfl))⟩))))))
  ·exact ze eZ (cN (nt h17)) rfl (ze rfl (cN (nt h17)) rfl (ze rfl (cN (nt h17)) rfl (ze rfl (cN (nt h17)) rfl (zJ rfl (cN (nt h17)) eC (za eZ (ze eZ rfl rfl (ze rfl rfl rfl (ze rfl rfl rfl (ze rfl rfl rfl (zJ rfl rfl eC (zb (TQ.qn ⟨true,H,(zF [] (sR rfl rfl) (blR rfl) (bkR rfl rfl rfl))⟩))))))))))))
theorem za6{a1:(List Int)}{a2:Int}{r:Bool}(H:Jd a1 a2=some r):Fn Try.prog 72 (lent [(.sl 1 (List.map zr a1)),(.int .i64 a2)]) true [(.bool r)]:=by
 refine f72 (fle rfl) ?_
 rw[zT]
 refine AW.weaken (zF [] (kv 0 (.one (.d (.sl 1 (List.map zr a1)))) rfl rfl (kv 1 (oI a2) rfl rfl SL.nil)) BL.nil BK.nil) ?_
 unfold Jd at H
 unfold i72
 refine aV (za eC (xQ (zM (fun t3:Unit=>YL t3=some r) (fun t3=>mk [] [] noG) ?_ ?_)))
 ·intro t3 H
  unfold YL at H
  refine aV (za eC (xQ (AW.ret ?_)))
  cases H
  exact eE rfl rfl
 ·refine aV (za eC (xQ (AW.block (AW.iter (fun s5:Int=>mk [(0,(.one (.d (.sl 1 (List.map zr a1))))),(1,(oI a2)),(5,(oI s5))] [] noG) H (zF [] (sR rfl rfl) BL.nil BK.nil) ?_))))
  intro kb6 s5 H
  unfold JP at H
  refine aS (aV (za rfl (za rfl (qE eZ (n:=a1.length) lm (ZD rfl eZ (xQ ?_))))))
  rcases zD H with⟨h7,H⟩|⟨h7,H⟩
  ·refine zo eZ (dT h7) (AW.skip (TQ.qn (aS (AW.block (aV (za rfl (za rfl ?_)))))))
   obtain⟨v8,h9,H⟩:=zp H
   refine yS rfl eZ h9 (qW (e:=(.int .i64 v8)) eZ rfl (za rfl (jZ rfl eZ (xQ ?_))))
   rcases zD H with⟨h10,H⟩|⟨h10,H⟩
   ·refine zo eZ (dT h10) (aV (za eC (xQ (AW.ret (BQ.qr (TQ.qr (TQ.qr (BQ.qr (TQ.qr ?_)))))))))
    cases H
    exact eE rfl rfl
   ·exact zn eZ (dF h10) (AW.skip (BQ.qn (TQ.qn (aR (za rfl (qf eZ eC (za eZ (zb (TQ.qn ⟨(IntKind.wrap .i64 (s5+1)),H,(zF [] (sR rfl rfl) BL.nil BK.nil)⟩)))))))))
  ·exact zn eZ (dF h7) (AW.exit (TQ.qe (TQ.qe (BQ.qe (TQ.qn ⟨(),H,(zF [] SL.nil BL.nil BK.nil)⟩)))))
theorem yZ{a1:zj}{r:Bool}(H:jv a1=some r):Fn Try.prog 24 (lent [(.agg (qu a1))]) true [(.bool r)]:=by
 refine f24 (fle rfl) ?_
 rw[zT]
 refine AW.weaken (t:=mk [(0,(.agg (zx a1)))] [] (lk [])) (zF [] (sR rfl rfl) BL.nil BK.nil) ?_
 unfold jv at H
 unfold i24
 refine aV (Q8 (n:=64) (m:=2) (cs:=(zx a1)) rfl eZ rfl rfl nZ (za eC (xQ (aS (zM (fun t2:Bool=>(Qi a1) t2=some r) (fun t2=>mk [(1,(.one (.ptr (.nm 64 0 0)))),(18,(oB t2))] [(64,(.vars 2 (zx a1)))] (lk [])) ?_ ?_)))))
 ·intro t2 H
  unfold Qi at H
  rcases zD H with⟨h4,H⟩|⟨h4,H⟩
  ·refine zo rfl h4 (aV (za eC (xQ (AW.ret (TQ.qr ?_)))))
   cases H
   exact eE rfl rfl
  ·refine zn rfl (nt h4) (AW.skip (TQ.qn (aV (za eC (xQ (zM (fun t5:Int=>(Ji a1) t5=some r) (fun t5=>mk [(1,(.one (.ptr (.nm 64 0 0)))),(3,(oI t5))] [(64,(.vars 2 (zx a1)))] (lk [])) ?_ ?_))))))
   ·intro t5 H
    unfold Ji at H
    refine zM (fun t7:Unit=>(Jn t5 a1) t7=some r) (fun t7=>mk [(1,(.one (.ptr (.nm 64 0 0)))),(3,(oI t5))] [(64,(.vars 2 (zx a1)))] (lk [])) ?_ ?_
    ·intro t7 H
     unfold Jn at H
     refine aV (za rfl (zl (m:=1) rfl rfl (zu (q:=1) (c:=(.d (.sl 1 (List.map zr a1.Order)))) eZ bZ rfl rfl (qE eZ (n:=a1.Order.length) lm (jZ rfl eZ (za eZ (xQ (AW.ret ?_))))))))
     cases H
     exact eE rfl rfl
    ·refine aV (za eC (xQ (AW.block (AW.iter (fun s9:Int=>mk [(1,(.one (.ptr (.nm 64 0 0)))),(3,(oI t5)),(7,(oI s9))] [(64,(.vars 2 (zx a1)))] (lk [])) H (zk [] (sR rfl rfl) (blR rfl) (bkR rfl rfl rfl) GK.nil) ?_))))
     intro kb10 s9 H
     unfold Jo at H
     refine aS (aV (za rfl (zl (m:=1) rfl rfl (zu (q:=1) (c:=(.d (.sl 1 (List.map zr a1.Order)))) eZ bZ rfl rfl (qE eZ (n:=a1.Order.length) lm (ZD rfl eZ (xQ ?_)))))))
     rcases zD H with⟨h11,H⟩|⟨h11,H⟩
     ·refine zo eZ (dT h11) (AW.skip (TQ.qn (aS (AW.block (aV (zl (m:=1) rfl rfl (zu (q:=1) (c:=(.d (.sl 1 (List.map zr a1.Order)))) eZ bZ rfl rfl (za rfl ?_))))))))
      obtain⟨v12,h13,H⟩:=zp H
      refine yS rfl eZ h13 (qW (e:=(.int .i64 v12)) eZ rfl (za eZ (xQ (zM (fun t14:Bool=>(yQ kb10 s9) t14=some r) (fun t14=>mk [(1,(.one (.ptr (.nm 64 0 0)))),(3,(oI t5)),(7,(oI s9)),(106,(oB t14))] [(64,(.vars 2 (zx a1)))] (lk [])) ?_ ?_))))
      ·intro t14 H
       unfold yQ at H
       rcases zD H with⟨h16,H⟩|⟨h16,H⟩
       ·refine zo rfl h16 (aV (za eC (xQ (AW.ret (BQ.qr (TQ.qr (TQ.qr (BQ.qr (TQ.qr ?_)))))))))
        cases H
        exact eE rfl rfl
       ·exact zn rfl (nt h16) (AW.skip (BQ.qn (TQ.qn (aR (za rfl (qf eZ eC (za eZ (zb (TQ.qn ⟨(IntKind.wrap .i64 (s9+1)),H,(zk [] (sR rfl rfl) (blR rfl) (bkR rfl rfl rfl) GK.nil)⟩)))))))))
      ·refine aR (za eZ (zl (m:=0) rfl rfl (zu (q:=0) (c:=(.d (.sl 5 (List.map zh a1.Recs)))) eZ bZ rfl rfl (qE eZ (n:=a1.Recs.length) lm ?_))))
       obtain⟨v17,h18,H⟩:=zp H
       refine zQ (u:=(oB v17)) eC Cl.fn (jU h18) (Ec rfl (Ec eC (Ec eZ En))) (Vc Vp (Vc Vp (Vc Vp Vn))) rfl (jF eZ (za eZ ?_))
       rcases zD H with⟨h19,H⟩|⟨h19,H⟩
       ·refine gDo eZ (cN h19) (zl (m:=0) rfl rfl (gDo rfl (cN h19) (zu (q:=0) (c:=(.d (.sl 5 (List.map zh a1.Recs)))) eZ bZ rfl rfl (gDo rfl (cN h19) (za rfl (gDo rfl (cN h19) (Yn eZ eC (gDo rfl (cN h19) ?_))))))))
        obtain⟨v20,h21,H⟩:=zp H
        refine yS rfl eZ h21 (gDo rfl (cN h19) (jr (m:=3) eZ rfl (gDo rfl (cN h19) (qW (e:=(.int .i64 v20.State)) eZ rfl (gDo rfl (cN h19) (Ju eZ eC (zU rfl (cN h19) eZ (za eZ ?_))))))))
        rcases zD H with⟨h22,H⟩|⟨h22,H⟩
        ·exact ze eZ (dT h22) rfl (ze rfl (dT h22) rfl (ze rfl (dT h22) rfl (ze rfl (dT h22) rfl (ze rfl (dT h22) rfl (ze rfl (dT h22) rfl (zJ rfl (dT h22) eC (zb (TQ.qn ⟨true,H,(zk [] (sR rfl rfl) (blR rfl) (bkR rfl rfl rfl) GK.nil)⟩))))))))
        ·refine gDo eZ (dF h22) (zl (m:=1) rfl rfl (gDo rfl (dF h22) (zu (q:=1) (c:=(.d (.sl 1 (List.map zr a1.Order)))) eZ bZ rfl rfl (gDo rfl (dF h22) (za rfl (gDo rfl (dF h22) ?_))))))
         obtain⟨v23,h24,H⟩:=zp H
         refine zeY rfl zfr (n:=(a1.Order.length:Int)) rfl (Bd.at eZ) h24 (gDo rfl (dF h22) (za rfl (gDo rfl (dF h22) ?_)))
         obtain⟨v25,h26,H⟩:=zp H
         exact zQ (u:=(oB v25)) eC Cl.fn (za6 h26) (Ec rfl (Ec eZ En)) (Vc Vp (Vc Vp Vn)) rfl (zU rfl (dF h22) eZ (zb (TQ.qn ⟨v25,H,(zk [] (sR rfl rfl) (blR rfl) (bkR rfl rfl rfl) GK.nil)⟩)))
       ·exact ze eZ (cN (nt h19)) rfl (ze rfl (cN (nt h19)) rfl (ze rfl (cN (nt h19)) rfl (ze rfl (cN (nt h19)) rfl (ze rfl (cN (nt h19)) rfl (ze rfl (cN (nt h19)) rfl (ze rfl (cN (nt h19)) rfl (ze rfl (cN (nt h19)) rfl (zJ rfl (cN (nt h19)) eC (za eZ (ze eZ rfl rfl (ze rfl rfl rfl (ze rfl rfl rfl (ze rfl rfl rfl (ze rfl rfl rfl (ze rfl rfl rfl (zJ rfl rfl eC (zb (TQ.qn ⟨true,H,(zk [] (sR rfl rfl) (blR rfl) (bkR rfl rfl rfl) GK.nil)⟩))))))))))))))))))
     ·exact zn eZ (dF h11) (AW.exit (TQ.qe (TQ.qe (BQ.qe (TQ.qn ⟨(),H,(zk [] (sR rfl rfl) (blR rfl) (bkR rfl rfl rfl) GK.nil)⟩)))))
   ·refine aV (za eC (xQ (AW.block (AW.iter (fun s27:(Int×Int)=>mk [(1,(.one (.ptr (.nm 64 0 0)))),(3,(oI s27.1)),(4,(oI s27.2))] [(64,(.vars 2 (zx a1)))] (lk [])) H (zk [] (sR rfl rfl) (blR rfl) (bkR rfl rfl rfl) GK.nil) ?_))))
    intro kb28 s27 H
    unfold Q0 at H
    refine aS (aV (za rfl (zl (m:=0) rfl rfl (zu (q:=0) (c:=(.d (.sl 5 (List.map zh a1.Recs)))) eZ bZ rfl rfl (qE eZ (n:=a1.Recs.length) lm (ZD rfl eZ (xQ ?_)))))))
    rcases zD H with⟨h29,H⟩|⟨h29,H⟩
    ·refine zo eZ (dT h29) (AW.skip (TQ.qn (zM (fun t30:Int=>(ye kb28 s27) t30=some r) (fun t30=>mk [(1,(.one (.ptr (.nm 64 0 0)))),(3,(oI t30)),(4,(oI s27.2))] [(64,(.vars 2 (zx a1)))] (lk [])) ?_ ?_)))
     ·intro t30 H
      unfold ye at H
      exact aR (za rfl (qf eZ eC (za eZ (zb (TQ.qn ⟨(t30,(IntKind.wrap .i64 (s27.2+1))),H,(zk [] (sR rfl rfl) (blR rfl) (bkR rfl rfl rfl) GK.nil)⟩)))))
     ·refine AW.block (aS (zt (zd (zl (m:=0) rfl rfl (zb (zd (zu (q:=0) (c:=(.d (.sl 5 (List.map zh a1.Recs)))) eZ bZ rfl rfl (zb (zd (za rfl (zb (zd ?_))))))))))))
      obtain⟨v32,h33,H⟩:=zp H
      refine yS rfl eZ h33 (zb (zd (Qe (es:=(y6 v32)) eZ rfl (zb (zd (ZG (n:=320) (m:=5) rfl rfl (nR rfl) (zb (zd (zv (es:=(y6 v32)) eZ rfl rfl rfl bZ rfl (zb (zy (xQ (aS (zM (fun t34:Bool=>(ZX s27 a1 v32 (ye kb28 s27)) t34=some r) (fun t34=>mk [(1,(.one (.ptr (.nm 64 0 0)))),(3,(oI s27.1)),(4,(oI s27.2)),(5,(.one (.ptr (.nm 320 0 0)))),(40,(oB t34))] [(64,(.vars 2 (zx a1))),(320,(.vars 5 (y6 v32)))] (lk [])) ?_ ?_))))))))))))))
      ·intro t34 H
       unfold ZX at H
       rcases zD H with⟨h36,H⟩|⟨h36,H⟩
       ·refine zo rfl h36 (aV (za eC (xQ (AW.ret (TQ.qr (BQ.qr (TQ.qr (TQ.qr (BQ.qr (TQ.qr ?_))))))))))
        cases H
        exact eE rfl rfl
       ·refine zn rfl (nt h36) (AW.skip (TQ.qn (zM (fun t37:Unit=>(QZ v32 (ye kb28 s27) s27) t37=some r) (fun t37=>mk [(1,(.one (.ptr (.nm 64 0 0)))),(3,(oI s27.1)),(4,(oI s27.2)),(5,(.one (.ptr (.nm 320 0 0))))] [(64,(.vars 2 (zx a1))),(320,(.vars 5 (y6 v32)))] (lk [])) ?_ ?_)))
        ·intro t37 H
         unfold QZ at H
         refine aV (zl (m:=3) rfl rfl (zu (q:=3) (c:=(dI v32.State)) eZ (bR rfl) rfl rfl (jZ eZ eC (xQ ?_))))
         rcases zD H with⟨h39,H⟩|⟨h39,H⟩
         ·exact zo eZ (dT h39) (aR (za rfl (qf eZ eC (za eZ (zb (BQ.qn (TQ.qn ⟨(IntKind.wrap .i64 (s27.1+1)),H,(zk [320] (sR rfl rfl) (blR rfl) (bkR rfl rfl rfl) GK.nil)⟩)))))))
         ·exact zn eZ (dF h39) (AW.skip (BQ.qn (TQ.qn ⟨s27.1,H,(zk [320] (sR rfl rfl) (blR rfl) (bkR rfl rfl rfl) GK.nil)⟩)))
        ·refine aV (za eC (xQ (AW.block (AW.iter (fun s40:Int=>mk [(1,(.one (.ptr (.nm 64 0 0)))),(3,(oI s27.1)),(4,(oI s27.2)),(5,(.one (.ptr (.nm 320 0 0)))),(6,(oI s40))] [(64,(.vars 2 (zx a1))),(320,(.vars 5 (y6 v32)))] (lk [])) H (zk [] (sR rfl rfl) (blR rfl) (bkR rfl rfl rfl) GK.nil) ?_))))
         intro kb41 s40 H
         unfold ZY at H
         refine aS (aV (za rfl (za rfl (ZD rfl eZ (xQ ?_)))))
         rcases zD H with⟨h42,H⟩|⟨h42,H⟩
         ·refine zo eZ (dT h42) (AW.skip (TQ.qn (aS (AW.block (zM (fun t43:Bool=>(Z7 kb41 s40) t43=some r) (fun t43=>mk [(1,(.one (.ptr (.nm 64 0 0)))),(3,(oI s27.1)),(4,(oI s27.2)),(5,(.one (.ptr (.nm 320 0 0)))),(6,(oI s40)),(65,(oB t43))] [(64,(.vars 2 (zx a1))),(320,(.vars 5 (y6 v32)))] (lk [])) ?_ ?_)))))
          ·intro t43 H
           unfold Z7 at H
           rcases zD H with⟨h45,H⟩|⟨h45,H⟩
           ·refine zo rfl h45 (aV (za eC (xQ (AW.ret (BQ.qr (TQ.qr (TQ.qr (BQ.qr (TQ.qr (BQ.qr (TQ.qr (TQ.qr (BQ.qr (TQ.qr ?_))))))))))))))
            cases H
            exact eE rfl rfl
           ·exact zn rfl (nt h45) (AW.skip (BQ.qn (TQ.qn (aR (za rfl (qf eZ eC (za eZ (zb (TQ.qn ⟨(IntKind.wrap .i64 (s40+1)),H,(zk [] (sR rfl rfl) (blR rfl) (bkR rfl rfl rfl) GK.nil)⟩)))))))))
          ·refine AW.regd (zl (m:=0) rfl rfl (zu (q:=0) (c:=(.d (.sl 5 (List.map zh a1.Recs)))) eZ bZ rfl rfl (za rfl ?_)))
           obtain⟨v46,h47,H⟩:=zp H
           refine yS rfl eZ h47 (jr (m:=1) eZ rfl (qW (e:=(.int .i64 v46.Client)) eZ rfl (zl (m:=1) rfl rfl (zu (q:=1) (c:=(dI v32.Client)) eZ (bR rfl) rfl rfl (jZ rfl eZ (za eZ ?_))))))
           rcases zD H with⟨h48,H⟩|⟨h48,H⟩
           ·refine gDo eZ (dT h48) (zl (m:=0) rfl rfl (gDo rfl (dT h48) (zu (q:=0) (c:=(.d (.sl 5 (List.map zh a1.Recs)))) eZ bZ rfl rfl (gDo rfl (dT h48) (za rfl (gDo rfl (dT h48) ?_))))))
            obtain⟨v49,h50,H⟩:=zp H
            exact yS rfl eZ h50 (gDo rfl (dT h48) (jr (m:=2) eZ rfl (gDo rfl (dT h48) (qW (e:=(.int .i64 v49.Req)) eZ rfl (gDo rfl (dT h48) (zl (m:=2) rfl rfl (gDo rfl (dT h48) (zu (q:=2) (c:=(dI v32.Req)) eZ (bR rfl) rfl rfl (gDo rfl (dT h48) (jZ rfl eZ (zJ rfl (dT h48) eZ (zb (TQ.qn ⟨(decide (v49.Req=v32.Req)),H,(zk [] (sR rfl rfl) (blR rfl) (bkR rfl rfl rfl) GK.nil)⟩)))))))))))))
           ·exact ze eZ (dF h48) rfl (ze rfl (dF h48) rfl (ze rfl (dF h48) rfl (ze rfl (dF h48) rfl (ze rfl (dF h48) rfl (ze rfl (dF h48) rfl (ze rfl (dF h48) rfl (ze rfl (dF h48) rfl (ze rfl (dF h48) rfl (zU rfl (dF h48) eC (zb (TQ.qn ⟨false,H,(zk [] (sR rfl rfl) (blR rfl) (bkR rfl rfl rfl) GK.nil)⟩)))))))))))
         ·exact zn eZ (dF h42) (AW.exit (TQ.qe (TQ.qe (BQ.qe (TQ.qn ⟨(),H,(zk [] (sR rfl rfl) (blR rfl) (bkR rfl rfl rfl) GK.nil)⟩)))))
      ·refine aR (zl (m:=0) eZ rfl (zu (q:=0) (c:=(dI v32.Tx)) eZ bZ rfl rfl (za rfl (qf eZ eC (Ju rfl eZ (za eZ ?_))))))
       rcases zD H with⟨h51,H⟩|⟨h51,H⟩
       ·exact ze eZ (dT h51) rfl (ze rfl (dT h51) rfl (ze rfl (dT h51) rfl (zJ rfl (dT h51) eC (zb (TQ.qn ⟨true,H,(zk [] (sR rfl rfl) (blR rfl) (bkR rfl rfl rfl) GK.nil)⟩)))))
       ·refine gDo eZ (dF h51) (zw (es:=(y6 v32)) rfl bZ rfl (gDo rfl (dF h51) ?_))
        obtain⟨v52,h53,H⟩:=zp H
        exact zQ (u:=(oB v52)) eC Cl.fn (KF h53) (Ec eZ En) (Vc (VD.agg rfl) Vn) rfl (gDo rfl (dF h51) (jF eZ (zU rfl (dF h51) eZ (zb (TQ.qn ⟨(!v52),H,(zk [] (sR rfl rfl) (blR rfl) (bkR rfl rfl rfl) GK.nil)⟩)))))
    ·exact zn eZ (dF h29) (AW.exit (TQ.qe (TQ.qe (BQ.qe (TQ.qn ⟨s27.1,H,(zk [] (sR rfl rfl) (blR rfl) (bkR rfl rfl rfl) GK.nil)⟩)))))
 ·refine aR (zl (m:=0) rfl rfl (zu (q:=0) (c:=(.d (.sl 5 (List.map zh a1.Recs)))) eZ bZ rfl rfl (qE eZ (n:=a1.Recs.length) lm (Yt eZ eC (za eZ ?_)))))
  rcases zD H with⟨h54,H⟩|⟨h54,H⟩
  ·exact ze eZ (dT h54) rfl (ze rfl (dT h54) rfl (ze rfl (dT h54) rfl (ze rfl (dT h54) rfl (zJ rfl (dT h54) eC (zb (TQ.qn ⟨true,H,(zk [] (sR rfl rfl) (blR rfl) (bkR rfl rfl rfl) GK.nil)⟩))))))
  ·exact gDo eZ (dF h54) (zl (m:=1) rfl rfl (gDo rfl (dF h54) (zu (q:=1) (c:=(.d (.sl 1 (List.map zr a1.Order)))) eZ bZ rfl rfl (gDo rfl (dF h54) (qE eZ (n:=a1.Order.length) lm (gDo rfl (dF h54) (Yt eZ eC (zU rfl (dF h54) eZ (zb (TQ.qn ⟨(decide (60 < (a1.Order.length:Int))),H,(zk [] (sR rfl rfl) (blR rfl) (bkR rfl rfl rfl) GK.nil)⟩))))))))))
theorem xj{a1:(List zf)}{r:(List zf)}(H:yR a1=some r):Fn Try.prog 83 (lent [(.sl 4 (List.map zg a1))]) true [(.sl 4 (List.map zg r))]:=by
 refine f83 (fle rfl) ?_
 rw[zT]
 refine AW.weaken (t:=mk [(0,(.one (.d (.sl 4 (List.map zg a1)))))] [] (lk [])) (zF [] (sR rfl rfl) BL.nil BK.nil) ?_
 unfold yR at H
 unfold i83
 refine aV (za eC (xQ (aV (QH (m:=384) rfl nZ (za eZ (xQ (zM (fun t2:(List zf)=>Qv t2=some r) (fun t2=>mk [(3,(.one (.sl 320128 0 t2.length)))] [(320128,(.data 4 (List.map zg t2) true none))] (lk [])) ?_ ?_)))))))
 ·intro t2 H
  unfold Qv at H
  refine aV (za eZ (za eZ (xQ (AW.ret ?_))))
  obtain rfl:=(Option.some.inj H)
  exact jA (RL.cons (RV.tmp eZ) (qF bZ lm rfl) RL.nil) (by decide)
 ·refine aV (za eC (xQ (AW.block (AW.iter (fun s4:((List zf)×Int)=>mk [(0,(.one (.d (.sl 4 (List.map zg a1))))),(3,(.one (.sl 320192 0 s4.1.length))),(4,(oI s4.2))] [(320192,(.data 4 (List.map zg s4.1) true none))] (lk [])) H ((zk [] (kR rfl rfl (SL.cons eZ rfl (VWk.one (CWk.len (by first|(simp;done)|(simp;omega)|omega|(simp only[List.length_map];omega)))) (sR rfl rfl))) (blR rfl) (bkR rfl rfl rfl) GK.nil).trans (zab 320192 4 3 true rfl nZ)) ?_))))
  intro kb5 s4 H
  unfold Qz at H
  refine aS (aV (za rfl (za rfl (qE eZ (n:=a1.length) lm (ZD rfl eZ (xQ ?_))))))
  rcases zD H with⟨h6,H⟩|⟨h6,H⟩
  ·refine zo eZ (dT h6) (AW.skip (TQ.qn (aS (AW.block (aS (zt (zd (za rfl (zb (zd (za rfl (zb (zd ?_)))))))))))))
   obtain⟨v7,h8,H⟩:=zp H
   refine yS rfl eZ h8 (zb (zd (Qe (es:=(yC v7)) eZ rfl (zb (zd (ZG (n:=320) (m:=4) rfl rfl (nR rfl) (zb (zd (zv (es:=(yC v7)) eZ rfl rfl rfl bZ rfl (zb (zy (xQ (aS (zt (zd (QH (m:=1088) rfl (nR rfl) (zb (zd (zl (m:=1) rfl rfl (zb (zd (zu (q:=1) (c:=(.d (.sl 2 (List.map z4 v7.Reads)))) eZ bZ rfl rfl (zb (zd ?_))))))))))))))))))))))))
   obtain⟨h9,H⟩:=yx H
   refine zba (f:=z4) (m:=1280) (own:=true) (ys:=v7.Reads) (q:=v7.Reads.length) rfl rfl rfl eZ (El.lent fun _ _=>rfl) rfl h9 (by decide) (nR rfl) (zb (zd (zl (m:=1) rfl rfl (zb (zd (zv (es:=[(dI v7.Group),(.sl 1280 0 v7.Reads.length),(.d (.sl 2 (List.map zW v7.Writes))),(dI v7.Vote)]) eZ rfl rfl rfl (bR rfl) rfl (zb (zy (xQ (AW.weaken (zk [] (kr 5 rfl rfl (kr 0 rfl rfl (kr 3 rfl rfl (kr 4 rfl rfl SL.nil)))) (blR rfl) (BK.cons (n:=320) rfl bZ rfl rfl (BK.cons (n:=1280) rfl (bR rfl) rfl rfl (BK.cons (n:=320192) rfl (bR rfl) rfl rfl BK.nil))) GK.nil) (aS (zt (zd (QH (m:=1408) rfl (nR rfl) (zb (zd (zl (m:=2) rfl rfl (zb (zd (zu (q:=2) (c:=(.d (.sl 2 (List.map zW v7.Writes)))) eZ bZ rfl rfl (zb (zd ?_))))))))))))))))))))))
   obtain⟨h10,H⟩:=yx H
   refine zba (f:=zW) (m:=1600) (own:=true) (ys:=v7.Writes) (q:=v7.Writes.length) rfl rfl rfl eZ (El.lent fun _ _=>rfl) rfl h10 (by decide) (nR rfl) (zb (zd (zl (m:=2) rfl rfl (zb (zd (zv (es:=[(dI v7.Group),(.sl 1280 0 v7.Reads.length),(.sl 1600 0 v7.Writes.length),(dI v7.Vote)]) eZ rfl rfl rfl (bR rfl) rfl (zb (zy (xQ (zt (zd (za rfl (zb (zd (zw (es:=[(dI v7.Group),(.sl 1280 0 v7.Reads.length),(.sl 1600 0 v7.Writes.length),(dI v7.Vote)]) rfl bZ rfl (zb (zd (yO (m:=1856) (q:=1) (cs:=[(dI v7.Group),(.sl 1280 0 v7.Reads.length),(.sl 1600 0 v7.Writes.length),(dI v7.Vote)]) rfl (qp eZ jV) rfl (List.cons_ne_nil _ _) (by simp) (nR rfl) (zb ?_)))))))))))))))))))
   obtain⟨h11,H⟩:=yx H
   exact Yr (f:=zg) (xs:=s4.1) (t:=v7) (q:=(s4.1++[v7]).length) (ds:=[(.int .i64 v7.Group),(.sl 2 (List.map z4 v7.Reads)),(.sl 2 (List.map zW v7.Writes)),(.int .i64 v7.Vote)]) (ns:=[1280,1600]) rfl eZ (bR rfl) rfl bZ rfl (VOs.cons (VO.flat rfl) (VOs.cons (VO.sl (bR rfl) lm (z6 fun _=>rfl)) (VOs.cons (VO.sl (bR rfl) lm (z6 fun _=>rfl)) (VOs.cons (VO.flat rfl) VOs.nil)))) rfl rfl rfl rfl h11 (by decide) (erL.cons (v':=(.one (.sl 1856 0 1))) rfl (erL.cons (v':=(.agg [(dI v7.Group),.any,.any,(dI v7.Vote)])) rfl (erL.cons (v':=(.one (.sl 320192 0 s4.1.length))) rfl (erL.cons (v':=(.one (.ptr (.nm 320 0 2)))) rfl (erL.cons (v':=(.one .any)) rfl (erL.cons (v':=(.one (.d (.sl 2 (List.map zW v7.Writes))))) rfl (erL.cons (v':=(.one (.ptr (.nm 320 0 2)))) rfl (erL.cons (v':=(.one .zs)) rfl (erL.cons (v':=(.one (.ptr (.nm 320 0 0)))) rfl (erL.cons (v':=(.one (.d (.sl 4 (List.map zg a1))))) rfl (erL.cons (v':=(.one (.sl 320192 0 s4.1.length))) rfl (erL.cons (v':=(oI s4.2)) rfl erL.nil)))))))))))) (erH.cons (v':=(.vars 4 [(dI v7.Group),.any,.any,(dI v7.Vote)])) rfl rfl (erH.cons (v':=(.vars 4 [(dI v7.Group),.any,.any,(dI v7.Vote)])) rfl rfl (erH.drop rfl (erH.cons (v':=(.vars 4 [(dI v7.Group),.any,(.d (.sl 2 (List.map zW v7.Writes))),(dI v7.Vote)])) rfl rfl (erH.drop rfl (erH.cons (v':=(.data 4 (List.map zg s4.1) true none)) rfl rfl erH.nil)))))) erL.nil (erL.cons (v':=(.one (.sl 1856 0 1))) rfl (erL.cons (v':=(.agg [(dI v7.Group),.any,.any,(dI v7.Vote)])) rfl (erL.cons (v':=(.one .any)) rfl (erL.cons (v':=(.one (.ptr (.nm 320 0 2)))) rfl (erL.cons (v':=(.one .any)) rfl (erL.cons (v':=(.one (.d (.sl 2 (List.map zW v7.Writes))))) rfl (erL.cons (v':=(.one (.ptr (.nm 320 0 2)))) rfl (erL.cons (v':=(.one .zs)) rfl (erL.cons (v':=(.one (.ptr (.nm 320 0 0)))) rfl (erL.cons (v':=(.one (.d (.sl 4 (List.map zg a1))))) rfl (erL.cons (v':=(.one .any)) rfl (erL.cons (v':=(oI s4.2)) rfl erL.nil)))))))))))) (erH.cons (v':=(.vars 4 [(dI v7.Group),.any,.any,(dI v7.Vote)])) rfl rfl (erH.cons (v':=(.vars 4 [(dI v7.Group),.any,.any,(dI v7.Vote)])) rfl rfl (erH.cons (v':=(.vars 4 [(dI v7.Group),.any,(.d (.sl 2 (List.map zW v7.Writes))),(dI v7.Vote)])) rfl rfl (erH.drop rfl erH.nil)))) erL.nil (zy (za eZ (zb (BQ.qn (TQ.qn (aR (za rfl (qf eZ eC (za eZ (zb (TQ.qn ⟨((s4.1++[v7]),(IntKind.wrap .i64 (s4.2+1))),H,(zk [1856,320] (sR rfl rfl) (blR rfl) (bkR rfl rfl rfl) GK.nil)⟩)))))))))))
  ·exact zn eZ (dF h6) (AW.exit (TQ.qe (TQ.qe (BQ.qe (TQ.qn ⟨s4.1,H,((zk [] (sR rfl rfl) (blR rfl) (bkR rfl rfl rfl) GK.nil).trans (z3 320192 320128 rfl rfl (nR rfl) GR.nil))⟩)))))
theorem JN{a1:zj}{r:zj}(H:yq a1=some r):Fn Try.prog 65 (lent [(.agg (qu a1))]) true [(.agg (qu r))]:=by
 refine f65 (fle rfl) ?_
 rw[zT]
 refine AW.weaken (t:=mk [(0,(.agg (zx a1)))] [] (lk [])) (zF [] (sR rfl rfl) BL.nil BK.nil) ?_
 unfold yq at H
 unfold i65
 refine aV (Q8 (n:=64) (m:=2) (cs:=(zx a1)) rfl eZ rfl rfl nZ (ZG (n:=128) (m:=2) rfl rfl (nR rfl) (xQ (aS (zt (zd (QH (m:=384) rfl (nR rfl) (zb (zd (zl (m:=1) rfl rfl (zb (zd (zu (q:=1) (c:=(.d (.sl 1 (List.map zr a1.Order)))) eZ (bR rfl) rfl rfl (zb (zd ?_)))))))))))))))
 obtain⟨h2,H⟩:=yx H
 refine zba (f:=zr) (m:=576) (own:=true) (ys:=a1.Order) (q:=a1.Order.length) rfl rfl rfl eZ (El.lent fun _ _=>rfl) rfl h2 (by decide) (nR rfl) (zb (zd (Zo (cs:=[.zs,(.sl 576 0 a1.Order.length)]) (qp eZ jV) rfl (zb (zd (ZG (n:=192) (m:=2) rfl rfl (nR rfl) (zb (zd (zv (es:=[.zs,(.sl 576 0 a1.Order.length)]) eZ rfl rfl rfl bZ rfl (zb (zy (xQ (zM (fun t3:(List zi)=>(Jr a1) t3=some r) (fun t3=>mk [(2,(.one (.ptr (.nm 128 0 0)))),(3,(.one (.ptr (.nm 192 0 0))))] [(128,(.vars 2 [.zs,.zs])),(320128,(.data 5 (List.map zh t3) true none)),(192,(.vars 2 [(.sl 320128 0 t3.length),(.sl 576 0 a1.Order.length)])),(576,(.data 1 (List.map zr a1.Order) true none))] (lk [])) ?_ ?_)))))))))))))
 ·intro t3 H
  unfold Jr at H
  refine aS (zt (zd (zw (es:=[(.sl 320128 0 t3.length),(.sl 576 0 a1.Order.length)]) rfl (bR rfl) rfl (zb (zd (zv (es:=[(.sl 320128 0 t3.length),(.sl 576 0 a1.Order.length)]) rfl eZ rfl rfl bZ rfl (zb (zy (xQ (AW.ret ?_))))))))))
  cases H
  exact jA (RL.cons (zZ (es:=[(.sl 320128 0 t3.length),(.sl 576 0 a1.Order.length)]) rfl bZ rfl) (VO.aggs (VOs.cons (qF (bR rfl) lm rfl) (VOs.cons (VO.sl (bR rfl) lm (z6 fun _=>rfl)) VOs.nil))) RL.nil) (by decide)
 ·refine aV (za eC (xQ (AW.block (AW.iter (fun s5:(Int×(List zi))=>mk [(1,(.one (.ptr (.nm 64 0 0)))),(2,(.one (.ptr (.nm 128 0 0)))),(3,(.one (.ptr (.nm 192 0 0)))),(4,(oI s5.1))] [(64,(.vars 2 (zx a1))),(128,(.vars 2 [.zs,.zs])),(320192,(.data 5 (List.map zh s5.2) true none)),(192,(.vars 2 [(.sl 320192 0 s5.2.length),(.sl 576 0 a1.Order.length)])),(576,(.data 1 (List.map zr a1.Order) true none))] (lk [])) H ((zk [] (sR rfl rfl) (blR rfl) (BK.cons rfl (bR rfl) rfl rfl (BK.cons rfl (bR rfl) rfl rfl (BK.cons rfl (bR rfl) rfl rfl (BK.cons rfl bZ rfl (by first|rfl|simp) (bkR rfl rfl rfl))))) GK.nil).trans (kW 320192 5 192 0 true bZ rfl (nR rfl))) ?_))))
  intro kb6 s5 H
  unfold Jj at H
  refine aS (aV (za rfl (zl (m:=0) rfl rfl (zu (q:=0) (c:=(.d (.sl 5 (List.map zh a1.Recs)))) eZ bZ rfl rfl (qE eZ (n:=a1.Recs.length) lm (ZD rfl eZ (xQ ?_)))))))
  rcases zD H with⟨h7,H⟩|⟨h7,H⟩
  ·refine zo eZ (dT h7) (AW.skip (TQ.qn (aS (AW.block (aS (zt (zd (zl (m:=0) rfl rfl (zb (zd (zu (q:=0) (c:=(.d (.sl 5 (List.map zh a1.Recs)))) eZ bZ rfl rfl (zb (zd (za rfl (zb (zd ?_))))))))))))))))
   obtain⟨v8,h9,H⟩:=zp H
   refine yS rfl eZ h9 (zb (zd (Qe (es:=(y6 v8)) eZ rfl (zb (zd (ZG (n:=320) (m:=5) rfl rfl (nR rfl) (zb (zd (zv (es:=(y6 v8)) eZ rfl rfl rfl bZ rfl (zb (zy (xQ (aS (zt (zd (zl (m:=4) eZ rfl (zb (zd (zu (q:=4) (c:=(.d (.sl 4 (List.map zg v8.Shares)))) eZ bZ rfl rfl (zb (zd ?_)))))))))))))))))))))
   obtain⟨v10,h11,H⟩:=zp H
   refine jQ (u:=(.one (.sl 1600 0 v10.length))) (bs:=[(1600,(.data 4 (List.map zg v10) true none))]) eC Cl.fn (xj h11) (Ec eZ En) (Vc Vp Vn) (by simp[jg,jK,qB,jq,qI]) rfl (fC (nR rfl) rfl (fC (nR rfl) rfl fN)) (zb (zd (zl (m:=4) rfl rfl (zb (zd (zv (es:=[(dI v8.Tx),(dI v8.Client),(dI v8.Req),(dI v8.State),(.sl 1600 0 v10.length)]) eZ rfl rfl rfl (bR rfl) rfl (zb (zy (xQ (AW.weaken (zk [] (kr 5 rfl rfl (kr 1 rfl rfl (kr 2 rfl rfl (kr 3 rfl rfl (kr 4 rfl rfl SL.nil))))) (blR rfl) (BK.cons (n:=320) rfl bZ rfl rfl (BK.cons (n:=1600) rfl (bR rfl) rfl rfl (BK.cons (n:=64) rfl (bR rfl) rfl rfl (BK.cons (n:=128) rfl (bR rfl) rfl rfl (BK.cons (n:=320192) rfl (bR rfl) rfl rfl (BK.cons (n:=192) rfl (bR rfl) rfl rfl (BK.cons (n:=576) rfl (bR rfl) rfl rfl BK.nil))))))) GK.nil) (zt (zd (zl (m:=0) rfl rfl (zb (zd (zu (q:=0) (c:=(.sl 320192 0 s5.2.length)) eZ (bR rfl) rfl rfl (zb (zd (zw (es:=[(dI v8.Tx),(dI v8.Client),(dI v8.Req),(dI v8.State),(.sl 1600 0 v10.length)]) rfl bZ rfl (zb (zd (yO (m:=1920) (q:=1) (cs:=[(dI v8.Tx),(dI v8.Client),(dI v8.Req),(dI v8.State),(.sl 1600 0 v10.length)]) rfl (qp eZ jV) rfl (List.cons_ne_nil _ _) (by simp) (nR rfl) (zb ?_)))))))))))))))))))))))
   obtain⟨h12,H⟩:=yx H
   exact Yr (f:=zh) (xs:=s5.2) (t:=(zi.mk v8.Tx v8.Client v8.Req v8.State v10)) (q:=(s5.2++[(zi.mk v8.Tx v8.Client v8.Req v8.State v10)]).length) (ds:=[(.int .i64 v8.Tx),(.int .i64 v8.Client),(.int .i64 v8.Req),(.int .i64 v8.State),(.sl 4 (List.map zg v10))]) (ns:=[1600]) rfl eZ (bR rfl) rfl bZ rfl (VOs.cons (VO.flat rfl) (VOs.cons (VO.flat rfl) (VOs.cons (VO.flat rfl) (VOs.cons (VO.flat rfl) (VOs.cons (qF (bR rfl) lm rfl) VOs.nil))))) rfl rfl rfl rfl h12 (by decide) (erL.cons (v':=(.one (.sl 1920 0 1))) rfl (erL.cons (v':=(.agg [(dI v8.Tx),(dI v8.Client),(dI v8.Req),(dI v8.State),.any])) rfl (erL.cons (v':=(.one (.sl 320192 0 s5.2.length))) rfl (erL.cons (v':=(.one (.ptr (.nm 192 0 0)))) rfl (erL.cons (v':=(.one (.ptr (.nm 320 0 0)))) rfl (erL.cons (v':=(.one (.ptr (.nm 64 0 0)))) rfl (erL.cons (v':=(.one (.ptr (.nm 128 0 0)))) rfl (erL.cons (v':=(.one (.ptr (.nm 192 0 0)))) rfl (erL.cons (v':=(oI s5.1)) rfl erL.nil))))))))) (erH.cons (v':=(.vars 5 [(dI v8.Tx),(dI v8.Client),(dI v8.Req),(dI v8.State),.any])) rfl rfl (erH.cons (v':=(.vars 5 [(dI v8.Tx),(dI v8.Client),(dI v8.Req),(dI v8.State),.any])) rfl rfl (erH.drop rfl (erH.cons (v':=(.vars 2 (zx a1))) rfl rfl (erH.cons (v':=(.vars 2 [.zs,.zs])) rfl rfl (erH.cons (v':=(.data 5 (List.map zh s5.2) true none)) rfl rfl (erH.cons (v':=(.vars 2 [(.sl 320192 0 s5.2.length),(.sl 576 0 a1.Order.length)])) rfl rfl (erH.cons (v':=(.data 1 (List.map zr a1.Order) true none)) rfl rfl erH.nil)))))))) erL.nil (erL.cons (v':=(.one (.sl 1920 0 1))) rfl (erL.cons (v':=(.agg [(dI v8.Tx),(dI v8.Client),(dI v8.Req),(dI v8.State),.any])) rfl (erL.cons (v':=(.one .any)) rfl (erL.cons (v':=(.one (.ptr (.nm 192 0 0)))) rfl (erL.cons (v':=(.one (.ptr (.nm 320 0 0)))) rfl (erL.cons (v':=(.one (.ptr (.nm 64 0 0)))) rfl (erL.cons (v':=(.one (.ptr (.nm 128 0 0)))) rfl (erL.cons (v':=(.one (.ptr (.nm 192 0 0)))) rfl (erL.cons (v':=(oI s5.1)) rfl erL.nil))))))))) (erH.cons (v':=(.vars 5 [(dI v8.Tx),(dI v8.Client),(dI v8.Req),(dI v8.State),.any])) rfl rfl (erH.cons (v':=(.vars 5 [(dI v8.Tx),(dI v8.Client),(dI v8.Req),(dI v8.State),.any])) rfl rfl (erH.cons (v':=(.vars 2 (zx a1))) rfl rfl (erH.cons (v':=(.vars 2 [.zs,.zs])) rfl rfl (erH.drop rfl (erH.cons (v':=(.vars 2 [.any,(.sl 576 0 a1.Order.length)])) rfl rfl (erH.cons (v':=(.data 1 (List.map zr a1.Order) true none)) rfl rfl erH.nil))))))) erL.nil (zd (zl (m:=0) rfl rfl (zb (zd (zv (es:=[(.sl 320192 0 ((s5.2++[(zi.mk v8.Tx v8.Client v8.Req v8.State v10)]).length)),(.sl 576 0 a1.Order.length)]) eZ rfl rfl rfl (bR rfl) rfl (zb (zy (zb (BQ.qn (TQ.qn (aR (za rfl (qf eZ eC (za eZ (zb (TQ.qn ⟨((IntKind.wrap .i64 (s5.1+1)),(s5.2++[(zi.mk v8.Tx v8.Client v8.Req v8.State v10)])),H,(zk [1920,320] (sR rfl rfl) (blR rfl) (BK.cons rfl (bR rfl) rfl rfl (BK.cons rfl (bR rfl) rfl rfl (BK.cons rfl (bR rfl) rfl rfl (BK.cons rfl bZ rfl (by first|rfl|simp) (bkR rfl rfl rfl))))) GK.nil)⟩))))))))))))))))
  ·exact zn eZ (dF h7) (AW.exit (TQ.qe (TQ.qe (BQ.qe (TQ.qn ⟨s5.2,H,((zk [64] (sR rfl rfl) (blR rfl) (BK.cons rfl (bR rfl) rfl rfl (BK.cons rfl (bR rfl) rfl rfl (BK.cons rfl (bR rfl) rfl (by first|rfl|simp) (bkR rfl rfl rfl)))) GK.nil).trans (z3 320192 320128 rfl rfl (nR rfl) GR.nil))⟩)))))
theorem X0{a1:zj}{a2:Int}{a3:Int}{r:Int}(H:ZR a1 a2 a3=some r):Fn Try.prog 66 (lent [(.agg (qu a1)),(.int .i64 a2),(.int .i64 a3)]) true [(.int .i64 r)]:=by
 refine f66 (fle rfl) ?_
 rw[zT]
 refine AW.weaken (zF [] (kv 0 (.agg (zx a1)) rfl rfl (kv 1 (oI a2) rfl rfl (kv 2 (oI a3) rfl rfl SL.nil))) BL.nil BK.nil) ?_
 unfold ZR at H
 unfold i66
 refine aV (Q8 (n:=192) (m:=2) (cs:=(zx a1)) rfl eZ rfl rfl nZ (za eC (xQ (zM (fun t4:Unit=>JK t4=some r) (fun t4=>mk [] [] noG) ?_ ?_))))
 ·intro t4 H
  unfold JK at H
  refine aV (za eC (xQ (AW.ret ?_)))
  cases H
  exact eE rfl rfl
 ·refine aV (za eC (xQ (AW.block (AW.iter (fun s6:Int=>mk [(1,(oI a2)),(2,(oI a3)),(3,(.one (.ptr (.nm 192 0 0)))),(7,(oI s6))] [(192,(.vars 2 (zx a1)))] noG) H (zF [] (sR rfl rfl) (blR rfl) (bkR rfl rfl rfl)) ?_))))
  intro kb7 s6 H
  unfold Zz at H
  refine aS (aV (za rfl (zl (m:=0) rfl rfl (zu (q:=0) (c:=(.d (.sl 5 (List.map zh a1.Recs)))) eZ bZ rfl rfl (qE eZ (n:=a1.Recs.length) lm (ZD rfl eZ (za eZ ?_)))))))
  rcases zD H with⟨h8,H⟩|⟨h8,H⟩
  ·refine gDo eZ (dT h8) (zw (es:=(zx a1)) rfl bZ rfl (gDo rfl (dT h8) ?_))
   obtain⟨v9,h10,H⟩:=zp H
   refine zQ (u:=(oB v9)) eC Cl.fn (yZ h10) (Ec eZ En) (Vc (VD.agg rfl) Vn) rfl (zJ rfl (dT h8) eZ (xQ ?_))
   rcases zD H with⟨h11,H⟩|⟨h11,H⟩
   ·refine zo eZ h11 (AW.skip (TQ.qn (aS (AW.block (zM (fun t12:Bool=>(yY a1 s6 kb7) t12=some r) (fun t12=>mk [(1,(oI a2)),(2,(oI a3)),(3,(.one (.ptr (.nm 192 0 0)))),(7,(oI s6)),(36,(oB t12))] [(192,(.vars 2 (zx a1)))] noG) ?_ ?_)))))
    ·intro t12 H
     unfold yY at H
     rcases zD H with⟨h14,H⟩|⟨h14,H⟩
     ·refine zo rfl h14 (aV (zl (m:=0) rfl rfl (zu (q:=0) (c:=(.d (.sl 5 (List.map zh a1.Recs)))) eZ bZ rfl rfl (za rfl ?_))))
      obtain⟨v15,h16,H⟩:=zp H
      refine yS rfl eZ h16 (jr (m:=0) eZ rfl (qW (e:=(.int .i64 v15.Tx)) eZ rfl (za eZ (xQ (AW.ret (BQ.qr (TQ.qr (TQ.qr (BQ.qr (TQ.qr ?_))))))))))
      cases H
      exact eE rfl rfl
     ·exact zn rfl (nt h14) (AW.skip (BQ.qn (TQ.qn (aR (za rfl (qf eZ eC (za eZ (zb (TQ.qn ⟨(IntKind.wrap .i64 (s6+1)),H,(zF [] (sR rfl rfl) (blR rfl) (bkR rfl rfl rfl))⟩)))))))))
    ·refine aR (zl (m:=0) rfl rfl (zu (q:=0) (c:=(.d (.sl 5 (List.map zh a1.Recs)))) eZ bZ rfl rfl (za rfl ?_)))
     obtain⟨v17,h18,H⟩:=zp H
     refine yS rfl eZ h18 (jr (m:=1) eZ rfl (qW (e:=(.int .i64 v17.Client)) eZ rfl (za rfl (jZ rfl eZ (za eZ ?_)))))
     rcases zD H with⟨h19,H⟩|⟨h19,H⟩
     ·refine gDo eZ (dT h19) (zl (m:=0) rfl rfl (gDo rfl (dT h19) (zu (q:=0) (c:=(.d (.sl 5 (List.map zh a1.Recs)))) eZ bZ rfl rfl (gDo rfl (dT h19) (za rfl (gDo rfl (dT h19) ?_))))))
      obtain⟨v20,h21,H⟩:=zp H
      exact yS rfl eZ h21 (gDo rfl (dT h19) (jr (m:=2) eZ rfl (gDo rfl (dT h19) (qW (e:=(.int .i64 v20.Req)) eZ rfl (gDo rfl (dT h19) (za rfl (gDo rfl (dT h19) (jZ rfl eZ (zJ rfl (dT h19) eZ (zb (TQ.qn ⟨(decide (v20.Req=a3)),H,(zF [] (sR rfl rfl) (blR rfl) (bkR rfl rfl rfl))⟩)))))))))))
     ·exact ze eZ (dF h19) rfl (ze rfl (dF h19) rfl (ze rfl (dF h19) rfl (ze rfl (dF h19) rfl (ze rfl (dF h19) rfl (ze rfl (dF h19) rfl (ze rfl (dF h19) rfl (ze rfl (dF h19) rfl (zU rfl (dF h19) eC (zb (TQ.qn ⟨false,H,(zF [] (sR rfl rfl) (blR rfl) (bkR rfl rfl rfl))⟩))))))))))
   ·exact zn eZ (nt h11) (AW.exit (TQ.qe (TQ.qe (BQ.qe (TQ.qn ⟨(),H,(zF [192] SL.nil (blR rfl) BK.nil)⟩)))))
  ·exact ze eZ (dF h8) rfl (ze rfl (dF h8) rfl (zU rfl (dF h8) eC (xQ (zn eZ rfl (AW.exit (TQ.qe (TQ.qe (BQ.qe (TQ.qn ⟨(),H,(zF [192] SL.nil (blR rfl) BK.nil)⟩)))))))))
theorem ZA{a1:zj}{a2:Int}{a3:Int}{r:(zj×Int×Int)}(H:z5 a1 a2 a3=some r):Fn Try.prog 18 (lent [(.agg (qu a1)),(.int .i64 a2),(.int .i64 a3)]) true [(.agg (qu r.1)),(.int .i64 r.2.1),(.int .i64 r.2.2)]:=by
 refine f18 (fle rfl) ?_
 rw[zT]
 refine AW.weaken (t:=mk [(0,(.agg (zx a1))),(1,(oI a2)),(2,(oI a3))] [] (lk [])) (zF [] (sR rfl rfl) BL.nil BK.nil) ?_
 unfold z5 at H
 unfold i18
 refine aV (Q8 (n:=192) (m:=2) (cs:=(zx a1)) rfl eZ rfl rfl nZ (ZG (n:=384) (m:=2) rfl rfl (nR rfl) (za eC (za eC (xQ (aS (zM (fun t4:Bool=>(z8 a1 a2 a3) t4=some r) (fun t4=>mk [(1,(oI a2)),(2,(oI a3)),(3,(.one (.ptr (.nm 192 0 0)))),(6,(.one (.ptr (.nm 384 0 0)))),(23,(oB t4))] [(192,(.vars 2 (zx a1))),(384,(.vars 2 [.zs,.zs]))] (lk [])) ?_ ?_)))))))
 ·intro t4 H
  unfold z8 at H
  rcases zD H with⟨h6,H⟩|⟨h6,H⟩
  ·refine zo rfl h6 (aS (zt (zd (Zo (cs:=[.zs,.zs]) jV rfl (zb (zd (zv (es:=[.zs,.zs]) rfl eZ rfl rfl (bR rfl) rfl (zb (zy (za eC (za eC (xQ (AW.ret (TQ.qr ?_))))))))))))))
   cases H
   exact jA (RL.cons (zZ (es:=[.zs,.zs]) rfl bZ rfl) (VO.aggs (VOs.cons VO.zs (VOs.cons VO.zs VOs.nil))) (RL.cons (RV.tmp rfl) (VO.flat rfl) (RL.cons (RV.tmp eZ) (VO.flat rfl) RL.nil))) List.nodup_nil
  ·refine zn rfl (nt h6) (AW.skip (TQ.qn (aS (zt (zd (zw (es:=(zx a1)) rfl bZ rfl (zb (zd ?_))))))))
   obtain⟨v7,h8,H⟩:=zp H
   refine jQ (u:=(.agg [(.sl 1664 0 v7.Recs.length),(.sl 1665 0 v7.Order.length)])) (bs:=[(1664,(.data 5 (List.map zh v7.Recs) true none)),(1665,(.data 1 (List.map zr v7.Order) true none))]) eC Cl.fn (JN h8) (Ec eZ En) (Vc (VD.agg rfl) Vn) (by simp[jg,jK,qB,jq,qI]) rfl (fC (nR rfl) rfl (fC (nR rfl) rfl (fC (nR rfl) rfl fN))) (zb (zd (ZG (n:=576) (m:=2) rfl rfl (nR rfl) (zb (zd (zv (es:=[(.sl 1664 0 v7.Recs.length),(.sl 1665 0 v7.Order.length)]) eZ rfl rfl rfl bZ rfl (zb (zy (xQ (aV (zw (es:=(zx a1)) rfl (bR rfl) rfl (za rfl (za rfl ?_)))))))))))))
   obtain⟨v9,h10,H⟩:=zp H
   refine zQ (u:=(oI v9)) eC Cl.fn (X0 h10) (Ec rfl (Ec rfl (Ec eZ En))) (Vc (VD.agg rfl) (Vc Vp (Vc Vp Vn))) rfl (za eZ (xQ (aS (AW.block (aV (za eZ (Yt eZ eC (za eZ (xQ (AW.weaken (zk [] (kr 31 rfl rfl (kr 10 rfl rfl (kr 9 rfl rfl (kr 1 rfl rfl (kr 2 rfl rfl (kr 3 rfl rfl (kr 6 rfl rfl SL.nil))))))) (blR rfl) (BK.cons (n:=576) rfl bZ rfl rfl (BK.cons (n:=1665) rfl (bR rfl) rfl rfl (BK.cons (n:=1664) rfl (bR rfl) rfl rfl (BK.cons (n:=192) rfl (bR rfl) rfl rfl (BK.cons (n:=384) rfl (bR rfl) rfl rfl BK.nil))))) GK.nil) ?_))))))))))
   rcases zD H with⟨h11,H⟩|⟨h11,H⟩
   ·refine zo eZ (dT h11) (aS (zt (zd (zw (es:=[(.sl 1664 0 v7.Recs.length),(.sl 1665 0 v7.Order.length)]) rfl bZ rfl (zb (zd (za rfl (zb (zd (zv (es:=[(.sl 1664 0 v7.Recs.length),(.sl 1665 0 v7.Order.length)]) rfl rfl rfl rfl (bR rfl) rfl (zb (zy (za eZ (za eC (xQ (AW.ret (BQ.qr (TQ.qr ?_))))))))))))))))))
    cases H
    exact jA (RL.cons (zZ (es:=[(.sl 1664 0 v7.Recs.length),(.sl 1665 0 v7.Order.length)]) rfl bZ rfl) (VO.aggs (VOs.cons (qF (bR rfl) lm rfl) (VOs.cons (VO.sl (bR rfl) lm (z6 fun _=>rfl)) VOs.nil))) (RL.cons (RV.tmp rfl) (VO.flat rfl) (RL.cons (RV.tmp eZ) (VO.flat rfl) RL.nil))) (by decide)
   ·refine zn eZ (dF h11) (aV (zl (m:=0) rfl rfl (zu (q:=0) (c:=(.d (.sl 5 (List.map zh a1.Recs)))) eZ (bR rfl) rfl rfl (qE eZ (n:=a1.Recs.length) lm (jZ eZ eC (za eZ (xQ ?_)))))))
    rcases zD H with⟨h12,H⟩|⟨h12,H⟩
    ·refine zo eZ (dT h12) (aS (zt (zd (zw (es:=[(.sl 1664 0 v7.Recs.length),(.sl 1665 0 v7.Order.length)]) rfl bZ rfl (zb (zd (zv (es:=[(.sl 1664 0 v7.Recs.length),(.sl 1665 0 v7.Order.length)]) rfl eZ rfl rfl (bR rfl) rfl (zb (zy (za eC (za eC (xQ (AW.ret (BQ.qr (TQ.qr ?_)))))))))))))))
     cases H
     exact jA (RL.cons (zZ (es:=[(.sl 1664 0 v7.Recs.length),(.sl 1665 0 v7.Order.length)]) rfl bZ rfl) (VO.aggs (VOs.cons (qF (bR rfl) lm rfl) (VOs.cons (VO.sl (bR rfl) lm (z6 fun _=>rfl)) VOs.nil))) (RL.cons (RV.tmp rfl) (VO.flat rfl) (RL.cons (RV.tmp eZ) (VO.flat rfl) RL.nil))) (by decide)
    ·refine zn eZ (dF h12) (AW.skip (BQ.qn (TQ.qn (aV (zl (m:=0) rfl rfl (zu (q:=0) (c:=(.d (.sl 5 (List.map zh a1.Recs)))) eZ (bR rfl) rfl rfl (qE eZ (n:=a1.Recs.length) lm (qf eZ eC (za eZ (xQ (AW.weaken (zk [192] (kr 10 rfl rfl (kr 9 rfl rfl (kr 1 rfl rfl (kr 2 rfl rfl (kr 6 rfl rfl SL.nil))))) (blR rfl) (BK.cons (n:=576) rfl bZ rfl rfl (BK.cons (n:=1665) rfl (bR rfl) rfl rfl (BK.cons (n:=1664) rfl (bR rfl) rfl rfl (BK.cons (n:=384) rfl (bR rfl) rfl rfl BK.nil)))) GK.nil) (aS (zt (zd (zl (m:=0) rfl rfl (zb (zd (zu (q:=0) (c:=(.sl 1664 0 v7.Recs.length)) eZ bZ rfl rfl (zb (zd (za rfl (zb (zd (za rfl (zb (zd (za rfl (zb (zd (Zo (cs:=[(dI (IntKind.wrap .i64 ((a1.Recs.length:Int)+1))),(dI a2),(dI a3),(dI 1),.zs]) (qp rfl (qp rfl (qp eZ (qp eC jV)))) rfl (zb (zd (yO (m:=3328) (q:=1) (cs:=[(dI (IntKind.wrap .i64 ((a1.Recs.length:Int)+1))),(dI a2),(dI a3),(dI 1),.zs]) rfl (qp eZ jV) rfl (List.cons_ne_nil _ _) (by simp) (nR rfl) (zb ?_))))))))))))))))))))))))))))))))))
     obtain⟨h13,H⟩:=yx H
     refine Yr (f:=zh) (xs:=v7.Recs) (t:=(zi.mk (IntKind.wrap .i64 ((a1.Recs.length:Int)+1)) a2 a3 1 ([]:List zf))) (q:=(v7.Recs++[(zi.mk (IntKind.wrap .i64 ((a1.Recs.length:Int)+1)) a2 a3 1 ([]:List zf))]).length) (ds:=[(.int .i64 (IntKind.wrap .i64 ((a1.Recs.length:Int)+1))),(.int .i64 a2),(.int .i64 a3),(.int .i64 1),(.sl 4 (List.map zg ([]:List zf)))]) (ns:=[]) rfl eZ (bR rfl) rfl bZ rfl (VOs.cons (VO.flat rfl) (VOs.cons (VO.flat rfl) (VOs.cons (VO.flat rfl) (VOs.cons (VO.flat rfl) (VOs.cons VO.zs VOs.nil))))) rfl rfl rfl rfl h13 (by decide) (erL.cons (v':=(.one (.sl 3328 0 1))) rfl (erL.cons (v':=(.agg [(dI (IntKind.wrap .i64 ((a1.Recs.length:Int)+1))),(dI a2),(dI a3),(dI 1),.zs])) rfl (erL.cons (v':=(oI a3)) rfl (erL.cons (v':=(oI a2)) rfl (erL.cons (v':=(oI (IntKind.wrap .i64 ((a1.Recs.length:Int)+1)))) rfl (erL.cons (v':=(.one (.sl 1664 0 v7.Recs.length))) rfl (erL.cons (v':=(.one (.ptr (.nm 576 0 0)))) rfl (erL.cons (v':=(oI (IntKind.wrap .i64 ((a1.Recs.length:Int)+1)))) rfl (erL.cons (v':=(.one (.ptr (.nm 576 0 0)))) rfl (erL.cons (v':=(oI a2)) rfl (erL.cons (v':=(oI a3)) rfl (erL.cons (v':=(.one (.ptr (.nm 384 0 0)))) rfl erL.nil)))))))))))) (erH.cons (v':=(.vars 5 [(dI (IntKind.wrap .i64 ((a1.Recs.length:Int)+1))),(dI a2),(dI a3),(dI 1),.zs])) rfl rfl (erH.cons (v':=(.vars 2 [(.sl 1664 0 v7.Recs.length),(.sl 1665 0 v7.Order.length)])) rfl rfl (erH.cons (v':=(.data 1 (List.map zr v7.Order) true none)) rfl rfl (erH.cons (v':=(.data 5 (List.map zh v7.Recs) true none)) rfl rfl (erH.cons (v':=(.vars 2 [.zs,.zs])) rfl rfl erH.nil))))) erL.nil (erL.cons (v':=(.one (.sl 3328 0 1))) rfl (erL.cons (v':=(.agg [(dI (IntKind.wrap .i64 ((a1.Recs.length:Int)+1))),(dI a2),(dI a3),(dI 1),.zs])) rfl (erL.cons (v':=(oI a3)) rfl (erL.cons (v':=(oI a2)) rfl (erL.cons (v':=(oI (IntKind.wrap .i64 ((a1.Recs.length:Int)+1)))) rfl (erL.cons (v':=(.one .any)) rfl (erL.cons (v':=(.one (.ptr (.nm 576 0 0)))) rfl (erL.cons (v':=(oI (IntKind.wrap .i64 ((a1.Recs.length:Int)+1)))) rfl (erL.cons (v':=(.one (.ptr (.nm 576 0 0)))) rfl (erL.cons (v':=(oI a2)) rfl (erL.cons (v':=(oI a3)) rfl (erL.cons (v':=(.one (.ptr (.nm 384 0 0)))) rfl erL.nil)))))))))))) (erH.cons (v':=(.vars 5 [(dI (IntKind.wrap .i64 ((a1.Recs.length:Int)+1))),(dI a2),(dI a3),(dI 1),.zs])) rfl rfl (erH.cons (v':=(.vars 2 [.any,(.sl 1665 0 v7.Order.length)])) rfl rfl (erH.cons (v':=(.data 1 (List.map zr v7.Order) true none)) rfl rfl (erH.drop rfl (erH.cons (v':=(.vars 2 [.zs,.zs])) rfl rfl erH.nil))))) erL.nil (zd (zl (m:=0) rfl rfl (zb (zd (zv (es:=[(.sl 1664 0 ((v7.Recs++[(zi.mk (IntKind.wrap .i64 ((a1.Recs.length:Int)+1)) a2 a3 1 ([]:List zf))]).length)),(.sl 1665 0 v7.Order.length)]) eZ rfl rfl rfl (bR rfl) rfl (zb (zy (xQ (aS (zt (zd (zw (es:=[(.sl 1664 0 ((v7.Recs++[(zi.mk (IntKind.wrap .i64 ((a1.Recs.length:Int)+1)) a2 a3 1 ([]:List zf))]).length)),(.sl 1665 0 v7.Order.length)]) rfl bZ rfl (zb (zd (za rfl (zb (zd (zv (es:=[(.sl 1664 0 ((v7.Recs++[(zi.mk (IntKind.wrap .i64 ((a1.Recs.length:Int)+1)) a2 a3 1 ([]:List zf))]).length)),(.sl 1665 0 v7.Order.length)]) rfl rfl rfl rfl (bR rfl) rfl (zb (zy (za eZ (za eC (xQ (AW.weaken (zk [576,3328] (kr 8 rfl rfl (kr 7 rfl rfl (kr 6 rfl rfl SL.nil))) (blR rfl) (BK.cons (n:=384) rfl bZ rfl rfl (BK.cons (n:=1664) rfl (bR rfl) rfl rfl (BK.cons (n:=1665) rfl (bR rfl) rfl rfl BK.nil))) GK.nil) (AW.ret ?_)))))))))))))))))))))))))
     cases H
     exact jA (RL.cons (zZ (es:=[(.sl 1664 0 ((v7.Recs++[(zi.mk (IntKind.wrap .i64 ((a1.Recs.length:Int)+1)) a2 a3 1 ([]:List zf))]).length)),(.sl 1665 0 v7.Order.length)]) rfl bZ rfl) (VO.aggs (VOs.cons (qF (bR rfl) lm rfl) (VOs.cons (VO.sl (bR rfl) lm (z6 fun _=>rfl)) VOs.nil))) (RL.cons (RV.tmp rfl) (VO.flat rfl) (RL.cons (RV.tmp eZ) (VO.flat rfl) RL.nil))) (by decide)
 ·refine aR (zw (es:=(zx a1)) rfl (bR rfl) rfl ?_)
  obtain⟨v14,h15,H⟩:=zp H
  refine zQ (u:=(oB v14)) eC Cl.fn (yZ h15) (Ec eZ En) (Vc (VD.agg rfl) Vn) rfl (jF eZ (za eZ ?_))
  rcases zD H with⟨h16,H⟩|⟨h16,H⟩
  ·refine gDo eZ (cN h16) (za rfl (gDo rfl (cN h16) ?_))
   obtain⟨v17,h18,H⟩:=zp H
   refine zQ (u:=(oB v17)) eC Cl.fn (kl h18) (Ec eZ En) (Vc Vp Vn) rfl (gDo rfl (cN h16) (jF eZ (zU rfl (cN h16) eZ (za eZ ?_))))
   rcases zD H with⟨h19,H⟩|⟨h19,H⟩
   ·refine gDo eZ (cN h19) (za rfl (gDo rfl (cN h19) ?_))
    obtain⟨v20,h21,H⟩:=zp H
    exact zQ (u:=(oB v20)) eC Cl.fn (jU h21) (Ec eZ (Ec eC (Ec eC En))) (Vc Vp (Vc Vp (Vc Vp Vn))) rfl (gDo rfl (cN h19) (jF eZ (zU rfl (cN h19) eZ (zb (TQ.qn ⟨(!v20),H,(zk [] (sR rfl rfl) (blR rfl) (bkR rfl rfl rfl) GK.nil)⟩)))))
   ·exact ze eZ (cN (nt h19)) rfl (ze rfl (cN (nt h19)) rfl (ze rfl (cN (nt h19)) rfl (zJ rfl (cN (nt h19)) eC (zb (TQ.qn ⟨true,H,(zk [] (sR rfl rfl) (blR rfl) (bkR rfl rfl rfl) GK.nil)⟩)))))
  ·exact ze eZ (cN (nt h16)) rfl (ze rfl (cN (nt h16)) rfl (ze rfl (cN (nt h16)) rfl (zJ rfl (cN (nt h16)) eC (za eZ (ze eZ rfl rfl (ze rfl rfl rfl (ze rfl rfl rfl (zJ rfl rfl eC (zb (TQ.qn ⟨true,H,(zk [] (sR rfl rfl) (blR rfl) (bkR rfl rfl rfl) GK.nil)⟩))))))))))
theorem x8{pv:Value}{cb1:(List Int)}{a2:(Int×Int)}{r:((List qj)×(Int×Int))}(H:yr cb1 a2=some r):FnC Try.prog pv (.sl 1 (List.map zN cb1)) 168 [⟨(.ptr [(.pin pv),(.int .i64 a2.1),(.int .i64 a2.2)]),.m (.ptr [(.pin pv),(.int .i64 r.2.1),(.int .i64 r.2.2)])⟩] [(.sl 2 (List.map zW r.1))]:=by
 refine zqa (fle rfl) (fle rfl) (fC nZ rfl fN) rfl ?_
 rw[QC]
 refine AW.weaken (t:=mk [(0,(.one (.ptr (.nm 0 0 0))))] [(0,(.vars 3 [(.d (.pin pv)),(dI a2.1),(dI a2.2)]))] (lk [(63,(.one (.d (.both pv (.sl 1 (List.map zN cb1)))))),(0,(.one (.ptr (.nm 0 0 0))))])) (zk (gl:=[(63,(.one (.d (.both pv (.sl 1 (List.map zN cb1)))))),(0,(.one (.ptr (.nm 0 0 0))))]) [] (kv 0 (.one (.ptr (.nm 0 0 0))) rfl rfl SL.nil) (blR rfl) (BK.cons (n:=0) rfl bZ rfl rfl BK.nil) (GK.cons rfl (GK.cons rfl GK.nil))) ?_
 unfold yr at H
 unfold zjg
 refine aV (za eC (xQ (aV (QH (m:=448) rfl (nR rfl) (za eZ (xQ (aS (zt (zd (za rfl (zb ?_)))))))))))
 obtain⟨v3,h4,H⟩:=zp H
 refine qQ (v0:=pv) (hg:=by exact rfl) (ON:=[0]) (ls:=[]) (G:=[]) (E:=[zR 0]) (MB:=[(0,(.vars 3 [(.d (.pin pv)),(dI v3.2.1),(dI v3.2.2)]))]) (u:=(oI v3.1)) eC Cl.fn (zL h4) (Ec eZ (Ec eC En)) (AO.mut (VO.ptr (es:=[(.pin pv),(.int .i64 a2.1),(.int .i64 a2.2)]) bZ rfl rfl rfl) (AO.lent Vp rfl AO.nil)) rfl rfl rfl (zV bZ rfl SZ.nil) (erL.cons (v':=(.one (.ptr (.nm 0 0 0)))) rfl (erL.cons (v':=(.one .zs)) rfl (erL.cons (v':=(.one .zs)) rfl (erL.cons (v':=(.one .zs)) rfl (erL.cons (v':=(.one (.ptr (.nm 0 0 0)))) rfl erL.nil))))) (erH.cons (v':=(.vars 3 [(.d (.pin pv)),(dI a2.1),(dI a2.2)])) rfl rfl erH.nil) (erL.cons (v':=(.one (.d (.both pv (.sl 1 (List.map zN cb1)))))) rfl (erL.cons (v':=(.one (.ptr (.nm 0 0 0)))) rfl erL.nil)) rfl rfl (zy (za eZ (xQ (zM (fun t5:((List qj)×Int×Int)=>Zj t5=some r) (fun t5=>mk [(3,(.one (.sl 320128 0 t5.1.length)))] [(320128,(.data 2 (List.map zW t5.1) true none)),(0,(.vars 3 [(.d (.pin pv)),(dI t5.2.1),(dI t5.2.2)]))] (lk [(63,(.one (.d (.both pv (.sl 1 (List.map zN cb1)))))),(0,(.one (.ptr (.nm 0 0 0))))])) ?_ ?_))))
 ·intro t5 H
  unfold Zj at H
  refine aV (za eZ (za eZ (xQ (AW.ret ?_))))
  cases H
  exact y7 (RL.cons (RV.tmp eZ) (VO.sl bZ lm (z6 fun _=>rfl)) RL.nil) (ML.mut (eS rfl eZ) (VO.ptr (es:=[(.pin pv),(.int .i64 t5.2.1),(.int .i64 t5.2.2)]) (bR rfl) rfl rfl rfl) ML.nil) (by decide)
 ·refine aV (za eC (xQ (AW.block (AW.iter (fun s7:((List qj)×Int×Int×Int×Int)=>mk [(0,(.one (.ptr (.nm 0 0 0)))),(3,(.one (.sl 320192 0 s7.1.length))),(4,(oI s7.2.1)),(5,(oI s7.2.2.1))] [(320192,(.data 2 (List.map zW s7.1) true none)),(0,(.vars 3 [(.d (.pin pv)),(dI s7.2.2.2.1),(dI s7.2.2.2.2)]))] (lk [(63,(.one (.d (.both pv (.sl 1 (List.map zN cb1)))))),(0,(.one (.ptr (.nm 0 0 0))))])) H ((zk [] (kR rfl rfl (SL.cons eZ rfl (VWk.one (CWk.len (by first|(simp;done)|(simp;omega)|omega|(simp only[List.length_map];omega)))) (sR rfl rfl))) (blR rfl) (bkR rfl rfl rfl) (GK.cons rfl (GK.cons rfl GK.nil))).trans (zab 320192 2 3 true rfl (nR rfl))) ?_))))
  intro kb8 s7 H
  unfold Qt at H
  refine aS (aS (zt (zd (za rfl (zb (zd (za rfl (zb ?_))))))))
  obtain⟨v9,h10,H⟩:=zp H
  refine qQ (v0:=pv) (hg:=by exact rfl) (ON:=[0]) (ls:=[]) (G:=[]) (E:=[zR 0]) (MB:=[(0,(.vars 3 [(.d (.pin pv)),(dI v9.2.1),(dI v9.2.2)]))]) (u:=(oI v9.1)) eC Cl.fn (zL h10) (Ec eZ (Ec eC En)) (AO.mut (VO.ptr (es:=[(.pin pv),(.int .i64 s7.2.2.2.1),(.int .i64 s7.2.2.2.2)]) (bR rfl) rfl rfl rfl) (AO.lent Vp rfl AO.nil)) rfl rfl rfl (zV (bR rfl) rfl SZ.nil) (erL.cons (v':=(.one (.ptr (.nm 0 0 0)))) rfl (erL.cons (v':=(oI s7.2.2.1)) rfl (erL.cons (v':=(.one (.ptr (.nm 0 0 0)))) rfl (erL.cons (v':=(.one (.sl 320192 0 s7.1.length))) rfl (erL.cons (v':=(oI s7.2.1)) rfl (erL.cons (v':=(oI s7.2.2.1)) rfl erL.nil)))))) (erH.cons (v':=(.data 2 (List.map zW s7.1) true none)) rfl rfl (erH.cons (v':=(.vars 3 [(.d (.pin pv)),(dI s7.2.2.2.1),(dI s7.2.2.2.2)])) rfl rfl erH.nil)) (erL.cons (v':=(.one (.d (.both pv (.sl 1 (List.map zN cb1)))))) rfl (erL.cons (v':=(.one (.ptr (.nm 0 0 0)))) rfl erL.nil)) rfl rfl (zy (ZD rfl eZ (xQ ?_)))
  rcases zD H with⟨h11,H⟩|⟨h11,H⟩
  ·refine zo eZ (dT h11) (AW.skip (TQ.qn (aS (AW.block (aS (zt (zd (za rfl (zb (zd (za rfl (zb ?_))))))))))))
   obtain⟨v12,h13,H⟩:=zp H
   refine qQ (v0:=pv) (hg:=by exact rfl) (ON:=[0]) (ls:=[]) (G:=[]) (E:=[zR 0]) (MB:=[(0,(.vars 3 [(.d (.pin pv)),(dI v12.2.1),(dI v12.2.2)]))]) (u:=(oI v12.1)) eC Cl.fn (zL h13) (Ec eZ (Ec eC En)) (AO.mut (VO.ptr (es:=[(.pin pv),(.int .i64 v9.2.1),(.int .i64 v9.2.2)]) bZ rfl rfl rfl) (AO.lent Vp rfl AO.nil)) rfl rfl rfl (zV bZ rfl SZ.nil) (erL.cons (v':=(.one (.ptr (.nm 0 0 0)))) rfl (erL.cons (v':=(oI s7.2.1)) rfl (erL.cons (v':=(oB (decide (s7.2.2.1 < v9.1)))) rfl (erL.cons (v':=(oI v9.1)) rfl (erL.cons (v':=(.one (.ptr (.nm 0 0 0)))) rfl (erL.cons (v':=(oI s7.2.2.1)) rfl (erL.cons (v':=(.one (.ptr (.nm 0 0 0)))) rfl (erL.cons (v':=(.one (.sl 320192 0 s7.1.length))) rfl (erL.cons (v':=(oI s7.2.1)) rfl (erL.cons (v':=(oI s7.2.2.1)) rfl erL.nil)))))))))) (erH.cons (v':=(.vars 3 [(.d (.pin pv)),(dI v9.2.1),(dI v9.2.2)])) rfl rfl (erH.cons (v':=(.data 2 (List.map zW s7.1) true none)) rfl rfl (erH.cons (v':=(.vars 3 [(.d (.pin pv)),(dI s7.2.2.2.1),(dI s7.2.2.2.2)])) rfl rfl erH.nil))) (erL.cons (v':=(.one (.d (.both pv (.sl 1 (List.map zN cb1)))))) rfl (erL.cons (v':=(.one (.ptr (.nm 0 0 0)))) rfl erL.nil)) rfl rfl (zy (Zo (cs:=[(dI s7.2.1),(dI v12.1)]) (qp rfl (qp eZ jV)) rfl (ZG (n:=384) (m:=2) rfl rfl (nR rfl) (zv (es:=[(dI s7.2.1),(dI v12.1)]) eZ rfl rfl rfl bZ rfl (xQ (zM (fun t14:(Int×Int×Int)=>(j7 s7 cb1 kb8) t14=some r) (fun t14=>mk [(0,(.one (.ptr (.nm 0 0 0)))),(3,(.one (.sl 320192 0 s7.1.length))),(4,(oI s7.2.1)),(5,(oI s7.2.2.1)),(6,(.one (.ptr (.nm 384 0 0))))] [(0,(.vars 3 [(.d (.pin pv)),(dI t14.1),(dI t14.2.1)])),(384,(.vars 2 [(dI s7.2.1),(dI t14.2.2)])),(320192,(.data 2 (List.map zW s7.1) true none))] (lk [(63,(.one (.d (.both pv (.sl 1 (List.map zN cb1)))))),(0,(.one (.ptr (.nm 0 0 0))))])) ?_ ?_))))))
   ·intro t14 H
    unfold j7 at H
    refine aV (za rfl (zw (es:=[(dI s7.2.1),(dI t14.2.2)]) rfl (bR rfl) rfl (yO (m:=1600) (q:=1) (cs:=[(dI s7.2.1),(dI t14.2.2)]) rfl (qp eZ jV) rfl (List.cons_ne_nil _ _) (by simp) (nR rfl) ?_)))
    obtain⟨h16,H⟩:=yx H
    refine Xq (f:=zW) (xs:=s7.1) (ys:=[(qj.mk s7.2.1 t14.2.2)]) (q:=(s7.1++([(qj.mk s7.2.1 t14.2.2)])).length) rfl eZ (bR rfl) rfl (El.one (f:=zW) (t:=(qj.mk s7.2.1 t14.2.2)) (es:=[(.int .i64 s7.2.1),(.int .i64 t14.2.2)]) bZ rfl rfl rfl) rfl h16 (by decide) (by decide) (erL.cons (v':=(.one (.sl 1600 0 1))) rfl (erL.cons (v':=(.agg [(dI s7.2.1),(dI t14.2.2)])) rfl (erL.cons (v':=(.one .any)) rfl (erL.cons (v':=(.one (.ptr (.nm 0 0 0)))) rfl (erL.cons (v':=(.one .any)) rfl (erL.cons (v':=(oI s7.2.1)) rfl (erL.cons (v':=(oI s7.2.2.1)) rfl (erL.cons (v':=(.one (.ptr (.nm 384 0 0)))) rfl erL.nil)))))))) (erH.cons (v':=(.vars 2 [(dI s7.2.1),(dI t14.2.2)])) rfl rfl (erH.cons (v':=(.vars 3 [(.d (.pin pv)),(dI t14.1),(dI t14.2.1)])) rfl rfl (erH.cons (v':=(.vars 2 [(dI s7.2.1),(dI t14.2.2)])) rfl rfl (erH.drop rfl erH.nil)))) (GK.cons rfl (GK.cons rfl GK.nil)) (za eZ (xQ (zt (zd (za rfl (zb (zd (qf eZ eC (zb (zd (za rfl (zb ?_))))))))))))
    obtain⟨v17,h18,H⟩:=zp H
    exact qQ (v0:=pv) (hg:=by exact rfl) (ON:=[0]) (ls:=[]) (G:=[]) (E:=[zR 0]) (MB:=[(0,(.vars 3 [(.d (.pin pv)),(dI v17.2.1),(dI v17.2.2)]))]) (u:=(oI v17.1)) eC Cl.fn (zL h18) (Ec eZ (Ec eC En)) (AO.mut (VO.ptr (es:=[(.pin pv),(.int .i64 t14.1),(.int .i64 t14.2.1)]) (bR rfl) rfl rfl rfl) (AO.lent Vp rfl AO.nil)) rfl rfl rfl (zV (bR rfl) rfl SZ.nil) (erL.cons (v':=(.one (.ptr (.nm 0 0 0)))) rfl (erL.cons (v':=(oI (IntKind.wrap .i64 (s7.2.1+1)))) rfl (erL.cons (v':=(oI s7.2.1)) rfl (erL.cons (v':=(.one (.sl 320192 0 ((s7.1++([(qj.mk s7.2.1 t14.2.2)])).length)))) rfl (erL.cons (v':=(.one (.sl 320192 0 ((s7.1++([(qj.mk s7.2.1 t14.2.2)])).length)))) rfl (erL.cons (v':=(.one (.sl 1600 0 1))) rfl (erL.cons (v':=(.agg [(dI s7.2.1),(dI t14.2.2)])) rfl (erL.cons (v':=(.one .any)) rfl (erL.cons (v':=(.one (.ptr (.nm 0 0 0)))) rfl (erL.cons (v':=(.one .any)) rfl (erL.cons (v':=(oI s7.2.1)) rfl (erL.cons (v':=(oI s7.2.2.1)) rfl (erL.cons (v':=(.one (.ptr (.nm 384 0 0)))) rfl erL.nil))))))))))))) (erH.cons (v':=(.data 2 (List.map zW (s7.1++([(qj.mk s7.2.1 t14.2.2)]))) true none)) rfl rfl (erH.cons (v':=(.vars 2 [(dI s7.2.1),(dI t14.2.2)])) rfl rfl (erH.cons (v':=(.vars 3 [(.d (.pin pv)),(dI t14.1),(dI t14.2.1)])) rfl rfl (erH.cons (v':=(.vars 2 [(dI s7.2.1),(dI t14.2.2)])) rfl rfl erH.nil)))) (erL.cons (v':=(.one (.d (.both pv (.sl 1 (List.map zN cb1)))))) rfl (erL.cons (v':=(.one (.ptr (.nm 0 0 0)))) rfl erL.nil)) rfl rfl (zy (qf rfl eZ (za eZ (zb (BQ.qn (TQ.qn (AW.weaken (zk [1600,384] (kr 4 rfl rfl (kr 3 rfl rfl (kr 0 rfl rfl (kr 5 rfl rfl SL.nil)))) (blR rfl) (BK.cons (n:=0) rfl bZ rfl rfl (BK.cons (n:=320192) rfl (bR rfl) rfl rfl BK.nil)) (GK.cons rfl (GK.cons rfl GK.nil))) (aR (za rfl (qf eZ eC (za eZ (zb (TQ.qn ⟨((s7.1++([(qj.mk s7.2.1 t14.2.2)])),(IntKind.wrap .i64 ((IntKind.wrap .i64 (s7.2.1+1))+v17.1)),(IntKind.wrap .i64 (s7.2.2.1+1)),v17.2.1,v17.2.2),H,(zk [] (sR rfl rfl) (blR rfl) (bkR rfl rfl rfl) (GK.cons rfl (GK.cons rfl GK.nil)))⟩)))))))))))))
   ·refine aS (zt (zd (za rfl (zb ?_))))
    obtain⟨v19,h20,H⟩:=zp H
    refine qQ (v0:=pv) (hg:=by exact rfl) (ON:=[0]) (ls:=[]) (G:=[]) (E:=[zR 0]) (MB:=[(0,(.vars 3 [(.d (.pin pv)),(dI v19.2.1),(dI v19.2.2)]))]) (u:=(oB v19.1)) eC Cl.fn (yl h20) (Ec eZ (Ec eC En)) (AO.mut (VO.ptr (es:=[(.pin pv),(.int .i64 v12.2.1),(.int .i64 v12.2.2)]) (bR rfl) rfl rfl rfl) (AO.lent Vp rfl AO.nil)) rfl rfl rfl (zV (bR rfl) rfl SZ.nil) (erL.cons (v':=(.one (.ptr (.nm 0 0 0)))) rfl (erL.cons (v':=(.one (.ptr (.nm 384 0 0)))) rfl (erL.cons (v':=(.agg [(dI s7.2.1),(dI v12.1)])) rfl (erL.cons (v':=(oI v12.1)) rfl (erL.cons (v':=(.one (.ptr (.nm 0 0 0)))) rfl (erL.cons (v':=(oI s7.2.1)) rfl (erL.cons (v':=(oB (decide (s7.2.2.1 < v9.1)))) rfl (erL.cons (v':=(oI v9.1)) rfl (erL.cons (v':=(.one (.ptr (.nm 0 0 0)))) rfl (erL.cons (v':=(oI s7.2.2.1)) rfl (erL.cons (v':=(.one (.ptr (.nm 0 0 0)))) rfl (erL.cons (v':=(.one (.sl 320192 0 s7.1.length))) rfl (erL.cons (v':=(oI s7.2.1)) rfl (erL.cons (v':=(oI s7.2.2.1)) rfl erL.nil)))))))))))))) (erH.cons (v':=(.vars 2 [(dI s7.2.1),(dI v12.1)])) rfl rfl (erH.cons (v':=(.vars 2 [(dI 0),(dI 0)])) rfl rfl (erH.cons (v':=(.vars 3 [(.d (.pin pv)),(dI v12.2.1),(dI v12.2.2)])) rfl rfl (erH.cons (v':=(.vars 3 [(.d (.pin pv)),(dI v9.2.1),(dI v9.2.2)])) rfl rfl (erH.cons (v':=(.data 2 (List.map zW s7.1) true none)) rfl rfl (erH.cons (v':=(.vars 3 [(.d (.pin pv)),(dI s7.2.2.2.1),(dI s7.2.2.2.2)])) rfl rfl erH.nil)))))) (erL.cons (v':=(.one (.d (.both pv (.sl 1 (List.map zN cb1)))))) rfl (erL.cons (v':=(.one (.ptr (.nm 0 0 0)))) rfl erL.nil)) rfl rfl (zy (xQ ?_))
    rcases zD H with⟨h21,H⟩|⟨h21,H⟩
    ·exact zo eZ h21 (aR (zl (m:=1) rfl rfl (zv (es:=[(dI s7.2.1),(dI (-1))]) eZ eC rfl rfl (bR rfl) rfl (zb (TQ.qn ⟨(v19.2.1,v19.2.2,(-1)),H,(zk [] (sR rfl rfl) (blR rfl) (bkR rfl rfl rfl) (GK.cons rfl (GK.cons rfl GK.nil)))⟩)))))
    ·exact zn eZ (nt h21) (AW.skip (TQ.qn ⟨(v19.2.1,v19.2.2,v12.1),H,(zk [] (sR rfl rfl) (blR rfl) (bkR rfl rfl rfl) (GK.cons rfl (GK.cons rfl GK.nil)))⟩))
  ·exact zn eZ (dF h11) (AW.exit (TQ.qe (TQ.qe (BQ.qe (TQ.qn ⟨(s7.1,v9.2.1,v9.2.2),H,((zk [] (sR rfl rfl) (blR rfl) (bkR rfl rfl rfl) (GK.cons rfl (GK.cons rfl GK.nil))).trans (z3 320192 320128 rfl rfl (nR rfl) (GR.cons rfl (GR.cons rfl GR.nil))))⟩)))))
theorem Xh{pv:Value}{cb1:(List Int)}{a2:(Int×Int)}{r:(qi×(Int×Int))}(H:y4 cb1 a2=some r):FnC Try.prog pv (.sl 1 (List.map zN cb1)) 169 [⟨(.ptr [(.pin pv),(.int .i64 a2.1),(.int .i64 a2.2)]),.m (.ptr [(.pin pv),(.int .i64 r.2.1),(.int .i64 r.2.2)])⟩] [(.agg (z4 r.1))]:=by
 refine zqr (fle rfl) (fle rfl) (fC nZ rfl fN) rfl ?_
 rw[QC]
 refine AW.weaken (t:=mk [(0,(.one (.ptr (.nm 0 0 0))))] [(0,(.vars 3 [(.d (.pin pv)),(dI a2.1),(dI a2.2)]))] (lk [(63,(.one (.d (.both pv (.sl 1 (List.map zN cb1)))))),(0,(.one (.ptr (.nm 0 0 0))))])) (zk (gl:=[(63,(.one (.d (.both pv (.sl 1 (List.map zN cb1)))))),(0,(.one (.ptr (.nm 0 0 0))))]) [] (kv 0 (.one (.ptr (.nm 0 0 0))) rfl rfl SL.nil) (blR rfl) (BK.cons (n:=0) rfl bZ rfl rfl BK.nil) (GK.cons rfl (GK.cons rfl GK.nil))) ?_
 unfold y4 at H
 unfold zh3
 refine aV (ZG (n:=128) (m:=2) rfl rfl (nR rfl) (xQ (aS (zt (zd (za rfl (zb ?_)))))))
 obtain⟨v3,h4,H⟩:=zp H
 refine qQ (v0:=pv) (hg:=by exact rfl) (ON:=[0]) (ls:=[]) (G:=[]) (E:=[zR 0]) (MB:=[(0,(.vars 3 [(.d (.pin pv)),(dI v3.2.1),(dI v3.2.2)]))]) (u:=(oI v3.1)) eC Cl.fn (zL h4) (Ec eZ (Ec eC En)) (AO.mut (VO.ptr (es:=[(.pin pv),(.int .i64 a2.1),(.int .i64 a2.2)]) (bR rfl) rfl rfl rfl) (AO.lent Vp rfl AO.nil)) rfl rfl rfl (zV (bR rfl) rfl SZ.nil) (erL.cons (v':=(.one (.ptr (.nm 0 0 0)))) rfl (erL.cons (v':=(.one (.ptr (.nm 128 0 0)))) rfl (erL.cons (v':=(.one (.ptr (.nm 0 0 0)))) rfl erL.nil))) (erH.cons (v':=(.vars 2 [(dI 0),(dI 0)])) rfl rfl (erH.cons (v':=(.vars 3 [(.d (.pin pv)),(dI a2.1),(dI a2.2)])) rfl rfl erH.nil)) (erL.cons (v':=(.one (.d (.both pv (.sl 1 (List.map zN cb1)))))) rfl (erL.cons (v':=(.one (.ptr (.nm 0 0 0)))) rfl erL.nil)) rfl rfl (zy (za eZ (xQ (aS (zt (zd (za eZ (zb (zd (za rfl (zb (zd (qf eZ eC (zb (zd (za rfl (zb ?_)))))))))))))))))
 obtain⟨v5,h6,H⟩:=zp H
 refine qQ (v0:=pv) (hg:=by exact rfl) (ON:=[0]) (ls:=[]) (G:=[]) (E:=[zR 0]) (MB:=[(0,(.vars 3 [(.d (.pin pv)),(dI v5.2.1),(dI v5.2.2)]))]) (u:=(oI v5.1)) eC Cl.fn (zL h6) (Ec eZ (Ec eC En)) (AO.mut (VO.ptr (es:=[(.pin pv),(.int .i64 v3.2.1),(.int .i64 v3.2.2)]) bZ rfl rfl rfl) (AO.lent Vp rfl AO.nil)) rfl rfl rfl (zV bZ rfl SZ.nil) (erL.cons (v':=(.one (.ptr (.nm 0 0 0)))) rfl (erL.cons (v':=(oI (IntKind.wrap .i64 (v3.1+1)))) rfl (erL.cons (v':=(oI v3.1)) rfl (erL.cons (v':=(oI v3.1)) rfl (erL.cons (v':=(oI v3.1)) rfl (erL.cons (v':=(oI v3.1)) rfl (erL.cons (v':=(.one (.ptr (.nm 0 0 0)))) rfl (erL.cons (v':=(.one (.ptr (.nm 128 0 0)))) rfl (erL.cons (v':=(.one (.ptr (.nm 0 0 0)))) rfl erL.nil))))))))) (erH.cons (v':=(.vars 3 [(.d (.pin pv)),(dI v3.2.1),(dI v3.2.2)])) rfl rfl (erH.cons (v':=(.vars 2 [(dI 0),(dI 0)])) rfl rfl (erH.cons (v':=(.vars 3 [(.d (.pin pv)),(dI a2.1),(dI a2.2)])) rfl rfl erH.nil))) (erL.cons (v':=(.one (.d (.both pv (.sl 1 (List.map zN cb1)))))) rfl (erL.cons (v':=(.one (.ptr (.nm 0 0 0)))) rfl erL.nil)) rfl rfl (zy (qf rfl eZ (Zo (cs:=[(dI v3.1),(dI (IntKind.wrap .i64 ((IntKind.wrap .i64 (v3.1+1))+v5.1)))]) (qp rfl (qp eZ jV)) rfl (zv (es:=[(dI v3.1),(dI (IntKind.wrap .i64 ((IntKind.wrap .i64 (v3.1+1))+v5.1)))]) rfl eZ rfl rfl (bR rfl) rfl (xQ (AW.ret ?_))))))
 cases H
 exact y7 (RL.cons (zZ (es:=[(dI v3.1),(dI (IntKind.wrap .i64 ((IntKind.wrap .i64 (v3.1+1))+v5.1)))]) rfl bZ rfl) (VO.agg (ds:=[(.int .i64 v3.1),(.int .i64 (IntKind.wrap .i64 ((IntKind.wrap .i64 (v3.1+1))+v5.1)))]) rfl rfl) RL.nil) (ML.mut (eS rfl eZ) (VO.ptr (es:=[(.pin pv),(.int .i64 v5.2.1),(.int .i64 v5.2.2)]) (bR rfl) rfl rfl rfl) ML.nil) (by decide)
theorem Yl{pv:Value}{cb1:(List Int)}{a2:(Int×Int)}{r:((List zf)×(Int×Int))}(H:ju cb1 a2=some r):FnC Try.prog pv (.sl 1 (List.map zN cb1)) 146 [⟨(.ptr [(.pin pv),(.int .i64 a2.1),(.int .i64 a2.2)]),.m (.ptr [(.pin pv),(.int .i64 r.2.1),(.int .i64 r.2.2)])⟩] [(.sl 4 (List.map zg r.1))]:=by
 refine zqR (fle rfl) (fle rfl) (fC nZ rfl fN) rfl ?_
 rw[QC]
 refine AW.weaken (t:=mk [(0,(.one (.ptr (.nm 0 0 0))))] [(0,(.vars 3 [(.d (.pin pv)),(dI a2.1),(dI a2.2)]))] (lk [(63,(.one (.d (.both pv (.sl 1 (List.map zN cb1)))))),(0,(.one (.ptr (.nm 0 0 0))))])) (zk (gl:=[(63,(.one (.d (.both pv (.sl 1 (List.map zN cb1)))))),(0,(.one (.ptr (.nm 0 0 0))))]) [] (kv 0 (.one (.ptr (.nm 0 0 0))) rfl rfl SL.nil) (blR rfl) (BK.cons (n:=0) rfl bZ rfl rfl BK.nil) (GK.cons rfl (GK.cons rfl GK.nil))) ?_
 unfold ju at H
 unfold zhb
 refine aV (za eC (xQ (aV (QH (m:=448) rfl (nR rfl) (za eZ (xQ (zM (fun t3:((List zf)×Int×Int)=>(Zk cb1) t3=some r) (fun t3=>mk [(0,(.one (.ptr (.nm 0 0 0)))),(3,(.one (.sl 321472 0 t3.1.length)))] [(321472,(.data 4 (List.map zg t3.1) true none)),(0,(.vars 3 [(.d (.pin pv)),(dI t3.2.1),(dI t3.2.2)]))] (lk [(63,(.one (.d (.both pv (.sl 1 (List.map zN cb1)))))),(0,(.one (.ptr (.nm 0 0 0))))])) ?_ ?_)))))))
 ·intro t3 H
  unfold Zk at H
  refine aS (aS (zt (zd (za eZ (zb ?_)))))
  obtain⟨v5,h6,H⟩:=zp H
  refine qQ (v0:=pv) (hg:=by exact rfl) (ON:=[0]) (ls:=[]) (G:=[]) (E:=[zR 0]) (MB:=[(0,(.vars 3 [(.d (.pin pv)),(dI v5.2.1),(dI v5.2.2)]))]) (u:=(oI v5.1)) eC Cl.fn (zL h6) (Ec eZ (Ec eC En)) (AO.mut (VO.ptr (es:=[(.pin pv),(.int .i64 t3.2.1),(.int .i64 t3.2.2)]) (bR rfl) rfl rfl rfl) (AO.lent Vp rfl AO.nil)) rfl rfl rfl (zV (bR rfl) rfl SZ.nil) (erL.cons (v':=(.one (.ptr (.nm 0 0 0)))) rfl (erL.cons (v':=(.one (.ptr (.nm 0 0 0)))) rfl (erL.cons (v':=(.one (.sl 321472 0 t3.1.length))) rfl erL.nil))) (erH.cons (v':=(.data 4 (List.map zg t3.1) true none)) rfl rfl (erH.cons (v':=(.vars 3 [(.d (.pin pv)),(dI t3.2.1),(dI t3.2.2)])) rfl rfl erH.nil)) (erL.cons (v':=(.one (.d (.both pv (.sl 1 (List.map zN cb1)))))) rfl (erL.cons (v':=(.one (.ptr (.nm 0 0 0)))) rfl erL.nil)) rfl rfl (zy (xQ (AW.block (aV (jZ eZ eC (za eZ (xQ ?_)))))))
  rcases zD H with⟨h7,H⟩|⟨h7,H⟩
  ·refine zo eZ (dT h7) (zt (zd (za rfl (zb (zd (za rfl (zb ?_)))))))
   obtain⟨v8,h9,H⟩:=zp H
   refine qQ (v0:=pv) (hg:=by exact rfl) (ON:=[0]) (ls:=[]) (G:=[]) (E:=[zR 0]) (MB:=[(0,(.vars 3 [(.d (.pin pv)),(dI v8.2.1),(dI v8.2.2)]))]) (u:=(oI v8.1)) eC Cl.fn (zL h9) (Ec eZ (Ec eC En)) (AO.mut (VO.ptr (es:=[(.pin pv),(.int .i64 v5.2.1),(.int .i64 v5.2.2)]) bZ rfl rfl rfl) (AO.lent Vp rfl AO.nil)) rfl rfl rfl (zV bZ rfl SZ.nil) (erL.cons (v':=(.one (.ptr (.nm 0 0 0)))) rfl (erL.cons (v':=(.one (.sl 321472 0 t3.1.length))) rfl (erL.cons (v':=(oB (decide (v5.1=0)))) rfl (erL.cons (v':=(oB (decide (v5.1=0)))) rfl (erL.cons (v':=(oI v5.1)) rfl (erL.cons (v':=(.one (.ptr (.nm 0 0 0)))) rfl (erL.cons (v':=(.one (.ptr (.nm 0 0 0)))) rfl (erL.cons (v':=(.one (.sl 321472 0 t3.1.length))) rfl erL.nil)))))))) (erH.cons (v':=(.vars 3 [(.d (.pin pv)),(dI v5.2.1),(dI v5.2.2)])) rfl rfl (erH.cons (v':=(.data 4 (List.map zg t3.1) true none)) rfl rfl (erH.cons (v':=(.vars 3 [(.d (.pin pv)),(dI t3.2.1),(dI t3.2.2)])) rfl rfl erH.nil))) (erL.cons (v':=(.one (.d (.both pv (.sl 1 (List.map zN cb1)))))) rfl (erL.cons (v':=(.one (.ptr (.nm 0 0 0)))) rfl erL.nil)) rfl rfl (zd (Yn eZ eC (zb (zd (Zo (cs:=[(dI (IntKind.wrap .i64 (v8.1 - 1))),.zs,.zs,(dI 0)]) (qp eZ jV) rfl (zb (zd (yO (m:=2816) (q:=1) (cs:=[(dI (IntKind.wrap .i64 (v8.1 - 1))),.zs,.zs,(dI 0)]) rfl (qp eZ jV) rfl (List.cons_ne_nil _ _) (by simp) (nR rfl) (zb ?_)))))))))
   obtain⟨h10,H⟩:=yx H
   refine Yr (f:=zg) (xs:=t3.1) (t:=(zf.mk (IntKind.wrap .i64 (v8.1 - 1)) ([]:List qi) ([]:List qj) 0)) (q:=(t3.1++[(zf.mk (IntKind.wrap .i64 (v8.1 - 1)) ([]:List qi) ([]:List qj) 0)]).length) (ds:=[(.int .i64 (IntKind.wrap .i64 (v8.1 - 1))),(.sl 2 (List.map z4 ([]:List qi))),(.sl 2 (List.map zW ([]:List qj))),(.int .i64 0)]) (ns:=[]) rfl eZ (bR rfl) rfl bZ rfl (VOs.cons (VO.flat rfl) (VOs.cons VO.zs (VOs.cons VO.zs (VOs.cons (VO.flat rfl) VOs.nil)))) rfl rfl rfl rfl h10 (by decide) (erL.cons (v':=(.one (.sl 2816 0 1))) rfl (erL.cons (v':=(.agg [(dI (IntKind.wrap .i64 (v8.1 - 1))),.zs,.zs,(dI 0)])) rfl (erL.cons (v':=(oI (IntKind.wrap .i64 (v8.1 - 1)))) rfl (erL.cons (v':=(oI v8.1)) rfl (erL.cons (v':=(.one (.ptr (.nm 0 0 0)))) rfl (erL.cons (v':=(.one (.sl 321472 0 t3.1.length))) rfl (erL.cons (v':=(oB (decide (v5.1=0)))) rfl (erL.cons (v':=(oB (decide (v5.1=0)))) rfl (erL.cons (v':=(oI v5.1)) rfl (erL.cons (v':=(.one (.ptr (.nm 0 0 0)))) rfl (erL.cons (v':=(.one (.ptr (.nm 0 0 0)))) rfl (erL.cons (v':=(.one (.sl 321472 0 t3.1.length))) rfl erL.nil)))))))))))) (erH.cons (v':=(.vars 4 [(dI (IntKind.wrap .i64 (v8.1 - 1))),.zs,.zs,(dI 0)])) rfl rfl (erH.cons (v':=(.vars 3 [(.d (.pin pv)),(dI v8.2.1),(dI v8.2.2)])) rfl rfl (erH.cons (v':=(.vars 3 [(.d (.pin pv)),(dI v5.2.1),(dI v5.2.2)])) rfl rfl (erH.cons (v':=(.data 4 (List.map zg t3.1) true none)) rfl rfl (erH.cons (v':=(.vars 3 [(.d (.pin pv)),(dI t3.2.1),(dI t3.2.2)])) rfl rfl erH.nil))))) (erL.cons (v':=(.one (.d (.both pv (.sl 1 (List.map zN cb1)))))) rfl (erL.cons (v':=(.one (.ptr (.nm 0 0 0)))) rfl erL.nil)) (erL.cons (v':=(.one (.sl 2816 0 1))) rfl (erL.cons (v':=(.agg [(dI (IntKind.wrap .i64 (v8.1 - 1))),.zs,.zs,(dI 0)])) rfl (erL.cons (v':=(oI (IntKind.wrap .i64 (v8.1 - 1)))) rfl (erL.cons (v':=(oI v8.1)) rfl (erL.cons (v':=(.one (.ptr (.nm 0 0 0)))) rfl (erL.cons (v':=(.one .any)) rfl (erL.cons (v':=(oB (decide (v5.1=0)))) rfl (erL.cons (v':=(oB (decide (v5.1=0)))) rfl (erL.cons (v':=(oI v5.1)) rfl (erL.cons (v':=(.one (.ptr (.nm 0 0 0)))) rfl (erL.cons (v':=(.one (.ptr (.nm 0 0 0)))) rfl (erL.cons (v':=(.one .any)) rfl erL.nil)))))))))))) (erH.cons (v':=(.vars 4 [(dI (IntKind.wrap .i64 (v8.1 - 1))),.zs,.zs,(dI 0)])) rfl rfl (erH.cons (v':=(.vars 3 [(.d (.pin pv)),(dI v8.2.1),(dI v8.2.2)])) rfl rfl (erH.cons (v':=(.vars 3 [(.d (.pin pv)),(dI v5.2.1),(dI v5.2.2)])) rfl rfl (erH.drop rfl (erH.cons (v':=(.vars 3 [(.d (.pin pv)),(dI t3.2.1),(dI t3.2.2)])) rfl rfl erH.nil))))) (erL.cons (v':=(.one (.d (.both pv (.sl 1 (List.map zN cb1)))))) rfl (erL.cons (v':=(.one (.ptr (.nm 0 0 0)))) rfl erL.nil)) (zy (za eZ (zb (BQ.qn (TQ.qn (aV (za eZ (za eZ (xQ (AW.weaken (zk [2816] (kr 2 rfl rfl SL.nil) (blR rfl) (BK.cons (n:=321472) rfl bZ rfl rfl (BK.cons (n:=0) rfl (bR rfl) rfl rfl BK.nil)) (GK.cons rfl (GK.cons rfl GK.nil))) (AW.ret ?_)))))))))))
   cases H
   exact y7 (RL.cons (RV.tmp eZ) (qF bZ lm rfl) RL.nil) (ML.mut (eS rfl eZ) (VO.ptr (es:=[(.pin pv),(.int .i64 v8.2.1),(.int .i64 v8.2.2)]) (bR rfl) rfl rfl rfl) ML.nil) (by decide)
  ·refine zn eZ (dF h7) (aV (jZ rfl eC (za eZ (xQ ?_))))
   rcases zD H with⟨h11,H⟩|⟨h11,H⟩
   ·refine zo eZ (dT h11) (aV (za rfl (XF eZ (Yt eZ eC (xQ ?_)))))
    rcases zD H with⟨h12,H⟩|⟨h12,H⟩
    ·refine zo eZ (dT h12) (zt (zd (za rfl (zb (zd (za rfl (zb ?_)))))))
     obtain⟨v13,h14,H⟩:=zp H
     refine qQ (v0:=pv) (hg:=by exact rfl) (ON:=[0]) (ls:=[]) (G:=[]) (E:=[zR 0]) (MB:=[(0,(.vars 3 [(.d (.pin pv)),(dI v13.2.1),(dI v13.2.2)]))]) (u:=(oI v13.1)) eC Cl.fn (zL h14) (Ec eZ (Ec eC En)) (AO.mut (VO.ptr (es:=[(.pin pv),(.int .i64 v5.2.1),(.int .i64 v5.2.2)]) bZ rfl rfl rfl) (AO.lent Vp rfl AO.nil)) rfl rfl rfl (zV bZ rfl SZ.nil) (erL.cons (v':=(.one (.ptr (.nm 0 0 0)))) rfl (erL.cons (v':=(.one (.sl 321472 0 t3.1.length))) rfl (erL.cons (v':=(oB (decide (0 < ((t3.1.length:Nat):Int))))) rfl (erL.cons (v':=(oI ((t3.1.length:Nat):Int))) rfl (erL.cons (v':=(.one (.sl 321472 0 t3.1.length))) rfl (erL.cons (v':=(oB (decide (v5.1=1)))) rfl (erL.cons (v':=(oB (decide (v5.1=1)))) rfl (erL.cons (v':=(oB (decide (v5.1=0)))) rfl (erL.cons (v':=(oB (decide (v5.1=0)))) rfl (erL.cons (v':=(oI v5.1)) rfl (erL.cons (v':=(.one (.ptr (.nm 0 0 0)))) rfl (erL.cons (v':=(.one (.ptr (.nm 0 0 0)))) rfl (erL.cons (v':=(.one (.sl 321472 0 t3.1.length))) rfl erL.nil))))))))))))) (erH.cons (v':=(.vars 3 [(.d (.pin pv)),(dI v5.2.1),(dI v5.2.2)])) rfl rfl (erH.cons (v':=(.data 4 (List.map zg t3.1) true none)) rfl rfl (erH.cons (v':=(.vars 3 [(.d (.pin pv)),(dI t3.2.1),(dI t3.2.2)])) rfl rfl erH.nil))) (erL.cons (v':=(.one (.d (.both pv (.sl 1 (List.map zN cb1)))))) rfl (erL.cons (v':=(.one (.ptr (.nm 0 0 0)))) rfl erL.nil)) rfl rfl (zy ?_)
     obtain⟨v15,h16,H⟩:=zp H
     refine kL rfl eC (bR rfl) rfl h16 (zl (m:=3) eZ rfl (Jl (t:=v15) (t':=(zf.mk v15.Group v15.Reads v15.Writes v13.1)) (es:=[(.int .i64 v13.1)]) eZ rfl rfl rfl (bR rfl) (ji h16) rfl rfl (zb (BQ.qn (TQ.qn (AW.weaken (zk [] (kr 3 rfl rfl SL.nil) (blR rfl) (BK.cons (n:=321472) rfl bZ rfl rfl (BK.cons (n:=0) rfl (bR rfl) rfl rfl BK.nil)) (GK.cons rfl (GK.cons rfl GK.nil))) (aV (za eZ (za eZ (xQ (AW.ret ?_)))))))))))
     cases H
     exact y7 (RL.cons (RV.tmp eZ) (qF bZ (by first|(simp;done)|(simp;omega)|omega|(simp only[List.length_map];omega)) rfl) RL.nil) (ML.mut (eS rfl eZ) (VO.ptr (es:=[(.pin pv),(.int .i64 v13.2.1),(.int .i64 v13.2.2)]) (bR rfl) rfl rfl rfl) ML.nil) (by decide)
    ·refine zn eZ (dF h12) (AW.skip (BQ.qn (TQ.qn (aV (za rfl (za eZ (xQ (AW.ret ?_))))))))
     cases H
     exact y7 (RL.cons (RV.tmp eZ) (qF (bR rfl) lm rfl) RL.nil) (ML.mut (eS rfl eZ) (VO.ptr (es:=[(.pin pv),(.int .i64 v5.2.1),(.int .i64 v5.2.2)]) bZ rfl rfl rfl) ML.nil) (by decide)
   ·refine zn eZ (dF h11) (AW.skip (BQ.qn (TQ.qn (aV (za rfl (za eZ (xQ (AW.ret ?_))))))))
    cases H
    exact y7 (RL.cons (RV.tmp eZ) (qF (bR rfl) lm rfl) RL.nil) (ML.mut (eS rfl eZ) (VO.ptr (es:=[(.pin pv),(.int .i64 v5.2.1),(.int .i64 v5.2.2)]) bZ rfl rfl rfl) ML.nil) (by decide)
 ·refine aV (za eC (xQ (AW.block (AW.iter (fun s17:((List zf)×Int×Int×Int)=>mk [(0,(.one (.ptr (.nm 0 0 0)))),(3,(.one (.sl 321984 0 s17.1.length))),(4,(oI s17.2.1))] [(321984,(.data 4 (List.map zg s17.1) true none)),(0,(.vars 3 [(.d (.pin pv)),(dI s17.2.2.1),(dI s17.2.2.2)]))] (lk [(63,(.one (.d (.both pv (.sl 1 (List.map zN cb1)))))),(0,(.one (.ptr (.nm 0 0 0))))])) H ((zk [] (kR rfl rfl (SL.cons eZ rfl (VWk.one (CWk.len (by first|(simp;done)|(simp;omega)|omega|(simp only[List.length_map];omega)))) (sR rfl rfl))) (blR rfl) (bkR rfl rfl rfl) (GK.cons rfl (GK.cons rfl GK.nil))).trans (zab 321984 4 3 true rfl (nR rfl))) ?_))))
  intro kb18 s17 H
  unfold yN at H
  refine aS (aV (za rfl (ZD eZ eC (xQ ?_))))
  rcases zD H with⟨h19,H⟩|⟨h19,H⟩
  ·refine zo eZ (dT h19) (AW.skip (TQ.qn (zM (fun t20:((List zf)×Int×Int)=>(je kb18 s17) t20=some r) (fun t20=>mk [(0,(.one (.ptr (.nm 0 0 0)))),(3,(.one (.sl 322688 0 t20.1.length))),(4,(oI s17.2.1))] [(322688,(.data 4 (List.map zg t20.1) true none)),(0,(.vars 3 [(.d (.pin pv)),(dI t20.2.1),(dI t20.2.2)]))] (lk [(63,(.one (.d (.both pv (.sl 1 (List.map zN cb1)))))),(0,(.one (.ptr (.nm 0 0 0))))])) ?_ ?_)))
   ·intro t20 H
    unfold je at H
    exact aR (za rfl (qf eZ eC (za eZ (zb (TQ.qn ⟨(t20.1,(IntKind.wrap .i64 (s17.2.1+1)),t20.2.1,t20.2.2),H,((zk [] (sR rfl rfl) (blR rfl) (bkR rfl rfl rfl) (GK.cons rfl (GK.cons rfl GK.nil))).trans (z3 322688 321984 rfl rfl (nR rfl) (GR.cons rfl (GR.cons rfl GR.nil))))⟩)))))
   ·refine AW.block (aS (aS (zt (zd (za rfl (zb ?_))))))
    obtain⟨v22,h23,H⟩:=zp H
    refine qQ (v0:=pv) (hg:=by exact rfl) (ON:=[0]) (ls:=[]) (G:=[]) (E:=[zR 0]) (MB:=[(0,(.vars 3 [(.d (.pin pv)),(dI v22.2.1),(dI v22.2.2)]))]) (u:=(oB v22.1)) eC Cl.fn (yl h23) (Ec eZ (Ec eC En)) (AO.mut (VO.ptr (es:=[(.pin pv),(.int .i64 s17.2.2.1),(.int .i64 s17.2.2.2)]) (bR rfl) rfl rfl rfl) (AO.lent Vp rfl AO.nil)) rfl rfl rfl (zV (bR rfl) rfl SZ.nil) (erL.cons (v':=(.one (.ptr (.nm 0 0 0)))) rfl (erL.cons (v':=(oB (decide (s17.2.1 < 4)))) rfl (erL.cons (v':=(oI s17.2.1)) rfl (erL.cons (v':=(.one (.ptr (.nm 0 0 0)))) rfl (erL.cons (v':=(.one (.sl 321984 0 s17.1.length))) rfl (erL.cons (v':=(oI s17.2.1)) rfl erL.nil)))))) (erH.cons (v':=(.data 4 (List.map zg s17.1) true none)) rfl rfl (erH.cons (v':=(.vars 3 [(.d (.pin pv)),(dI s17.2.2.1),(dI s17.2.2.2)])) rfl rfl erH.nil)) (erL.cons (v':=(.one (.d (.both pv (.sl 1 (List.map zN cb1)))))) rfl (erL.cons (v':=(.one (.ptr (.nm 0 0 0)))) rfl erL.nil)) rfl rfl (zy (xQ ?_))
    rcases zD H with⟨h24,H⟩|⟨h24,H⟩
    ·exact zo eZ h24 (AW.exit (TQ.qe (BQ.qe (TQ.qn ⟨(s17.1,v22.2.1,v22.2.2),H,((zk [] (sR rfl rfl) (blR rfl) (bkR rfl rfl rfl) (GK.cons rfl (GK.cons rfl GK.nil))).trans (z3 321984 322688 rfl rfl (nR rfl) (GR.cons rfl (GR.cons rfl GR.nil))))⟩))))
    ·refine zn eZ (nt h24) (AW.skip (TQ.qn (aS (zt (zd (za rfl (zb (zd (za rfl (zb ?_))))))))))
     obtain⟨v25,h26,H⟩:=zp H
     refine KL (v0:=pv) (hg:=by exact rfl) (ON:=[0]) (ls:=[]) (G:=[]) (E:=[zR 0]) (MB:=[(0,(.vars 3 [(.d (.pin pv)),(dI v25.2.1),(dI v25.2.2)]))]) (u:=(.one (.sl 1024 0 v25.1.length))) (bs:=[(1024,(.data 2 (List.map zW v25.1) true none))]) eC Cl.fn (x8 h26) (Ec eZ En) (AO.mut (VO.ptr (es:=[(.pin pv),(.int .i64 v22.2.1),(.int .i64 v22.2.2)]) bZ rfl rfl rfl) AO.nil) rfl rfl rfl (zV bZ rfl SZ.nil) (erL.cons (v':=(.one (.ptr (.nm 0 0 0)))) rfl (erL.cons (v':=(oI s17.2.1)) rfl (erL.cons (v':=(oB v22.1)) rfl (erL.cons (v':=(.one (.ptr (.nm 0 0 0)))) rfl (erL.cons (v':=(oB (decide (s17.2.1 < 4)))) rfl (erL.cons (v':=(oI s17.2.1)) rfl (erL.cons (v':=(.one (.ptr (.nm 0 0 0)))) rfl (erL.cons (v':=(.one (.sl 321984 0 s17.1.length))) rfl (erL.cons (v':=(oI s17.2.1)) rfl erL.nil))))))))) (erH.cons (v':=(.vars 3 [(.d (.pin pv)),(dI v22.2.1),(dI v22.2.2)])) rfl rfl (erH.cons (v':=(.data 4 (List.map zg s17.1) true none)) rfl rfl (erH.cons (v':=(.vars 3 [(.d (.pin pv)),(dI s17.2.2.1),(dI s17.2.2.2)])) rfl rfl erH.nil))) (erL.cons (v':=(.one (.d (.both pv (.sl 1 (List.map zN cb1)))))) rfl (erL.cons (v':=(.one (.ptr (.nm 0 0 0)))) rfl erL.nil)) (by simp[jg,jK,qB,jq,qI]) rfl (fC (nR rfl) rfl (fC (nR rfl) rfl fN)) (zd (Zo (cs:=[(dI s17.2.1),.zs,(.sl 1024 0 v25.1.length),(dI 0)]) (qp rfl (qp eZ jV)) rfl (zb (zd (ZG (n:=320) (m:=4) rfl rfl (nR rfl) (zb (zd (zv (es:=[(dI s17.2.1),.zs,(.sl 1024 0 v25.1.length),(dI 0)]) eZ rfl rfl rfl bZ rfl (zb (zy (xQ (zM (fun t27:(Int×Int×(List qi))=>(yL s17 v25 (je kb18 s17)) t27=some r) (fun t27=>mk [(0,(.one (.ptr (.nm 0 0 0)))),(3,(.one (.sl 321984 0 s17.1.length))),(4,(oI s17.2.1)),(5,(.one (.ptr (.nm 320 0 0))))] [(0,(.vars 3 [(.d (.pin pv)),(dI t27.1),(dI t27.2.1)])),(322816,(.data 2 (List.map z4 t27.2.2) true none)),(320,(.vars 4 [(dI s17.2.1),(.sl 322816 0 t27.2.2.length),(.sl 1024 0 v25.1.length),(dI 0)])),(1024,(.data 2 (List.map zW v25.1) true none)),(321984,(.data 4 (List.map zg s17.1) true none))] (lk [(63,(.one (.d (.both pv (.sl 1 (List.map zN cb1)))))),(0,(.one (.ptr (.nm 0 0 0))))])) ?_ ?_))))))))))))
     ·intro t27 H
      unfold yL at H
      refine zt (zd (za rfl (zb (zd (zw (es:=[(dI s17.2.1),(.sl 322816 0 t27.2.2.length),(.sl 1024 0 v25.1.length),(dI 0)]) rfl (bR rfl) rfl (zb (zd (yO (m:=2112) (q:=1) (cs:=[(dI s17.2.1),(.sl 322816 0 t27.2.2.length),(.sl 1024 0 v25.1.length),(dI 0)]) rfl (qp eZ jV) rfl (List.cons_ne_nil _ _) (by simp) (nR rfl) (zb ?_)))))))))
      obtain⟨h29,H⟩:=yx H
      exact Yr (f:=zg) (xs:=s17.1) (t:=(zf.mk s17.2.1 t27.2.2 v25.1 0)) (q:=(s17.1++[(zf.mk s17.2.1 t27.2.2 v25.1 0)]).length) (ds:=[(.int .i64 s17.2.1),(.sl 2 (List.map z4 t27.2.2)),(.sl 2 (List.map zW v25.1)),(.int .i64 0)]) (ns:=[322816,1024]) rfl eZ (bR rfl) rfl bZ rfl (VOs.cons (VO.flat rfl) (VOs.cons (VO.sl (bR rfl) lm (z6 fun _=>rfl)) (VOs.cons (VO.sl (bR rfl) lm (z6 fun _=>rfl)) (VOs.cons (VO.flat rfl) VOs.nil)))) rfl rfl rfl rfl h29 (by decide) (erL.cons (v':=(.one (.sl 2112 0 1))) rfl (erL.cons (v':=(.agg [(dI s17.2.1),.any,.any,(dI 0)])) rfl (erL.cons (v':=(.one (.sl 321984 0 s17.1.length))) rfl (erL.cons (v':=(.one (.ptr (.nm 0 0 0)))) rfl (erL.cons (v':=(.one (.sl 321984 0 s17.1.length))) rfl (erL.cons (v':=(oI s17.2.1)) rfl (erL.cons (v':=(.one (.ptr (.nm 320 0 0)))) rfl erL.nil))))))) (erH.cons (v':=(.vars 4 [(dI s17.2.1),.any,.any,(dI 0)])) rfl rfl (erH.cons (v':=(.vars 3 [(.d (.pin pv)),(dI t27.1),(dI t27.2.1)])) rfl rfl (erH.drop rfl (erH.cons (v':=(.vars 4 [(dI s17.2.1),.any,.any,(dI 0)])) rfl rfl (erH.drop rfl (erH.cons (v':=(.data 4 (List.map zg s17.1) true none)) rfl rfl erH.nil)))))) (erL.cons (v':=(.one (.d (.both pv (.sl 1 (List.map zN cb1)))))) rfl (erL.cons (v':=(.one (.ptr (.nm 0 0 0)))) rfl erL.nil)) (erL.cons (v':=(.one (.sl 2112 0 1))) rfl (erL.cons (v':=(.agg [(dI s17.2.1),.any,.any,(dI 0)])) rfl (erL.cons (v':=(.one .any)) rfl (erL.cons (v':=(.one (.ptr (.nm 0 0 0)))) rfl (erL.cons (v':=(.one .any)) rfl (erL.cons (v':=(oI s17.2.1)) rfl (erL.cons (v':=(.one (.ptr (.nm 320 0 0)))) rfl erL.nil))))))) (erH.cons (v':=(.vars 4 [(dI s17.2.1),.any,.any,(dI 0)])) rfl rfl (erH.cons (v':=(.vars 3 [(.d (.pin pv)),(dI t27.1),(dI t27.2.1)])) rfl rfl (erH.cons (v':=(.vars 4 [(dI s17.2.1),.any,.any,(dI 0)])) rfl rfl (erH.drop rfl erH.nil)))) (erL.cons (v':=(.one (.d (.both pv (.sl 1 (List.map zN cb1)))))) rfl (erL.cons (v':=(.one (.ptr (.nm 0 0 0)))) rfl erL.nil)) (zy (za eZ (zb (BQ.qn (TQ.qn ⟨((s17.1++[(zf.mk s17.2.1 t27.2.2 v25.1 0)]),t27.1,t27.2.1),H,((zk [2112,320] (sR rfl rfl) (blR rfl) (bkR rfl rfl rfl) (GK.cons rfl (GK.cons rfl GK.nil))).trans (z3 321984 322688 rfl rfl (nR rfl) (GR.cons rfl (GR.cons rfl GR.nil))))⟩)))))
     ·refine aV (za eC (xQ (AW.block (AW.iter (fun s30:(Int×Int×Int×(List qi))=>mk [(0,(.one (.ptr (.nm 0 0 0)))),(3,(.one (.sl 321984 0 s17.1.length))),(4,(oI s17.2.1)),(5,(.one (.ptr (.nm 320 0 0)))),(6,(oI s30.1))] [(0,(.vars 3 [(.d (.pin pv)),(dI s30.2.1),(dI s30.2.2.1)])),(322880,(.data 2 (List.map z4 s30.2.2.2) true none)),(320,(.vars 4 [(dI s17.2.1),(.sl 322880 0 s30.2.2.2.length),(.sl 1024 0 v25.1.length),(dI 0)])),(1024,(.data 2 (List.map zW v25.1) true none)),(321984,(.data 4 (List.map zg s17.1) true none))] (lk [(63,(.one (.d (.both pv (.sl 1 (List.map zN cb1)))))),(0,(.one (.ptr (.nm 0 0 0))))])) H ((zk [] (sR rfl rfl) (blR rfl) (BK.cons rfl (bR rfl) rfl rfl (BK.cons rfl (bR rfl) rfl rfl (BK.cons rfl bZ rfl (by first|rfl|simp) (bkR rfl rfl rfl)))) (GK.cons rfl (GK.cons rfl GK.nil))).trans (kW 322880 2 320 1 true bZ rfl (nR rfl))) ?_))))
      intro kb31 s30 H
      unfold Qb at H
      refine aS (aS (zt (zd (za rfl (zb (zd (za rfl (zb ?_))))))))
      obtain⟨v32,h33,H⟩:=zp H
      refine qQ (v0:=pv) (hg:=by exact rfl) (ON:=[0]) (ls:=[]) (G:=[]) (E:=[zR 0]) (MB:=[(0,(.vars 3 [(.d (.pin pv)),(dI v32.2.1),(dI v32.2.2)]))]) (u:=(oI v32.1)) eC Cl.fn (zL h33) (Ec eZ (Ec eC En)) (AO.mut (VO.ptr (es:=[(.pin pv),(.int .i64 s30.2.1),(.int .i64 s30.2.2.1)]) bZ rfl rfl rfl) (AO.lent Vp rfl AO.nil)) rfl rfl rfl (zV bZ rfl SZ.nil) (erL.cons (v':=(.one (.ptr (.nm 0 0 0)))) rfl (erL.cons (v':=(oI s30.1)) rfl (erL.cons (v':=(.one (.ptr (.nm 0 0 0)))) rfl (erL.cons (v':=(.one (.sl 321984 0 s17.1.length))) rfl (erL.cons (v':=(oI s17.2.1)) rfl (erL.cons (v':=(.one (.ptr (.nm 320 0 0)))) rfl (erL.cons (v':=(oI s30.1)) rfl erL.nil))))))) (erH.cons (v':=(.vars 3 [(.d (.pin pv)),(dI s30.2.1),(dI s30.2.2.1)])) rfl rfl (erH.cons (v':=(.data 2 (List.map z4 s30.2.2.2) true none)) rfl rfl (erH.cons (v':=(.vars 4 [(dI s17.2.1),(.sl 322880 0 s30.2.2.2.length),(.sl 1024 0 v25.1.length),(dI 0)])) rfl rfl (erH.cons (v':=(.data 2 (List.map zW v25.1) true none)) rfl rfl (erH.cons (v':=(.data 4 (List.map zg s17.1) true none)) rfl rfl erH.nil))))) (erL.cons (v':=(.one (.d (.both pv (.sl 1 (List.map zN cb1)))))) rfl (erL.cons (v':=(.one (.ptr (.nm 0 0 0)))) rfl erL.nil)) rfl rfl (zy (ZD rfl eZ (xQ ?_)))
      rcases zD H with⟨h34,H⟩|⟨h34,H⟩
      ·refine zo eZ (dT h34) (AW.skip (TQ.qn (aS (AW.block (AW.regp [320] (jY rfl (zl (m:=1) rfl rfl (zb (Z3 eZ rfl (zu (q:=1) (c:=(.sl 322880 0 s30.2.2.2.length)) eZ (bR rfl) rfl rfl (zb (jY rfl (za rfl (zb (YP ?_)))))))))))))))
       obtain⟨v35,h36,H⟩:=zp H
       refine j3 (v0:=pv) (hg:=by exact rfl) (ON:=[0]) (ls:=[]) (G:=[]) (E:=[zR 0]) (MB:=[(0,(.vars 3 [(.d (.pin pv)),(dI v35.2.1),(dI v35.2.2)]))]) (u:=(.agg [(dI v35.1.Lo),(dI v35.1.Hi)])) eC Cl.fn (Xh h36) (Ec eZ En) (AO.mut (VO.ptr (es:=[(.pin pv),(.int .i64 v32.2.1),(.int .i64 v32.2.2)]) bZ rfl rfl rfl) AO.nil) rfl rfl rfl (zV bZ rfl SZ.nil) (erL.cons (v':=(.one (.ptr (.nm 0 0 0)))) rfl (erL.cons (v':=(.one (.sl 322880 0 s30.2.2.2.length))) rfl (erL.cons (v':=(.one (.ptr (.nm 320 0 1)))) rfl (erL.cons (v':=(oB (decide (s30.1 < v32.1)))) rfl (erL.cons (v':=(oI v32.1)) rfl (erL.cons (v':=(.one (.ptr (.nm 0 0 0)))) rfl (erL.cons (v':=(oI s30.1)) rfl (erL.cons (v':=(.one (.ptr (.nm 0 0 0)))) rfl (erL.cons (v':=(.one (.sl 321984 0 s17.1.length))) rfl (erL.cons (v':=(oI s17.2.1)) rfl (erL.cons (v':=(.one (.ptr (.nm 320 0 0)))) rfl (erL.cons (v':=(oI s30.1)) rfl erL.nil)))))))))))) (erH.cons (v':=(.vars 3 [(.d (.pin pv)),(dI v32.2.1),(dI v32.2.2)])) rfl rfl (erH.cons (v':=(.vars 3 [(.d (.pin pv)),(dI s30.2.1),(dI s30.2.2.1)])) rfl rfl (erH.cons (v':=(.data 2 (List.map z4 s30.2.2.2) true none)) rfl rfl (erH.cons (v':=(.vars 4 [(dI s17.2.1),(.sl 322880 0 s30.2.2.2.length),(.sl 1024 0 v25.1.length),(dI 0)])) rfl rfl (erH.cons (v':=(.data 2 (List.map zW v25.1) true none)) rfl rfl (erH.cons (v':=(.data 4 (List.map zg s17.1) true none)) rfl rfl erH.nil)))))) (erL.cons (v':=(.one (.d (.both pv (.sl 1 (List.map zN cb1)))))) rfl (erL.cons (v':=(.one (.ptr (.nm 0 0 0)))) rfl erL.nil)) rfl rfl rfl (KS (yO (m:=1792) (q:=1) (cs:=[(dI v35.1.Lo),(dI v35.1.Hi)]) rfl (qp eZ jV) rfl (List.cons_ne_nil _ _) (by simp) (nR rfl) (zb (YT (j4 rfl ?_)))))
       obtain⟨h37,H⟩:=yx H
       exact Xq (f:=z4) (xs:=s30.2.2.2) (ys:=[v35.1]) (q:=(s30.2.2.2++([v35.1])).length) rfl eZ (bR rfl) rfl (El.one (f:=z4) (t:=v35.1) (es:=[(.int .i64 v35.1.Lo),(.int .i64 v35.1.Hi)]) bZ rfl rfl rfl) rfl h37 (by decide) (by decide) (erL.cons (v':=(.one (.sl 1792 0 1))) rfl (erL.cons (v':=(.agg [(dI v35.1.Lo),(dI v35.1.Hi)])) rfl (erL.cons (v':=(.one (.ptr (.nm 0 0 0)))) rfl (erL.cons (v':=(.one .any)) rfl (erL.cons (v':=(.one (.ptr (.nm 320 0 1)))) rfl (erL.cons (v':=(oB (decide (s30.1 < v32.1)))) rfl (erL.cons (v':=(oI v32.1)) rfl (erL.cons (v':=(.one (.ptr (.nm 0 0 0)))) rfl (erL.cons (v':=(oI s30.1)) rfl (erL.cons (v':=(.one (.ptr (.nm 0 0 0)))) rfl (erL.cons (v':=(.one (.sl 321984 0 s17.1.length))) rfl (erL.cons (v':=(oI s17.2.1)) rfl (erL.cons (v':=(.one (.ptr (.nm 320 0 0)))) rfl (erL.cons (v':=(oI s30.1)) rfl erL.nil)))))))))))))) (erH.cons (v':=(.vars 2 [(dI v35.1.Lo),(dI v35.1.Hi)])) rfl rfl (erH.cons (v':=(.vars 3 [(.d (.pin pv)),(dI v35.2.1),(dI v35.2.2)])) rfl rfl (erH.cons (v':=(.vars 3 [(.d (.pin pv)),(dI v32.2.1),(dI v32.2.2)])) rfl rfl (erH.cons (v':=(.vars 3 [(.d (.pin pv)),(dI s30.2.1),(dI s30.2.2.1)])) rfl rfl (erH.drop rfl (erH.cons (v':=(.vars 4 [(dI s17.2.1),.any,(.sl 1024 0 v25.1.length),(dI 0)])) rfl rfl (erH.cons (v':=(.data 2 (List.map zW v25.1) true none)) rfl rfl (erH.cons (v':=(.data 4 (List.map zg s17.1) true none)) rfl rfl erH.nil)))))))) (GK.cons rfl (GK.cons rfl GK.nil)) (zb (qz rfl (zl (m:=1) rfl rfl (zb (j4 rfl (zv (es:=[(dI s17.2.1),(.sl 322880 0 ((s30.2.2.2++([v35.1])).length)),(.sl 1024 0 v25.1.length),(dI 0)]) eZ rfl rfl rfl (bR rfl) rfl (zb (YO (BQ.qn (TQ.qn (AW.weaken (zk [1792] (kr 0 rfl rfl (kr 3 rfl rfl (kr 4 rfl rfl (kr 5 rfl rfl (kr 6 rfl rfl SL.nil))))) (blR rfl) (BK.cons (n:=320) rfl bZ rfl rfl (BK.cons (n:=322880) rfl (bR rfl) rfl rfl (BK.cons (n:=0) rfl (bR rfl) rfl rfl (BK.cons (n:=1024) rfl (bR rfl) rfl rfl (BK.cons (n:=321984) rfl (bR rfl) rfl rfl BK.nil))))) (GK.cons rfl (GK.cons rfl GK.nil))) (aR (za rfl (qf eZ eC (za eZ (zb (TQ.qn ⟨((IntKind.wrap .i64 (s30.1+1)),v35.2.1,v35.2.2,(s30.2.2.2++([v35.1]))),H,(zk [] (sR rfl rfl) (blR rfl) (BK.cons rfl (bR rfl) rfl rfl (BK.cons rfl (bR rfl) rfl rfl (BK.cons rfl bZ rfl (by first|rfl|simp) (bkR rfl rfl rfl)))) (GK.cons rfl (GK.cons rfl GK.nil)))⟩)))))))))))))))))
      ·exact zn eZ (dF h34) (AW.exit (TQ.qe (TQ.qe (BQ.qe (TQ.qn ⟨(v32.2.1,v32.2.2,s30.2.2.2),H,((zk [] (sR rfl rfl) (blR rfl) (BK.cons rfl bZ rfl rfl (BK.cons rfl (bR rfl) rfl rfl (BK.cons rfl (bR rfl) rfl (by first|rfl|simp) (bkR rfl rfl rfl)))) (GK.cons rfl (GK.cons rfl GK.nil))).trans (z3 322880 322816 rfl rfl (nR rfl) (GR.cons rfl (GR.cons rfl GR.nil))))⟩)))))
  ·exact zn eZ (dF h19) (AW.exit (TQ.qe (TQ.qe (BQ.qe (TQ.qn ⟨(s17.1,s17.2.2.1,s17.2.2.2),H,((zk [] (sR rfl rfl) (blR rfl) (bkR rfl rfl rfl) (GK.cons rfl (GK.cons rfl GK.nil))).trans (z3 321984 321472 rfl rfl (nR rfl) (GR.cons rfl (GR.cons rfl GR.nil))))⟩)))))
end Go.AW
