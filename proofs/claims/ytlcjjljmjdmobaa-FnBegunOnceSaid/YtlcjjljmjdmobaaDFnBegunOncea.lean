/- That functions of the program compute what the plain functions say. Conditions: each theorem's own. -/
import Derived.Test.YtlcjjljmjdmobaaMFnBegunOnce
import Derived.Test.YtlcjjljmjdmobaaGFnBegunOnce
import Derived.Test.YtlcjjljmjdmobaaYp
set_option linter.unusedVariables false
set_option linter.unusedSimpArgs false
set_option maxRecDepth 100000
namespace Go.AW
open Go.Proofs
theorem zcR{a1:(List Int)}{r:Bool}(H:YQ a1=some r):Fn Try.prog 15 (lent [(.sl 1 (List.map zM a1))]) true [(.bool r)]:=by
 refine f15 (fle rfl) ?_
 rw[zR]
 refine AW.weaken (zE [] (kv 0 (.one (.d (.sl 1 (List.map zM a1)))) rfl rfl SL.nil) BL.nil BK.nil) ?_
 unfold YQ at H
 unfold i15
 refine aV (za eC (xQ (aV (za rfl (qx eZ (n:=a1.length) lm (JT eZ eC (za eZ (xQ (AW.ret ?_)))))))))
 cases H
 exact eE rfl rfl
theorem zba{pv:Value}{cb1:(List Int)}{r:(Int×Int)}(H:Q0 cb1=some r):FnC Try.prog pv (.sl 1 (List.map zM cb1)) 56 [⟨(.pin pv),.b⟩] [(.ptr [(.pin pv),(.int .i64 r.1),(.int .i64 r.2)])]:=by
 refine n56 (fle rfl) (fle rfl) trivial rfl ?_
 rw[Zr]
 refine AW.weaken (t:=mk [(0,(.one (.d (.pin pv))))] [] (lk [(63,(.one (.d (.both pv (.sl 1 (List.map zM cb1))))))])) (zg (gl:=[(63,(.one (.d (.both pv (.sl 1 (List.map zM cb1))))))]) [] (kv 0 (.one (.d (.pin pv))) rfl rfl SL.nil) BL.nil BK.nil (GK.cons rfl GK.nil)) ?_
 unfold Q0 at H
 unfold i56
 refine AW.weaken (zcZ 0 (by exact rfl) (by exact rfl)) (aV (za eC (xQ (aV (za rfl (zcW eZ (n:=cb1.length) lm (qf eC eZ (za eZ (xQ (zQ (fun t2:Int=>JG t2=some r) (fun t2=>mk [(0,(.one (.d (.both pv (.sl 1 (List.map zM cb1)))))),(3,(oI t2))] [] (lk [(63,(.one (.d (.both pv (.sl 1 (List.map zM cb1))))))])) ?_ ?_))))))))))
 ·intro t2 H
  unfold JG at H
  refine aV (za eZ (za rfl (Z6 (cs:=[(.d (.both pv (.sl 1 (List.map zM cb1)))),(dI 0),(dI t2)]) (qk rfl (qk eZ j0)) rfl (Jh (n:=1984) (m:=3) (cs:=[(.d (.both pv (.sl 1 (List.map zM cb1)))),(dI 0),(dI t2)]) rfl eZ rfl rfl nZ (za eZ (xQ (AW.weaken (zad (by exact rfl) bZ) (AW.ret ?_))))))))
  cases H
  exact j6 (RL.cons (RV.tmp eZ) (VO.ptr (es:=[(.pin pv),(.int .i64 0),(.int .i64 t2)]) bZ rfl rfl rfl) RL.nil) (ML.lent ML.nil) (by decide)
 ·refine aV (za eC (xQ (AW.block (AW.iter (fun s4:(Int×Int)=>mk [(0,(.one (.d (.both pv (.sl 1 (List.map zM cb1)))))),(3,(oI s4.1)),(4,(oI s4.2))] [] (lk [(63,(.one (.d (.both pv (.sl 1 (List.map zM cb1))))))])) H (zg [] (sR rfl rfl) BL.nil BK.nil (GK.cons rfl GK.nil)) ?_))))
  intro kb5 s4 H
  unfold JE at H
  refine aS (aV (za rfl (za rfl (zcW eZ (n:=cb1.length) lm (Z0 rfl eZ (za eZ ?_))))))
  rcases zF H with⟨h6,H⟩|⟨h6,H⟩
  ·refine gDo eZ (dT h6) (za rfl (gDo rfl (dT h6) (Z0 eZ eC (zK rfl (dT h6) eZ (xQ ?_)))))
   rcases zF H with⟨h7,H⟩|⟨h7,H⟩
   ·refine zk eZ (dT h7) (AW.skip (TQ.qn (aS (AW.block (aR (za rfl (zdO eZ eC (za rfl (za rfl ?_)))))))))
    obtain⟨v8,h9,H⟩:=zo H
    exact zj4 rfl eZ h9 (qY (e:=(.int .u8 v8)) eZ rfl (zfK eZ (qf rfl eZ (qf eZ eC (zhn eZ eC (za eZ (zb (BQ.qn (TQ.qn (AW.weaken (zg [] (kr 3 rfl rfl (kr 0 rfl rfl (kr 4 rfl rfl SL.nil))) BL.nil BK.nil (GK.cons rfl GK.nil)) (aR (za rfl (qf eZ eC (za eZ (zb (TQ.qn ⟨((IntKind.wrap .i64 (BitVec.ofInt (IntKind.bits .i64) (IntKind.wrap .i64 ((IntKind.wrap .i64 ((IntKind.wrap .i64 (s4.1 * 131))+(IntKind.wrap .i64 v8)))+7))&&& BitVec.ofInt (IntKind.bits .i64) 1073741823).toNat),(IntKind.wrap .i64 (s4.2+1))),H,(zg [] (sR rfl rfl) BL.nil BK.nil (GK.cons rfl GK.nil))⟩))))))))))))))))
   ·exact zj eZ (dF h7) (AW.exit (TQ.qe (TQ.qe (BQ.qe (TQ.qn ⟨s4.1,H,(zg [] (sR rfl rfl) BL.nil BK.nil (GK.cons rfl GK.nil))⟩)))))
  ·exact zd eZ (dF h6) rfl (zd rfl (dF h6) rfl (zP rfl (dF h6) eC (xQ (zj eZ rfl (AW.exit (TQ.qe (TQ.qe (BQ.qe (TQ.qn ⟨s4.1,H,(zg [] (sR rfl rfl) BL.nil BK.nil (GK.cons rfl GK.nil))⟩)))))))))
theorem zaf{pv:Value}{cb1:(List Int)}{a2:Int}{r:Int}(H:QA cb1 a2=some r):FnC Try.prog pv (.sl 1 (List.map zM cb1)) 58 [⟨(.pin pv),.b⟩,⟨(.int .i64 a2),.b⟩] [(.int .i64 r)]:=by
 refine n58 (fle rfl) (fle rfl) trivial rfl ?_
 rw[Zr]
 refine AW.weaken (t:=mk [(0,(.one (.d (.pin pv)))),(1,(oI a2))] [] (lk [(63,(.one (.d (.both pv (.sl 1 (List.map zM cb1))))))])) (zg (gl:=[(63,(.one (.d (.both pv (.sl 1 (List.map zM cb1))))))]) [] (kv 0 (.one (.d (.pin pv))) rfl rfl (kv 1 (oI a2) rfl rfl SL.nil)) BL.nil BK.nil (GK.cons rfl GK.nil)) ?_
 unfold QA at H
 unfold i58
 refine AW.weaken (zcZ 0 (by exact rfl) (by exact rfl)) (aV (za eC (xQ (aV (za rfl (zcW eZ (n:=cb1.length) lm (zn7 eZ eC (by decide) (qf eC eZ (za eZ (xQ (aS (aV (za eZ (za rfl (JT rfl eZ (xQ ?_))))))))))))))))
 rcases zF H with⟨h3,H⟩|⟨h3,H⟩
 ·refine zk eZ (dT h3) (aV (za rfl (za eZ (xQ (AW.ret (TQ.qr ?_))))))
  cases H
  exact j6 (RL.cons (RV.tmp eZ) (VO.flat rfl) RL.nil) (ML.lent (ML.lent ML.nil)) (by decide)
 ·refine zj eZ (dF h3) (AW.skip (TQ.qn (aV (za rfl (za eZ (xQ (AW.ret ?_)))))))
  cases H
  exact j6 (RL.cons (RV.tmp eZ) (VO.flat rfl) RL.nil) (ML.lent (ML.lent ML.nil)) (by decide)
theorem Qy{pv:Value}{cb1:(List Int)}{a2:(Int×Int)}{r:(Int×(Int×Int))}(H:jX cb1 a2=some r):FnC Try.prog pv (.sl 1 (List.map zM cb1)) 147 [⟨(.ptr [(.pin pv),(.int .i64 a2.1),(.int .i64 a2.2)]),.m (.ptr [(.pin pv),(.int .i64 r.2.1),(.int .i64 r.2.2)])⟩] [(.int .i64 r.1)]:=by
 refine zoO (fle rfl) (fle rfl) (fC nZ rfl fN) rfl ?_
 rw[Zr]
 refine AW.weaken (t:=mk [(0,(.one (.ptr (.nm 0 0 0))))] [(0,(.vars 3 [(.d (.pin pv)),(dI a2.1),(dI a2.2)]))] (lk [(63,(.one (.d (.both pv (.sl 1 (List.map zM cb1)))))),(0,(.one (.ptr (.nm 0 0 0))))])) (zg (gl:=[(63,(.one (.d (.both pv (.sl 1 (List.map zM cb1)))))),(0,(.one (.ptr (.nm 0 0 0))))]) [] (kv 0 (.one (.ptr (.nm 0 0 0))) rfl rfl SL.nil) (blR rfl) (BK.cons (n:=0) rfl bZ rfl rfl BK.nil) (GK.cons rfl (GK.cons rfl GK.nil))) ?_
 unfold jX at H
 unfold zhg
 refine AW.weaken (zdS (by exact rfl) bZ) (aV (za eC (xQ (aV (za rfl (za rfl (JC eZ (zi (m:=2) eZ rfl (zr (q:=2) (c:=(dI a2.2)) eZ bZ rfl rfl (zdO eZ eC (qf eZ eC (JC rfl (zi (m:=2) eZ rfl (zw (es:=[(.d (.both pv (.sl 1 (List.map zM cb1)))),(dI a2.1),(dI (IntKind.wrap .i64 ((IntKind.wrap .i64 (a2.2 * 6364136223846793005))+1442695040888963407)))]) eZ rfl rfl rfl bZ rfl (xQ (aS (AW.regd (za rfl (JC eZ (zi (m:=2) eZ rfl (zr (q:=2) (c:=(dI (IntKind.wrap .i64 ((IntKind.wrap .i64 (a2.2 * 6364136223846793005))+1442695040888963407)))) eZ bZ rfl rfl (zkt eZ eC (by decide) (za rfl (JC eZ (zi (m:=2) eZ rfl (zr (q:=2) (c:=(dI (IntKind.wrap .i64 ((IntKind.wrap .i64 (a2.2 * 6364136223846793005))+1442695040888963407)))) eZ bZ rfl rfl (zkt eZ eC (by decide) (zol rfl eZ (zhn eZ eC (za eZ (xQ (AW.weaken (zg [] (kr 3 rfl rfl (kr 0 rfl rfl SL.nil)) (blR rfl) (BK.cons (n:=0) rfl bZ rfl rfl BK.nil) (GK.cons rfl (GK.cons rfl GK.nil))) (aS (aS ?_))))))))))))))))))))))))))))))))))
 refine AW.regd (za rfl (JC eZ (zi (m:=1) eZ rfl (zr (q:=1) (c:=(dI a2.1)) eZ bZ rfl rfl (za rfl (JC eZ (zi (m:=0) eZ rfl (zr (q:=0) (c:=(.d (.both pv (.sl 1 (List.map zM cb1))))) eZ bZ rfl rfl (zcW eZ (n:=cb1.length) lm (Z0 rfl eZ (xQ ?_)))))))))))
 rcases zF H with⟨h3,H⟩|⟨h3,H⟩
 ·refine zk eZ (dT h3) (aS (AW.regd (za rfl (za rfl (JC eZ (zi (m:=0) eZ rfl (zr (q:=0) (c:=(.d (.both pv (.sl 1 (List.map zM cb1))))) eZ bZ rfl rfl (za rfl (JC eZ (zi (m:=1) eZ rfl (zr (q:=1) (c:=(dI a2.1)) eZ bZ rfl rfl ?_)))))))))))
  obtain⟨v4,h5,H⟩:=zo H
  refine zj4 rfl eZ h5 (qY (e:=(.int .u8 v4)) eZ rfl (zfK eZ (qf rfl eZ (zhn eZ eC (za eZ (xQ (AW.weaken (zg [] (kr 3 rfl rfl (kr 0 rfl rfl SL.nil)) (blR rfl) (BK.cons (n:=0) rfl bZ rfl rfl BK.nil) (GK.cons rfl (GK.cons rfl GK.nil))) (aR (za rfl (za rfl (JC eZ (zi (m:=1) eZ rfl (zr (q:=1) (c:=(dI a2.1)) eZ bZ rfl rfl (qf eZ eC (JC rfl (zi (m:=1) eZ rfl (zw (es:=[(.d (.both pv (.sl 1 (List.map zM cb1)))),(dI (IntKind.wrap .i64 (a2.1+1))),(dI (IntKind.wrap .i64 ((IntKind.wrap .i64 (a2.2 * 6364136223846793005))+1442695040888963407)))]) eZ rfl rfl rfl bZ rfl (xQ (aV (za rfl (za eZ (xQ (AW.weaken (zad (by exact rfl) bZ) (AW.ret ?_))))))))))))))))))))))))
  cases H
  exact j6 (RL.cons (RV.tmp eZ) (VO.flat rfl) RL.nil) (ML.mut (eS rfl eZ) (VO.ptr (es:=[(.pin pv),(.int .i64 (IntKind.wrap .i64 (a2.1+1))),(.int .i64 (IntKind.wrap .i64 ((IntKind.wrap .i64 (a2.2 * 6364136223846793005))+1442695040888963407)))]) bZ rfl rfl rfl) ML.nil) (by decide)
 ·refine zj eZ (dF h3) (AW.skip (TQ.qn (aV (za rfl (za eZ (xQ (AW.weaken (zad (by exact rfl) bZ) (AW.ret ?_))))))))
  cases H
  exact j6 (RL.cons (RV.tmp eZ) (VO.flat rfl) RL.nil) (ML.mut (eS rfl eZ) (VO.ptr (es:=[(.pin pv),(.int .i64 a2.1),(.int .i64 (IntKind.wrap .i64 ((IntKind.wrap .i64 (a2.2 * 6364136223846793005))+1442695040888963407)))]) bZ rfl rfl rfl) ML.nil) (by decide)
theorem zH{pv:Value}{cb1:(List Int)}{a2:(Int×Int)}{a3:Int}{r:(Int×(Int×Int))}(H:zv cb1 a2 a3=some r):FnC Try.prog pv (.sl 1 (List.map zM cb1)) 110 [⟨(.ptr [(.pin pv),(.int .i64 a2.1),(.int .i64 a2.2)]),.m (.ptr [(.pin pv),(.int .i64 r.2.1),(.int .i64 r.2.2)])⟩,⟨(.int .i64 a3),.b⟩] [(.int .i64 r.1)]:=by
 refine zog (fle rfl) (fle rfl) (fC nZ rfl fN) rfl ?_
 rw[Zr]
 refine AW.weaken (t:=mk [(0,(.one (.ptr (.nm 0 0 0)))),(1,(oI a3))] [(0,(.vars 3 [(.d (.pin pv)),(dI a2.1),(dI a2.2)]))] (lk [(63,(.one (.d (.both pv (.sl 1 (List.map zM cb1)))))),(0,(.one (.ptr (.nm 0 0 0))))])) (zg (gl:=[(63,(.one (.d (.both pv (.sl 1 (List.map zM cb1)))))),(0,(.one (.ptr (.nm 0 0 0))))]) [] (kv 0 (.one (.ptr (.nm 0 0 0))) rfl rfl (kv 1 (oI a3) rfl rfl SL.nil)) (blR rfl) (BK.cons (n:=0) rfl bZ rfl rfl BK.nil) (GK.cons rfl (GK.cons rfl GK.nil))) ?_
 unfold zv at H
 unfold zf6
 refine aV (za eC (xQ (aS (aV (za rfl (za7 eZ eC (xQ ?_)))))))
 rcases zF H with⟨h4,H⟩|⟨h4,H⟩
 ·refine zk eZ (dT h4) (aV (za eC (xQ (AW.ret (TQ.qr ?_)))))
  cases H
  exact j6 (RL.cons (RV.tmp eZ) (VO.flat rfl) RL.nil) (ML.mut (eS rfl eZ) (VO.ptr (es:=[(.pin pv),(.int .i64 a2.1),(.int .i64 a2.2)]) bZ rfl rfl rfl) (ML.lent ML.nil)) (by decide)
 ·refine zj eZ (dF h4) (AW.skip (TQ.qn (aS (aV (za rfl (za7 eZ eC (xQ ?_)))))))
  rcases zF H with⟨h5,H⟩|⟨h5,H⟩
  ·refine zk eZ (dT h5) (aS (zp (ze (za rfl (zb ?_)))))
   obtain⟨v6,h7,H⟩:=zo H
   refine z8 (v0:=pv) (hg:=by exact rfl) (ON:=[0]) (ls:=[]) (G:=[]) (E:=[zJ 0]) (MB:=[(0,(.vars 3 [(.d (.pin pv)),(dI v6.2.1),(dI v6.2.2)]))]) (u:=(oI v6.1)) eC Cl.fn (Qy h7) (Ec eZ En) (AO.mut (VO.ptr (es:=[(.pin pv),(.int .i64 a2.1),(.int .i64 a2.2)]) bZ rfl rfl rfl) AO.nil) rfl rfl rfl (zO bZ rfl SZ.nil) (erL.cons (v':=(.one (.ptr (.nm 0 0 0)))) rfl (erL.cons (v':=(oB (decide (a3≤256)))) rfl (erL.cons (v':=(oI a3)) rfl (erL.cons (v':=(oB (decide (a3≤0)))) rfl (erL.cons (v':=(oI a3)) rfl (erL.cons (v':=(oI 0)) rfl (erL.cons (v':=(.one (.ptr (.nm 0 0 0)))) rfl (erL.cons (v':=(oI a3)) rfl erL.nil)))))))) (erH.cons (v':=(.vars 3 [(.d (.pin pv)),(dI a2.1),(dI a2.2)])) rfl rfl erH.nil) (erL.cons (v':=(.one (.d (.both pv (.sl 1 (List.map zM cb1)))))) rfl (erL.cons (v':=(.one (.ptr (.nm 0 0 0)))) rfl erL.nil)) rfl rfl (zx (za rfl ?_))
   obtain⟨h8,H⟩:=ym H
   refine zmr rfl eZ h8 (za eZ (xQ (AW.ret (TQ.qr ?_))))
   cases H
   exact j6 (RL.cons (RV.tmp eZ) (VO.flat rfl) RL.nil) (ML.mut (eS rfl eZ) (VO.ptr (es:=[(.pin pv),(.int .i64 v6.2.1),(.int .i64 v6.2.2)]) bZ rfl rfl rfl) (ML.lent ML.nil)) (by decide)
  ·refine zj eZ (dF h5) (AW.skip (TQ.qn (aS (zp (ze (za rfl (zb ?_)))))))
   obtain⟨v9,h10,H⟩:=zo H
   refine z8 (v0:=pv) (hg:=by exact rfl) (ON:=[0]) (ls:=[]) (G:=[]) (E:=[zJ 0]) (MB:=[(0,(.vars 3 [(.d (.pin pv)),(dI v9.2.1),(dI v9.2.2)]))]) (u:=(oI v9.1)) eC Cl.fn (Qy h10) (Ec eZ En) (AO.mut (VO.ptr (es:=[(.pin pv),(.int .i64 a2.1),(.int .i64 a2.2)]) bZ rfl rfl rfl) AO.nil) rfl rfl rfl (zO bZ rfl SZ.nil) (erL.cons (v':=(.one (.ptr (.nm 0 0 0)))) rfl (erL.cons (v':=(oB (decide (a3≤256)))) rfl (erL.cons (v':=(oI a3)) rfl (erL.cons (v':=(oB (decide (a3≤0)))) rfl (erL.cons (v':=(oI a3)) rfl (erL.cons (v':=(oI 0)) rfl (erL.cons (v':=(.one (.ptr (.nm 0 0 0)))) rfl (erL.cons (v':=(oI a3)) rfl erL.nil)))))))) (erH.cons (v':=(.vars 3 [(.d (.pin pv)),(dI a2.1),(dI a2.2)])) rfl rfl erH.nil) (erL.cons (v':=(.one (.d (.both pv (.sl 1 (List.map zM cb1)))))) rfl (erL.cons (v':=(.one (.ptr (.nm 0 0 0)))) rfl erL.nil)) rfl rfl (zx (za eZ (xQ (aS (zp (ze (za rfl (zb ?_))))))))
   obtain⟨v11,h12,H⟩:=zo H
   refine z8 (v0:=pv) (hg:=by exact rfl) (ON:=[0]) (ls:=[]) (G:=[]) (E:=[zJ 0]) (MB:=[(0,(.vars 3 [(.d (.pin pv)),(dI v11.2.1),(dI v11.2.2)]))]) (u:=(oI v11.1)) eC Cl.fn (Qy h12) (Ec eZ En) (AO.mut (VO.ptr (es:=[(.pin pv),(.int .i64 v9.2.1),(.int .i64 v9.2.2)]) bZ rfl rfl rfl) AO.nil) rfl rfl rfl (zO bZ rfl SZ.nil) (erL.cons (v':=(.one (.ptr (.nm 0 0 0)))) rfl (erL.cons (v':=(oI v9.1)) rfl (erL.cons (v':=(oI v9.1)) rfl (erL.cons (v':=(.one (.ptr (.nm 0 0 0)))) rfl (erL.cons (v':=(oB (decide (a3≤256)))) rfl (erL.cons (v':=(oI a3)) rfl (erL.cons (v':=(oB (decide (a3≤0)))) rfl (erL.cons (v':=(oI a3)) rfl (erL.cons (v':=(oI 0)) rfl (erL.cons (v':=(.one (.ptr (.nm 0 0 0)))) rfl (erL.cons (v':=(oI a3)) rfl erL.nil))))))))))) (erH.cons (v':=(.vars 3 [(.d (.pin pv)),(dI v9.2.1),(dI v9.2.2)])) rfl rfl (erH.cons (v':=(.vars 3 [(.d (.pin pv)),(dI a2.1),(dI a2.2)])) rfl rfl erH.nil)) (erL.cons (v':=(.one (.d (.both pv (.sl 1 (List.map zM cb1)))))) rfl (erL.cons (v':=(.one (.ptr (.nm 0 0 0)))) rfl erL.nil)) rfl rfl (zx (za eZ (xQ (aS (zp (ze (za rfl (zb ?_))))))))
   obtain⟨v13,h14,H⟩:=zo H
   refine z8 (v0:=pv) (hg:=by exact rfl) (ON:=[0]) (ls:=[]) (G:=[]) (E:=[zJ 0]) (MB:=[(0,(.vars 3 [(.d (.pin pv)),(dI v13.2.1),(dI v13.2.2)]))]) (u:=(oI v13.1)) eC Cl.fn (Qy h14) (Ec eZ En) (AO.mut (VO.ptr (es:=[(.pin pv),(.int .i64 v11.2.1),(.int .i64 v11.2.2)]) bZ rfl rfl rfl) AO.nil) rfl rfl rfl (zO bZ rfl SZ.nil) (erL.cons (v':=(.one (.ptr (.nm 0 0 0)))) rfl (erL.cons (v':=(oI v11.1)) rfl (erL.cons (v':=(oI v11.1)) rfl (erL.cons (v':=(.one (.ptr (.nm 0 0 0)))) rfl (erL.cons (v':=(oI v9.1)) rfl (erL.cons (v':=(oI v9.1)) rfl (erL.cons (v':=(.one (.ptr (.nm 0 0 0)))) rfl (erL.cons (v':=(oB (decide (a3≤256)))) rfl (erL.cons (v':=(oI a3)) rfl (erL.cons (v':=(oB (decide (a3≤0)))) rfl (erL.cons (v':=(oI a3)) rfl (erL.cons (v':=(oI 0)) rfl (erL.cons (v':=(.one (.ptr (.nm 0 0 0)))) rfl (erL.cons (v':=(oI a3)) rfl erL.nil)))))))))))))) (erH.cons (v':=(.vars 3 [(.d (.pin pv)),(dI v11.2.1),(dI v11.2.2)])) rfl rfl (erH.cons (v':=(.vars 3 [(.d (.pin pv)),(dI v9.2.1),(dI v9.2.2)])) rfl rfl (erH.cons (v':=(.vars 3 [(.d (.pin pv)),(dI a2.1),(dI a2.2)])) rfl rfl erH.nil))) (erL.cons (v':=(.one (.d (.both pv (.sl 1 (List.map zM cb1)))))) rfl (erL.cons (v':=(.one (.ptr (.nm 0 0 0)))) rfl erL.nil)) rfl rfl (zx (za eZ (xQ (AW.weaken (zg [] (kr 7 rfl rfl (kr 6 rfl rfl (kr 5 rfl rfl (kr 0 rfl rfl (kr 1 rfl rfl SL.nil))))) (blR rfl) (BK.cons (n:=0) rfl bZ rfl rfl BK.nil) (GK.cons rfl (GK.cons rfl GK.nil))) (aS (zp (ze (za rfl (zb ?_)))))))))
   obtain⟨v15,h16,H⟩:=zo H
   refine z8 (v0:=pv) (hg:=by exact rfl) (ON:=[0]) (ls:=[]) (G:=[]) (E:=[zJ 0]) (MB:=[(0,(.vars 3 [(.d (.pin pv)),(dI v15.2.1),(dI v15.2.2)]))]) (u:=(oI v15.1)) eC Cl.fn (Qy h16) (Ec eZ En) (AO.mut (VO.ptr (es:=[(.pin pv),(.int .i64 v13.2.1),(.int .i64 v13.2.2)]) bZ rfl rfl rfl) AO.nil) rfl rfl rfl (zO bZ rfl SZ.nil) (erL.cons (v':=(.one (.ptr (.nm 0 0 0)))) rfl (erL.cons (v':=(oI v13.1)) rfl (erL.cons (v':=(oI v11.1)) rfl (erL.cons (v':=(oI v9.1)) rfl (erL.cons (v':=(.one (.ptr (.nm 0 0 0)))) rfl (erL.cons (v':=(oI a3)) rfl erL.nil)))))) (erH.cons (v':=(.vars 3 [(.d (.pin pv)),(dI v13.2.1),(dI v13.2.2)])) rfl rfl erH.nil) (erL.cons (v':=(.one (.d (.both pv (.sl 1 (List.map zM cb1)))))) rfl (erL.cons (v':=(.one (.ptr (.nm 0 0 0)))) rfl erL.nil)) rfl rfl (zx (za eZ (xQ (aV (za rfl (zdO eZ eC (za rfl (zdO eZ eC (qf rfl eZ (za rfl (zdO eZ eC (qf rfl eZ (za rfl (qf rfl eZ (za rfl ?_)))))))))))))))
   obtain⟨h17,H⟩:=ym H
   refine zmr rfl eZ h17 (za eZ (xQ (AW.weaken (zg [] (kr 4 rfl rfl SL.nil) (blR rfl) (BK.cons (n:=0) rfl bZ rfl rfl BK.nil) (GK.cons rfl (GK.cons rfl GK.nil))) (AW.ret ?_))))
   cases H
   exact j6 (RL.cons (RV.tmp eZ) (VO.flat rfl) RL.nil) (ML.mut (eS rfl eZ) (VO.ptr (es:=[(.pin pv),(.int .i64 v15.2.1),(.int .i64 v15.2.2)]) bZ rfl rfl rfl) (ML.lent ML.nil)) (by decide)
theorem jD{pv:Value}{cb1:(List Int)}{a2:(Int×Int)}{a3:Int}{r:(Bool×(Int×Int))}(H:qb cb1 a2 a3=some r):FnC Try.prog pv (.sl 1 (List.map zM cb1)) 111 [⟨(.ptr [(.pin pv),(.int .i64 a2.1),(.int .i64 a2.2)]),.m (.ptr [(.pin pv),(.int .i64 r.2.1),(.int .i64 r.2.2)])⟩,⟨(.int .i64 a3),.b⟩] [(.bool r.1)]:=by
 refine zoV (fle rfl) (fle rfl) (fC nZ rfl fN) rfl ?_
 rw[Zr]
 refine AW.weaken (t:=mk [(0,(.one (.ptr (.nm 0 0 0)))),(1,(oI a3))] [(0,(.vars 3 [(.d (.pin pv)),(dI a2.1),(dI a2.2)]))] (lk [(63,(.one (.d (.both pv (.sl 1 (List.map zM cb1)))))),(0,(.one (.ptr (.nm 0 0 0))))])) (zg (gl:=[(63,(.one (.d (.both pv (.sl 1 (List.map zM cb1)))))),(0,(.one (.ptr (.nm 0 0 0))))]) [] (kv 0 (.one (.ptr (.nm 0 0 0))) rfl rfl (kv 1 (oI a3) rfl rfl SL.nil)) (blR rfl) (BK.cons (n:=0) rfl bZ rfl rfl BK.nil) (GK.cons rfl (GK.cons rfl GK.nil))) ?_
 unfold qb at H
 unfold zgC
 refine aV (za eC (xQ (aS (zp (ze (za rfl (zb (ze (za rfl (zb ?_))))))))))
 obtain⟨v4,h5,H⟩:=zo H
 refine z8 (v0:=pv) (hg:=by exact rfl) (ON:=[0]) (ls:=[]) (G:=[]) (E:=[zJ 0]) (MB:=[(0,(.vars 3 [(.d (.pin pv)),(dI v4.2.1),(dI v4.2.2)]))]) (u:=(oI v4.1)) eC Cl.fn (zH h5) (Ec rfl (Ec eZ En)) (AO.mut (VO.ptr (es:=[(.pin pv),(.int .i64 a2.1),(.int .i64 a2.2)]) bZ rfl rfl rfl) (AO.lent Vp rfl AO.nil)) rfl rfl rfl (zO bZ rfl SZ.nil) (erL.cons (v':=(oI a3)) rfl (erL.cons (v':=(.one (.ptr (.nm 0 0 0)))) rfl (erL.cons (v':=(oB false)) rfl (erL.cons (v':=(.one (.ptr (.nm 0 0 0)))) rfl (erL.cons (v':=(oI a3)) rfl erL.nil))))) (erH.cons (v':=(.vars 3 [(.d (.pin pv)),(dI a2.1),(dI a2.2)])) rfl rfl erH.nil) (erL.cons (v':=(.one (.d (.both pv (.sl 1 (List.map zM cb1)))))) rfl (erL.cons (v':=(.one (.ptr (.nm 0 0 0)))) rfl erL.nil)) rfl rfl (zx (jC eZ eC (za eZ (xQ (AW.ret ?_)))))
 cases H
 exact j6 (RL.cons (RV.tmp eZ) (VO.flat rfl) RL.nil) (ML.mut (eS rfl eZ) (VO.ptr (es:=[(.pin pv),(.int .i64 v4.2.1),(.int .i64 v4.2.2)]) bZ rfl rfl rfl) (ML.lent ML.nil)) (by decide)
theorem jA{a1:Int}{a2:Int}{a3:Int}{r:Bool}(H:qM a1 a2 a3=some r):Fn Try.prog 64 (lent [(.int .i64 a1),(.int .i64 a2),(.int .i64 a3)]) true [(.bool r)]:=by
 refine f64 (fle rfl) ?_
 rw[zR]
 refine AW.weaken (zE [] (kv 0 (oI a1) rfl rfl (kv 1 (oI a2) rfl rfl (kv 2 (oI a3) rfl rfl SL.nil))) BL.nil BK.nil) ?_
 unfold qM at H
 unfold i64
 refine aV (za eC (xQ (aV (za rfl (za rfl (XY rfl eZ (za eZ ?_)))))))
 rcases zF H with⟨h4,H⟩|⟨h4,H⟩
 ·refine gDo eZ (dT h4) (za rfl (gDo rfl (dT h4) (za rfl (gDo rfl (dT h4) (za7 rfl eZ (zK rfl (dT h4) eZ (za eZ (xQ (AW.ret ?_)))))))))
  cases H
  exact eE rfl rfl
 ·refine zd eZ (dF h4) rfl (zd rfl (dF h4) rfl (zd rfl (dF h4) rfl (zP rfl (dF h4) eC (za eZ (xQ (AW.ret ?_))))))
  cases H
  exact eE rfl rfl
theorem xn{a1:Int}{r:Bool}(H:Zm a1=some r):Fn Try.prog 63 (lent [(.int .i64 a1)]) true [(.bool r)]:=by
 refine f63 (fle rfl) ?_
 rw[zR]
 refine AW.weaken (zE [] (kv 0 (oI a1) rfl rfl SL.nil) BL.nil BK.nil) ?_
 unfold Zm at H
 unfold i63
 refine aV (za eC (xQ (aV (za rfl ?_))))
 obtain⟨v2,h3,H⟩:=zo H
 refine zS (u:=(oB v2)) eC Cl.fn (jA h3) (Ec eZ (Ec eC (Ec eC En))) (Vc Vp (Vc Vp (Vc Vp Vn))) rfl (za eZ (xQ (AW.ret ?_)))
 cases H
 exact eE rfl rfl
theorem zan{a1:Int}{r:Bool}(H:Qv a1=some r):Fn Try.prog 99 (lent [(.int .i64 a1)]) true [(.bool r)]:=by
 refine f99 (fle rfl) ?_
 rw[zR]
 refine AW.weaken (zE [] (kv 0 (oI a1) rfl rfl SL.nil) BL.nil BK.nil) ?_
 unfold Qv at H
 unfold i99
 refine aV (za eC (xQ (aV (za rfl ?_))))
 obtain⟨v2,h3,H⟩:=zo H
 refine zS (u:=(oB v2)) eC Cl.fn (jA h3) (Ec eZ (Ec eC (Ec eC En))) (Vc Vp (Vc Vp (Vc Vp Vn))) rfl (za eZ (xQ (AW.ret ?_)))
 cases H
 exact eE rfl rfl
theorem Y1{a1:(List qy)}{r:Bool}(H:yY a1=some r):Fn Try.prog 105 (lent [(.sl 2 (List.map zT a1))]) true [(.bool r)]:=by
 refine zoi (fle rfl) ?_
 rw[zR]
 refine AW.weaken (zE [] (kv 0 (.one (.d (.sl 2 (List.map zT a1)))) rfl rfl SL.nil) BL.nil BK.nil) ?_
 unfold yY at H
 unfold zk9
 refine aV (za eC (xQ (aS (aV (za rfl (qx eZ (n:=a1.length) lm (JT eZ eC (xQ ?_))))))))
 rcases zF H with⟨h2,H⟩|⟨h2,H⟩
 ·refine zk eZ (dT h2) (aV (za eC (xQ (AW.ret (TQ.qr ?_)))))
  cases H
  exact eE rfl rfl
 ·refine zj eZ (dF h2) (AW.skip (TQ.qn (zQ (fun t3:Unit=>Jn t3=some r) (fun t3=>mk [] [] noG) ?_ ?_)))
  ·intro t3 H
   unfold Jn at H
   refine aV (za eC (xQ (AW.ret ?_)))
   cases H
   exact eE rfl rfl
  ·refine aV (za eC (xQ (AW.block (AW.iter (fun s5:Int=>mk [(0,(.one (.d (.sl 2 (List.map zT a1))))),(3,(oI s5))] [] noG) H (zE [] (sR rfl rfl) BL.nil BK.nil) ?_))))
   intro kb6 s5 H
   unfold Qb at H
   refine aS (aV (za rfl (za rfl (qx eZ (n:=a1.length) lm (Z0 rfl eZ (xQ ?_))))))
   rcases zF H with⟨h7,H⟩|⟨h7,H⟩
   ·refine zk eZ (dT h7) (AW.skip (TQ.qn (aS (AW.block (zQ (fun t8:Bool=>(jO kb6 s5) t8=some r) (fun t8=>mk [(0,(.one (.d (.sl 2 (List.map zT a1))))),(3,(oI s5)),(46,(oB t8))] [] noG) ?_ ?_)))))
    ·intro t8 H
     unfold jO at H
     rcases zF H with⟨h10,H⟩|⟨h10,H⟩
     ·refine zk rfl h10 (aV (za eC (xQ (AW.ret (BQ.qr (TQ.qr (TQ.qr (BQ.qr (TQ.qr ?_)))))))))
      cases H
      exact eE rfl rfl
     ·exact zj rfl (nt h10) (AW.skip (BQ.qn (TQ.qn (aR (za rfl (qf eZ eC (za eZ (zb (TQ.qn ⟨(IntKind.wrap .i64 (s5+1)),H,(zE [] (sR rfl rfl) BL.nil BK.nil)⟩)))))))))
    ·refine AW.regd (za rfl (za rfl ?_))
     obtain⟨v11,h12,H⟩:=zo H
     refine Zd rfl eZ h12 (ju (m:=0) eZ rfl (qY (e:=(.int .i64 v11.Key)) eZ rfl ?_))
     obtain⟨v13,h14,H⟩:=zo H
     refine zS (u:=(oB v13)) eC Cl.fn (zan h14) (Ec eZ En) (Vc Vp Vn) rfl (jU eZ (za eZ ?_))
     rcases zF H with⟨h15,H⟩|⟨h15,H⟩
     ·refine gDo eZ (cN h15) (za rfl (gDo rfl (cN h15) (za rfl (gDo rfl (cN h15) ?_))))
      obtain⟨v16,h17,H⟩:=zo H
      refine Zd rfl eZ h17 (gDo rfl (cN h15) (ju (m:=1) eZ rfl (gDo rfl (cN h15) (qY (e:=(.int .i64 v16.Value)) eZ rfl (gDo rfl (cN h15) ?_)))))
      obtain⟨v18,h19,H⟩:=zo H
      refine zS (u:=(oB v18)) eC Cl.fn (jA h19) (Ec eZ (Ec eC (Ec eC En))) (Vc Vp (Vc Vp (Vc Vp Vn))) rfl (gDo rfl (cN h15) (jU eZ (zP rfl (cN h15) eZ (za eZ ?_))))
      rcases zF H with⟨h20,H⟩|⟨h20,H⟩
      ·refine gDo eZ (cN h20) (za rfl (gDo rfl (cN h20) (JT eZ eC (gDo rfl (cN h20) (za eZ ?_)))))
       rcases zF H with⟨h21,H⟩|⟨h21,H⟩
       ·refine gDo eZ (dT h21) (za rfl (gDo rfl (dT h21) (za rfl (gDo rfl (dT h21) (YJ eZ eC (gDo rfl (dT h21) ?_))))))
        obtain⟨v22,h23,H⟩:=zo H
        refine Zd rfl eZ h23 (gDo rfl (dT h21) (ju (m:=0) eZ rfl (gDo rfl (dT h21) (qY (e:=(.int .i64 v22.Key)) eZ rfl (gDo rfl (dT h21) (za rfl (gDo rfl (dT h21) (za rfl (gDo rfl (dT h21) ?_)))))))))
        obtain⟨v24,h25,H⟩:=zo H
        exact Zd rfl eZ h25 (gDo rfl (dT h21) (ju (m:=0) eZ rfl (gDo rfl (dT h21) (qY (e:=(.int .i64 v24.Key)) eZ rfl (gDo rfl (dT h21) (XY rfl eZ (gDo rfl (cN h20) (zK rfl (dT h21) eZ (zP rfl (cN h20) eZ (zb (TQ.qn ⟨(decide (v24.Key≤v22.Key)),H,(zE [] (sR rfl rfl) BL.nil BK.nil)⟩)))))))))))
       ·exact zd eZ (dF h21) rfl (zd rfl (dF h21) rfl (zd rfl (dF h21) rfl (zd rfl (dF h21) rfl (zd rfl (dF h21) rfl (zd rfl (dF h21) rfl (zd rfl (dF h21) rfl (zd rfl (dF h21) rfl (zd rfl (dF h21) rfl (zd rfl (dF h21) rfl (zd rfl (dF h21) rfl (zd rfl (dF h21) rfl (gDo rfl (cN h20) (zP rfl (dF h21) eC (zP rfl (cN h20) eZ (zb (TQ.qn ⟨false,H,(zE [] (sR rfl rfl) BL.nil BK.nil)⟩))))))))))))))))
      ·exact zd eZ (cN (nt h20)) rfl (zd rfl (cN (nt h20)) rfl (zd rfl (cN (nt h20)) rfl (zV eZ rfl (zV rfl rfl (zV rfl rfl (zV rfl rfl (zV rfl rfl (zV rfl rfl (zV rfl rfl (zV rfl rfl (zV rfl rfl (zV rfl rfl (zV rfl rfl (zV rfl rfl (zd rfl (cN (nt h20)) rfl (zK rfl (cN (nt h20)) eC (zb (TQ.qn ⟨true,H,(zE [] (sR rfl rfl) BL.nil BK.nil)⟩))))))))))))))))))
     ·exact zd eZ (cN (nt h15)) rfl (zd rfl (cN (nt h15)) rfl (zd rfl (cN (nt h15)) rfl (zd rfl (cN (nt h15)) rfl (zd rfl (cN (nt h15)) rfl (zd rfl (cN (nt h15)) rfl (zd rfl (cN (nt h15)) rfl (zK rfl (cN (nt h15)) eC (za eZ (zd eZ rfl rfl (zd rfl rfl rfl (zd rfl rfl rfl (zV eZ rfl (zV rfl rfl (zV rfl rfl (zV rfl rfl (zV rfl rfl (zV rfl rfl (zV rfl rfl (zV rfl rfl (zV rfl rfl (zV rfl rfl (zV rfl rfl (zV rfl rfl (zd rfl rfl rfl (zK rfl rfl eC (zb (TQ.qn ⟨true,H,(zE [] (sR rfl rfl) BL.nil BK.nil)⟩)))))))))))))))))))))))))))
   ·exact zj eZ (dF h7) (AW.exit (TQ.qe (TQ.qe (BQ.qe (TQ.qn ⟨(),H,(zE [] SL.nil BL.nil BK.nil)⟩)))))
theorem KI{a1:qo}{r:Bool}(H:Z2 a1=some r):Fn Try.prog 121 (lent [(.agg (zZ a1))]) true [(.bool r)]:=by
 refine zou (fle rfl) ?_
 rw[zR]
 refine AW.weaken (zE [] (kv 0 (.agg [(dI a1.Lo),(dI a1.Hi)]) rfl rfl SL.nil) BL.nil BK.nil) ?_
 unfold Z2 at H
 unfold zkN
 refine aV (Jh (n:=64) (m:=2) (cs:=[(dI a1.Lo),(dI a1.Hi)]) rfl eZ rfl rfl nZ (za eC (xQ (aV (zi (m:=0) rfl rfl (zr (q:=0) (c:=(dI a1.Lo)) eZ bZ rfl rfl (XY eZ eC (za eZ ?_))))))))
 rcases zF H with⟨h2,H⟩|⟨h2,H⟩
 ·refine gDo eZ (dT h2) (zi (m:=0) rfl rfl (gDo rfl (dT h2) (zr (q:=0) (c:=(dI a1.Lo)) eZ bZ rfl rfl (gDo rfl (dT h2) (zi (m:=1) rfl rfl (gDo rfl (dT h2) (zr (q:=1) (c:=(dI a1.Hi)) eZ bZ rfl rfl (gDo rfl (dT h2) (Z0 rfl eZ (zK rfl (dT h2) eZ (za eZ ?_)))))))))))
  rcases zF H with⟨h3,H⟩|⟨h3,H⟩
  ·refine gDo eZ (dT h3) (zi (m:=1) rfl rfl (gDo rfl (dT h3) (zr (q:=1) (c:=(dI a1.Hi)) eZ bZ rfl rfl (gDo rfl (dT h3) (za7 eZ eC (zK rfl (dT h3) eZ (za eZ (xQ (AW.weaken (zE [64] (kr 2 rfl rfl SL.nil) (blR rfl) BK.nil) (AW.ret ?_))))))))))
   cases H
   exact eE rfl rfl
  ·refine zd eZ (dF h3) rfl (zd rfl (dF h3) rfl (zd rfl (dF h3) rfl (zP rfl (dF h3) eC (za eZ (xQ (AW.weaken (zE [64] (kr 2 rfl rfl SL.nil) (blR rfl) BK.nil) (AW.ret ?_)))))))
   cases H
   exact eE rfl rfl
 ·refine zd eZ (dF h2) rfl (zd rfl (dF h2) rfl (zd rfl (dF h2) rfl (zd rfl (dF h2) rfl (zd rfl (dF h2) rfl (zP rfl (dF h2) eC (za eZ (zd eZ rfl rfl (zd rfl rfl rfl (zd rfl rfl rfl (zP rfl rfl eC (za eZ (xQ (AW.weaken (zE [64] (kr 2 rfl rfl SL.nil) (blR rfl) BK.nil) (AW.ret ?_))))))))))))))
  cases H
  exact eE rfl rfl
theorem Y5{a1:(List zn)}{r:Bool}(H:yX a1=some r):Fn Try.prog 81 (lent [(.sl 4 (List.map zh a1))]) true [(.bool r)]:=by
 refine f81 (fle rfl) ?_
 rw[zR]
 refine AW.weaken (t:=mk [(0,(.one (.d (.sl 4 (List.map zh a1)))))] [] (lk [])) (zE [] (sR rfl rfl) BL.nil BK.nil) ?_
 unfold yX at H
 unfold i81
 refine aV (za eC (xQ (aS (aV (za rfl (qx eZ (n:=a1.length) lm (JT eZ eC (xQ ?_))))))))
 rcases zF H with⟨h2,H⟩|⟨h2,H⟩
 ·refine zk eZ (dT h2) (aV (za eC (xQ (AW.ret (TQ.qr ?_)))))
  cases H
  exact eE rfl rfl
 ·refine zj eZ (dF h2) (AW.skip (TQ.qn (zQ (fun t3:Unit=>Jx t3=some r) (fun t3=>mk [] [] (lk [])) ?_ ?_)))
  ·intro t3 H
   unfold Jx at H
   refine aV (za eC (xQ (AW.ret ?_)))
   cases H
   exact eE rfl rfl
  ·refine aV (za eC (xQ (AW.block (AW.iter (fun s5:Int=>mk [(0,(.one (.d (.sl 4 (List.map zh a1))))),(3,(oI s5))] [] (lk [])) H (zg [] (sR rfl rfl) BL.nil BK.nil GK.nil) ?_))))
   intro kb6 s5 H
   unfold Qd at H
   refine aS (aV (za rfl (za rfl (qx eZ (n:=a1.length) lm (Z0 rfl eZ (xQ ?_))))))
   rcases zF H with⟨h7,H⟩|⟨h7,H⟩
   ·refine zk eZ (dT h7) (AW.skip (TQ.qn (zQ (fun t8:Unit=>(qt kb6 s5) t8=some r) (fun t8=>mk [(0,(.one (.d (.sl 4 (List.map zh a1))))),(3,(oI s5))] [] (lk [])) ?_ ?_)))
    ·intro t8 H
     unfold qt at H
     exact aR (za rfl (qf eZ eC (za eZ (zb (TQ.qn ⟨(IntKind.wrap .i64 (s5+1)),H,(zg [] (sR rfl rfl) BL.nil BK.nil GK.nil)⟩)))))
    ·refine AW.block (aS (zp (ze (za rfl (zb (ze (za rfl (zb (ze ?_)))))))))
     obtain⟨v10,h11,H⟩:=zo H
     refine Zd rfl eZ h11 (zb (ze (ZF (es:=(jZ v10)) eZ rfl (zb (ze (Zy (n:=256) (m:=4) rfl rfl nZ (zb (ze (zw (es:=(jZ v10)) eZ rfl rfl rfl bZ rfl (zb (zx (xQ (aS (zQ (fun t12:Bool=>(qw v10 (qt kb6 s5)) t12=some r) (fun t12=>mk [(0,(.one (.d (.sl 4 (List.map zh a1))))),(3,(oI s5)),(4,(.one (.ptr (.nm 256 0 0)))),(55,(oB t12))] [(256,(.vars 4 (jZ v10)))] (lk [])) ?_ ?_))))))))))))))
     ·intro t12 H
      unfold qw at H
      rcases zF H with⟨h14,H⟩|⟨h14,H⟩
      ·refine zk rfl h14 (aV (za eC (xQ (AW.ret (TQ.qr (BQ.qr (TQ.qr (TQ.qr (BQ.qr (TQ.qr ?_))))))))))
       cases H
       exact eE rfl rfl
      ·refine zj rfl (nt h14) (AW.skip (TQ.qn (aV (za eC (xQ (AW.block (AW.iter (fun s15:Int=>mk [(0,(.one (.d (.sl 4 (List.map zh a1))))),(3,(oI s5)),(4,(.one (.ptr (.nm 256 0 0)))),(5,(oI s15))] [(256,(.vars 4 (jZ v10)))] (lk [])) H (zg [] (sR rfl rfl) (blR rfl) (bkR rfl rfl rfl) GK.nil) ?_)))))))
       intro kb16 s15 H
       unfold y2 at H
       refine aS (aV (za rfl (zi (m:=1) rfl rfl (zr (q:=1) (c:=(.d (.sl 2 (List.map zZ v10.Reads)))) eZ bZ rfl rfl (qx eZ (n:=v10.Reads.length) lm (Z0 rfl eZ (xQ ?_)))))))
       rcases zF H with⟨h17,H⟩|⟨h17,H⟩
       ·refine zk eZ (dT h17) (AW.skip (TQ.qn (aS (AW.block (aV (zi (m:=1) rfl rfl (zr (q:=1) (c:=(.d (.sl 2 (List.map zZ v10.Reads)))) eZ bZ rfl rfl (za rfl ?_))))))))
        obtain⟨v18,h19,H⟩:=zo H
        refine Zd rfl eZ h19 (ZF (es:=[(dI v18.Lo),(dI v18.Hi)]) eZ rfl ?_)
        obtain⟨v20,h21,H⟩:=zo H
        refine zS (u:=(oB v20)) eC Cl.fn (KI h21) (Ec eZ En) (Vc (VD.agg rfl) Vn) rfl (jU eZ (xQ (AW.weaken (zg [] (kr 69 rfl rfl (kr 0 rfl rfl (kr 3 rfl rfl (kr 4 rfl rfl (kr 5 rfl rfl SL.nil))))) (blR rfl) (BK.cons (n:=256) rfl bZ rfl rfl BK.nil) GK.nil) ?_)))
        rcases zF H with⟨h22,H⟩|⟨h22,H⟩
        ·exact zj eZ (cN h22) (AW.skip (BQ.qn (TQ.qn (aR (za rfl (qf eZ eC (za eZ (zb (TQ.qn ⟨(IntKind.wrap .i64 (s15+1)),H,(zg [] (sR rfl rfl) (blR rfl) (bkR rfl rfl rfl) GK.nil)⟩)))))))))
        ·refine zk eZ (cN (nt h22)) (aV (za eC (xQ (AW.ret (BQ.qr (TQ.qr (TQ.qr (BQ.qr (BQ.qr (TQ.qr (TQ.qr (BQ.qr (TQ.qr ?_)))))))))))))
         cases H
         exact eE rfl rfl
       ·exact zj eZ (dF h17) (AW.exit (TQ.qe (TQ.qe (BQ.qe (BQ.qn (TQ.qn ⟨(),H,(zg [256] (sR rfl rfl) (blR rfl) BK.nil GK.nil)⟩))))))
     ·refine AW.regd (zi (m:=0) eZ rfl (zr (q:=0) (c:=(dI v10.Group)) eZ bZ rfl rfl ?_))
      obtain⟨v23,h24,H⟩:=zo H
      refine zS (u:=(oB v23)) eC Cl.fn (jA h24) (Ec eZ (Ec eC (Ec eC En))) (Vc Vp (Vc Vp (Vc Vp Vn))) rfl (jU eZ (za eZ ?_))
      rcases zF H with⟨h25,H⟩|⟨h25,H⟩
      ·refine gDo eZ (cN h25) (za rfl (gDo rfl (cN h25) (JT eZ eC (gDo rfl (cN h25) (za eZ ?_)))))
       rcases zF H with⟨h26,H⟩|⟨h26,H⟩
       ·refine gDo eZ (dT h26) (za rfl (gDo rfl (dT h26) (za rfl (gDo rfl (dT h26) (YJ eZ eC (gDo rfl (dT h26) ?_))))))
        obtain⟨v27,h28,H⟩:=zo H
        refine Zd rfl eZ h28 (gDo rfl (dT h26) (ju (m:=0) eZ rfl (gDo rfl (dT h26) (qY (e:=(.int .i64 v27.Group)) eZ rfl (gDo rfl (dT h26) (zi (m:=0) rfl rfl (gDo rfl (dT h26) (zr (q:=0) (c:=(dI v10.Group)) eZ bZ rfl rfl (gDo rfl (dT h26) (XY rfl eZ (gDo rfl (cN h25) (zK rfl (dT h26) eZ (zP rfl (cN h25) eZ (za eZ ?_))))))))))))))
        rcases zF H with⟨h29,H⟩|⟨h29,H⟩
        ·exact zd eZ (dT h29) rfl (zd rfl (dT h29) rfl (zd rfl (dT h29) rfl (zd rfl (dT h29) rfl (zK rfl (dT h29) eC (za eZ (zd eZ rfl rfl (zd rfl rfl rfl (zd rfl rfl rfl (zd rfl rfl rfl (zK rfl rfl eC (za eZ (zd eZ rfl rfl (zd rfl rfl rfl (zd rfl rfl rfl (zd rfl rfl rfl (zK rfl rfl eC (zb (TQ.qn ⟨true,H,(zg [] (sR rfl rfl) (blR rfl) (bkR rfl rfl rfl) GK.nil)⟩))))))))))))))))))
        ·refine gDo eZ (dF h29) (zi (m:=1) rfl rfl (gDo rfl (dF h29) (zr (q:=1) (c:=(.d (.sl 2 (List.map zZ v10.Reads)))) eZ bZ rfl rfl (gDo rfl (dF h29) (qx eZ (n:=v10.Reads.length) lm (gDo rfl (dF h29) (JT eZ eC (zP rfl (dF h29) eZ (za eZ ?_)))))))))
         rcases zF H with⟨h30,H⟩|⟨h30,H⟩
         ·exact zd eZ (dT h30) rfl (zd rfl (dT h30) rfl (zd rfl (dT h30) rfl (zd rfl (dT h30) rfl (zK rfl (dT h30) eC (za eZ (zd eZ rfl rfl (zd rfl rfl rfl (zd rfl rfl rfl (zd rfl rfl rfl (zK rfl rfl eC (zb (TQ.qn ⟨true,H,(zg [] (sR rfl rfl) (blR rfl) (bkR rfl rfl rfl) GK.nil)⟩))))))))))))
         ·refine gDo eZ (dF h30) (zi (m:=2) rfl rfl (gDo rfl (dF h30) (zr (q:=2) (c:=(.d (.sl 2 (List.map zT v10.Writes)))) eZ bZ rfl rfl (gDo rfl (dF h30) ?_))))
          obtain⟨v31,h32,H⟩:=zo H
          refine zS (u:=(oB v31)) eC Cl.fn (Y1 h32) (Ec eZ En) (Vc Vp Vn) rfl (gDo rfl (dF h30) (jU eZ (zP rfl (dF h30) eZ (za eZ ?_))))
          rcases zF H with⟨h33,H⟩|⟨h33,H⟩
          ·refine gDo eZ (cN h33) (zi (m:=3) rfl rfl (gDo rfl (cN h33) (zr (q:=3) (c:=(dI v10.Vote)) eZ bZ rfl rfl (gDo rfl (cN h33) ?_))))
           obtain⟨v34,h35,H⟩:=zo H
           exact zS (u:=(oB v34)) eC Cl.fn (jA h35) (Ec eZ (Ec eC (Ec eC En))) (Vc Vp (Vc Vp (Vc Vp Vn))) rfl (gDo rfl (cN h33) (jU eZ (zP rfl (cN h33) eZ (zb (TQ.qn ⟨(!v34),H,(zg [] (sR rfl rfl) (blR rfl) (bkR rfl rfl rfl) GK.nil)⟩)))))
          ·exact zd eZ (cN (nt h33)) rfl (zd rfl (cN (nt h33)) rfl (zd rfl (cN (nt h33)) rfl (zd rfl (cN (nt h33)) rfl (zK rfl (cN (nt h33)) eC (zb (TQ.qn ⟨true,H,(zg [] (sR rfl rfl) (blR rfl) (bkR rfl rfl rfl) GK.nil)⟩))))))
       ·refine zd eZ (dF h26) rfl (zd rfl (dF h26) rfl (zd rfl (dF h26) rfl (zd rfl (dF h26) rfl (zd rfl (dF h26) rfl (zd rfl (dF h26) rfl (zd rfl (dF h26) rfl (zd rfl (dF h26) rfl (zd rfl (dF h26) rfl (gDo rfl (cN h25) (zP rfl (dF h26) eC (zP rfl (cN h25) eZ (za eZ (gDo eZ rfl (zi (m:=1) rfl rfl (gDo rfl rfl (zr (q:=1) (c:=(.d (.sl 2 (List.map zZ v10.Reads)))) eZ bZ rfl rfl (gDo rfl rfl (qx eZ (n:=v10.Reads.length) lm (gDo rfl rfl (JT eZ eC (zP rfl rfl eZ (za eZ ?_))))))))))))))))))))))
        rcases zF H with⟨h36,H⟩|⟨h36,H⟩
        ·exact zd eZ (dT h36) rfl (zd rfl (dT h36) rfl (zd rfl (dT h36) rfl (zd rfl (dT h36) rfl (zK rfl (dT h36) eC (za eZ (zd eZ rfl rfl (zd rfl rfl rfl (zd rfl rfl rfl (zd rfl rfl rfl (zK rfl rfl eC (zb (TQ.qn ⟨true,H,(zg [] (sR rfl rfl) (blR rfl) (bkR rfl rfl rfl) GK.nil)⟩))))))))))))
        ·refine gDo eZ (dF h36) (zi (m:=2) rfl rfl (gDo rfl (dF h36) (zr (q:=2) (c:=(.d (.sl 2 (List.map zT v10.Writes)))) eZ bZ rfl rfl (gDo rfl (dF h36) ?_))))
         obtain⟨v37,h38,H⟩:=zo H
         refine zS (u:=(oB v37)) eC Cl.fn (Y1 h38) (Ec eZ En) (Vc Vp Vn) rfl (gDo rfl (dF h36) (jU eZ (zP rfl (dF h36) eZ (za eZ ?_))))
         rcases zF H with⟨h39,H⟩|⟨h39,H⟩
         ·refine gDo eZ (cN h39) (zi (m:=3) rfl rfl (gDo rfl (cN h39) (zr (q:=3) (c:=(dI v10.Vote)) eZ bZ rfl rfl (gDo rfl (cN h39) ?_))))
          obtain⟨v40,h41,H⟩:=zo H
          exact zS (u:=(oB v40)) eC Cl.fn (jA h41) (Ec eZ (Ec eC (Ec eC En))) (Vc Vp (Vc Vp (Vc Vp Vn))) rfl (gDo rfl (cN h39) (jU eZ (zP rfl (cN h39) eZ (zb (TQ.qn ⟨(!v40),H,(zg [] (sR rfl rfl) (blR rfl) (bkR rfl rfl rfl) GK.nil)⟩)))))
         ·exact zd eZ (cN (nt h39)) rfl (zd rfl (cN (nt h39)) rfl (zd rfl (cN (nt h39)) rfl (zd rfl (cN (nt h39)) rfl (zK rfl (cN (nt h39)) eC (zb (TQ.qn ⟨true,H,(zg [] (sR rfl rfl) (blR rfl) (bkR rfl rfl rfl) GK.nil)⟩))))))
      ·exact zd eZ (cN (nt h25)) rfl (zd rfl (cN (nt h25)) rfl (zd rfl (cN (nt h25)) rfl (zV eZ rfl (zV rfl rfl (zV rfl rfl (zV rfl rfl (zV rfl rfl (zV rfl rfl (zV rfl rfl (zV rfl rfl (zV rfl rfl (zd rfl (cN (nt h25)) rfl (zK rfl (cN (nt h25)) eC (za eZ (zd eZ rfl rfl (zd rfl rfl rfl (zd rfl rfl rfl (zd rfl rfl rfl (zK rfl rfl eC (za eZ (zd eZ rfl rfl (zd rfl rfl rfl (zd rfl rfl rfl (zd rfl rfl rfl (zK rfl rfl eC (za eZ (zd eZ rfl rfl (zd rfl rfl rfl (zd rfl rfl rfl (zd rfl rfl rfl (zK rfl rfl eC (zb (TQ.qn ⟨true,H,(zg [] (sR rfl rfl) (blR rfl) (bkR rfl rfl rfl) GK.nil)⟩)))))))))))))))))))))))))))))))))
   ·exact zj eZ (dF h7) (AW.exit (TQ.qe (TQ.qe (BQ.qe (TQ.qn ⟨(),H,(zg [] SL.nil BL.nil BK.nil GK.nil)⟩)))))
theorem ZO{a1:(List zn)}{a2:Int}{r:Int}(H:jv a1 a2=some r):Fn Try.prog 82 (lent [(.sl 4 (List.map zh a1)),(.int .i64 a2)]) true [(.int .i64 r)]:=by
 refine f82 (fle rfl) ?_
 rw[zR]
 refine AW.weaken (zE [] (kv 0 (.one (.d (.sl 4 (List.map zh a1)))) rfl rfl (kv 1 (oI a2) rfl rfl SL.nil)) BL.nil BK.nil) ?_
 unfold jv at H
 unfold i82
 refine aV (za eC (xQ (aV (za eC (xQ (zQ (fun t3:Int=>Qe t3=some r) (fun t3=>mk [(5,(oI t3))] [] noG) ?_ ?_))))))
 ·intro t3 H
  unfold Qe at H
  refine aV (za eZ (za eZ (xQ (AW.ret ?_))))
  cases H
  exact eE rfl rfl
 ·refine aV (za eC (xQ (AW.block (AW.iter (fun s5:(Int×Int)=>mk [(0,(.one (.d (.sl 4 (List.map zh a1))))),(1,(oI a2)),(5,(oI s5.1)),(6,(oI s5.2))] [] noG) H (zE [] (sR rfl rfl) BL.nil BK.nil) ?_))))
  intro kb6 s5 H
  unfold Qm at H
  refine aS (aV (za rfl (za rfl (qx eZ (n:=a1.length) lm (Z0 rfl eZ (xQ ?_))))))
  rcases zF H with⟨h7,H⟩|⟨h7,H⟩
  ·refine zk eZ (dT h7) (AW.skip (TQ.qn (aS (AW.block (aV (za rfl (za rfl ?_)))))))
   obtain⟨v8,h9,H⟩:=zo H
   refine Zd rfl eZ h9 (ju (m:=3) eZ rfl (qY (e:=(.int .i64 v8.Vote)) eZ rfl (za rfl (jC rfl eZ (xQ ?_)))))
   rcases zF H with⟨h10,H⟩|⟨h10,H⟩
   ·exact zk eZ (dT h10) (aR (za rfl (qf eZ eC (za eZ (zb (BQ.qn (TQ.qn (AW.weaken (zE [] (kr 5 rfl rfl (kr 0 rfl rfl (kr 1 rfl rfl (kr 6 rfl rfl SL.nil)))) BL.nil BK.nil) (aR (za rfl (qf eZ eC (za eZ (zb (TQ.qn ⟨((IntKind.wrap .i64 (s5.1+1)),(IntKind.wrap .i64 (s5.2+1))),H,(zE [] (sR rfl rfl) BL.nil BK.nil)⟩))))))))))))))
   ·exact zj eZ (dF h10) (AW.skip (BQ.qn (TQ.qn (aR (za rfl (qf eZ eC (za eZ (zb (TQ.qn ⟨(s5.1,(IntKind.wrap .i64 (s5.2+1))),H,(zE [] (sR rfl rfl) BL.nil BK.nil)⟩)))))))))
  ·exact zj eZ (dF h7) (AW.exit (TQ.qe (TQ.qe (BQ.qe (TQ.qn ⟨s5.1,H,(zE [] (sR rfl rfl) BL.nil BK.nil)⟩)))))
theorem Ka{a1:zD}{r:Bool}(H:ZM a1=some r):Fn Try.prog 71 (lent [(.agg (zm a1))]) true [(.bool r)]:=by
 refine f71 (fle rfl) ?_
 rw[zR]
 refine AW.weaken (zE [] (kv 0 (.agg (yA a1)) rfl rfl SL.nil) BL.nil BK.nil) ?_
 unfold ZM at H
 unfold i71
 refine aV (Jh (n:=64) (m:=5) (cs:=(yA a1)) rfl eZ rfl rfl nZ (za eC (xQ (aS (zQ (fun t2:Bool=>(yr a1) t2=some r) (fun t2=>mk [(1,(.one (.ptr (.nm 64 0 0)))),(18,(oB t2))] [(64,(.vars 5 (yA a1)))] noG) ?_ ?_)))))
 ·intro t2 H
  unfold yr at H
  rcases zF H with⟨h4,H⟩|⟨h4,H⟩
  ·refine zk rfl h4 (aV (za eC (xQ (AW.ret (TQ.qr ?_)))))
   cases H
   exact eE rfl rfl
  ·refine zj rfl (nt h4) (AW.skip (TQ.qn (aS (aV (zi (m:=3) eZ rfl (zr (q:=3) (c:=(dI a1.State)) eZ bZ rfl rfl (xQ (AW.block (aV (jC eZ eC (za eZ (xQ ?_))))))))))))
   rcases zF H with⟨h5,H⟩|⟨h5,H⟩
   ·refine zk eZ (dT h5) (aV (zi (m:=4) rfl rfl (zr (q:=4) (c:=(.d (.sl 4 (List.map zh a1.Shares)))) eZ bZ rfl rfl (qx eZ (n:=a1.Shares.length) lm (jC eZ eC (za eZ (xQ (AW.ret (BQ.qr (TQ.qr ?_))))))))))
    cases H
    exact eE rfl rfl
   ·refine zj eZ (dF h5) (aV (jC rfl eC (za eZ (xQ ?_))))
    rcases zF H with⟨h6,H⟩|⟨h6,H⟩
    ·refine zk eZ (dT h6) (aV (zi (m:=4) rfl rfl (zr (q:=4) (c:=(.d (.sl 4 (List.map zh a1.Shares)))) eZ bZ rfl rfl ?_)))
     obtain⟨v7,h8,H⟩:=zo H
     refine zS (u:=(oI v7)) eC Cl.fn (ZO h8) (Ec eZ (Ec eC En)) (Vc Vp (Vc Vp Vn)) rfl (JT eZ eC (za eZ ?_))
     rcases zF H with⟨h9,H⟩|⟨h9,H⟩
     ·refine gDo eZ (dT h9) (zi (m:=4) rfl rfl (gDo rfl (dT h9) (zr (q:=4) (c:=(.d (.sl 4 (List.map zh a1.Shares)))) eZ bZ rfl rfl (gDo rfl (dT h9) ?_))))
      obtain⟨v10,h11,H⟩:=zo H
      refine zS (u:=(oI v10)) eC Cl.fn (ZO h11) (Ec eZ (Ec eC En)) (Vc Vp (Vc Vp Vn)) rfl (gDo rfl (dT h9) (jC eZ eC (zK rfl (dT h9) eZ (za eZ (xQ (AW.weaken (zE [64] (kr 2 rfl rfl SL.nil) (blR rfl) BK.nil) (AW.ret (BQ.qr (TQ.qr ?_)))))))))
      cases H
      exact eE rfl rfl
     ·refine zd eZ (dF h9) rfl (zd rfl (dF h9) rfl (zd rfl (dF h9) rfl (zd rfl (dF h9) rfl (zP rfl (dF h9) eC (za eZ (xQ (AW.weaken (zE [64] (kr 2 rfl rfl SL.nil) (blR rfl) BK.nil) (AW.ret (BQ.qr (TQ.qr ?_))))))))))
      cases H
      exact eE rfl rfl
    ·refine zj eZ (dF h6) (aV (jC rfl eC (za eZ (xQ ?_))))
     rcases zF H with⟨h12,H⟩|⟨h12,H⟩
     ·refine zk eZ (dT h12) (aS (AW.regd (zi (m:=4) rfl rfl (zr (q:=4) (c:=(.d (.sl 4 (List.map zh a1.Shares)))) eZ bZ rfl rfl ?_))))
      obtain⟨v13,h14,H⟩:=zo H
      refine zS (u:=(oI v13)) eC Cl.fn (ZO h14) (Ec eZ (Ec eC En)) (Vc Vp (Vc Vp Vn)) rfl (zi (m:=4) rfl rfl (zr (q:=4) (c:=(.d (.sl 4 (List.map zh a1.Shares)))) eZ (hB rfl bZ) rfl rfl (qx eZ (n:=a1.Shares.length) lm (jC rfl eZ (za eZ (xQ (AW.weaken (zE [64] (kr 2 rfl rfl SL.nil) (blR rfl) BK.nil) (AW.ret (BQ.qr (TQ.qr ?_))))))))))
      cases H
      exact eE rfl rfl
     ·refine zj eZ (dF h12) (AW.skip (BQ.qn (TQ.qn (aV (zi (m:=3) rfl rfl (zr (q:=3) (c:=(dI a1.State)) eZ bZ rfl rfl (jC eZ eC (za eZ (xQ (AW.ret ?_))))))))))
      cases H
      exact eE rfl rfl
 ·refine aR (zi (m:=1) rfl rfl (zr (q:=1) (c:=(dI a1.Client)) eZ bZ rfl rfl ?_))
  obtain⟨v15,h16,H⟩:=zo H
  refine zS (u:=(oB v15)) eC Cl.fn (xn h16) (Ec eZ En) (Vc Vp Vn) rfl (jU eZ (za eZ ?_))
  rcases zF H with⟨h17,H⟩|⟨h17,H⟩
  ·refine gDo eZ (cN h17) (zi (m:=2) rfl rfl (gDo rfl (cN h17) (zr (q:=2) (c:=(dI a1.Req)) eZ bZ rfl rfl (gDo rfl (cN h17) ?_))))
   obtain⟨v18,h19,H⟩:=zo H
   refine zS (u:=(oB v18)) eC Cl.fn (jA h19) (Ec eZ (Ec eC (Ec eC En))) (Vc Vp (Vc Vp (Vc Vp Vn))) rfl (gDo rfl (cN h17) (jU eZ (zP rfl (cN h17) eZ (za eZ ?_))))
   rcases zF H with⟨h20,H⟩|⟨h20,H⟩
   ·refine gDo eZ (cN h20) (zi (m:=4) rfl rfl (gDo rfl (cN h20) (zr (q:=4) (c:=(.d (.sl 4 (List.map zh a1.Shares)))) eZ bZ rfl rfl (gDo rfl (cN h20) ?_))))
    obtain⟨v21,h22,H⟩:=zo H
    exact zS (u:=(oB v21)) eC Cl.fn (Y5 h22) (Ec eZ En) (Vc Vp Vn) rfl (gDo rfl (cN h20) (jU eZ (zP rfl (cN h20) eZ (zb (TQ.qn ⟨(!v21),H,(zE [] (sR rfl rfl) (blR rfl) (bkR rfl rfl rfl))⟩)))))
   ·exact zd eZ (cN (nt h20)) rfl (zd rfl (cN (nt h20)) rfl (zd rfl (cN (nt h20)) rfl (zd rfl (cN (nt h20)) rfl (zK rfl (cN (nt h20)) eC (zb (TQ.qn ⟨true,H,(zE [] (sR rfl rfl) (blR rfl) (bkR rfl rfl rfl))⟩))))))
  ·exact zd eZ (cN (nt h17)) rfl (zd rfl (cN (nt h17)) rfl (zd rfl (cN (nt h17)) rfl (zd rfl (cN (nt h17)) rfl (zK rfl (cN (nt h17)) eC (za eZ (zd eZ rfl rfl (zd rfl rfl rfl (zd rfl rfl rfl (zd rfl rfl rfl (zK rfl rfl eC (zb (TQ.qn ⟨true,H,(zE [] (sR rfl rfl) (blR rfl) (bkR rfl rfl rfl))⟩))))))))))))
theorem zao{a1:(List Int)}{a2:Int}{r:Bool}(H:Qz a1 a2=some r):Fn Try.prog 72 (lent [(.sl 1 (List.map zt a1)),(.int .i64 a2)]) true [(.bool r)]:=by
 refine f72 (fle rfl) ?_
 rw[zR]
 refine AW.weaken (zE [] (kv 0 (.one (.d (.sl 1 (List.map zt a1)))) rfl rfl (kv 1 (oI a2) rfl rfl SL.nil)) BL.nil BK.nil) ?_
 unfold Qz at H
 unfold i72
 refine aV (za eC (xQ (zQ (fun t3:Unit=>J3 t3=some r) (fun t3=>mk [] [] noG) ?_ ?_)))
 ·intro t3 H
  unfold J3 at H
  refine aV (za eC (xQ (AW.ret ?_)))
  cases H
  exact eE rfl rfl
 ·refine aV (za eC (xQ (AW.block (AW.iter (fun s5:Int=>mk [(0,(.one (.d (.sl 1 (List.map zt a1))))),(1,(oI a2)),(5,(oI s5))] [] noG) H (zE [] (sR rfl rfl) BL.nil BK.nil) ?_))))
  intro kb6 s5 H
  unfold Ja at H
  refine aS (aV (za rfl (za rfl (qx eZ (n:=a1.length) lm (Z0 rfl eZ (xQ ?_))))))
  rcases zF H with⟨h7,H⟩|⟨h7,H⟩
  ·refine zk eZ (dT h7) (AW.skip (TQ.qn (aS (AW.block (aV (za rfl (za rfl ?_)))))))
   obtain⟨v8,h9,H⟩:=zo H
   refine Zd rfl eZ h9 (qY (e:=(.int .i64 v8)) eZ rfl (za rfl (jC rfl eZ (xQ ?_))))
   rcases zF H with⟨h10,H⟩|⟨h10,H⟩
   ·refine zk eZ (dT h10) (aV (za eC (xQ (AW.ret (BQ.qr (TQ.qr (TQ.qr (BQ.qr (TQ.qr ?_)))))))))
    cases H
    exact eE rfl rfl
   ·exact zj eZ (dF h10) (AW.skip (BQ.qn (TQ.qn (aR (za rfl (qf eZ eC (za eZ (zb (TQ.qn ⟨(IntKind.wrap .i64 (s5+1)),H,(zE [] (sR rfl rfl) BL.nil BK.nil)⟩)))))))))
  ·exact zj eZ (dF h7) (AW.exit (TQ.qe (TQ.qe (BQ.qe (TQ.qn ⟨(),H,(zE [] SL.nil BL.nil BK.nil)⟩)))))
theorem Zo{a1:zl}{r:Bool}(H:jr a1=some r):Fn Try.prog 24 (lent [(.agg (qI a1))]) true [(.bool r)]:=by
 refine f24 (fle rfl) ?_
 rw[zR]
 refine AW.weaken (t:=mk [(0,(.agg (zy a1)))] [] (lk [])) (zE [] (sR rfl rfl) BL.nil BK.nil) ?_
 unfold jr at H
 unfold i24
 refine aV (Jh (n:=64) (m:=2) (cs:=(zy a1)) rfl eZ rfl rfl nZ (za eC (xQ (aS (zQ (fun t2:Bool=>(ZN a1) t2=some r) (fun t2=>mk [(1,(.one (.ptr (.nm 64 0 0)))),(18,(oB t2))] [(64,(.vars 2 (zy a1)))] (lk [])) ?_ ?_)))))
 ·intro t2 H
  unfold ZN at H
  rcases zF H with⟨h4,H⟩|⟨h4,H⟩
  ·refine zk rfl h4 (aV (za eC (xQ (AW.ret (TQ.qr ?_)))))
   cases H
   exact eE rfl rfl
  ·refine zj rfl (nt h4) (AW.skip (TQ.qn (aV (za eC (xQ (zQ (fun t5:Int=>(QE a1) t5=some r) (fun t5=>mk [(1,(.one (.ptr (.nm 64 0 0)))),(3,(oI t5))] [(64,(.vars 2 (zy a1)))] (lk [])) ?_ ?_))))))
   ·intro t5 H
    unfold QE at H
    refine zQ (fun t7:Unit=>(QJ t5 a1) t7=some r) (fun t7=>mk [(1,(.one (.ptr (.nm 64 0 0)))),(3,(oI t5))] [(64,(.vars 2 (zy a1)))] (lk [])) ?_ ?_
    ·intro t7 H
     unfold QJ at H
     refine aV (za rfl (zi (m:=1) rfl rfl (zr (q:=1) (c:=(.d (.sl 1 (List.map zt a1.Order)))) eZ bZ rfl rfl (qx eZ (n:=a1.Order.length) lm (jC rfl eZ (za eZ (xQ (AW.ret ?_))))))))
     cases H
     exact eE rfl rfl
    ·refine aV (za eC (xQ (AW.block (AW.iter (fun s9:Int=>mk [(1,(.one (.ptr (.nm 64 0 0)))),(3,(oI t5)),(7,(oI s9))] [(64,(.vars 2 (zy a1)))] (lk [])) H (zg [] (sR rfl rfl) (blR rfl) (bkR rfl rfl rfl) GK.nil) ?_))))
     intro kb10 s9 H
     unfold QG at H
     refine aS (aV (za rfl (zi (m:=1) rfl rfl (zr (q:=1) (c:=(.d (.sl 1 (List.map zt a1.Order)))) eZ bZ rfl rfl (qx eZ (n:=a1.Order.length) lm (Z0 rfl eZ (xQ ?_)))))))
     rcases zF H with⟨h11,H⟩|⟨h11,H⟩
     ·refine zk eZ (dT h11) (AW.skip (TQ.qn (aS (AW.block (aV (zi (m:=1) rfl rfl (zr (q:=1) (c:=(.d (.sl 1 (List.map zt a1.Order)))) eZ bZ rfl rfl (za rfl ?_))))))))
      obtain⟨v12,h13,H⟩:=zo H
      refine Zd rfl eZ h13 (qY (e:=(.int .i64 v12)) eZ rfl (za eZ (xQ (zQ (fun t14:Bool=>(yx kb10 s9) t14=some r) (fun t14=>mk [(1,(.one (.ptr (.nm 64 0 0)))),(3,(oI t5)),(7,(oI s9)),(106,(oB t14))] [(64,(.vars 2 (zy a1)))] (lk [])) ?_ ?_))))
      ·intro t14 H
       unfold yx at H
       rcases zF H with⟨h16,H⟩|⟨h16,H⟩
       ·refine zk rfl h16 (aV (za eC (xQ (AW.ret (BQ.qr (TQ.qr (TQ.qr (BQ.qr (TQ.qr ?_)))))))))
        cases H
        exact eE rfl rfl
       ·exact zj rfl (nt h16) (AW.skip (BQ.qn (TQ.qn (aR (za rfl (qf eZ eC (za eZ (zb (TQ.qn ⟨(IntKind.wrap .i64 (s9+1)),H,(zg [] (sR rfl rfl) (blR rfl) (bkR rfl rfl rfl) GK.nil)⟩)))))))))
      ·refine aR (za eZ (zi (m:=0) rfl rfl (zr (q:=0) (c:=(.d (.sl 5 (List.map zm a1.Recs)))) eZ bZ rfl rfl (qx eZ (n:=a1.Recs.length) lm ?_))))
       obtain⟨v17,h18,H⟩:=zo H
       refine zS (u:=(oB v17)) eC Cl.fn (jA h18) (Ec rfl (Ec eC (Ec eZ En))) (Vc Vp (Vc Vp (Vc Vp Vn))) rfl (jU eZ (za eZ ?_))
       rcases zF H with⟨h19,H⟩|⟨h19,H⟩
       ·refine gDo eZ (cN h19) (zi (m:=0) rfl rfl (gDo rfl (cN h19) (zr (q:=0) (c:=(.d (.sl 5 (List.map zm a1.Recs)))) eZ bZ rfl rfl (gDo rfl (cN h19) (za rfl (gDo rfl (cN h19) (YJ eZ eC (gDo rfl (cN h19) ?_))))))))
        obtain⟨v20,h21,H⟩:=zo H
        refine Zd rfl eZ h21 (gDo rfl (cN h19) (ju (m:=3) eZ rfl (gDo rfl (cN h19) (qY (e:=(.int .i64 v20.State)) eZ rfl (gDo rfl (cN h19) (QS eZ eC (zP rfl (cN h19) eZ (za eZ ?_))))))))
        rcases zF H with⟨h22,H⟩|⟨h22,H⟩
        ·exact zd eZ (dT h22) rfl (zd rfl (dT h22) rfl (zd rfl (dT h22) rfl (zd rfl (dT h22) rfl (zd rfl (dT h22) rfl (zd rfl (dT h22) rfl (zK rfl (dT h22) eC (zb (TQ.qn ⟨true,H,(zg [] (sR rfl rfl) (blR rfl) (bkR rfl rfl rfl) GK.nil)⟩))))))))
        ·refine gDo eZ (dF h22) (zi (m:=1) rfl rfl (gDo rfl (dF h22) (zr (q:=1) (c:=(.d (.sl 1 (List.map zt a1.Order)))) eZ bZ rfl rfl (gDo rfl (dF h22) (za rfl (gDo rfl (dF h22) ?_))))))
         obtain⟨v23,h24,H⟩:=zo H
         refine zdW rfl zex (n:=(a1.Order.length:Int)) rfl (Bd.at eZ) h24 (gDo rfl (dF h22) (za rfl (gDo rfl (dF h22) ?_)))
         obtain⟨v25,h26,H⟩:=zo H
         exact zS (u:=(oB v25)) eC Cl.fn (zao h26) (Ec rfl (Ec eZ En)) (Vc Vp (Vc Vp Vn)) rfl (zP rfl (dF h22) eZ (zb (TQ.qn ⟨v25,H,(zg [] (sR rfl rfl) (blR rfl) (bkR rfl rfl rfl) GK.nil)⟩)))
       ·exact zd eZ (cN (nt h19)) rfl (zd rfl (cN (nt h19)) rfl (zd rfl (cN (nt h19)) rfl (zd rfl (cN (nt h19)) rfl (zd rfl (cN (nt h19)) rfl (zd rfl (cN (nt h19)) rfl (zd rfl (cN (nt h19)) rfl (zd rfl (cN (nt h19)) rfl (zK rfl (cN (nt h19)) eC (za eZ (zd eZ rfl rfl (zd rfl rfl rfl (zd rfl rfl rfl (zd rfl rfl rfl (zd rfl rfl rfl (zd rfl rfl rfl (zK rfl rfl eC (zb (TQ.qn ⟨true,H,(zg [] (sR rfl rfl) (blR rfl) (bkR rfl rfl rfl) GK.nil)⟩))))))))))))))))))
     ·exact zj eZ (dF h11) (AW.exit (TQ.qe (TQ.qe (BQ.qe (TQ.qn ⟨(),H,(zg [] (sR rfl rfl) (blR rfl) (bkR rfl rfl rfl) GK.nil)⟩)))))
   ·refine aV (za eC (xQ (AW.block (AW.iter (fun s27:(Int×Int)=>mk [(1,(.one (.ptr (.nm 64 0 0)))),(3,(oI s27.1)),(4,(oI s27.2))] [(64,(.vars 2 (zy a1)))] (lk [])) H (zg [] (sR rfl rfl) (blR rfl) (bkR rfl rfl rfl) GK.nil) ?_))))
    intro kb28 s27 H
    unfold Ql at H
    refine aS (aV (za rfl (zi (m:=0) rfl rfl (zr (q:=0) (c:=(.d (.sl 5 (List.map zm a1.Recs)))) eZ bZ rfl rfl (qx eZ (n:=a1.Recs.length) lm (Z0 rfl eZ (xQ ?_)))))))
    rcases zF H with⟨h29,H⟩|⟨h29,H⟩
    ·refine zk eZ (dT h29) (AW.skip (TQ.qn (zQ (fun t30:Int=>(jV kb28 s27) t30=some r) (fun t30=>mk [(1,(.one (.ptr (.nm 64 0 0)))),(3,(oI t30)),(4,(oI s27.2))] [(64,(.vars 2 (zy a1)))] (lk [])) ?_ ?_)))
     ·intro t30 H
      unfold jV at H
      exact aR (za rfl (qf eZ eC (za eZ (zb (TQ.qn ⟨(t30,(IntKind.wrap .i64 (s27.2+1))),H,(zg [] (sR rfl rfl) (blR rfl) (bkR rfl rfl rfl) GK.nil)⟩)))))
     ·refine AW.block (aS (zp (ze (zi (m:=0) rfl rfl (zb (ze (zr (q:=0) (c:=(.d (.sl 5 (List.map zm a1.Recs)))) eZ bZ rfl rfl (zb (ze (za rfl (zb (ze ?_))))))))))))
      obtain⟨v32,h33,H⟩:=zo H
      refine Zd rfl eZ h33 (zb (ze (ZF (es:=(yA v32)) eZ rfl (zb (ze (Zy (n:=320) (m:=5) rfl rfl (nR rfl) (zb (ze (zw (es:=(yA v32)) eZ rfl rfl rfl bZ rfl (zb (zx (xQ (aS (zQ (fun t34:Bool=>(Zs s27 a1 v32 (jV kb28 s27)) t34=some r) (fun t34=>mk [(1,(.one (.ptr (.nm 64 0 0)))),(3,(oI s27.1)),(4,(oI s27.2)),(5,(.one (.ptr (.nm 320 0 0)))),(40,(oB t34))] [(64,(.vars 2 (zy a1))),(320,(.vars 5 (yA v32)))] (lk [])) ?_ ?_))))))))))))))
      ·intro t34 H
       unfold Zs at H
       rcases zF H with⟨h36,H⟩|⟨h36,H⟩
       ·refine zk rfl h36 (aV (za eC (xQ (AW.ret (TQ.qr (BQ.qr (TQ.qr (TQ.qr (BQ.qr (TQ.qr ?_))))))))))
        cases H
        exact eE rfl rfl
       ·refine zj rfl (nt h36) (AW.skip (TQ.qn (zQ (fun t37:Unit=>(Qc v32 (jV kb28 s27) s27) t37=some r) (fun t37=>mk [(1,(.one (.ptr (.nm 64 0 0)))),(3,(oI s27.1)),(4,(oI s27.2)),(5,(.one (.ptr (.nm 320 0 0))))] [(64,(.vars 2 (zy a1))),(320,(.vars 5 (yA v32)))] (lk [])) ?_ ?_)))
        ·intro t37 H
         unfold Qc at H
         refine aV (zi (m:=3) rfl rfl (zr (q:=3) (c:=(dI v32.State)) eZ (bR rfl) rfl rfl (jC eZ eC (xQ ?_))))
         rcases zF H with⟨h39,H⟩|⟨h39,H⟩
         ·exact zk eZ (dT h39) (aR (za rfl (qf eZ eC (za eZ (zb (BQ.qn (TQ.qn ⟨(IntKind.wrap .i64 (s27.1+1)),H,(zg [320] (sR rfl rfl) (blR rfl) (bkR rfl rfl rfl) GK.nil)⟩)))))))
         ·exact zj eZ (dF h39) (AW.skip (BQ.qn (TQ.qn ⟨s27.1,H,(zg [320] (sR rfl rfl) (blR rfl) (bkR rfl rfl rfl) GK.nil)⟩)))
        ·refine aV (za eC (xQ (AW.block (AW.iter (fun s40:Int=>mk [(1,(.one (.ptr (.nm 64 0 0)))),(3,(oI s27.1)),(4,(oI s27.2)),(5,(.one (.ptr (.nm 320 0 0)))),(6,(oI s40))] [(64,(.vars 2 (zy a1))),(320,(.vars 5 (yA v32)))] (lk [])) H (zg [] (sR rfl rfl) (blR rfl) (bkR rfl rfl rfl) GK.nil) ?_))))
         intro kb41 s40 H
         unfold Zq at H
         refine aS (aV (za rfl (za rfl (Z0 rfl eZ (xQ ?_)))))
         rcases zF H with⟨h42,H⟩|⟨h42,H⟩
         ·refine zk eZ (dT h42) (AW.skip (TQ.qn (aS (AW.block (zQ (fun t43:Bool=>(Zn kb41 s40) t43=some r) (fun t43=>mk [(1,(.one (.ptr (.nm 64 0 0)))),(3,(oI s27.1)),(4,(oI s27.2)),(5,(.one (.ptr (.nm 320 0 0)))),(6,(oI s40)),(65,(oB t43))] [(64,(.vars 2 (zy a1))),(320,(.vars 5 (yA v32)))] (lk [])) ?_ ?_)))))
          ·intro t43 H
           unfold Zn at H
           rcases zF H with⟨h45,H⟩|⟨h45,H⟩
           ·refine zk rfl h45 (aV (za eC (xQ (AW.ret (BQ.qr (TQ.qr (TQ.qr (BQ.qr (TQ.qr (BQ.qr (TQ.qr (TQ.qr (BQ.qr (TQ.qr ?_))))))))))))))
            cases H
            exact eE rfl rfl
           ·exact zj rfl (nt h45) (AW.skip (BQ.qn (TQ.qn (aR (za rfl (qf eZ eC (za eZ (zb (TQ.qn ⟨(IntKind.wrap .i64 (s40+1)),H,(zg [] (sR rfl rfl) (blR rfl) (bkR rfl rfl rfl) GK.nil)⟩)))))))))
          ·refine AW.regd (zi (m:=0) rfl rfl (zr (q:=0) (c:=(.d (.sl 5 (List.map zm a1.Recs)))) eZ bZ rfl rfl (za rfl ?_)))
           obtain⟨v46,h47,H⟩:=zo H
           refine Zd rfl eZ h47 (ju (m:=1) eZ rfl (qY (e:=(.int .i64 v46.Client)) eZ rfl (zi (m:=1) rfl rfl (zr (q:=1) (c:=(dI v32.Client)) eZ (bR rfl) rfl rfl (jC rfl eZ (za eZ ?_))))))
           rcases zF H with⟨h48,H⟩|⟨h48,H⟩
           ·refine gDo eZ (dT h48) (zi (m:=0) rfl rfl (gDo rfl (dT h48) (zr (q:=0) (c:=(.d (.sl 5 (List.map zm a1.Recs)))) eZ bZ rfl rfl (gDo rfl (dT h48) (za rfl (gDo rfl (dT h48) ?_))))))
            obtain⟨v49,h50,H⟩:=zo H
            exact Zd rfl eZ h50 (gDo rfl (dT h48) (ju (m:=2) eZ rfl (gDo rfl (dT h48) (qY (e:=(.int .i64 v49.Req)) eZ rfl (gDo rfl (dT h48) (zi (m:=2) rfl rfl (gDo rfl (dT h48) (zr (q:=2) (c:=(dI v32.Req)) eZ (bR rfl) rfl rfl (gDo rfl (dT h48) (jC rfl eZ (zK rfl (dT h48) eZ (zb (TQ.qn ⟨(decide (v49.Req=v32.Req)),H,(zg [] (sR rfl rfl) (blR rfl) (bkR rfl rfl rfl) GK.nil)⟩)))))))))))))
           ·exact zd eZ (dF h48) rfl (zd rfl (dF h48) rfl (zd rfl (dF h48) rfl (zd rfl (dF h48) rfl (zd rfl (dF h48) rfl (zd rfl (dF h48) rfl (zd rfl (dF h48) rfl (zd rfl (dF h48) rfl (zd rfl (dF h48) rfl (zP rfl (dF h48) eC (zb (TQ.qn ⟨false,H,(zg [] (sR rfl rfl) (blR rfl) (bkR rfl rfl rfl) GK.nil)⟩)))))))))))
         ·exact zj eZ (dF h42) (AW.exit (TQ.qe (TQ.qe (BQ.qe (TQ.qn ⟨(),H,(zg [] (sR rfl rfl) (blR rfl) (bkR rfl rfl rfl) GK.nil)⟩)))))
      ·refine aR (zi (m:=0) eZ rfl (zr (q:=0) (c:=(dI v32.Tx)) eZ bZ rfl rfl (za rfl (qf eZ eC (QS rfl eZ (za eZ ?_))))))
       rcases zF H with⟨h51,H⟩|⟨h51,H⟩
       ·exact zd eZ (dT h51) rfl (zd rfl (dT h51) rfl (zd rfl (dT h51) rfl (zK rfl (dT h51) eC (zb (TQ.qn ⟨true,H,(zg [] (sR rfl rfl) (blR rfl) (bkR rfl rfl rfl) GK.nil)⟩)))))
       ·refine gDo eZ (dF h51) (zB (es:=(yA v32)) rfl bZ rfl (gDo rfl (dF h51) ?_))
        obtain⟨v52,h53,H⟩:=zo H
        exact zS (u:=(oB v52)) eC Cl.fn (Ka h53) (Ec eZ En) (Vc (VD.agg rfl) Vn) rfl (gDo rfl (dF h51) (jU eZ (zP rfl (dF h51) eZ (zb (TQ.qn ⟨(!v52),H,(zg [] (sR rfl rfl) (blR rfl) (bkR rfl rfl rfl) GK.nil)⟩)))))
    ·exact zj eZ (dF h29) (AW.exit (TQ.qe (TQ.qe (BQ.qe (TQ.qn ⟨s27.1,H,(zg [] (sR rfl rfl) (blR rfl) (bkR rfl rfl rfl) GK.nil)⟩)))))
 ·refine aR (zi (m:=0) rfl rfl (zr (q:=0) (c:=(.d (.sl 5 (List.map zm a1.Recs)))) eZ bZ rfl rfl (qx eZ (n:=a1.Recs.length) lm (JT eZ eC (za eZ ?_)))))
  rcases zF H with⟨h54,H⟩|⟨h54,H⟩
  ·exact zd eZ (dT h54) rfl (zd rfl (dT h54) rfl (zd rfl (dT h54) rfl (zd rfl (dT h54) rfl (zK rfl (dT h54) eC (zb (TQ.qn ⟨true,H,(zg [] (sR rfl rfl) (blR rfl) (bkR rfl rfl rfl) GK.nil)⟩))))))
  ·exact gDo eZ (dF h54) (zi (m:=1) rfl rfl (gDo rfl (dF h54) (zr (q:=1) (c:=(.d (.sl 1 (List.map zt a1.Order)))) eZ bZ rfl rfl (gDo rfl (dF h54) (qx eZ (n:=a1.Order.length) lm (gDo rfl (dF h54) (JT eZ eC (zP rfl (dF h54) eZ (zb (TQ.qn ⟨(decide (60 < (a1.Order.length:Int))),H,(zg [] (sR rfl rfl) (blR rfl) (bkR rfl rfl rfl) GK.nil)⟩))))))))))
theorem YF{a1:(List zn)}{r:(List zn)}(H:yq a1=some r):Fn Try.prog 83 (lent [(.sl 4 (List.map zh a1))]) true [(.sl 4 (List.map zh r))]:=by
 refine f83 (fle rfl) ?_
 rw[zR]
 refine AW.weaken (t:=mk [(0,(.one (.d (.sl 4 (List.map zh a1)))))] [] (lk [])) (zE [] (sR rfl rfl) BL.nil BK.nil) ?_
 unfold yq at H
 unfold i83
 refine aV (za eC (xQ (aV (ZI (m:=384) rfl nZ (za eZ (xQ (zQ (fun t2:(List zn)=>ZW t2=some r) (fun t2=>mk [(3,(.one (.sl 320128 0 t2.length)))] [(320128,(.data 4 (List.map zh t2) true none))] (lk [])) ?_ ?_)))))))
 ·intro t2 H
  unfold ZW at H
  refine aV (za eZ (za eZ (xQ (AW.ret ?_))))
  obtain rfl:=(Option.some.inj H)
  exact jW (RL.cons (RV.tmp eZ) (jd bZ lm rfl) RL.nil) (by decide)
 ·refine aV (za eC (xQ (AW.block (AW.iter (fun s4:((List zn)×Int)=>mk [(0,(.one (.d (.sl 4 (List.map zh a1))))),(3,(.one (.sl 320192 0 s4.1.length))),(4,(oI s4.2))] [(320192,(.data 4 (List.map zh s4.1) true none))] (lk [])) H ((zg [] (kR rfl rfl (SL.cons eZ rfl (VWk.one (CWk.len (by first|(simp;done)|(simp;omega)|omega|(simp only[List.length_map];omega)))) (sR rfl rfl))) (blR rfl) (bkR rfl rfl rfl) GK.nil).trans (Xq 320192 4 3 true rfl nZ)) ?_))))
  intro kb5 s4 H
  unfold ZU at H
  refine aS (aV (za rfl (za rfl (qx eZ (n:=a1.length) lm (Z0 rfl eZ (xQ ?_))))))
  rcases zF H with⟨h6,H⟩|⟨h6,H⟩
  ·refine zk eZ (dT h6) (AW.skip (TQ.qn (aS (AW.block (aS (zp (ze (za rfl (zb (ze (za rfl (zb (ze ?_)))))))))))))
   obtain⟨v7,h8,H⟩:=zo H
   refine Zd rfl eZ h8 (zb (ze (ZF (es:=(jZ v7)) eZ rfl (zb (ze (Zy (n:=320) (m:=4) rfl rfl (nR rfl) (zb (ze (zw (es:=(jZ v7)) eZ rfl rfl rfl bZ rfl (zb (zx (xQ (aS (zp (ze (ZI (m:=1088) rfl (nR rfl) (zb (ze (zi (m:=1) rfl rfl (zb (ze (zr (q:=1) (c:=(.d (.sl 2 (List.map zZ v7.Reads)))) eZ bZ rfl rfl (zb (ze ?_))))))))))))))))))))))))
   obtain⟨h9,H⟩:=ym H
   refine zaC (f:=zZ) (m:=1280) (own:=true) (ys:=v7.Reads) (q:=v7.Reads.length) rfl rfl rfl eZ (El.lent fun _ _=>rfl) rfl h9 (by decide) (nR rfl) (zb (ze (zi (m:=1) rfl rfl (zb (ze (zw (es:=[(dI v7.Group),(.sl 1280 0 v7.Reads.length),(.d (.sl 2 (List.map zT v7.Writes))),(dI v7.Vote)]) eZ rfl rfl rfl (bR rfl) rfl (zb (zx (xQ (AW.weaken (zg [] (kr 5 rfl rfl (kr 0 rfl rfl (kr 3 rfl rfl (kr 4 rfl rfl SL.nil)))) (blR rfl) (BK.cons (n:=320) rfl bZ rfl rfl (BK.cons (n:=1280) rfl (bR rfl) rfl rfl (BK.cons (n:=320192) rfl (bR rfl) rfl rfl BK.nil))) GK.nil) (aS (zp (ze (ZI (m:=1408) rfl (nR rfl) (zb (ze (zi (m:=2) rfl rfl (zb (ze (zr (q:=2) (c:=(.d (.sl 2 (List.map zT v7.Writes)))) eZ bZ rfl rfl (zb (ze ?_))))))))))))))))))))))
   obtain⟨h10,H⟩:=ym H
   refine zaC (f:=zT) (m:=1600) (own:=true) (ys:=v7.Writes) (q:=v7.Writes.length) rfl rfl rfl eZ (El.lent fun _ _=>rfl) rfl h10 (by decide) (nR rfl) (zb (ze (zi (m:=2) rfl rfl (zb (ze (zw (es:=[(dI v7.Group),(.sl 1280 0 v7.Reads.length),(.sl 1600 0 v7.Writes.length),(dI v7.Vote)]) eZ rfl rfl rfl (bR rfl) rfl (zb (zx (xQ (zp (ze (za rfl (zb (ze (zB (es:=[(dI v7.Group),(.sl 1280 0 v7.Reads.length),(.sl 1600 0 v7.Writes.length),(dI v7.Vote)]) rfl bZ rfl (zb (ze (yU (m:=1856) (q:=1) (cs:=[(dI v7.Group),(.sl 1280 0 v7.Reads.length),(.sl 1600 0 v7.Writes.length),(dI v7.Vote)]) rfl (qk eZ j0) rfl (List.cons_ne_nil _ _) (by simp) (nR rfl) (zb ?_)))))))))))))))))))
   obtain⟨h11,H⟩:=ym H
   exact JJ (f:=zh) (xs:=s4.1) (t:=v7) (q:=(s4.1++[v7]).length) (ds:=[(.int .i64 v7.Group),(.sl 2 (List.map zZ v7.Reads)),(.sl 2 (List.map zT v7.Writes)),(.int .i64 v7.Vote)]) (ns:=[1280,1600]) rfl eZ (bR rfl) rfl bZ rfl (VOs.cons (VO.flat rfl) (VOs.cons (VO.sl (bR rfl) lm (ql fun _=>rfl)) (VOs.cons (VO.sl (bR rfl) lm (ql fun _=>rfl)) (VOs.cons (VO.flat rfl) VOs.nil)))) rfl rfl rfl rfl h11 (by decide) (erL.cons (v':=(.one (.sl 1856 0 1))) rfl (erL.cons (v':=(.agg [(dI v7.Group),.any,.any,(dI v7.Vote)])) rfl (erL.cons (v':=(.one (.sl 320192 0 s4.1.length))) rfl (erL.cons (v':=(.one (.ptr (.nm 320 0 2)))) rfl (erL.cons (v':=(.one .any)) rfl (erL.cons (v':=(.one (.d (.sl 2 (List.map zT v7.Writes))))) rfl (erL.cons (v':=(.one (.ptr (.nm 320 0 2)))) rfl (erL.cons (v':=(.one .zs)) rfl (erL.cons (v':=(.one (.ptr (.nm 320 0 0)))) rfl (erL.cons (v':=(.one (.d (.sl 4 (List.map zh a1))))) rfl (erL.cons (v':=(.one (.sl 320192 0 s4.1.length))) rfl (erL.cons (v':=(oI s4.2)) rfl erL.nil)))))))))))) (erH.cons (v':=(.vars 4 [(dI v7.Group),.any,.any,(dI v7.Vote)])) rfl rfl (erH.cons (v':=(.vars 4 [(dI v7.Group),.any,.any,(dI v7.Vote)])) rfl rfl (erH.drop rfl (erH.cons (v':=(.vars 4 [(dI v7.Group),.any,(.d (.sl 2 (List.map zT v7.Writes))),(dI v7.Vote)])) rfl rfl (erH.drop rfl (erH.cons (v':=(.data 4 (List.map zh s4.1) true none)) rfl rfl erH.nil)))))) erL.nil (erL.cons (v':=(.one (.sl 1856 0 1))) rfl (erL.cons (v':=(.agg [(dI v7.Group),.any,.any,(dI v7.Vote)])) rfl (erL.cons (v':=(.one .any)) rfl (erL.cons (v':=(.one (.ptr (.nm 320 0 2)))) rfl (erL.cons (v':=(.one .any)) rfl (erL.cons (v':=(.one (.d (.sl 2 (List.map zT v7.Writes))))) rfl (erL.cons (v':=(.one (.ptr (.nm 320 0 2)))) rfl (erL.cons (v':=(.one .zs)) rfl (erL.cons (v':=(.one (.ptr (.nm 320 0 0)))) rfl (erL.cons (v':=(.one (.d (.sl 4 (List.map zh a1))))) rfl (erL.cons (v':=(.one .any)) rfl (erL.cons (v':=(oI s4.2)) rfl erL.nil)))))))))))) (erH.cons (v':=(.vars 4 [(dI v7.Group),.any,.any,(dI v7.Vote)])) rfl rfl (erH.cons (v':=(.vars 4 [(dI v7.Group),.any,.any,(dI v7.Vote)])) rfl rfl (erH.cons (v':=(.vars 4 [(dI v7.Group),.any,(.d (.sl 2 (List.map zT v7.Writes))),(dI v7.Vote)])) rfl rfl (erH.drop rfl erH.nil)))) erL.nil (zx (za eZ (zb (BQ.qn (TQ.qn (aR (za rfl (qf eZ eC (za eZ (zb (TQ.qn ⟨((s4.1++[v7]),(IntKind.wrap .i64 (s4.2+1))),H,(zg [1856,320] (sR rfl rfl) (blR rfl) (bkR rfl rfl rfl) GK.nil)⟩)))))))))))
  ·exact zj eZ (dF h6) (AW.exit (TQ.qe (TQ.qe (BQ.qe (TQ.qn ⟨s4.1,H,((zg [] (sR rfl rfl) (blR rfl) (bkR rfl rfl rfl) GK.nil).trans (z4 320192 320128 rfl rfl (nR rfl) GR.nil))⟩)))))
theorem Q3{a1:zl}{r:zl}(H:j7 a1=some r):Fn Try.prog 65 (lent [(.agg (qI a1))]) true [(.agg (qI r))]:=by
 refine f65 (fle rfl) ?_
 rw[zR]
 refine AW.weaken (t:=mk [(0,(.agg (zy a1)))] [] (lk [])) (zE [] (sR rfl rfl) BL.nil BK.nil) ?_
 unfold j7 at H
 unfold i65
 refine aV (Jh (n:=64) (m:=2) (cs:=(zy a1)) rfl eZ rfl rfl nZ (Zy (n:=128) (m:=2) rfl rfl (nR rfl) (xQ (aS (zp (ze (ZI (m:=384) rfl (nR rfl) (zb (ze (zi (m:=1) rfl rfl (zb (ze (zr (q:=1) (c:=(.d (.sl 1 (List.map zt a1.Order)))) eZ (bR rfl) rfl rfl (zb (ze ?_)))))))))))))))
 obtain⟨h2,H⟩:=ym H
 refine zaC (f:=zt) (m:=576) (own:=true) (ys:=a1.Order) (q:=a1.Order.length) rfl rfl rfl eZ (El.lent fun _ _=>rfl) rfl h2 (by decide) (nR rfl) (zb (ze (Z6 (cs:=[.zs,(.sl 576 0 a1.Order.length)]) (qk eZ j0) rfl (zb (ze (Zy (n:=192) (m:=2) rfl rfl (nR rfl) (zb (ze (zw (es:=[.zs,(.sl 576 0 a1.Order.length)]) eZ rfl rfl rfl bZ rfl (zb (zx (xQ (zQ (fun t3:(List zD)=>(QC a1) t3=some r) (fun t3=>mk [(2,(.one (.ptr (.nm 128 0 0)))),(3,(.one (.ptr (.nm 192 0 0))))] [(128,(.vars 2 [.zs,.zs])),(320128,(.data 5 (List.map zm t3) true none)),(192,(.vars 2 [(.sl 320128 0 t3.length),(.sl 576 0 a1.Order.length)])),(576,(.data 1 (List.map zt a1.Order) true none))] (lk [])) ?_ ?_)))))))))))))
 ·intro t3 H
  unfold QC at H
  refine aS (zp (ze (zB (es:=[(.sl 320128 0 t3.length),(.sl 576 0 a1.Order.length)]) rfl (bR rfl) rfl (zb (ze (zw (es:=[(.sl 320128 0 t3.length),(.sl 576 0 a1.Order.length)]) rfl eZ rfl rfl bZ rfl (zb (zx (xQ (AW.ret ?_))))))))))
  cases H
  exact jW (RL.cons (qj (es:=[(.sl 320128 0 t3.length),(.sl 576 0 a1.Order.length)]) rfl bZ rfl) (VO.aggs (VOs.cons (jd (bR rfl) lm rfl) (VOs.cons (VO.sl (bR rfl) lm (ql fun _=>rfl)) VOs.nil))) RL.nil) (by decide)
 ·refine aV (za eC (xQ (AW.block (AW.iter (fun s5:(Int×(List zD))=>mk [(1,(.one (.ptr (.nm 64 0 0)))),(2,(.one (.ptr (.nm 128 0 0)))),(3,(.one (.ptr (.nm 192 0 0)))),(4,(oI s5.1))] [(64,(.vars 2 (zy a1))),(128,(.vars 2 [.zs,.zs])),(320192,(.data 5 (List.map zm s5.2) true none)),(192,(.vars 2 [(.sl 320192 0 s5.2.length),(.sl 576 0 a1.Order.length)])),(576,(.data 1 (List.map zt a1.Order) true none))] (lk [])) H ((zg [] (sR rfl rfl) (blR rfl) (BK.cons rfl (bR rfl) rfl rfl (BK.cons rfl (bR rfl) rfl rfl (BK.cons rfl (bR rfl) rfl rfl (BK.cons rfl bZ rfl (by first|rfl|simp) (bkR rfl rfl rfl))))) GK.nil).trans (kh 320192 5 192 0 true bZ rfl (nR rfl))) ?_))))
  intro kb6 s5 H
  unfold QI at H
  refine aS (aV (za rfl (zi (m:=0) rfl rfl (zr (q:=0) (c:=(.d (.sl 5 (List.map zm a1.Recs)))) eZ bZ rfl rfl (qx eZ (n:=a1.Recs.length) lm (Z0 rfl eZ (xQ ?_)))))))
  rcases zF H with⟨h7,H⟩|⟨h7,H⟩
  ·refine zk eZ (dT h7) (AW.skip (TQ.qn (aS (AW.block (aS (zp (ze (zi (m:=0) rfl rfl (zb (ze (zr (q:=0) (c:=(.d (.sl 5 (List.map zm a1.Recs)))) eZ bZ rfl rfl (zb (ze (za rfl (zb (ze ?_))))))))))))))))
   obtain⟨v8,h9,H⟩:=zo H
   refine Zd rfl eZ h9 (zb (ze (ZF (es:=(yA v8)) eZ rfl (zb (ze (Zy (n:=320) (m:=5) rfl rfl (nR rfl) (zb (ze (zw (es:=(yA v8)) eZ rfl rfl rfl bZ rfl (zb (zx (xQ (aS (zp (ze (zi (m:=4) eZ rfl (zb (ze (zr (q:=4) (c:=(.d (.sl 4 (List.map zh v8.Shares)))) eZ bZ rfl rfl (zb (ze ?_)))))))))))))))))))))
   obtain⟨v10,h11,H⟩:=zo H
   refine jS (u:=(.one (.sl 1600 0 v10.length))) (bs:=[(1600,(.data 4 (List.map zh v10) true none))]) eC Cl.fn (YF h11) (Ec eZ En) (Vc Vp Vn) (by simp[qW,jB,qz,jn,qH]) rfl (fC (nR rfl) rfl (fC (nR rfl) rfl fN)) (zb (ze (zi (m:=4) rfl rfl (zb (ze (zw (es:=[(dI v8.Tx),(dI v8.Client),(dI v8.Req),(dI v8.State),(.sl 1600 0 v10.length)]) eZ rfl rfl rfl (bR rfl) rfl (zb (zx (xQ (AW.weaken (zg [] (kr 5 rfl rfl (kr 1 rfl rfl (kr 2 rfl rfl (kr 3 rfl rfl (kr 4 rfl rfl SL.nil))))) (blR rfl) (BK.cons (n:=320) rfl bZ rfl rfl (BK.cons (n:=1600) rfl (bR rfl) rfl rfl (BK.cons (n:=64) rfl (bR rfl) rfl rfl (BK.cons (n:=128) rfl (bR rfl) rfl rfl (BK.cons (n:=320192) rfl (bR rfl) rfl rfl (BK.cons (n:=192) rfl (bR rfl) rfl rfl (BK.cons (n:=576) rfl (bR rfl) rfl rfl BK.nil))))))) GK.nil) (zp (ze (zi (m:=0) rfl rfl (zb (ze (zr (q:=0) (c:=(.sl 320192 0 s5.2.length)) eZ (bR rfl) rfl rfl (zb (ze (zB (es:=[(dI v8.Tx),(dI v8.Client),(dI v8.Req),(dI v8.State),(.sl 1600 0 v10.length)]) rfl bZ rfl (zb (ze (yU (m:=1920) (q:=1) (cs:=[(dI v8.Tx),(dI v8.Client),(dI v8.Req),(dI v8.State),(.sl 1600 0 v10.length)]) rfl (qk eZ j0) rfl (List.cons_ne_nil _ _) (by simp) (nR rfl) (zb ?_)))))))))))))))))))))))
   obtain⟨h12,H⟩:=ym H
   exact JJ (f:=zm) (xs:=s5.2) (t:=(zD.mk v8.Tx v8.Client v8.Req v8.State v10)) (q:=(s5.2++[(zD.mk v8.Tx v8.Client v8.Req v8.State v10)]).length) (ds:=[(.int .i64 v8.Tx),(.int .i64 v8.Client),(.int .i64 v8.Req),(.int .i64 v8.State),(.sl 4 (List.map zh v10))]) (ns:=[1600]) rfl eZ (bR rfl) rfl bZ rfl (VOs.cons (VO.flat rfl) (VOs.cons (VO.flat rfl) (VOs.cons (VO.flat rfl) (VOs.cons (VO.flat rfl) (VOs.cons (jd (bR rfl) lm rfl) VOs.nil))))) rfl rfl rfl rfl h12 (by decide) (erL.cons (v':=(.one (.sl 1920 0 1))) rfl (erL.cons (v':=(.agg [(dI v8.Tx),(dI v8.Client),(dI v8.Req),(dI v8.State),.any])) rfl (erL.cons (v':=(.one (.sl 320192 0 s5.2.length))) rfl (erL.cons (v':=(.one (.ptr (.nm 192 0 0)))) rfl (erL.cons (v':=(.one (.ptr (.nm 320 0 0)))) rfl (erL.cons (v':=(.one (.ptr (.nm 64 0 0)))) rfl (erL.cons (v':=(.one (.ptr (.nm 128 0 0)))) rfl (erL.cons (v':=(.one (.ptr (.nm 192 0 0)))) rfl (erL.cons (v':=(oI s5.1)) rfl erL.nil))))))))) (erH.cons (v':=(.vars 5 [(dI v8.Tx),(dI v8.Client),(dI v8.Req),(dI v8.State),.any])) rfl rfl (erH.cons (v':=(.vars 5 [(dI v8.Tx),(dI v8.Client),(dI v8.Req),(dI v8.State),.any])) rfl rfl (erH.drop rfl (erH.cons (v':=(.vars 2 (zy a1))) rfl rfl (erH.cons (v':=(.vars 2 [.zs,.zs])) rfl rfl (erH.cons (v':=(.data 5 (List.map zm s5.2) true none)) rfl rfl (erH.cons (v':=(.vars 2 [(.sl 320192 0 s5.2.length),(.sl 576 0 a1.Order.length)])) rfl rfl (erH.cons (v':=(.data 1 (List.map zt a1.Order) true none)) rfl rfl erH.nil)))))))) erL.nil (erL.cons (v':=(.one (.sl 1920 0 1))) rfl (erL.cons (v':=(.agg [(dI v8.Tx),(dI v8.Client),(dI v8.Req),(dI v8.State),.any])) rfl (erL.cons (v':=(.one .any)) rfl (erL.cons (v':=(.one (.ptr (.nm 192 0 0)))) rfl (erL.cons (v':=(.one (.ptr (.nm 320 0 0)))) rfl (erL.cons (v':=(.one (.ptr (.nm 64 0 0)))) rfl (erL.cons (v':=(.one (.ptr (.nm 128 0 0)))) rfl (erL.cons (v':=(.one (.ptr (.nm 192 0 0)))) rfl (erL.cons (v':=(oI s5.1)) rfl erL.nil))))))))) (erH.cons (v':=(.vars 5 [(dI v8.Tx),(dI v8.Client),(dI v8.Req),(dI v8.State),.any])) rfl rfl (erH.cons (v':=(.vars 5 [(dI v8.Tx),(dI v8.Client),(dI v8.Req),(dI v8.State),.any])) rfl rfl (erH.cons (v':=(.vars 2 (zy a1))) rfl rfl (erH.cons (v':=(.vars 2 [.zs,.zs])) rfl rfl (erH.drop rfl (erH.cons (v':=(.vars 2 [.any,(.sl 576 0 a1.Order.length)])) rfl rfl (erH.cons (v':=(.data 1 (List.map zt a1.Order) true none)) rfl rfl erH.nil))))))) erL.nil (ze (zi (m:=0) rfl rfl (zb (ze (zw (es:=[(.sl 320192 0 ((s5.2++[(zD.mk v8.Tx v8.Client v8.Req v8.State v10)]).length)),(.sl 576 0 a1.Order.length)]) eZ rfl rfl rfl (bR rfl) rfl (zb (zx (zb (BQ.qn (TQ.qn (aR (za rfl (qf eZ eC (za eZ (zb (TQ.qn ⟨((IntKind.wrap .i64 (s5.1+1)),(s5.2++[(zD.mk v8.Tx v8.Client v8.Req v8.State v10)])),H,(zg [1920,320] (sR rfl rfl) (blR rfl) (BK.cons rfl (bR rfl) rfl rfl (BK.cons rfl (bR rfl) rfl rfl (BK.cons rfl (bR rfl) rfl rfl (BK.cons rfl bZ rfl (by first|rfl|simp) (bkR rfl rfl rfl))))) GK.nil)⟩))))))))))))))))
  ·exact zj eZ (dF h7) (AW.exit (TQ.qe (TQ.qe (BQ.qe (TQ.qn ⟨s5.2,H,((zg [64] (sR rfl rfl) (blR rfl) (BK.cons rfl (bR rfl) rfl rfl (BK.cons rfl (bR rfl) rfl rfl (BK.cons rfl (bR rfl) rfl (by first|rfl|simp) (bkR rfl rfl rfl)))) GK.nil).trans (z4 320192 320128 rfl rfl (nR rfl) GR.nil))⟩)))))
theorem Xx{a1:zl}{a2:Int}{a3:Int}{r:Int}(H:Zx a1 a2 a3=some r):Fn Try.prog 66 (lent [(.agg (qI a1)),(.int .i64 a2),(.int .i64 a3)]) true [(.int .i64 r)]:=by
 refine f66 (fle rfl) ?_
 rw[zR]
 refine AW.weaken (zE [] (kv 0 (.agg (zy a1)) rfl rfl (kv 1 (oI a2) rfl rfl (kv 2 (oI a3) rfl rfl SL.nil))) BL.nil BK.nil) ?_
 unfold Zx at H
 unfold i66
 refine aV (Jh (n:=192) (m:=2) (cs:=(zy a1)) rfl eZ rfl rfl nZ (za eC (xQ (zQ (fun t4:Unit=>Jb t4=some r) (fun t4=>mk [] [] noG) ?_ ?_))))
 ·intro t4 H
  unfold Jb at H
  refine aV (za eC (xQ (AW.ret ?_)))
  cases H
  exact eE rfl rfl
 ·refine aV (za eC (xQ (AW.block (AW.iter (fun s6:Int=>mk [(1,(oI a2)),(2,(oI a3)),(3,(.one (.ptr (.nm 192 0 0)))),(7,(oI s6))] [(192,(.vars 2 (zy a1)))] noG) H (zE [] (sR rfl rfl) (blR rfl) (bkR rfl rfl rfl)) ?_))))
  intro kb7 s6 H
  unfold y6 at H
  refine aS (aV (za rfl (zi (m:=0) rfl rfl (zr (q:=0) (c:=(.d (.sl 5 (List.map zm a1.Recs)))) eZ bZ rfl rfl (qx eZ (n:=a1.Recs.length) lm (Z0 rfl eZ (za eZ ?_)))))))
  rcases zF H with⟨h8,H⟩|⟨h8,H⟩
  ·refine gDo eZ (dT h8) (zB (es:=(zy a1)) rfl bZ rfl (gDo rfl (dT h8) ?_))
   obtain⟨v9,h10,H⟩:=zo H
   refine zS (u:=(oB v9)) eC Cl.fn (Zo h10) (Ec eZ En) (Vc (VD.agg rfl) Vn) rfl (zK rfl (dT h8) eZ (xQ ?_))
   rcases zF H with⟨h11,H⟩|⟨h11,H⟩
   ·refine zk eZ h11 (AW.skip (TQ.qn (aS (AW.block (zQ (fun t12:Bool=>(yC a1 s6 kb7) t12=some r) (fun t12=>mk [(1,(oI a2)),(2,(oI a3)),(3,(.one (.ptr (.nm 192 0 0)))),(7,(oI s6)),(36,(oB t12))] [(192,(.vars 2 (zy a1)))] noG) ?_ ?_)))))
    ·intro t12 H
     unfold yC at H
     rcases zF H with⟨h14,H⟩|⟨h14,H⟩
     ·refine zk rfl h14 (aV (zi (m:=0) rfl rfl (zr (q:=0) (c:=(.d (.sl 5 (List.map zm a1.Recs)))) eZ bZ rfl rfl (za rfl ?_))))
      obtain⟨v15,h16,H⟩:=zo H
      refine Zd rfl eZ h16 (ju (m:=0) eZ rfl (qY (e:=(.int .i64 v15.Tx)) eZ rfl (za eZ (xQ (AW.ret (BQ.qr (TQ.qr (TQ.qr (BQ.qr (TQ.qr ?_))))))))))
      cases H
      exact eE rfl rfl
     ·exact zj rfl (nt h14) (AW.skip (BQ.qn (TQ.qn (aR (za rfl (qf eZ eC (za eZ (zb (TQ.qn ⟨(IntKind.wrap .i64 (s6+1)),H,(zE [] (sR rfl rfl) (blR rfl) (bkR rfl rfl rfl))⟩)))))))))
    ·refine aR (zi (m:=0) rfl rfl (zr (q:=0) (c:=(.d (.sl 5 (List.map zm a1.Recs)))) eZ bZ rfl rfl (za rfl ?_)))
     obtain⟨v17,h18,H⟩:=zo H
     refine Zd rfl eZ h18 (ju (m:=1) eZ rfl (qY (e:=(.int .i64 v17.Client)) eZ rfl (za rfl (jC rfl eZ (za eZ ?_)))))
     rcases zF H with⟨h19,H⟩|⟨h19,H⟩
     ·refine gDo eZ (dT h19) (zi (m:=0) rfl rfl (gDo rfl (dT h19) (zr (q:=0) (c:=(.d (.sl 5 (List.map zm a1.Recs)))) eZ bZ rfl rfl (gDo rfl (dT h19) (za rfl (gDo rfl (dT h19) ?_))))))
      obtain⟨v20,h21,H⟩:=zo H
      exact Zd rfl eZ h21 (gDo rfl (dT h19) (ju (m:=2) eZ rfl (gDo rfl (dT h19) (qY (e:=(.int .i64 v20.Req)) eZ rfl (gDo rfl (dT h19) (za rfl (gDo rfl (dT h19) (jC rfl eZ (zK rfl (dT h19) eZ (zb (TQ.qn ⟨(decide (v20.Req=a3)),H,(zE [] (sR rfl rfl) (blR rfl) (bkR rfl rfl rfl))⟩)))))))))))
     ·exact zd eZ (dF h19) rfl (zd rfl (dF h19) rfl (zd rfl (dF h19) rfl (zd rfl (dF h19) rfl (zd rfl (dF h19) rfl (zd rfl (dF h19) rfl (zd rfl (dF h19) rfl (zd rfl (dF h19) rfl (zP rfl (dF h19) eC (zb (TQ.qn ⟨false,H,(zE [] (sR rfl rfl) (blR rfl) (bkR rfl rfl rfl))⟩))))))))))
   ·exact zj eZ (nt h11) (AW.exit (TQ.qe (TQ.qe (BQ.qe (TQ.qn ⟨(),H,(zE [192] SL.nil (blR rfl) BK.nil)⟩)))))
  ·exact zd eZ (dF h8) rfl (zd rfl (dF h8) rfl (zP rfl (dF h8) eC (xQ (zj eZ rfl (AW.exit (TQ.qe (TQ.qe (BQ.qe (TQ.qn ⟨(),H,(zE [192] SL.nil (blR rfl) BK.nil)⟩)))))))))
theorem y1{a1:zl}{a2:Int}{a3:Int}{r:(zl×Int×Int)}(H:zY a1 a2 a3=some r):Fn Try.prog 18 (lent [(.agg (qI a1)),(.int .i64 a2),(.int .i64 a3)]) true [(.agg (qI r.1)),(.int .i64 r.2.1),(.int .i64 r.2.2)]:=by
 refine f18 (fle rfl) ?_
 rw[zR]
 refine AW.weaken (t:=mk [(0,(.agg (zy a1))),(1,(oI a2)),(2,(oI a3))] [] (lk [])) (zE [] (sR rfl rfl) BL.nil BK.nil) ?_
 unfold zY at H
 unfold i18
 refine aV (Jh (n:=192) (m:=2) (cs:=(zy a1)) rfl eZ rfl rfl nZ (Zy (n:=384) (m:=2) rfl rfl (nR rfl) (za eC (za eC (xQ (aS (zQ (fun t4:Bool=>(z3 a1 a2 a3) t4=some r) (fun t4=>mk [(1,(oI a2)),(2,(oI a3)),(3,(.one (.ptr (.nm 192 0 0)))),(6,(.one (.ptr (.nm 384 0 0)))),(23,(oB t4))] [(192,(.vars 2 (zy a1))),(384,(.vars 2 [.zs,.zs]))] (lk [])) ?_ ?_)))))))
 ·intro t4 H
  unfold z3 at H
  rcases zF H with⟨h6,H⟩|⟨h6,H⟩
  ·refine zk rfl h6 (aS (zp (ze (Z6 (cs:=[.zs,.zs]) j0 rfl (zb (ze (zw (es:=[.zs,.zs]) rfl eZ rfl rfl (bR rfl) rfl (zb (zx (za eC (za eC (xQ (AW.ret (TQ.qr ?_))))))))))))))
   cases H
   exact jW (RL.cons (qj (es:=[.zs,.zs]) rfl bZ rfl) (VO.aggs (VOs.cons VO.zs (VOs.cons VO.zs VOs.nil))) (RL.cons (RV.tmp rfl) (VO.flat rfl) (RL.cons (RV.tmp eZ) (VO.flat rfl) RL.nil))) List.nodup_nil
  ·refine zj rfl (nt h6) (AW.skip (TQ.qn (aS (zp (ze (zB (es:=(zy a1)) rfl bZ rfl (zb (ze ?_))))))))
   obtain⟨v7,h8,H⟩:=zo H
   refine jS (u:=(.agg [(.sl 1664 0 v7.Recs.length),(.sl 1665 0 v7.Order.length)])) (bs:=[(1664,(.data 5 (List.map zm v7.Recs) true none)),(1665,(.data 1 (List.map zt v7.Order) true none))]) eC Cl.fn (Q3 h8) (Ec eZ En) (Vc (VD.agg rfl) Vn) (by simp[qW,jB,qz,jn,qH]) rfl (fC (nR rfl) rfl (fC (nR rfl) rfl (fC (nR rfl) rfl fN))) (zb (ze (Zy (n:=576) (m:=2) rfl rfl (nR rfl) (zb (ze (zw (es:=[(.sl 1664 0 v7.Recs.length),(.sl 1665 0 v7.Order.length)]) eZ rfl rfl rfl bZ rfl (zb (zx (xQ (aV (zB (es:=(zy a1)) rfl (bR rfl) rfl (za rfl (za rfl ?_)))))))))))))
   obtain⟨v9,h10,H⟩:=zo H
   refine zS (u:=(oI v9)) eC Cl.fn (Xx h10) (Ec rfl (Ec rfl (Ec eZ En))) (Vc (VD.agg rfl) (Vc Vp (Vc Vp Vn))) rfl (za eZ (xQ (aS (AW.block (aV (za eZ (JT eZ eC (za eZ (xQ (AW.weaken (zg [] (kr 31 rfl rfl (kr 10 rfl rfl (kr 9 rfl rfl (kr 1 rfl rfl (kr 2 rfl rfl (kr 3 rfl rfl (kr 6 rfl rfl SL.nil))))))) (blR rfl) (BK.cons (n:=576) rfl bZ rfl rfl (BK.cons (n:=1665) rfl (bR rfl) rfl rfl (BK.cons (n:=1664) rfl (bR rfl) rfl rfl (BK.cons (n:=192) rfl (bR rfl) rfl rfl (BK.cons (n:=384) rfl (bR rfl) rfl rfl BK.nil))))) GK.nil) ?_))))))))))
   rcases zF H with⟨h11,H⟩|⟨h11,H⟩
   ·refine zk eZ (dT h11) (aS (zp (ze (zB (es:=[(.sl 1664 0 v7.Recs.length),(.sl 1665 0 v7.Order.length)]) rfl bZ rfl (zb (ze (za rfl (zb (ze (zw (es:=[(.sl 1664 0 v7.Recs.length),(.sl 1665 0 v7.Order.length)]) rfl rfl rfl rfl (bR rfl) rfl (zb (zx (za eZ (za eC (xQ (AW.ret (BQ.qr (TQ.qr ?_))))))))))))))))))
    cases H
    exact jW (RL.cons (qj (es:=[(.sl 1664 0 v7.Recs.length),(.sl 1665 0 v7.Order.length)]) rfl bZ rfl) (VO.aggs (VOs.cons (jd (bR rfl) lm rfl) (VOs.cons (VO.sl (bR rfl) lm (ql fun _=>rfl)) VOs.nil))) (RL.cons (RV.tmp rfl) (VO.flat rfl) (RL.cons (RV.tmp eZ) (VO.flat rfl) RL.nil))) (by decide)
   ·refine zj eZ (dF h11) (aV (zi (m:=0) rfl rfl (zr (q:=0) (c:=(.d (.sl 5 (List.map zm a1.Recs)))) eZ (bR rfl) rfl rfl (qx eZ (n:=a1.Recs.length) lm (jC eZ eC (za eZ (xQ ?_)))))))
    rcases zF H with⟨h12,H⟩|⟨h12,H⟩
    ·refine zk eZ (dT h12) (aS (zp (ze (zB (es:=[(.sl 1664 0 v7.Recs.length),(.sl 1665 0 v7.Order.length)]) rfl bZ rfl (zb (ze (zw (es:=[(.sl 1664 0 v7.Recs.length),(.sl 1665 0 v7.Order.length)]) rfl eZ rfl rfl (bR rfl) rfl (zb (zx (za eC (za eC (xQ (AW.ret (BQ.qr (TQ.qr ?_)))))))))))))))
     cases H
     exact jW (RL.cons (qj (es:=[(.sl 1664 0 v7.Recs.length),(.sl 1665 0 v7.Order.length)]) rfl bZ rfl) (VO.aggs (VOs.cons (jd (bR rfl) lm rfl) (VOs.cons (VO.sl (bR rfl) lm (ql fun _=>rfl)) VOs.nil))) (RL.cons (RV.tmp rfl) (VO.flat rfl) (RL.cons (RV.tmp eZ) (VO.flat rfl) RL.nil))) (by decide)
    ·refine zj eZ (dF h12) (AW.skip (BQ.qn (TQ.qn (aV (zi (m:=0) rfl rfl (zr (q:=0) (c:=(.d (.sl 5 (List.map zm a1.Recs)))) eZ (bR rfl) rfl rfl (qx eZ (n:=a1.Recs.length) lm (qf eZ eC (za eZ (xQ (AW.weaken (zg [192] (kr 10 rfl rfl (kr 9 rfl rfl (kr 1 rfl rfl (kr 2 rfl rfl (kr 6 rfl rfl SL.nil))))) (blR rfl) (BK.cons (n:=576) rfl bZ rfl rfl (BK.cons (n:=1665) rfl (bR rfl) rfl rfl (BK.cons (n:=1664) rfl (bR rfl) rfl rfl (BK.cons (n:=384) rfl (bR rfl) rfl rfl BK.nil)))) GK.nil) (aS (zp (ze (zi (m:=0) rfl rfl (zb (ze (zr (q:=0) (c:=(.sl 1664 0 v7.Recs.length)) eZ bZ rfl rfl (zb (ze (za rfl (zb (ze (za rfl (zb (ze (za rfl (zb (ze (Z6 (cs:=[(dI (IntKind.wrap .i64 ((a1.Recs.length:Int)+1))),(dI a2),(dI a3),(dI 1),.zs]) (qk rfl (qk rfl (qk eZ (qk eC j0)))) rfl (zb (ze (yU (m:=3328) (q:=1) (cs:=[(dI (IntKind.wrap .i64 ((a1.Recs.length:Int)+1))),(dI a2),(dI a3),(dI 1),.zs]) rfl (qk eZ j0) rfl (List.cons_ne_nil _ _) (by simp) (nR rfl) (zb ?_))))))))))))))))))))))))))))))))))
     obtain⟨h13,H⟩:=ym H
     refine JJ (f:=zm) (xs:=v7.Recs) (t:=(zD.mk (IntKind.wrap .i64 ((a1.Recs.length:Int)+1)) a2 a3 1 ([]:List zn))) (q:=(v7.Recs++[(zD.mk (IntKind.wrap .i64 ((a1.Recs.length:Int)+1)) a2 a3 1 ([]:List zn))]).length) (ds:=[(.int .i64 (IntKind.wrap .i64 ((a1.Recs.length:Int)+1))),(.int .i64 a2),(.int .i64 a3),(.int .i64 1),(.sl 4 (List.map zh ([]:List zn)))]) (ns:=[]) rfl eZ (bR rfl) rfl bZ rfl (VOs.cons (VO.flat rfl) (VOs.cons (VO.flat rfl) (VOs.cons (VO.flat rfl) (VOs.cons (VO.flat rfl) (VOs.cons VO.zs VOs.nil))))) rfl rfl rfl rfl h13 (by decide) (erL.cons (v':=(.one (.sl 3328 0 1))) rfl (erL.cons (v':=(.agg [(dI (IntKind.wrap .i64 ((a1.Recs.length:Int)+1))),(dI a2),(dI a3),(dI 1),.zs])) rfl (erL.cons (v':=(oI a3)) rfl (erL.cons (v':=(oI a2)) rfl (erL.cons (v':=(oI (IntKind.wrap .i64 ((a1.Recs.length:Int)+1)))) rfl (erL.cons (v':=(.one (.sl 1664 0 v7.Recs.length))) rfl (erL.cons (v':=(.one (.ptr (.nm 576 0 0)))) rfl (erL.cons (v':=(oI (IntKind.wrap .i64 ((a1.Recs.length:Int)+1)))) rfl (erL.cons (v':=(.one (.ptr (.nm 576 0 0)))) rfl (erL.cons (v':=(oI a2)) rfl (erL.cons (v':=(oI a3)) rfl (erL.cons (v':=(.one (.ptr (.nm 384 0 0)))) rfl erL.nil)))))))))))) (erH.cons (v':=(.vars 5 [(dI (IntKind.wrap .i64 ((a1.Recs.length:Int)+1))),(dI a2),(dI a3),(dI 1),.zs])) rfl rfl (erH.cons (v':=(.vars 2 [(.sl 1664 0 v7.Recs.length),(.sl 1665 0 v7.Order.length)])) rfl rfl (erH.cons (v':=(.data 1 (List.map zt v7.Order) true none)) rfl rfl (erH.cons (v':=(.data 5 (List.map zm v7.Recs) true none)) rfl rfl (erH.cons (v':=(.vars 2 [.zs,.zs])) rfl rfl erH.nil))))) erL.nil (erL.cons (v':=(.one (.sl 3328 0 1))) rfl (erL.cons (v':=(.agg [(dI (IntKind.wrap .i64 ((a1.Recs.length:Int)+1))),(dI a2),(dI a3),(dI 1),.zs])) rfl (erL.cons (v':=(oI a3)) rfl (erL.cons (v':=(oI a2)) rfl (erL.cons (v':=(oI (IntKind.wrap .i64 ((a1.Recs.length:Int)+1)))) rfl (erL.cons (v':=(.one .any)) rfl (erL.cons (v':=(.one (.ptr (.nm 576 0 0)))) rfl (erL.cons (v':=(oI (IntKind.wrap .i64 ((a1.Recs.length:Int)+1)))) rfl (erL.cons (v':=(.one (.ptr (.nm 576 0 0)))) rfl (erL.cons (v':=(oI a2)) rfl (erL.cons (v':=(oI a3)) rfl (erL.cons (v':=(.one (.ptr (.nm 384 0 0)))) rfl erL.nil)))))))))))) (erH.cons (v':=(.vars 5 [(dI (IntKind.wrap .i64 ((a1.Recs.length:Int)+1))),(dI a2),(dI a3),(dI 1),.zs])) rfl rfl (erH.cons (v':=(.vars 2 [.any,(.sl 1665 0 v7.Order.length)])) rfl rfl (erH.cons (v':=(.data 1 (List.map zt v7.Order) true none)) rfl rfl (erH.drop rfl (erH.cons (v':=(.vars 2 [.zs,.zs])) rfl rfl erH.nil))))) erL.nil (ze (zi (m:=0) rfl rfl (zb (ze (zw (es:=[(.sl 1664 0 ((v7.Recs++[(zD.mk (IntKind.wrap .i64 ((a1.Recs.length:Int)+1)) a2 a3 1 ([]:List zn))]).length)),(.sl 1665 0 v7.Order.length)]) eZ rfl rfl rfl (bR rfl) rfl (zb (zx (xQ (aS (zp (ze (zB (es:=[(.sl 1664 0 ((v7.Recs++[(zD.mk (IntKind.wrap .i64 ((a1.Recs.length:Int)+1)) a2 a3 1 ([]:List zn))]).length)),(.sl 1665 0 v7.Order.length)]) rfl bZ rfl (zb (ze (za rfl (zb (ze (zw (es:=[(.sl 1664 0 ((v7.Recs++[(zD.mk (IntKind.wrap .i64 ((a1.Recs.length:Int)+1)) a2 a3 1 ([]:List zn))]).length)),(.sl 1665 0 v7.Order.length)]) rfl rfl rfl rfl (bR rfl) rfl (zb (zx (za eZ (za eC (xQ (AW.weaken (zg [576,3328] (kr 8 rfl rfl (kr 7 rfl rfl (kr 6 rfl rfl SL.nil))) (blR rfl) (BK.cons (n:=384) rfl bZ rfl rfl (BK.cons (n:=1664) rfl (bR rfl) rfl rfl (BK.cons (n:=1665) rfl (bR rfl) rfl rfl BK.nil))) GK.nil) (AW.ret ?_)))))))))))))))))))))))))
     cases H
     exact jW (RL.cons (qj (es:=[(.sl 1664 0 ((v7.Recs++[(zD.mk (IntKind.wrap .i64 ((a1.Recs.length:Int)+1)) a2 a3 1 ([]:List zn))]).length)),(.sl 1665 0 v7.Order.length)]) rfl bZ rfl) (VO.aggs (VOs.cons (jd (bR rfl) lm rfl) (VOs.cons (VO.sl (bR rfl) lm (ql fun _=>rfl)) VOs.nil))) (RL.cons (RV.tmp rfl) (VO.flat rfl) (RL.cons (RV.tmp eZ) (VO.flat rfl) RL.nil))) (by decide)
 ·refine aR (zB (es:=(zy a1)) rfl (bR rfl) rfl ?_)
  obtain⟨v14,h15,H⟩:=zo H
  refine zS (u:=(oB v14)) eC Cl.fn (Zo h15) (Ec eZ En) (Vc (VD.agg rfl) Vn) rfl (jU eZ (za eZ ?_))
  rcases zF H with⟨h16,H⟩|⟨h16,H⟩
  ·refine gDo eZ (cN h16) (za rfl (gDo rfl (cN h16) ?_))
   obtain⟨v17,h18,H⟩:=zo H
   refine zS (u:=(oB v17)) eC Cl.fn (xn h18) (Ec eZ En) (Vc Vp Vn) rfl (gDo rfl (cN h16) (jU eZ (zP rfl (cN h16) eZ (za eZ ?_))))
   rcases zF H with⟨h19,H⟩|⟨h19,H⟩
   ·refine gDo eZ (cN h19) (za rfl (gDo rfl (cN h19) ?_))
    obtain⟨v20,h21,H⟩:=zo H
    exact zS (u:=(oB v20)) eC Cl.fn (jA h21) (Ec eZ (Ec eC (Ec eC En))) (Vc Vp (Vc Vp (Vc Vp Vn))) rfl (gDo rfl (cN h19) (jU eZ (zP rfl (cN h19) eZ (zb (TQ.qn ⟨(!v20),H,(zg [] (sR rfl rfl) (blR rfl) (bkR rfl rfl rfl) GK.nil)⟩)))))
   ·exact zd eZ (cN (nt h19)) rfl (zd rfl (cN (nt h19)) rfl (zd rfl (cN (nt h19)) rfl (zK rfl (cN (nt h19)) eC (zb (TQ.qn ⟨true,H,(zg [] (sR rfl rfl) (blR rfl) (bkR rfl rfl rfl) GK.nil)⟩)))))
  ·exact zd eZ (cN (nt h16)) rfl (zd rfl (cN (nt h16)) rfl (zd rfl (cN (nt h16)) rfl (zK rfl (cN (nt h16)) eC (za eZ (zd eZ rfl rfl (zd rfl rfl rfl (zd rfl rfl rfl (zK rfl rfl eC (zb (TQ.qn ⟨true,H,(zg [] (sR rfl rfl) (blR rfl) (bkR rfl rfl rfl) GK.nil)⟩))))))))))
theorem xi{pv:Value}{cb1:(List Int)}{a2:(Int×Int)}{r:((List qy)×(Int×Int))}(H:j3 cb1 a2=some r):FnC Try.prog pv (.sl 1 (List.map zM cb1)) 168 [⟨(.ptr [(.pin pv),(.int .i64 a2.1),(.int .i64 a2.2)]),.m (.ptr [(.pin pv),(.int .i64 r.2.1),(.int .i64 r.2.2)])⟩] [(.sl 2 (List.map zT r.1))]:=by
 refine zot (fle rfl) (fle rfl) (fC nZ rfl fN) rfl ?_
 rw[Zr]
 refine AW.weaken (t:=mk [(0,(.one (.ptr (.nm 0 0 0))))] [(0,(.vars 3 [(.d (.pin pv)),(dI a2.1),(dI a2.2)]))] (lk [(63,(.one (.d (.both pv (.sl 1 (List.map zM cb1)))))),(0,(.one (.ptr (.nm 0 0 0))))])) (zg (gl:=[(63,(.one (.d (.both pv (.sl 1 (List.map zM cb1)))))),(0,(.one (.ptr (.nm 0 0 0))))]) [] (kv 0 (.one (.ptr (.nm 0 0 0))) rfl rfl SL.nil) (blR rfl) (BK.cons (n:=0) rfl bZ rfl rfl BK.nil) (GK.cons rfl (GK.cons rfl GK.nil))) ?_
 unfold j3 at H
 unfold zgG
 refine aV (za eC (xQ (aV (ZI (m:=448) rfl (nR rfl) (za eZ (xQ (aS (zp (ze (za rfl (zb ?_)))))))))))
 obtain⟨v3,h4,H⟩:=zo H
 refine z8 (v0:=pv) (hg:=by exact rfl) (ON:=[0]) (ls:=[]) (G:=[]) (E:=[zJ 0]) (MB:=[(0,(.vars 3 [(.d (.pin pv)),(dI v3.2.1),(dI v3.2.2)]))]) (u:=(oI v3.1)) eC Cl.fn (zH h4) (Ec eZ (Ec eC En)) (AO.mut (VO.ptr (es:=[(.pin pv),(.int .i64 a2.1),(.int .i64 a2.2)]) bZ rfl rfl rfl) (AO.lent Vp rfl AO.nil)) rfl rfl rfl (zO bZ rfl SZ.nil) (erL.cons (v':=(.one (.ptr (.nm 0 0 0)))) rfl (erL.cons (v':=(.one .zs)) rfl (erL.cons (v':=(.one .zs)) rfl (erL.cons (v':=(.one .zs)) rfl (erL.cons (v':=(.one (.ptr (.nm 0 0 0)))) rfl erL.nil))))) (erH.cons (v':=(.vars 3 [(.d (.pin pv)),(dI a2.1),(dI a2.2)])) rfl rfl erH.nil) (erL.cons (v':=(.one (.d (.both pv (.sl 1 (List.map zM cb1)))))) rfl (erL.cons (v':=(.one (.ptr (.nm 0 0 0)))) rfl erL.nil)) rfl rfl (zx (za eZ (xQ (zQ (fun t5:((List qy)×Int×Int)=>yQ t5=some r) (fun t5=>mk [(3,(.one (.sl 320128 0 t5.1.length)))] [(320128,(.data 2 (List.map zT t5.1) true none)),(0,(.vars 3 [(.d (.pin pv)),(dI t5.2.1),(dI t5.2.2)]))] (lk [(63,(.one (.d (.both pv (.sl 1 (List.map zM cb1)))))),(0,(.one (.ptr (.nm 0 0 0))))])) ?_ ?_))))
 ·intro t5 H
  unfold yQ at H
  refine aV (za eZ (za eZ (xQ (AW.ret ?_))))
  cases H
  exact j6 (RL.cons (RV.tmp eZ) (VO.sl bZ lm (ql fun _=>rfl)) RL.nil) (ML.mut (eS rfl eZ) (VO.ptr (es:=[(.pin pv),(.int .i64 t5.2.1),(.int .i64 t5.2.2)]) (bR rfl) rfl rfl rfl) ML.nil) (by decide)
 ·refine aV (za eC (xQ (AW.block (AW.iter (fun s7:((List qy)×Int×Int×Int×Int)=>mk [(0,(.one (.ptr (.nm 0 0 0)))),(3,(.one (.sl 320192 0 s7.1.length))),(4,(oI s7.2.1)),(5,(oI s7.2.2.1))] [(320192,(.data 2 (List.map zT s7.1) true none)),(0,(.vars 3 [(.d (.pin pv)),(dI s7.2.2.2.1),(dI s7.2.2.2.2)]))] (lk [(63,(.one (.d (.both pv (.sl 1 (List.map zM cb1)))))),(0,(.one (.ptr (.nm 0 0 0))))])) H ((zg [] (kR rfl rfl (SL.cons eZ rfl (VWk.one (CWk.len (by first|(simp;done)|(simp;omega)|omega|(simp only[List.length_map];omega)))) (sR rfl rfl))) (blR rfl) (bkR rfl rfl rfl) (GK.cons rfl (GK.cons rfl GK.nil))).trans (Xq 320192 2 3 true rfl (nR rfl))) ?_))))
  intro kb8 s7 H
  unfold ZS at H
  refine aS (aS (zp (ze (za rfl (zb (ze (za rfl (zb ?_))))))))
  obtain⟨v9,h10,H⟩:=zo H
  refine z8 (v0:=pv) (hg:=by exact rfl) (ON:=[0]) (ls:=[]) (G:=[]) (E:=[zJ 0]) (MB:=[(0,(.vars 3 [(.d (.pin pv)),(dI v9.2.1),(dI v9.2.2)]))]) (u:=(oI v9.1)) eC Cl.fn (zH h10) (Ec eZ (Ec eC En)) (AO.mut (VO.ptr (es:=[(.pin pv),(.int .i64 s7.2.2.2.1),(.int .i64 s7.2.2.2.2)]) (bR rfl) rfl rfl rfl) (AO.lent Vp rfl AO.nil)) rfl rfl rfl (zO (bR rfl) rfl SZ.nil) (erL.cons (v':=(.one (.ptr (.nm 0 0 0)))) rfl (erL.cons (v':=(oI s7.2.2.1)) rfl (erL.cons (v':=(.one (.ptr (.nm 0 0 0)))) rfl (erL.cons (v':=(.one (.sl 320192 0 s7.1.length))) rfl (erL.cons (v':=(oI s7.2.1)) rfl (erL.cons (v':=(oI s7.2.2.1)) rfl erL.nil)))))) (erH.cons (v':=(.data 2 (List.map zT s7.1) true none)) rfl rfl (erH.cons (v':=(.vars 3 [(.d (.pin pv)),(dI s7.2.2.2.1),(dI s7.2.2.2.2)])) rfl rfl erH.nil)) (erL.cons (v':=(.one (.d (.both pv (.sl 1 (List.map zM cb1)))))) rfl (erL.cons (v':=(.one (.ptr (.nm 0 0 0)))) rfl erL.nil)) rfl rfl (zx (Z0 rfl eZ (xQ ?_)))
  rcases zF H with⟨h11,H⟩|⟨h11,H⟩
  ·refine zk eZ (dT h11) (AW.skip (TQ.qn (aS (AW.block (aS (zp (ze (za rfl (zb (ze (za rfl (zb ?_))))))))))))
   obtain⟨v12,h13,H⟩:=zo H
   refine z8 (v0:=pv) (hg:=by exact rfl) (ON:=[0]) (ls:=[]) (G:=[]) (E:=[zJ 0]) (MB:=[(0,(.vars 3 [(.d (.pin pv)),(dI v12.2.1),(dI v12.2.2)]))]) (u:=(oI v12.1)) eC Cl.fn (zH h13) (Ec eZ (Ec eC En)) (AO.mut (VO.ptr (es:=[(.pin pv),(.int .i64 v9.2.1),(.int .i64 v9.2.2)]) bZ rfl rfl rfl) (AO.lent Vp rfl AO.nil)) rfl rfl rfl (zO bZ rfl SZ.nil) (erL.cons (v':=(.one (.ptr (.nm 0 0 0)))) rfl (erL.cons (v':=(oI s7.2.1)) rfl (erL.cons (v':=(oB (decide (s7.2.2.1 < v9.1)))) rfl (erL.cons (v':=(oI v9.1)) rfl (erL.cons (v':=(.one (.ptr (.nm 0 0 0)))) rfl (erL.cons (v':=(oI s7.2.2.1)) rfl (erL.cons (v':=(.one (.ptr (.nm 0 0 0)))) rfl (erL.cons (v':=(.one (.sl 320192 0 s7.1.length))) rfl (erL.cons (v':=(oI s7.2.1)) rfl (erL.cons (v':=(oI s7.2.2.1)) rfl erL.nil)))))))))) (erH.cons (v':=(.vars 3 [(.d (.pin pv)),(dI v9.2.1),(dI v9.2.2)])) rfl rfl (erH.cons (v':=(.data 2 (List.map zT s7.1) true none)) rfl rfl (erH.cons (v':=(.vars 3 [(.d (.pin pv)),(dI s7.2.2.2.1),(dI s7.2.2.2.2)])) rfl rfl erH.nil))) (erL.cons (v':=(.one (.d (.both pv (.sl 1 (List.map zM cb1)))))) rfl (erL.cons (v':=(.one (.ptr (.nm 0 0 0)))) rfl erL.nil)) rfl rfl (zx (Z6 (cs:=[(dI s7.2.1),(dI v12.1)]) (qk rfl (qk eZ j0)) rfl (Zy (n:=384) (m:=2) rfl rfl (nR rfl) (zw (es:=[(dI s7.2.1),(dI v12.1)]) eZ rfl rfl rfl bZ rfl (xQ (zQ (fun t14:(Int×Int×Int)=>(jH s7 cb1 kb8) t14=some r) (fun t14=>mk [(0,(.one (.ptr (.nm 0 0 0)))),(3,(.one (.sl 320192 0 s7.1.length))),(4,(oI s7.2.1)),(5,(oI s7.2.2.1)),(6,(.one (.ptr (.nm 384 0 0))))] [(0,(.vars 3 [(.d (.pin pv)),(dI t14.1),(dI t14.2.1)])),(384,(.vars 2 [(dI s7.2.1),(dI t14.2.2)])),(320192,(.data 2 (List.map zT s7.1) true none))] (lk [(63,(.one (.d (.both pv (.sl 1 (List.map zM cb1)))))),(0,(.one (.ptr (.nm 0 0 0))))])) ?_ ?_))))))
   ·intro t14 H
    unfold jH at H
    refine aV (za rfl (zB (es:=[(dI s7.2.1),(dI t14.2.2)]) rfl (bR rfl) rfl (yU (m:=1600) (q:=1) (cs:=[(dI s7.2.1),(dI t14.2.2)]) rfl (qk eZ j0) rfl (List.cons_ne_nil _ _) (by simp) (nR rfl) ?_)))
    obtain⟨h16,H⟩:=ym H
    refine Xl (f:=zT) (xs:=s7.1) (ys:=[(qy.mk s7.2.1 t14.2.2)]) (q:=(s7.1++([(qy.mk s7.2.1 t14.2.2)])).length) rfl eZ (bR rfl) rfl (El.one (f:=zT) (t:=(qy.mk s7.2.1 t14.2.2)) (es:=[(.int .i64 s7.2.1),(.int .i64 t14.2.2)]) bZ rfl rfl rfl) rfl h16 (by decide) (by decide) (erL.cons (v':=(.one (.sl 1600 0 1))) rfl (erL.cons (v':=(.agg [(dI s7.2.1),(dI t14.2.2)])) rfl (erL.cons (v':=(.one .any)) rfl (erL.cons (v':=(.one (.ptr (.nm 0 0 0)))) rfl (erL.cons (v':=(.one .any)) rfl (erL.cons (v':=(oI s7.2.1)) rfl (erL.cons (v':=(oI s7.2.2.1)) rfl (erL.cons (v':=(.one (.ptr (.nm 384 0 0)))) rfl erL.nil)))))))) (erH.cons (v':=(.vars 2 [(dI s7.2.1),(dI t14.2.2)])) rfl rfl (erH.cons (v':=(.vars 3 [(.d (.pin pv)),(dI t14.1),(dI t14.2.1)])) rfl rfl (erH.cons (v':=(.vars 2 [(dI s7.2.1),(dI t14.2.2)])) rfl rfl (erH.drop rfl erH.nil)))) (GK.cons rfl (GK.cons rfl GK.nil)) (za eZ (xQ (zp (ze (za rfl (zb (ze (qf eZ eC (zb (ze (za rfl (zb ?_))))))))))))
    obtain⟨v17,h18,H⟩:=zo H
    exact z8 (v0:=pv) (hg:=by exact rfl) (ON:=[0]) (ls:=[]) (G:=[]) (E:=[zJ 0]) (MB:=[(0,(.vars 3 [(.d (.pin pv)),(dI v17.2.1),(dI v17.2.2)]))]) (u:=(oI v17.1)) eC Cl.fn (zH h18) (Ec eZ (Ec eC En)) (AO.mut (VO.ptr (es:=[(.pin pv),(.int .i64 t14.1),(.int .i64 t14.2.1)]) (bR rfl) rfl rfl rfl) (AO.lent Vp rfl AO.nil)) rfl rfl rfl (zO (bR rfl) rfl SZ.nil) (erL.cons (v':=(.one (.ptr (.nm 0 0 0)))) rfl (erL.cons (v':=(oI (IntKind.wrap .i64 (s7.2.1+1)))) rfl (erL.cons (v':=(oI s7.2.1)) rfl (erL.cons (v':=(.one (.sl 320192 0 ((s7.1++([(qy.mk s7.2.1 t14.2.2)])).length)))) rfl (erL.cons (v':=(.one (.sl 320192 0 ((s7.1++([(qy.mk s7.2.1 t14.2.2)])).length)))) rfl (erL.cons (v':=(.one (.sl 1600 0 1))) rfl (erL.cons (v':=(.agg [(dI s7.2.1),(dI t14.2.2)])) rfl (erL.cons (v':=(.one .any)) rfl (erL.cons (v':=(.one (.ptr (.nm 0 0 0)))) rfl (erL.cons (v':=(.one .any)) rfl (erL.cons (v':=(oI s7.2.1)) rfl (erL.cons (v':=(oI s7.2.2.1)) rfl (erL.cons (v':=(.one (.ptr (.nm 384 0 0)))) rfl erL.nil))))))))))))) (erH.cons (v':=(.data 2 (List.map zT (s7.1++([(qy.mk s7.2.1 t14.2.2)]))) true none)) rfl rfl (erH.cons (v':=(.vars 2 [(dI s7.2.1),(dI t14.2.2)])) rfl rfl (erH.cons (v':=(.vars 3 [(.d (.pin pv)),(dI t14.1),(dI t14.2.1)])) rfl rfl (erH.cons (v':=(.vars 2 [(dI s7.2.1),(dI t14.2.2)])) rfl rfl erH.nil)))) (erL.cons (v':=(.one (.d (.both pv (.sl 1 (List.map zM cb1)))))) rfl (erL.cons (v':=(.one (.ptr (.nm 0 0 0)))) rfl erL.nil)) rfl rfl (zx (qf rfl eZ (za eZ (zb (BQ.qn (TQ.qn (AW.weaken (zg [1600,384] (kr 4 rfl rfl (kr 3 rfl rfl (kr 0 rfl rfl (kr 5 rfl rfl SL.nil)))) (blR rfl) (BK.cons (n:=0) rfl bZ rfl rfl (BK.cons (n:=320192) rfl (bR rfl) rfl rfl BK.nil)) (GK.cons rfl (GK.cons rfl GK.nil))) (aR (za rfl (qf eZ eC (za eZ (zb (TQ.qn ⟨((s7.1++([(qy.mk s7.2.1 t14.2.2)])),(IntKind.wrap .i64 ((IntKind.wrap .i64 (s7.2.1+1))+v17.1)),(IntKind.wrap .i64 (s7.2.2.1+1)),v17.2.1,v17.2.2),H,(zg [] (sR rfl rfl) (blR rfl) (bkR rfl rfl rfl) (GK.cons rfl (GK.cons rfl GK.nil)))⟩)))))))))))))
   ·refine aS (zp (ze (za rfl (zb ?_))))
    obtain⟨v19,h20,H⟩:=zo H
    refine z8 (v0:=pv) (hg:=by exact rfl) (ON:=[0]) (ls:=[]) (G:=[]) (E:=[zJ 0]) (MB:=[(0,(.vars 3 [(.d (.pin pv)),(dI v19.2.1),(dI v19.2.2)]))]) (u:=(oB v19.1)) eC Cl.fn (jD h20) (Ec eZ (Ec eC En)) (AO.mut (VO.ptr (es:=[(.pin pv),(.int .i64 v12.2.1),(.int .i64 v12.2.2)]) (bR rfl) rfl rfl rfl) (AO.lent Vp rfl AO.nil)) rfl rfl rfl (zO (bR rfl) rfl SZ.nil) (erL.cons (v':=(.one (.ptr (.nm 0 0 0)))) rfl (erL.cons (v':=(.one (.ptr (.nm 384 0 0)))) rfl (erL.cons (v':=(.agg [(dI s7.2.1),(dI v12.1)])) rfl (erL.cons (v':=(oI v12.1)) rfl (erL.cons (v':=(.one (.ptr (.nm 0 0 0)))) rfl (erL.cons (v':=(oI s7.2.1)) rfl (erL.cons (v':=(oB (decide (s7.2.2.1 < v9.1)))) rfl (erL.cons (v':=(oI v9.1)) rfl (erL.cons (v':=(.one (.ptr (.nm 0 0 0)))) rfl (erL.cons (v':=(oI s7.2.2.1)) rfl (erL.cons (v':=(.one (.ptr (.nm 0 0 0)))) rfl (erL.cons (v':=(.one (.sl 320192 0 s7.1.length))) rfl (erL.cons (v':=(oI s7.2.1)) rfl (erL.cons (v':=(oI s7.2.2.1)) rfl erL.nil)))))))))))))) (erH.cons (v':=(.vars 2 [(dI s7.2.1),(dI v12.1)])) rfl rfl (erH.cons (v':=(.vars 2 [(dI 0),(dI 0)])) rfl rfl (erH.cons (v':=(.vars 3 [(.d (.pin pv)),(dI v12.2.1),(dI v12.2.2)])) rfl rfl (erH.cons (v':=(.vars 3 [(.d (.pin pv)),(dI v9.2.1),(dI v9.2.2)])) rfl rfl (erH.cons (v':=(.data 2 (List.map zT s7.1) true none)) rfl rfl (erH.cons (v':=(.vars 3 [(.d (.pin pv)),(dI s7.2.2.2.1),(dI s7.2.2.2.2)])) rfl rfl erH.nil)))))) (erL.cons (v':=(.one (.d (.both pv (.sl 1 (List.map zM cb1)))))) rfl (erL.cons (v':=(.one (.ptr (.nm 0 0 0)))) rfl erL.nil)) rfl rfl (zx (xQ ?_))
    rcases zF H with⟨h21,H⟩|⟨h21,H⟩
    ·exact zk eZ h21 (aR (zi (m:=1) rfl rfl (zw (es:=[(dI s7.2.1),(dI (-1))]) eZ eC rfl rfl (bR rfl) rfl (zb (TQ.qn ⟨(v19.2.1,v19.2.2,(-1)),H,(zg [] (sR rfl rfl) (blR rfl) (bkR rfl rfl rfl) (GK.cons rfl (GK.cons rfl GK.nil)))⟩)))))
    ·exact zj eZ (nt h21) (AW.skip (TQ.qn ⟨(v19.2.1,v19.2.2,v12.1),H,(zg [] (sR rfl rfl) (blR rfl) (bkR rfl rfl rfl) (GK.cons rfl (GK.cons rfl GK.nil)))⟩))
  ·exact zj eZ (dF h11) (AW.exit (TQ.qe (TQ.qe (BQ.qe (TQ.qn ⟨(s7.1,v9.2.1,v9.2.2),H,((zg [] (sR rfl rfl) (blR rfl) (bkR rfl rfl rfl) (GK.cons rfl (GK.cons rfl GK.nil))).trans (z4 320192 320128 rfl rfl (nR rfl) (GR.cons rfl (GR.cons rfl GR.nil))))⟩)))))
theorem kd{pv:Value}{cb1:(List Int)}{a2:(Int×Int)}{r:(qo×(Int×Int))}(H:yN cb1 a2=some r):FnC Try.prog pv (.sl 1 (List.map zM cb1)) 169 [⟨(.ptr [(.pin pv),(.int .i64 a2.1),(.int .i64 a2.2)]),.m (.ptr [(.pin pv),(.int .i64 r.2.1),(.int .i64 r.2.2)])⟩] [(.agg (zZ r.1))]:=by
 refine zoa (fle rfl) (fle rfl) (fC nZ rfl fN) rfl ?_
 rw[Zr]
 refine AW.weaken (t:=mk [(0,(.one (.ptr (.nm 0 0 0))))] [(0,(.vars 3 [(.d (.pin pv)),(dI a2.1),(dI a2.2)]))] (lk [(63,(.one (.d (.both pv (.sl 1 (List.map zM cb1)))))),(0,(.one (.ptr (.nm 0 0 0))))])) (zg (gl:=[(63,(.one (.d (.both pv (.sl 1 (List.map zM cb1)))))),(0,(.one (.ptr (.nm 0 0 0))))]) [] (kv 0 (.one (.ptr (.nm 0 0 0))) rfl rfl SL.nil) (blR rfl) (BK.cons (n:=0) rfl bZ rfl rfl BK.nil) (GK.cons rfl (GK.cons rfl GK.nil))) ?_
 unfold yN at H
 unfold zgK
 refine aV (Zy (n:=128) (m:=2) rfl rfl (nR rfl) (xQ (aS (zp (ze (za rfl (zb ?_)))))))
 obtain⟨v3,h4,H⟩:=zo H
 refine z8 (v0:=pv) (hg:=by exact rfl) (ON:=[0]) (ls:=[]) (G:=[]) (E:=[zJ 0]) (MB:=[(0,(.vars 3 [(.d (.pin pv)),(dI v3.2.1),(dI v3.2.2)]))]) (u:=(oI v3.1)) eC Cl.fn (zH h4) (Ec eZ (Ec eC En)) (AO.mut (VO.ptr (es:=[(.pin pv),(.int .i64 a2.1),(.int .i64 a2.2)]) (bR rfl) rfl rfl rfl) (AO.lent Vp rfl AO.nil)) rfl rfl rfl (zO (bR rfl) rfl SZ.nil) (erL.cons (v':=(.one (.ptr (.nm 0 0 0)))) rfl (erL.cons (v':=(.one (.ptr (.nm 128 0 0)))) rfl (erL.cons (v':=(.one (.ptr (.nm 0 0 0)))) rfl erL.nil))) (erH.cons (v':=(.vars 2 [(dI 0),(dI 0)])) rfl rfl (erH.cons (v':=(.vars 3 [(.d (.pin pv)),(dI a2.1),(dI a2.2)])) rfl rfl erH.nil)) (erL.cons (v':=(.one (.d (.both pv (.sl 1 (List.map zM cb1)))))) rfl (erL.cons (v':=(.one (.ptr (.nm 0 0 0)))) rfl erL.nil)) rfl rfl (zx (za eZ (xQ (aS (zp (ze (za eZ (zb (ze (za rfl (zb (ze (qf eZ eC (zb (ze (za rfl (zb ?_)))))))))))))))))
 obtain⟨v5,h6,H⟩:=zo H
 refine z8 (v0:=pv) (hg:=by exact rfl) (ON:=[0]) (ls:=[]) (G:=[]) (E:=[zJ 0]) (MB:=[(0,(.vars 3 [(.d (.pin pv)),(dI v5.2.1),(dI v5.2.2)]))]) (u:=(oI v5.1)) eC Cl.fn (zH h6) (Ec eZ (Ec eC En)) (AO.mut (VO.ptr (es:=[(.pin pv),(.int .i64 v3.2.1),(.int .i64 v3.2.2)]) bZ rfl rfl rfl) (AO.lent Vp rfl AO.nil)) rfl rfl rfl (zO bZ rfl SZ.nil) (erL.cons (v':=(.one (.ptr (.nm 0 0 0)))) rfl (erL.cons (v':=(oI (IntKind.wrap .i64 (v3.1+1)))) rfl (erL.cons (v':=(oI v3.1)) rfl (erL.cons (v':=(oI v3.1)) rfl (erL.cons (v':=(oI v3.1)) rfl (erL.cons (v':=(oI v3.1)) rfl (erL.cons (v':=(.one (.ptr (.nm 0 0 0)))) rfl (erL.cons (v':=(.one (.ptr (.nm 128 0 0)))) rfl (erL.cons (v':=(.one (.ptr (.nm 0 0 0)))) rfl erL.nil))))))))) (erH.cons (v':=(.vars 3 [(.d (.pin pv)),(dI v3.2.1),(dI v3.2.2)])) rfl rfl (erH.cons (v':=(.vars 2 [(dI 0),(dI 0)])) rfl rfl (erH.cons (v':=(.vars 3 [(.d (.pin pv)),(dI a2.1),(dI a2.2)])) rfl rfl erH.nil))) (erL.cons (v':=(.one (.d (.both pv (.sl 1 (List.map zM cb1)))))) rfl (erL.cons (v':=(.one (.ptr (.nm 0 0 0)))) rfl erL.nil)) rfl rfl (zx (qf rfl eZ (Z6 (cs:=[(dI v3.1),(dI (IntKind.wrap .i64 ((IntKind.wrap .i64 (v3.1+1))+v5.1)))]) (qk rfl (qk eZ j0)) rfl (zw (es:=[(dI v3.1),(dI (IntKind.wrap .i64 ((IntKind.wrap .i64 (v3.1+1))+v5.1)))]) rfl eZ rfl rfl (bR rfl) rfl (xQ (AW.ret ?_))))))
 cases H
 exact j6 (RL.cons (qj (es:=[(dI v3.1),(dI (IntKind.wrap .i64 ((IntKind.wrap .i64 (v3.1+1))+v5.1)))]) rfl bZ rfl) (VO.agg (ds:=[(.int .i64 v3.1),(.int .i64 (IntKind.wrap .i64 ((IntKind.wrap .i64 (v3.1+1))+v5.1)))]) rfl rfl) RL.nil) (ML.mut (eS rfl eZ) (VO.ptr (es:=[(.pin pv),(.int .i64 v5.2.1),(.int .i64 v5.2.2)]) (bR rfl) rfl rfl rfl) ML.nil) (by decide)
theorem JI{pv:Value}{cb1:(List Int)}{a2:(Int×Int)}{r:((List zn)×(Int×Int))}(H:jc cb1 a2=some r):FnC Try.prog pv (.sl 1 (List.map zM cb1)) 146 [⟨(.ptr [(.pin pv),(.int .i64 a2.1),(.int .i64 a2.2)]),.m (.ptr [(.pin pv),(.int .i64 r.2.1),(.int .i64 r.2.2)])⟩] [(.sl 4 (List.map zh r.1))]:=by
 refine zow (fle rfl) (fle rfl) (fC nZ rfl fN) rfl ?_
 rw[Zr]
 refine AW.weaken (t:=mk [(0,(.one (.ptr (.nm 0 0 0))))] [(0,(.vars 3 [(.d (.pin pv)),(dI a2.1),(dI a2.2)]))] (lk [(63,(.one (.d (.both pv (.sl 1 (List.map zM cb1)))))),(0,(.one (.ptr (.nm 0 0 0))))])) (zg (gl:=[(63,(.one (.d (.both pv (.sl 1 (List.map zM cb1)))))),(0,(.one (.ptr (.nm 0 0 0))))]) [] (kv 0 (.one (.ptr (.nm 0 0 0))) rfl rfl SL.nil) (blR rfl) (BK.cons (n:=0) rfl bZ rfl rfl BK.nil) (GK.cons rfl (GK.cons rfl GK.nil))) ?_
 unfold jc at H
 unfold zgm
 refine aV (za eC (xQ (aV (ZI (m:=448) rfl (nR rfl) (za eZ (xQ (zQ (fun t3:((List zn)×Int×Int)=>(yP cb1) t3=some r) (fun t3=>mk [(0,(.one (.ptr (.nm 0 0 0)))),(3,(.one (.sl 321472 0 t3.1.length)))] [(321472,(.data 4 (List.map zh t3.1) true none)),(0,(.vars 3 [(.d (.pin pv)),(dI t3.2.1),(dI t3.2.2)]))] (lk [(63,(.one (.d (.both pv (.sl 1 (List.map zM cb1)))))),(0,(.one (.ptr (.nm 0 0 0))))])) ?_ ?_)))))))
 ·intro t3 H
  unfold yP at H
  refine aS (aS (zp (ze (za eZ (zb ?_)))))
  obtain⟨v5,h6,H⟩:=zo H
  refine z8 (v0:=pv) (hg:=by exact rfl) (ON:=[0]) (ls:=[]) (G:=[]) (E:=[zJ 0]) (MB:=[(0,(.vars 3 [(.d (.pin pv)),(dI v5.2.1),(dI v5.2.2)]))]) (u:=(oI v5.1)) eC Cl.fn (zH h6) (Ec eZ (Ec eC En)) (AO.mut (VO.ptr (es:=[(.pin pv),(.int .i64 t3.2.1),(.int .i64 t3.2.2)]) (bR rfl) rfl rfl rfl) (AO.lent Vp rfl AO.nil)) rfl rfl rfl (zO (bR rfl) rfl SZ.nil) (erL.cons (v':=(.one (.ptr (.nm 0 0 0)))) rfl (erL.cons (v':=(.one (.ptr (.nm 0 0 0)))) rfl (erL.cons (v':=(.one (.sl 321472 0 t3.1.length))) rfl erL.nil))) (erH.cons (v':=(.data 4 (List.map zh t3.1) true none)) rfl rfl (erH.cons (v':=(.vars 3 [(.d (.pin pv)),(dI t3.2.1),(dI t3.2.2)])) rfl rfl erH.nil)) (erL.cons (v':=(.one (.d (.both pv (.sl 1 (List.map zM cb1)))))) rfl (erL.cons (v':=(.one (.ptr (.nm 0 0 0)))) rfl erL.nil)) rfl rfl (zx (xQ (AW.block (aV (jC eZ eC (za eZ (xQ ?_)))))))
  rcases zF H with⟨h7,H⟩|⟨h7,H⟩
  ·refine zk eZ (dT h7) (zp (ze (za rfl (zb (ze (za rfl (zb ?_)))))))
   obtain⟨v8,h9,H⟩:=zo H
   refine z8 (v0:=pv) (hg:=by exact rfl) (ON:=[0]) (ls:=[]) (G:=[]) (E:=[zJ 0]) (MB:=[(0,(.vars 3 [(.d (.pin pv)),(dI v8.2.1),(dI v8.2.2)]))]) (u:=(oI v8.1)) eC Cl.fn (zH h9) (Ec eZ (Ec eC En)) (AO.mut (VO.ptr (es:=[(.pin pv),(.int .i64 v5.2.1),(.int .i64 v5.2.2)]) bZ rfl rfl rfl) (AO.lent Vp rfl AO.nil)) rfl rfl rfl (zO bZ rfl SZ.nil) (erL.cons (v':=(.one (.ptr (.nm 0 0 0)))) rfl (erL.cons (v':=(.one (.sl 321472 0 t3.1.length))) rfl (erL.cons (v':=(oB (decide (v5.1=0)))) rfl (erL.cons (v':=(oB (decide (v5.1=0)))) rfl (erL.cons (v':=(oI v5.1)) rfl (erL.cons (v':=(.one (.ptr (.nm 0 0 0)))) rfl (erL.cons (v':=(.one (.ptr (.nm 0 0 0)))) rfl (erL.cons (v':=(.one (.sl 321472 0 t3.1.length))) rfl erL.nil)))))))) (erH.cons (v':=(.vars 3 [(.d (.pin pv)),(dI v5.2.1),(dI v5.2.2)])) rfl rfl (erH.cons (v':=(.data 4 (List.map zh t3.1) true none)) rfl rfl (erH.cons (v':=(.vars 3 [(.d (.pin pv)),(dI t3.2.1),(dI t3.2.2)])) rfl rfl erH.nil))) (erL.cons (v':=(.one (.d (.both pv (.sl 1 (List.map zM cb1)))))) rfl (erL.cons (v':=(.one (.ptr (.nm 0 0 0)))) rfl erL.nil)) rfl rfl (ze (YJ eZ eC (zb (ze (Z6 (cs:=[(dI (IntKind.wrap .i64 (v8.1 - 1))),.zs,.zs,(dI 0)]) (qk eZ j0) rfl (zb (ze (yU (m:=2816) (q:=1) (cs:=[(dI (IntKind.wrap .i64 (v8.1 - 1))),.zs,.zs,(dI 0)]) rfl (qk eZ j0) rfl (List.cons_ne_nil _ _) (by simp) (nR rfl) (zb ?_)))))))))
   obtain⟨h10,H⟩:=ym H
   refine JJ (f:=zh) (xs:=t3.1) (t:=(zn.mk (IntKind.wrap .i64 (v8.1 - 1)) ([]:List qo) ([]:List qy) 0)) (q:=(t3.1++[(zn.mk (IntKind.wrap .i64 (v8.1 - 1)) ([]:List qo) ([]:List qy) 0)]).length) (ds:=[(.int .i64 (IntKind.wrap .i64 (v8.1 - 1))),(.sl 2 (List.map zZ ([]:List qo))),(.sl 2 (List.map zT ([]:List qy))),(.int .i64 0)]) (ns:=[]) rfl eZ (bR rfl) rfl bZ rfl (VOs.cons (VO.flat rfl) (VOs.cons VO.zs (VOs.cons VO.zs (VOs.cons (VO.flat rfl) VOs.nil)))) rfl rfl rfl rfl h10 (by decide) (erL.cons (v':=(.one (.sl 2816 0 1))) rfl (erL.cons (v':=(.agg [(dI (IntKind.wrap .i64 (v8.1 - 1))),.zs,.zs,(dI 0)])) rfl (erL.cons (v':=(oI (IntKind.wrap .i64 (v8.1 - 1)))) rfl (erL.cons (v':=(oI v8.1)) rfl (erL.cons (v':=(.one (.ptr (.nm 0 0 0)))) rfl (erL.cons (v':=(.one (.sl 321472 0 t3.1.length))) rfl (erL.cons (v':=(oB (decide (v5.1=0)))) rfl (erL.cons (v':=(oB (decide (v5.1=0)))) rfl (erL.cons (v':=(oI v5.1)) rfl (erL.cons (v':=(.one (.ptr (.nm 0 0 0)))) rfl (erL.cons (v':=(.one (.ptr (.nm 0 0 0)))) rfl (erL.cons (v':=(.one (.sl 321472 0 t3.1.length))) rfl erL.nil)))))))))))) (erH.cons (v':=(.vars 4 [(dI (IntKind.wrap .i64 (v8.1 - 1))),.zs,.zs,(dI 0)])) rfl rfl (erH.cons (v':=(.vars 3 [(.d (.pin pv)),(dI v8.2.1),(dI v8.2.2)])) rfl rfl (erH.cons (v':=(.vars 3 [(.d (.pin pv)),(dI v5.2.1),(dI v5.2.2)])) rfl rfl (erH.cons (v':=(.data 4 (List.map zh t3.1) true none)) rfl rfl (erH.cons (v':=(.vars 3 [(.d (.pin pv)),(dI t3.2.1),(dI t3.2.2)])) rfl rfl erH.nil))))) (erL.cons (v':=(.one (.d (.both pv (.sl 1 (List.map zM cb1)))))) rfl (erL.cons (v':=(.one (.ptr (.nm 0 0 0)))) rfl erL.nil)) (erL.cons (v':=(.one (.sl 2816 0 1))) rfl (erL.cons (v':=(.agg [(dI (IntKind.wrap .i64 (v8.1 - 1))),.zs,.zs,(dI 0)])) rfl (erL.cons (v':=(oI (IntKind.wrap .i64 (v8.1 - 1)))) rfl (erL.cons (v':=(oI v8.1)) rfl (erL.cons (v':=(.one (.ptr (.nm 0 0 0)))) rfl (erL.cons (v':=(.one .any)) rfl (erL.cons (v':=(oB (decide (v5.1=0)))) rfl (erL.cons (v':=(oB (decide (v5.1=0)))) rfl (erL.cons (v':=(oI v5.1)) rfl (erL.cons (v':=(.one (.ptr (.nm 0 0 0)))) rfl (erL.cons (v':=(.one (.ptr (.nm 0 0 0)))) rfl (erL.cons (v':=(.one .any)) rfl erL.nil)))))))))))) (erH.cons (v':=(.vars 4 [(dI (IntKind.wrap .i64 (v8.1 - 1))),.zs,.zs,(dI 0)])) rfl rfl (erH.cons (v':=(.vars 3 [(.d (.pin pv)),(dI v8.2.1),(dI v8.2.2)])) rfl rfl (erH.cons (v':=(.vars 3 [(.d (.pin pv)),(dI v5.2.1),(dI v5.2.2)])) rfl rfl (erH.drop rfl (erH.cons (v':=(.vars 3 [(.d (.pin pv)),(dI t3.2.1),(dI t3.2.2)])) rfl rfl erH.nil))))) (erL.cons (v':=(.one (.d (.both pv (.sl 1 (List.map zM cb1)))))) rfl (erL.cons (v':=(.one (.ptr (.nm 0 0 0)))) rfl erL.nil)) (zx (za eZ (zb (BQ.qn (TQ.qn (aV (za eZ (za eZ (xQ (AW.weaken (zg [2816] (kr 2 rfl rfl SL.nil) (blR rfl) (BK.cons (n:=321472) rfl bZ rfl rfl (BK.cons (n:=0) rfl (bR rfl) rfl rfl BK.nil)) (GK.cons rfl (GK.cons rfl GK.nil))) (AW.ret ?_)))))))))))
   cases H
   exact j6 (RL.cons (RV.tmp eZ) (jd bZ lm rfl) RL.nil) (ML.mut (eS rfl eZ) (VO.ptr (es:=[(.pin pv),(.int .i64 v8.2.1),(.int .i64 v8.2.2)]) (bR rfl) rfl rfl rfl) ML.nil) (by decide)
  ·refine zj eZ (dF h7) (aV (jC rfl eC (za eZ (xQ ?_))))
   rcases zF H with⟨h11,H⟩|⟨h11,H⟩
   ·refine zk eZ (dT h11) (aV (za rfl (kM eZ (JT eZ eC (xQ ?_)))))
    rcases zF H with⟨h12,H⟩|⟨h12,H⟩
    ·refine zk eZ (dT h12) (zp (ze (za rfl (zb (ze (za rfl (zb ?_)))))))
     obtain⟨v13,h14,H⟩:=zo H
     refine z8 (v0:=pv) (hg:=by exact rfl) (ON:=[0]) (ls:=[]) (G:=[]) (E:=[zJ 0]) (MB:=[(0,(.vars 3 [(.d (.pin pv)),(dI v13.2.1),(dI v13.2.2)]))]) (u:=(oI v13.1)) eC Cl.fn (zH h14) (Ec eZ (Ec eC En)) (AO.mut (VO.ptr (es:=[(.pin pv),(.int .i64 v5.2.1),(.int .i64 v5.2.2)]) bZ rfl rfl rfl) (AO.lent Vp rfl AO.nil)) rfl rfl rfl (zO bZ rfl SZ.nil) (erL.cons (v':=(.one (.ptr (.nm 0 0 0)))) rfl (erL.cons (v':=(.one (.sl 321472 0 t3.1.length))) rfl (erL.cons (v':=(oB (decide (0 < ((t3.1.length:Nat):Int))))) rfl (erL.cons (v':=(oI ((t3.1.length:Nat):Int))) rfl (erL.cons (v':=(.one (.sl 321472 0 t3.1.length))) rfl (erL.cons (v':=(oB (decide (v5.1=1)))) rfl (erL.cons (v':=(oB (decide (v5.1=1)))) rfl (erL.cons (v':=(oB (decide (v5.1=0)))) rfl (erL.cons (v':=(oB (decide (v5.1=0)))) rfl (erL.cons (v':=(oI v5.1)) rfl (erL.cons (v':=(.one (.ptr (.nm 0 0 0)))) rfl (erL.cons (v':=(.one (.ptr (.nm 0 0 0)))) rfl (erL.cons (v':=(.one (.sl 321472 0 t3.1.length))) rfl erL.nil))))))))))))) (erH.cons (v':=(.vars 3 [(.d (.pin pv)),(dI v5.2.1),(dI v5.2.2)])) rfl rfl (erH.cons (v':=(.data 4 (List.map zh t3.1) true none)) rfl rfl (erH.cons (v':=(.vars 3 [(.d (.pin pv)),(dI t3.2.1),(dI t3.2.2)])) rfl rfl erH.nil))) (erL.cons (v':=(.one (.d (.both pv (.sl 1 (List.map zM cb1)))))) rfl (erL.cons (v':=(.one (.ptr (.nm 0 0 0)))) rfl erL.nil)) rfl rfl (zx ?_)
     obtain⟨v15,h16,H⟩:=zo H
     refine Xw rfl eC (bR rfl) rfl h16 (zi (m:=3) eZ rfl (YR (t:=v15) (t':=(zn.mk v15.Group v15.Reads v15.Writes v13.1)) (es:=[(.int .i64 v13.1)]) eZ rfl rfl rfl (bR rfl) (Zf h16) rfl rfl (zb (BQ.qn (TQ.qn (AW.weaken (zg [] (kr 3 rfl rfl SL.nil) (blR rfl) (BK.cons (n:=321472) rfl bZ rfl rfl (BK.cons (n:=0) rfl (bR rfl) rfl rfl BK.nil)) (GK.cons rfl (GK.cons rfl GK.nil))) (aV (za eZ (za eZ (xQ (AW.ret ?_)))))))))))
     cases H
     exact j6 (RL.cons (RV.tmp eZ) (jd bZ (by first|(simp;done)|(simp;omega)|omega|(simp only[List.length_map];omega)) rfl) RL.nil) (ML.mut (eS rfl eZ) (VO.ptr (es:=[(.pin pv),(.int .i64 v13.2.1),(.int .i64 v13.2.2)]) (bR rfl) rfl rfl rfl) ML.nil) (by decide)
    ·refine zj eZ (dF h12) (AW.skip (BQ.qn (TQ.qn (aV (za rfl (za eZ (xQ (AW.ret ?_))))))))
     cases H
     exact j6 (RL.cons (RV.tmp eZ) (jd (bR rfl) lm rfl) RL.nil) (ML.mut (eS rfl eZ) (VO.ptr (es:=[(.pin pv),(.int .i64 v5.2.1),(.int .i64 v5.2.2)]) bZ rfl rfl rfl) ML.nil) (by decide)
   ·refine zj eZ (dF h11) (AW.skip (BQ.qn (TQ.qn (aV (za rfl (za eZ (xQ (AW.ret ?_))))))))
    cases H
    exact j6 (RL.cons (RV.tmp eZ) (jd (bR rfl) lm rfl) RL.nil) (ML.mut (eS rfl eZ) (VO.ptr (es:=[(.pin pv),(.int .i64 v5.2.1),(.int .i64 v5.2.2)]) bZ rfl rfl rfl) ML.nil) (by decide)
 ·refine aV (za eC (xQ (AW.block (AW.iter (fun s17:((List zn)×Int×Int×Int)=>mk [(0,(.one (.ptr (.nm 0 0 0)))),(3,(.one (.sl 321984 0 s17.1.length))),(4,(oI s17.2.1))] [(321984,(.data 4 (List.map zh s17.1) true none)),(0,(.vars 3 [(.d (.pin pv)),(dI s17.2.2.1),(dI s17.2.2.2)]))] (lk [(63,(.one (.d (.both pv (.sl 1 (List.map zM cb1)))))),(0,(.one (.ptr (.nm 0 0 0))))])) H ((zg [] (kR rfl rfl (SL.cons eZ rfl (VWk.one (CWk.len (by first|(simp;done)|(simp;omega)|omega|(simp only[List.length_map];omega)))) (sR rfl rfl))) (blR rfl) (bkR rfl rfl rfl) (GK.cons rfl (GK.cons rfl GK.nil))).trans (Xq 321984 4 3 true rfl (nR rfl))) ?_))))
  intro kb18 s17 H
  unfold yk at H
  refine aS (aV (za rfl (Z0 eZ eC (xQ ?_))))
  rcases zF H with⟨h19,H⟩|⟨h19,H⟩
  ·refine zk eZ (dT h19) (AW.skip (TQ.qn (zQ (fun t20:((List zn)×Int×Int)=>(qN kb18 s17) t20=some r) (fun t20=>mk [(0,(.one (.ptr (.nm 0 0 0)))),(3,(.one (.sl 322688 0 t20.1.length))),(4,(oI s17.2.1))] [(322688,(.data 4 (List.map zh t20.1) true none)),(0,(.vars 3 [(.d (.pin pv)),(dI t20.2.1),(dI t20.2.2)]))] (lk [(63,(.one (.d (.both pv (.sl 1 (List.map zM cb1)))))),(0,(.one (.ptr (.nm 0 0 0))))])) ?_ ?_)))
   ·intro t20 H
    unfold qN at H
    exact aR (za rfl (qf eZ eC (za eZ (zb (TQ.qn ⟨(t20.1,(IntKind.wrap .i64 (s17.2.1+1)),t20.2.1,t20.2.2),H,((zg [] (sR rfl rfl) (blR rfl) (bkR rfl rfl rfl) (GK.cons rfl (GK.cons rfl GK.nil))).trans (z4 322688 321984 rfl rfl (nR rfl) (GR.cons rfl (GR.cons rfl GR.nil))))⟩)))))
   ·refine AW.block (aS (aS (zp (ze (za rfl (zb ?_))))))
    obtain⟨v22,h23,H⟩:=zo H
    refine z8 (v0:=pv) (hg:=by exact rfl) (ON:=[0]) (ls:=[]) (G:=[]) (E:=[zJ 0]) (MB:=[(0,(.vars 3 [(.d (.pin pv)),(dI v22.2.1),(dI v22.2.2)]))]) (u:=(oB v22.1)) eC Cl.fn (jD h23) (Ec eZ (Ec eC En)) (AO.mut (VO.ptr (es:=[(.pin pv),(.int .i64 s17.2.2.1),(.int .i64 s17.2.2.2)]) (bR rfl) rfl rfl rfl) (AO.lent Vp rfl AO.nil)) rfl rfl rfl (zO (bR rfl) rfl SZ.nil) (erL.cons (v':=(.one (.ptr (.nm 0 0 0)))) rfl (erL.cons (v':=(oB (decide (s17.2.1 < 4)))) rfl (erL.cons (v':=(oI s17.2.1)) rfl (erL.cons (v':=(.one (.ptr (.nm 0 0 0)))) rfl (erL.cons (v':=(.one (.sl 321984 0 s17.1.length))) rfl (erL.cons (v':=(oI s17.2.1)) rfl erL.nil)))))) (erH.cons (v':=(.data 4 (List.map zh s17.1) true none)) rfl rfl (erH.cons (v':=(.vars 3 [(.d (.pin pv)),(dI s17.2.2.1),(dI s17.2.2.2)])) rfl rfl erH.nil)) (erL.cons (v':=(.one (.d (.both pv (.sl 1 (List.map zM cb1)))))) rfl (erL.cons (v':=(.one (.ptr (.nm 0 0 0)))) rfl erL.nil)) rfl rfl (zx (xQ ?_))
    rcases zF H with⟨h24,H⟩|⟨h24,H⟩
    ·exact zk eZ h24 (AW.exit (TQ.qe (BQ.qe (TQ.qn ⟨(s17.1,v22.2.1,v22.2.2),H,((zg [] (sR rfl rfl) (blR rfl) (bkR rfl rfl rfl) (GK.cons rfl (GK.cons rfl GK.nil))).trans (z4 321984 322688 rfl rfl (nR rfl) (GR.cons rfl (GR.cons rfl GR.nil))))⟩))))
    ·refine zj eZ (nt h24) (AW.skip (TQ.qn (aS (zp (ze (za rfl (zb (ze (za rfl (zb ?_))))))))))
     obtain⟨v25,h26,H⟩:=zo H
     refine Kh (v0:=pv) (hg:=by exact rfl) (ON:=[0]) (ls:=[]) (G:=[]) (E:=[zJ 0]) (MB:=[(0,(.vars 3 [(.d (.pin pv)),(dI v25.2.1),(dI v25.2.2)]))]) (u:=(.one (.sl 1024 0 v25.1.length))) (bs:=[(1024,(.data 2 (List.map zT v25.1) true none))]) eC Cl.fn (xi h26) (Ec eZ En) (AO.mut (VO.ptr (es:=[(.pin pv),(.int .i64 v22.2.1),(.int .i64 v22.2.2)]) bZ rfl rfl rfl) AO.nil) rfl rfl rfl (zO bZ rfl SZ.nil) (erL.cons (v':=(.one (.ptr (.nm 0 0 0)))) rfl (erL.cons (v':=(oI s17.2.1)) rfl (erL.cons (v':=(oB v22.1)) rfl (erL.cons (v':=(.one (.ptr (.nm 0 0 0)))) rfl (erL.cons (v':=(oB (decide (s17.2.1 < 4)))) rfl (erL.cons (v':=(oI s17.2.1)) rfl (erL.cons (v':=(.one (.ptr (.nm 0 0 0)))) rfl (erL.cons (v':=(.one (.sl 321984 0 s17.1.length))) rfl (erL.cons (v':=(oI s17.2.1)) rfl erL.nil))))))))) (erH.cons (v':=(.vars 3 [(.d (.pin pv)),(dI v22.2.1),(dI v22.2.2)])) rfl rfl (erH.cons (v':=(.data 4 (List.map zh s17.1) true none)) rfl rfl (erH.cons (v':=(.vars 3 [(.d (.pin pv)),(dI s17.2.2.1),(dI s17.2.2.2)])) rfl rfl erH.nil))) (erL.cons (v':=(.one (.d (.both pv (.sl 1 (List.map zM cb1)))))) rfl (erL.cons (v':=(.one (.ptr (.nm 0 0 0)))) rfl erL.nil)) (by simp[qW,jB,qz,jn,qH]) rfl (fC (nR rfl) rfl (fC (nR rfl) rfl fN)) (ze (Z6 (cs:=[(dI s17.2.1),.zs,(.sl 1024 0 v25.1.length),(dI 0)]) (qk rfl (qk eZ j0)) rfl (zb (ze (Zy (n:=320) (m:=4) rfl rfl (nR rfl) (zb (ze (zw (es:=[(dI s17.2.1),.zs,(.sl 1024 0 v25.1.length),(dI 0)]) eZ rfl rfl rfl bZ rfl (zb (zx (xQ (zQ (fun t27:(Int×Int×(List qo))=>(yj s17 v25 (qN kb18 s17)) t27=some r) (fun t27=>mk [(0,(.one (.ptr (.nm 0 0 0)))),(3,(.one (.sl 321984 0 s17.1.length))),(4,(oI s17.2.1)),(5,(.one (.ptr (.nm 320 0 0))))] [(0,(.vars 3 [(.d (.pin pv)),(dI t27.1),(dI t27.2.1)])),(322816,(.data 2 (List.map zZ t27.2.2) true none)),(320,(.vars 4 [(dI s17.2.1),(.sl 322816 0 t27.2.2.length),(.sl 1024 0 v25.1.length),(dI 0)])),(1024,(.data 2 (List.map zT v25.1) true none)),(321984,(.data 4 (List.map zh s17.1) true none))] (lk [(63,(.one (.d (.both pv (.sl 1 (List.map zM cb1)))))),(0,(.one (.ptr (.nm 0 0 0))))])) ?_ ?_))))))))))))
     ·intro t27 H
      unfold yj at H
      refine zp (ze (za rfl (zb (ze (zB (es:=[(dI s17.2.1),(.sl 322816 0 t27.2.2.length),(.sl 1024 0 v25.1.length),(dI 0)]) rfl (bR rfl) rfl (zb (ze (yU (m:=2112) (q:=1) (cs:=[(dI s17.2.1),(.sl 322816 0 t27.2.2.length),(.sl 1024 0 v25.1.length),(dI 0)]) rfl (qk eZ j0) rfl (List.cons_ne_nil _ _) (by simp) (nR rfl) (zb ?_)))))))))
      obtain⟨h29,H⟩:=ym H
      exact JJ (f:=zh) (xs:=s17.1) (t:=(zn.mk s17.2.1 t27.2.2 v25.1 0)) (q:=(s17.1++[(zn.mk s17.2.1 t27.2.2 v25.1 0)]).length) (ds:=[(.int .i64 s17.2.1),(.sl 2 (List.map zZ t27.2.2)),(.sl 2 (List.map zT v25.1)),(.int .i64 0)]) (ns:=[322816,1024]) rfl eZ (bR rfl) rfl bZ rfl (VOs.cons (VO.flat rfl) (VOs.cons (VO.sl (bR rfl) lm (ql fun _=>rfl)) (VOs.cons (VO.sl (bR rfl) lm (ql fun _=>rfl)) (VOs.cons (VO.flat rfl) VOs.nil)))) rfl rfl rfl rfl h29 (by decide) (erL.cons (v':=(.one (.sl 2112 0 1))) rfl (erL.cons (v':=(.agg [(dI s17.2.1),.any,.any,(dI 0)])) rfl (erL.cons (v':=(.one (.sl 321984 0 s17.1.length))) rfl (erL.cons (v':=(.one (.ptr (.nm 0 0 0)))) rfl (erL.cons (v':=(.one (.sl 321984 0 s17.1.length))) rfl (erL.cons (v':=(oI s17.2.1)) rfl (erL.cons (v':=(.one (.ptr (.nm 320 0 0)))) rfl erL.nil))))))) (erH.cons (v':=(.vars 4 [(dI s17.2.1),.any,.any,(dI 0)])) rfl rfl (erH.cons (v':=(.vars 3 [(.d (.pin pv)),(dI t27.1),(dI t27.2.1)])) rfl rfl (erH.drop rfl (erH.cons (v':=(.vars 4 [(dI s17.2.1),.any,.any,(dI 0)])) rfl rfl (erH.drop rfl (erH.cons (v':=(.data 4 (List.map zh s17.1) true none)) rfl rfl erH.nil)))))) (erL.cons (v':=(.one (.d (.both pv (.sl 1 (List.map zM cb1)))))) rfl (erL.cons (v':=(.one (.ptr (.nm 0 0 0)))) rfl erL.nil)) (erL.cons (v':=(.one (.sl 2112 0 1))) rfl (erL.cons (v':=(.agg [(dI s17.2.1),.any,.any,(dI 0)])) rfl (erL.cons (v':=(.one .any)) rfl (erL.cons (v':=(.one (.ptr (.nm 0 0 0)))) rfl (erL.cons (v':=(.one .any)) rfl (erL.cons (v':=(oI s17.2.1)) rfl (erL.cons (v':=(.one (.ptr (.nm 320 0 0)))) rfl erL.nil))))))) (erH.cons (v':=(.vars 4 [(dI s17.2.1),.any,.any,(dI 0)])) rfl rfl (erH.cons (v':=(.vars 3 [(.d (.pin pv)),(dI t27.1),(dI t27.2.1)])) rfl rfl (erH.cons (v':=(.vars 4 [(dI s17.2.1),.any,.any,(dI 0)])) rfl rfl (erH.drop rfl erH.nil)))) (erL.cons (v':=(.one (.d (.both pv (.sl 1 (List.map zM cb1)))))) rfl (erL.cons (v':=(.one (.ptr (.nm 0 0 0)))) rfl erL.nil)) (zx (za eZ (zb (BQ.qn (TQ.qn ⟨((s17.1++[(zn.mk s17.2.1 t27.2.2 v25.1 0)]),t27.1,t27.2.1),H,((zg [2112,320] (sR rfl rfl) (blR rfl) (bkR rfl rfl rfl) (GK.cons rfl (GK.cons rfl GK.nil))).trans (z4 321984 322688 rfl rfl (nR rfl) (GR.cons rfl (GR.cons rfl GR.nil))))⟩)))))
     ·refine aV (za eC (xQ (AW.block (AW.iter (fun s30:(Int×Int×Int×(List qo))=>mk [(0,(.one (.ptr (.nm 0 0 0)))),(3,(.one (.sl 321984 0 s17.1.length))),(4,(oI s17.2.1)),(5,(.one (.ptr (.nm 320 0 0)))),(6,(oI s30.1))] [(0,(.vars 3 [(.d (.pin pv)),(dI s30.2.1),(dI s30.2.2.1)])),(322880,(.data 2 (List.map zZ s30.2.2.2) true none)),(320,(.vars 4 [(dI s17.2.1),(.sl 322880 0 s30.2.2.2.length),(.sl 1024 0 v25.1.length),(dI 0)])),(1024,(.data 2 (List.map zT v25.1) true none)),(321984,(.data 4 (List.map zh s17.1) true none))] (lk [(63,(.one (.d (.both pv (.sl 1 (List.map zM cb1)))))),(0,(.one (.ptr (.nm 0 0 0))))])) H ((zg [] (sR rfl rfl) (blR rfl) (BK.cons rfl (bR rfl) rfl rfl (BK.cons rfl (bR rfl) rfl rfl (BK.cons rfl bZ rfl (by first|rfl|simp) (bkR rfl rfl rfl)))) (GK.cons rfl (GK.cons rfl GK.nil))).trans (kh 322880 2 320 1 true bZ rfl (nR rfl))) ?_))))
      intro kb31 s30 H
      unfold ZH at H
      refine aS (aS (zp (ze (za rfl (zb (ze (za rfl (zb ?_))))))))
      obtain⟨v32,h33,H⟩:=zo H
      refine z8 (v0:=pv) (hg:=by exact rfl) (ON:=[0]) (ls:=[]) (G:=[]) (E:=[zJ 0]) (MB:=[(0,(.vars 3 [(.d (.pin pv)),(dI v32.2.1),(dI v32.2.2)]))]) (u:=(oI v32.1)) eC Cl.fn (zH h33) (Ec eZ (Ec eC En)) (AO.mut (VO.ptr (es:=[(.pin pv),(.int .i64 s30.2.1),(.int .i64 s30.2.2.1)]) bZ rfl rfl rfl) (AO.lent Vp rfl AO.nil)) rfl rfl rfl (zO bZ rfl SZ.nil) (erL.cons (v':=(.one (.ptr (.nm 0 0 0)))) rfl (erL.cons (v':=(oI s30.1)) rfl (erL.cons (v':=(.one (.ptr (.nm 0 0 0)))) rfl (erL.cons (v':=(.one (.sl 321984 0 s17.1.length))) rfl (erL.cons (v':=(oI s17.2.1)) rfl (erL.cons (v':=(.one (.ptr (.nm 320 0 0)))) rfl (erL.cons (v':=(oI s30.1)) rfl erL.nil))))))) (erH.cons (v':=(.vars 3 [(.d (.pin pv)),(dI s30.2.1),(dI s30.2.2.1)])) rfl rfl (erH.cons (v':=(.data 2 (List.map zZ s30.2.2.2) true none)) rfl rfl (erH.cons (v':=(.vars 4 [(dI s17.2.1),(.sl 322880 0 s30.2.2.2.length),(.sl 1024 0 v25.1.length),(dI 0)])) rfl rfl (erH.cons (v':=(.data 2 (List.map zT v25.1) true none)) rfl rfl (erH.cons (v':=(.data 4 (List.map zh s17.1) true none)) rfl rfl erH.nil))))) (erL.cons (v':=(.one (.d (.both pv (.sl 1 (List.map zM cb1)))))) rfl (erL.cons (v':=(.one (.ptr (.nm 0 0 0)))) rfl erL.nil)) rfl rfl (zx (Z0 rfl eZ (xQ ?_)))
      rcases zF H with⟨h34,H⟩|⟨h34,H⟩
      ·refine zk eZ (dT h34) (AW.skip (TQ.qn (aS (AW.block (AW.regp [320] (yb rfl (zi (m:=1) rfl rfl (zb (ZE eZ rfl (zr (q:=1) (c:=(.sl 322880 0 s30.2.2.2.length)) eZ (bR rfl) rfl rfl (zb (yb rfl (za rfl (zb (Yn ?_)))))))))))))))
       obtain⟨v35,h36,H⟩:=zo H
       refine jG (v0:=pv) (hg:=by exact rfl) (ON:=[0]) (ls:=[]) (G:=[]) (E:=[zJ 0]) (MB:=[(0,(.vars 3 [(.d (.pin pv)),(dI v35.2.1),(dI v35.2.2)]))]) (u:=(.agg [(dI v35.1.Lo),(dI v35.1.Hi)])) eC Cl.fn (kd h36) (Ec eZ En) (AO.mut (VO.ptr (es:=[(.pin pv),(.int .i64 v32.2.1),(.int .i64 v32.2.2)]) bZ rfl rfl rfl) AO.nil) rfl rfl rfl (zO bZ rfl SZ.nil) (erL.cons (v':=(.one (.ptr (.nm 0 0 0)))) rfl (erL.cons (v':=(.one (.sl 322880 0 s30.2.2.2.length))) rfl (erL.cons (v':=(.one (.ptr (.nm 320 0 1)))) rfl (erL.cons (v':=(oB (decide (s30.1 < v32.1)))) rfl (erL.cons (v':=(oI v32.1)) rfl (erL.cons (v':=(.one (.ptr (.nm 0 0 0)))) rfl (erL.cons (v':=(oI s30.1)) rfl (erL.cons (v':=(.one (.ptr (.nm 0 0 0)))) rfl (erL.cons (v':=(.one (.sl 321984 0 s17.1.length))) rfl (erL.cons (v':=(oI s17.2.1)) rfl (erL.cons (v':=(.one (.ptr (.nm 320 0 0)))) rfl (erL.cons (v':=(oI s30.1)) rfl erL.nil)))))))))))) (erH.cons (v':=(.vars 3 [(.d (.pin pv)),(dI v32.2.1),(dI v32.2.2)])) rfl rfl (erH.cons (v':=(.vars 3 [(.d (.pin pv)),(dI s30.2.1),(dI s30.2.2.1)])) rfl rfl (erH.cons (v':=(.data 2 (List.map zZ s30.2.2.2) true none)) rfl rfl (erH.cons (v':=(.vars 4 [(dI s17.2.1),(.sl 322880 0 s30.2.2.2.length),(.sl 1024 0 v25.1.length),(dI 0)])) rfl rfl (erH.cons (v':=(.data 2 (List.map zT v25.1) true none)) rfl rfl (erH.cons (v':=(.data 4 (List.map zh s17.1) true none)) rfl rfl erH.nil)))))) (erL.cons (v':=(.one (.d (.both pv (.sl 1 (List.map zM cb1)))))) rfl (erL.cons (v':=(.one (.ptr (.nm 0 0 0)))) rfl erL.nil)) rfl rfl rfl (KX (yU (m:=1792) (q:=1) (cs:=[(dI v35.1.Lo),(dI v35.1.Hi)]) rfl (qk eZ j0) rfl (List.cons_ne_nil _ _) (by simp) (nR rfl) (zb (Yo (jP rfl ?_)))))
       obtain⟨h37,H⟩:=ym H
       exact Xl (f:=zZ) (xs:=s30.2.2.2) (ys:=[v35.1]) (q:=(s30.2.2.2++([v35.1])).length) rfl eZ (bR rfl) rfl (El.one (f:=zZ) (t:=v35.1) (es:=[(.int .i64 v35.1.Lo),(.int .i64 v35.1.Hi)]) bZ rfl rfl rfl) rfl h37 (by decide) (by decide) (erL.cons (v':=(.one (.sl 1792 0 1))) rfl (erL.cons (v':=(.agg [(dI v35.1.Lo),(dI v35.1.Hi)])) rfl (erL.cons (v':=(.one (.ptr (.nm 0 0 0)))) rfl (erL.cons (v':=(.one .any)) rfl (erL.cons (v':=(.one (.ptr (.nm 320 0 1)))) rfl (erL.cons (v':=(oB (decide (s30.1 < v32.1)))) rfl (erL.cons (v':=(oI v32.1)) rfl (erL.cons (v':=(.one (.ptr (.nm 0 0 0)))) rfl (erL.cons (v':=(oI s30.1)) rfl (erL.cons (v':=(.one (.ptr (.nm 0 0 0)))) rfl (erL.cons (v':=(.one (.sl 321984 0 s17.1.length))) rfl (erL.cons (v':=(oI s17.2.1)) rfl (erL.cons (v':=(.one (.ptr (.nm 320 0 0)))) rfl (erL.cons (v':=(oI s30.1)) rfl erL.nil)))))))))))))) (erH.cons (v':=(.vars 2 [(dI v35.1.Lo),(dI v35.1.Hi)])) rfl rfl (erH.cons (v':=(.vars 3 [(.d (.pin pv)),(dI v35.2.1),(dI v35.2.2)])) rfl rfl (erH.cons (v':=(.vars 3 [(.d (.pin pv)),(dI v32.2.1),(dI v32.2.2)])) rfl rfl (erH.cons (v':=(.vars 3 [(.d (.pin pv)),(dI s30.2.1),(dI s30.2.2.1)])) rfl rfl (erH.drop rfl (erH.cons (v':=(.vars 4 [(dI s17.2.1),.any,(.sl 1024 0 v25.1.length),(dI 0)])) rfl rfl (erH.cons (v':=(.data 2 (List.map zT v25.1) true none)) rfl rfl (erH.cons (v':=(.data 4 (List.map zh s17.1) true none)) rfl rfl erH.nil)))))))) (GK.cons rfl (GK.cons rfl GK.nil)) (zb (qC rfl (zi (m:=1) rfl rfl (zb (jP rfl (zw (es:=[(dI s17.2.1),(.sl 322880 0 ((s30.2.2.2++([v35.1])).length)),(.sl 1024 0 v25.1.length),(dI 0)]) eZ rfl rfl rfl (bR rfl) rfl (zb (Yq (BQ.qn (TQ.qn (AW.weaken (zg [1792] (kr 0 rfl rfl (kr 3 rfl rfl (kr 4 rfl rfl (kr 5 rfl rfl (kr 6 rfl rfl SL.nil))))) (blR rfl) (BK.cons (n:=320) rfl bZ rfl rfl (BK.cons (n:=322880) rfl (bR rfl) rfl rfl (BK.cons (n:=0) rfl (bR rfl) rfl rfl (BK.cons (n:=1024) rfl (bR rfl) rfl rfl (BK.cons (n:=321984) rfl (bR rfl) rfl rfl BK.nil))))) (GK.cons rfl (GK.cons rfl GK.nil))) (aR (za rfl (qf eZ eC (za eZ (zb (TQ.qn ⟨((IntKind.wrap .i64 (s30.1+1)),v35.2.1,v35.2.2,(s30.2.2.2++([v35.1]))),H,(zg [] (sR rfl rfl) (blR rfl) (BK.cons rfl (bR rfl) rfl rfl (BK.cons rfl (bR rfl) rfl rfl (BK.cons rfl bZ rfl (by first|rfl|simp) (bkR rfl rfl rfl)))) (GK.cons rfl (GK.cons rfl GK.nil)))⟩)))))))))))))))))
      ·exact zj eZ (dF h34) (AW.exit (TQ.qe (TQ.qe (BQ.qe (TQ.qn ⟨(v32.2.1,v32.2.2,s30.2.2.2),H,((zg [] (sR rfl rfl) (blR rfl) (BK.cons rfl bZ rfl rfl (BK.cons rfl (bR rfl) rfl rfl (BK.cons rfl (bR rfl) rfl (by first|rfl|simp) (bkR rfl rfl rfl)))) (GK.cons rfl (GK.cons rfl GK.nil))).trans (z4 322880 322816 rfl rfl (nR rfl) (GR.cons rfl (GR.cons rfl GR.nil))))⟩)))))
  ·exact zj eZ (dF h19) (AW.exit (TQ.qe (TQ.qe (BQ.qe (TQ.qn ⟨(s17.1,s17.2.2.1,s17.2.2.2),H,((zg [] (sR rfl rfl) (blR rfl) (bkR rfl rfl rfl) (GK.cons rfl (GK.cons rfl GK.nil))).trans (z4 321984 321472 rfl rfl (nR rfl) (GR.cons rfl (GR.cons rfl GR.nil))))⟩)))))
end Go.AW
