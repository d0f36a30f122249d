/- That functions of the program compute what the plain functions say. Conditions: each theorem's own. -/
import Derived.Test.YtpabbbmfcgnhdaaGreatMShardDrop
import Derived.Test.YtpabbbmfcgnhdaaGreatGShardDrop
import Derived.Test.YtpabbbmfcgnhdaaGreatSShardDrop
import Derived.Test.YtpabbbmfcgnhdaaGreatYt
import Derived.KernelRfl
import Derived.Test.YtpabbbmfcgnhdaaGreatDShardDropa
import Derived.Test.YtpabbbmfcgnhdaaGreatDShardDropb
import Derived.Test.YtpabbbmfcgnhdaaGreatDShardDropc
set_option linter.unusedVariables false
set_option linter.unusedSimpArgs false
set_option maxRecDepth 100000
namespace Go.AW
open Go.Proofs
theorem JU{a1:(List zL)}{a2:ze}{r:Bool}(H:qo a1 a2=some r):Fn Tryz.prog 110 (lent [(.sl 4 (List.map zp a1)),(.fn 111 [.ptr (zd a2)])]) true [(.bool r)]:=by
 refine zmL (fle rfl) ?_
 rw[zx]
 refine AW.weaken (zg [] (kv 0 (.one (.d (.sl 4 (List.map zp a1)))) rfl rfl (SL.cons (v:=(.one (.fn 111 [(.bd (zd a2) 0)]))) (eS rfl eZ) rfl (VWk.one (CWk.fn (css:=[zd a2]))) SL.nil)) BL.nil BK.nil) ?_
 unfold qo at H
 unfold zkY
 refine aV (za eC (xQ (aV (za rfl (za rfl ?_)))))
 obtain⟨v3,h4,H⟩:=zk H
 refine zD (u:=(oI v3)) eC Cl.fn (xu h4) (Ec rfl (Ec eZ En)) (Vc Vp (Vc (VD.fn (PDs.cons qX PDs.nil)) Vn)) rfl (XA eZ eC (za eZ (xQ (AW.ret ?_))))
 cases H
 exact eE rfl rfl
theorem XP{a1:ze}{a2:Int}{r:Bool}(H:jU a1 a2=some r):Fn Tryz.prog 287 (lent [(.agg (zd a1)),(.int .i64 a2)]) true [(.bool r)]:=by
 refine zHi (fle rfl) ?_
 rw[zx]
 refine AW.weaken (zg [] (kv 0 (.agg [(dI a1.Lo),(dI a1.Hi)]) rfl rfl (kv 1 (oI a2) rfl rfl SL.nil)) BL.nil BK.nil) ?_
 unfold jU at H
 unfold zDT
 refine aV (qY (n:=128) (m:=2) (cs:=[(dI a1.Lo),(dI a1.Hi)]) rfl eZ rfl rfl nZ (za eC (xQ (aV (za rfl (zf (m:=0) rfl rfl (zl (q:=0) (c:=(dI a1.Lo)) eZ bZ rfl rfl (zf (m:=1) rfl rfl (zl (q:=1) (c:=(dI a1.Hi)) eZ bZ rfl rfl (zaF eZ eC ?_))))))))))
 obtain⟨v3,h4,H⟩:=zk H
 refine zD (u:=(oB v3)) eC Cl.fn (QV h4) (Ec rfl (Ec rfl (Ec eZ En))) (Vc Vp (Vc Vp (Vc Vp Vn))) rfl (za eZ (xQ (AW.ret ?_)))
 cases H
 exact eE rfl rfl
theorem zcM{a1:ze}{a2:Int}{r:Bool}(H:Q0 a1 a2=some r):Fn Tryz.prog 288 (lent [(.agg (zd a1)),(.ptr (zt a2))]) true [(.bool r)]:=by
 refine zGE (fle rfl) ?_
 rw[zx]
 refine AW.weaken (zg [] (kv 0 (.agg [(dI a1.Lo),(dI a1.Hi)]) rfl rfl (SL.cons (v:=(.one (.ptr (.bd (zt a2) 0)))) (eS rfl eZ) rfl (VWk.one CWk.ptr) SL.nil)) BL.nil BK.nil) ?_
 unfold Q0 at H
 unfold zBV
 refine aV (qY (n:=128) (m:=2) (cs:=[(dI a1.Lo),(dI a1.Hi)]) rfl eZ rfl rfl nZ (za eC (xQ (aV (zM (es:=[(dI a1.Lo),(dI a1.Hi)]) rfl bZ rfl (zY (e:=(.int .i64 a2)) rfl rfl ?_))))))
 obtain⟨v3,h4,H⟩:=zk H
 refine zD (u:=(oB v3)) eC Cl.fn (XP h4) (Ec rfl (Ec eZ En)) (Vc (VD.agg rfl) (Vc Vp Vn)) rfl (za eZ (xQ (AW.ret ?_)))
 cases H
 exact eE rfl rfl
theorem YH{a1:(List ze)}{a2:Int}{r:Int}(H:jd a1 a2=some r):Fn Tryz.prog 284 (lent [(.sl 2 (List.map zd a1)),(.fn 288 [.ptr (zt a2)])]) true [(.int .i64 r)]:=by
 refine zxE (fle rfl) ?_
 rw[zx]
 refine AW.weaken (zg [] (kv 0 (.one (.d (.sl 2 (List.map zd a1)))) rfl rfl (SL.cons (v:=(.one (.fn 288 [(.bd (zt a2) 0)]))) (eS rfl eZ) rfl (VWk.one (CWk.fn (css:=[zt a2]))) SL.nil)) BL.nil BK.nil) ?_
 unfold jd at H
 unfold znu
 refine aV (za eC (xQ (zE (fun t3:Unit=>jI t3=some r) (fun t3=>mk [] [] noG) ?_ ?_)))
 ·intro t3 H
  unfold jI at H
  refine aV (za eC (xQ (AW.ret ?_)))
  cases H
  exact eE rfl rfl
 ·refine aV (za rfl (zX eZ (n:=a1.length) lm (za eC (xQ (AW.block (AW.iter (fun s5:Int=>mk [(0,(.one (.d (.sl 2 (List.map zd a1))))),(1,(.one (.fn 288 [(.bd (zt a2) 0)]))),(7,(oI (a1.length:Int))),(8,(oI s5))] [] noG) H (zg [] (sR rfl rfl) BL.nil BK.nil) ?_))))))
  intro kb6 s5 H
  unfold qW at H
  refine aV (qi rfl rfl (xQ (aS ?_)))
  rcases zA H with⟨h7,H⟩|⟨h7,H⟩
  ·refine zi eZ (dT h7) (AW.skip (TQ.qn (aS (AW.block (aV (za rfl (za eZ (xQ (aV (za rfl (za rfl (za rfl ?_))))))))))))
   obtain⟨v8,h9,H⟩:=zk H
   refine qt rfl eZ h9 (zZ (es:=[(dI v8.Lo),(dI v8.Hi)]) eZ rfl ?_)
   obtain⟨v10,h11,H⟩:=zk H
   refine zD (u:=(oB v10)) rfl Cl.fn (zcM h11) (Ec eZ En) (Vc (VD.agg rfl) (Vc qX Vn)) rfl (xQ ?_)
   rcases zA H with⟨h12,H⟩|⟨h12,H⟩
   ·refine zi eZ h12 (aV (za rfl (za eZ (xQ (AW.ret (BQ.qr (TQ.qr (TQ.qr (BQ.qr (TQ.qr ?_))))))))))
    cases H
    exact eE rfl rfl
   ·exact zh eZ (nt h12) (AW.skip (BQ.qn (TQ.qn (aR (qg rfl eC (za eZ (zm (TQ.qn ⟨(IntKind.wrap .i64 (s5+1)),H,(zg [] (sR rfl rfl) BL.nil BK.nil)⟩))))))))
  ·exact zh eZ (dF h7) (AW.exit (TQ.qe (TQ.qe (BQ.qe (TQ.qn ⟨(),H,(zg [] SL.nil BL.nil BK.nil)⟩)))))
theorem JC{a1:(List ze)}{a2:Int}{r:Bool}(H:qm a1 a2=some r):Fn Tryz.prog 201 (lent [(.sl 2 (List.map zd a1)),(.fn 288 [.ptr (zt a2)])]) true [(.bool r)]:=by
 refine zpJ (fle rfl) ?_
 rw[zx]
 refine AW.weaken (zg [] (kv 0 (.one (.d (.sl 2 (List.map zd a1)))) rfl rfl (SL.cons (v:=(.one (.fn 288 [(.bd (zt a2) 0)]))) (eS rfl eZ) rfl (VWk.one (CWk.fn (css:=[zt a2]))) SL.nil)) BL.nil BK.nil) ?_
 unfold qm at H
 unfold zmX
 refine aV (za eC (xQ (aV (za rfl (za rfl ?_)))))
 obtain⟨v3,h4,H⟩:=zk H
 refine zD (u:=(oI v3)) eC Cl.fn (YH h4) (Ec rfl (Ec eZ En)) (Vc Vp (Vc (VD.fn (PDs.cons qX PDs.nil)) Vn)) rfl (XA eZ eC (za eZ (xQ (AW.ret ?_))))
 cases H
 exact eE rfl rfl
theorem zdK{a1:Int}{a2:ze}{a3:Bool}{a4:(List ze)}{r:Bool}(H:QB a1 a2 a3 a4=some r):Fn Tryz.prog 286 (lent [(.int .i64 a1),(.ptr (zd a2)),(.ptr (yg a3)),(.ptr (Qz a4))]) true [(.bool r)]:=by
 refine zHg (fle rfl) ?_
 rw[zx]
 refine AW.weaken (zg [] (kv 0 (oI a1) rfl rfl (SL.cons (v:=(.one (.ptr (.bd (zd a2) 0)))) (eS rfl eZ) rfl (VWk.one CWk.ptr) (SL.cons (v:=(.one (.ptr (.bd (yg a3) 0)))) (eS rfl (eS rfl eZ)) rfl (VWk.one CWk.ptr) (SL.cons (v:=(.one (.ptr (.bd (Qz a4) 0)))) (eS rfl (eS rfl (eS rfl eZ))) rfl (VWk.one CWk.ptr) SL.nil)))) BL.nil BK.nil) ?_
 unfold QB at H
 unfold zCj
 refine aV (qY (n:=256) (m:=1) (cs:=[(dI a1)]) rfl eZ rfl rfl nZ (za eC (xQ (aS (aV (zZ (es:=[(dI a2.Lo),(dI a2.Hi)]) rfl rfl (zl (q:=0) (c:=(dI a1)) rfl bZ rfl rfl ?_)))))))
 obtain⟨v5,h6,H⟩:=zk H
 refine zD (u:=(oB v5)) eC Cl.fn (XP h6) (Ec rfl (Ec eZ En)) (Vc (VD.agg rfl) (Vc Vp Vn)) rfl (xQ ?_)
 rcases zA H with⟨h7,H⟩|⟨h7,H⟩
 ·refine zi eZ h7 (aV (zY (e:=(.bool a3)) rfl rfl (za eZ (xQ (AW.ret (TQ.qr ?_))))))
  cases H
  exact eE rfl rfl
 ·refine zh eZ (nt h7) (AW.skip (TQ.qn (aV (zY (e:=(.sl 2 (List.map zd a4))) rfl rfl (zbt (ps:=[(.nm 256 0 0)]) (Ec rfl En) ?_)))))
  obtain⟨v8,h9,H⟩:=zk H
  refine zD (u:=(oB v8)) eC Cl.fn (JC h9) (Ec rfl (Ec eZ En)) (Vc Vp (Vc (VD.fn (PDs.cons (ZR bZ (CDs.plain CDs.nil)) PDs.nil)) Vn)) rfl (za eZ (xQ (AW.ret ?_)))
  cases H
  exact eE rfl rfl
theorem KV{a1:ze}{a2:Bool}{a3:(List ze)}{r:(List ze)}(H:jJ a1 a2 a3=some r):Fn Tryz.prog 285 (lent [(.fn 286 [.ptr (zd a1),.ptr (yg a2),.ptr (Qz a3)])]) true [(.sl 2 (List.map zd r))]:=by
 refine zGV (fle rfl) ?_
 rw[zx]
 refine AW.weaken (zg [] (SL.cons (v:=(.one (.fn 286 [(.bd (zd a1) 0),(.bd (yg a2) 0),(.bd (Qz a3) 0)]))) eZ rfl (VWk.one (CWk.fn (css:=[zd a1,yg a2,Qz a3]))) SL.nil) BL.nil BK.nil) ?_
 unfold jJ at H
 unfold zBY
 refine aV (za eC (xQ (aV (yF (m:=384) rfl nZ (za eZ (xQ (zE (fun t4:(List ze)=>yp t4=some r) (fun t4=>mk [(3,(.one (.sl 320128 0 t4.length)))] [(320128,(.data 2 (List.map zd t4) true none))] noG) ?_ ?_)))))))
 ·intro t4 H
  unfold yp at H
  refine aV (za eZ (za eZ (xQ (AW.ret ?_))))
  obtain rfl:=(Option.some.inj H)
  exact qK (RL.cons (RV.tmp eZ) (VO.sl bZ lm (zy fun _=>rfl)) RL.nil) (by decide)
 ·refine aV (za eC (xQ (AW.block (AW.iter (fun s6:((List ze)×Int)=>mk [(0,(.one (.fn 286 [(.bd (zd a1) 0),(.bd (yg a2) 0),(.bd (Qz a3) 0)]))),(3,(.one (.sl 320192 0 s6.1.length))),(7,(oI s6.2))] [(320192,(.data 2 (List.map zd s6.1) true none))] noG) H ((zg [] (kR rfl rfl (SL.cons eZ rfl (VWk.one (CWk.len (by first|(simp;done)|(simp;omega)|omega|(simp only[List.length_map];omega)))) (sR rfl rfl))) (blR rfl) (bkR rfl rfl rfl)).trans (zlB 320192 2 3 true rfl nZ)) ?_))))
  intro kb7 s6 H
  unfold yq at H
  refine aV (qi rfl eC (xQ (aS ?_)))
  rcases zA H with⟨h8,H⟩|⟨h8,H⟩
  ·refine zi eZ (dT h8) (AW.skip (TQ.qn (aS (AW.block (aV (za rfl (za eZ (xQ (aV (za rfl (zb4 eZ (za eZ (xQ (AW.block (aV (za rfl (za rfl ?_)))))))))))))))))
   obtain⟨v9,h10,H⟩:=zk H
   refine zD (u:=(oB v9)) rfl Cl.fn (zdK h10) (Ec eZ En) (Vc Vp (Vc qX (Vc qX (Vc qX Vn)))) rfl (qI eZ (za eZ (xQ ?_)))
   rcases zA H with⟨h11,H⟩|⟨h11,H⟩
   ·refine zh eZ (cN h11) (zE (fun t12:Bool=>(jD s6 kb7) t12=some r) (fun t12=>mk [(0,(.one (.fn 286 [(.bd (zd a1) 0),(.bd (yg a2) 0),(.bd (Qz a3) 0)]))),(3,(.one (.sl 320192 0 s6.1.length))),(4,(oI s6.2)),(5,(oI ((s6.1.length:Nat):Int))),(7,(oI s6.2)),(24,(oB t12))] [(320192,(.data 2 (List.map zd s6.1) true none))] noG) ?_ ?_)
    ·intro t12 H
     unfold jD at H
     rcases zA H with⟨h14,H⟩|⟨h14,H⟩
     ·refine zi rfl h14 (aR (za rfl (za rfl (zaF eZ eC ?_))))
      obtain⟨v15,h16,H⟩:=zk H
      refine Xr rfl eZ bZ rfl h16 (zf (m:=1) eZ rfl (zhu (t:=v15) (e:=(.int .i64 v15.Hi)) eZ bZ (yD h16) rfl rfl (qg eZ eC ?_)))
      obtain⟨v17,h18,H⟩:=zk H
      exact Xr rfl rfl bZ rfl h18 (zf (m:=1) eZ rfl (yO (t:=v17) (t':=(ze.mk v17.Lo (IntKind.wrap .i64 (v15.Hi+1)))) (es:=[(.int .i64 (IntKind.wrap .i64 (v15.Hi+1)))]) eZ rfl rfl rfl bZ (yD h18) rfl rfl (zm (BQ.qn (BQ.qn (TQ.qn (aR (qg rfl eC (za eZ (zm (TQ.qn ⟨(s6.1.set (Int.toNat (IntKind.wrap .i64 (((s6.1.length:Nat):Int) - 1))) (ze.mk v17.Lo (IntKind.wrap .i64 (v15.Hi+1))),(IntKind.wrap .i64 (s6.2+1))),H,(zg [] (kR rfl rfl (SL.cons (eR rfl) rfl (VWk.one (CWk.len (by first|(simp;done)|(simp;omega)|omega|(simp only[List.length_map];omega)))) (sR rfl rfl))) (blR rfl) (bkR rfl rfl rfl))⟩)))))))))))
     ·refine zh rfl (nt h14) (aR (za rfl (za rfl (za rfl (qg eZ eC (Xv (cs:=[(dI s6.2),(dI (IntKind.wrap .i64 (s6.2+1)))]) (jN rfl (jN eZ kD)) rfl (za3 (m:=1088) (q:=1) (cs:=[(dI s6.2),(dI (IntKind.wrap .i64 (s6.2+1)))]) rfl (jN eZ kD) rfl (List.cons_ne_nil _ _) (by simp) (nR rfl) ?_)))))))
      obtain⟨h19,H⟩:=z6 H
      exact zlD (f:=zd) (xs:=s6.1) (ys:=[(ze.mk s6.2 (IntKind.wrap .i64 (s6.2+1)))]) (q:=(s6.1++([(ze.mk s6.2 (IntKind.wrap .i64 (s6.2+1)))])).length) rfl eZ (bR rfl) rfl (El.one (f:=zd) (t:=(ze.mk s6.2 (IntKind.wrap .i64 (s6.2+1)))) (es:=[(.int .i64 s6.2),(.int .i64 (IntKind.wrap .i64 (s6.2+1)))]) bZ rfl rfl rfl) rfl h19 (by decide) (by decide) (erL.cons (v':=(.one (.sl 1088 0 1))) rfl (erL.cons (v':=(.agg [(dI s6.2),(dI (IntKind.wrap .i64 (s6.2+1)))])) rfl (erL.cons (v':=(oI (IntKind.wrap .i64 (s6.2+1)))) rfl (erL.cons (v':=(oI s6.2)) rfl (erL.cons (v':=(oI s6.2)) rfl (erL.cons (v':=(.one .any)) rfl (erL.cons (v':=(.one (.fn 286 [(.bd (zd a1) 0),(.bd (yg a2) 0),(.bd (Qz a3) 0)]))) rfl (erL.cons (v':=(.one .any)) rfl (erL.cons (v':=(oI s6.2)) rfl (erL.cons (v':=(oI ((s6.1.length:Nat):Int))) rfl (erL.cons (v':=(oI s6.2)) rfl (erL.cons (v':=(oB t12)) rfl erL.nil)))))))))))) (erH.cons (v':=(.vars 2 [(dI s6.2),(dI (IntKind.wrap .i64 (s6.2+1)))])) rfl rfl (erH.drop rfl erH.nil)) (za eZ (zm (BQ.qn (BQ.qn (TQ.qn (aR (qg rfl eC (za eZ (zm (TQ.qn ⟨((s6.1++([(ze.mk s6.2 (IntKind.wrap .i64 (s6.2+1)))])),(IntKind.wrap .i64 (s6.2+1))),H,(zg [1088] (sR rfl rfl) (blR rfl) (bkR rfl rfl rfl))⟩))))))))))
    ·refine aR (za rfl (zaB eZ eC (za eZ ?_)))
     rcases zA H with⟨h20,H⟩|⟨h20,H⟩
     ·refine gDo eZ (dT h20) (za rfl (gDo rfl (dT h20) (za rfl (gDo rfl (dT h20) (zaF eZ eC (gDo rfl (dT h20) ?_))))))
      obtain⟨v21,h22,H⟩:=zk H
      exact Xr rfl eZ bZ rfl h22 (gDo rfl (dT h20) (zf (m:=1) eZ rfl (gDo rfl (dT h20) (zhu (t:=v21) (e:=(.int .i64 v21.Hi)) eZ bZ (yD h22) rfl rfl (gDo rfl (dT h20) (za rfl (gDo rfl (dT h20) (KG rfl eZ (zC rfl (dT h20) eZ (za eZ (zm (TQ.qn ⟨(decide (v21.Hi=s6.2)),H,(zg [] (sR rfl rfl) (blR rfl) (bkR rfl rfl rfl))⟩))))))))))))
     ·exact zb eZ (dF h20) rfl (zb rfl (dF h20) rfl (zb rfl (dF h20) rfl (zb rfl (dF h20) rfl (zb rfl (dF h20) rfl (zb rfl (dF h20) rfl (zb rfl (dF h20) rfl (zb rfl (dF h20) rfl (zJ rfl (dF h20) eC (za eZ (zm (TQ.qn ⟨false,H,(zg [] (sR rfl rfl) (blR rfl) (bkR rfl rfl rfl))⟩)))))))))))
   ·exact zi eZ (cN (nt h11)) (AW.skip (BQ.qn (BQ.qn (TQ.qn (aR (qg rfl eC (za eZ (zm (TQ.qn ⟨(s6.1,(IntKind.wrap .i64 (s6.2+1))),H,(zg [] (sR rfl rfl) (blR rfl) (bkR rfl rfl rfl))⟩)))))))))
  ·exact zh eZ (dF h8) (AW.exit (TQ.qe (TQ.qe (BQ.qe (TQ.qn ⟨s6.1,H,((zg [] (sR rfl rfl) (blR rfl) (bkR rfl rfl rfl)).trans (ZS 320192 320128 rfl rfl (nR rfl)))⟩)))))
theorem zfK{a1:(List ze)}{a2:ze}{a3:Bool}{r:((List ze)×Bool)}(H:Yk a1 a2 a3=some r):Fn Tryz.prog 208 (lent [(.sl 2 (List.map zd a1)),(.agg (zd a2)),(.bool a3)]) true [(.sl 2 (List.map zd r.1)),(.bool r.2)]:=by
 refine zHf (fle rfl) ?_
 rw[zx]
 refine AW.weaken (zg [] (kv 0 (.one (.d (.sl 2 (List.map zd a1)))) rfl rfl (kv 1 (.agg [(dI a2.Lo),(dI a2.Hi)]) rfl rfl (kv 2 (oB a3) rfl rfl SL.nil))) BL.nil BK.nil) ?_
 unfold Yk at H
 unfold zCU
 refine aV (qY (n:=192) (m:=1) (cs:=[(.d (.sl 2 (List.map zd a1)))]) rfl eZ rfl rfl nZ (qY (n:=256) (m:=2) (cs:=[(dI a2.Lo),(dI a2.Hi)]) rfl rfl rfl rfl (nR rfl) (qY (n:=320) (m:=1) (cs:=[(.d (.bool a3))]) rfl rfl rfl rfl (nR rfl) (za eC (za eC (xQ (aS (zE (fun t4:Bool=>(Jq a2 a3 a1) t4=some r) (fun t4=>mk [(3,(.one (.ptr (.nm 192 0 0)))),(4,(.one (.ptr (.nm 256 0 0)))),(5,(.one (.ptr (.nm 320 0 0)))),(16,(oB t4))] [(192,(.vars 1 [(.d (.sl 2 (List.map zd a1)))])),(256,(.vars 2 [(dI a2.Lo),(dI a2.Hi)])),(320,(.vars 1 [(.d (.bool a3))]))] noG) ?_ ?_))))))))
 ·intro t4 H
  unfold Jq at H
  rcases zA H with⟨h6,H⟩|⟨h6,H⟩
  ·refine zi rfl h6 (aV (za eC (za eC (xQ (AW.ret (TQ.qr ?_))))))
   cases H
   exact qK (RL.cons (RV.tmp rfl) VO.zs (RL.cons (RV.tmp eZ) (VO.flat rfl) RL.nil)) List.nodup_nil
  ·refine zh rfl (nt h6) (AW.skip (TQ.qn (aV (zbt (ps:=[(.nm 256 0 0),(.nm 320 0 0),(.nm 192 0 0)]) (Ec rfl (Ec rfl (Ec eZ En))) ?_))))
   obtain⟨v7,h8,H⟩:=zk H
   refine ju (u:=(.one (.sl 1152 0 v7.length))) (bs:=[(1152,(.data 2 (List.map zd v7) true none))]) eC Cl.fn (KV h8) (Ec eZ En) (Vc (VD.fn (PDs.cons (ZR (bR rfl) (CDs.plain (CDs.plain CDs.nil))) (PDs.cons (ZR (bR rfl) (CDs.plain CDs.nil)) (PDs.cons (ZR bZ (CDs.plain CDs.nil)) PDs.nil)))) Vn) (by simp[qZ,jC,qq,jn,qy]) rfl (fC (nR rfl) rfl (fC (nR rfl) rfl fN)) (za eZ (xQ (aS (aV (za eZ (zb4 eZ (zaB eZ eC (xQ ?_))))))))
   rcases zA H with⟨h9,H⟩|⟨h9,H⟩
   ·refine zi eZ (dT h9) (aV (za eC (za eC (xQ (AW.ret (TQ.qr ?_))))))
    cases H
    exact qK (RL.cons (RV.tmp rfl) VO.zs (RL.cons (RV.tmp eZ) (VO.flat rfl) RL.nil)) List.nodup_nil
   ·refine zh eZ (dF h9) (AW.skip (TQ.qn (aV (za rfl (za eZ (za eC (xQ (AW.ret ?_))))))))
    cases H
    exact qK (RL.cons (RV.tmp rfl) (VO.sl bZ lm (zy fun _=>rfl)) (RL.cons (RV.tmp eZ) (VO.flat rfl) RL.nil)) (by decide)
 ·refine aR (zl (q:=0) (c:=(.d (.sl 2 (List.map zd a1)))) rfl (bR rfl) rfl rfl ?_)
  obtain⟨v10,h11,H⟩:=zk H
  refine zD (u:=(oB v10)) eC Cl.fn (X9 h11) (Ec eZ En) (Vc Vp Vn) rfl (qI eZ (za eZ ?_))
  rcases zA H with⟨h12,H⟩|⟨h12,H⟩
  ·refine gDo eZ (cN h12) (zM (es:=[(dI a2.Lo),(dI a2.Hi)]) rfl (bR rfl) rfl (gDo rfl (cN h12) ?_))
   obtain⟨v13,h14,H⟩:=zk H
   exact zD (u:=(oB v13)) eC Cl.fn (Ql h14) (Ec eZ En) (Vc (VD.agg rfl) Vn) rfl (gDo rfl (cN h12) (qI eZ (zJ rfl (cN h12) eZ (zm (TQ.qn ⟨(!v13),H,(zg [] (sR rfl rfl) (blR rfl) (bkR rfl rfl rfl))⟩)))))
  ·exact zb eZ (cN (nt h12)) rfl (zb rfl (cN (nt h12)) rfl (zb rfl (cN (nt h12)) rfl (zC rfl (cN (nt h12)) eC (zm (TQ.qn ⟨true,H,(zg [] (sR rfl rfl) (blR rfl) (bkR rfl rfl rfl))⟩)))))
theorem K8{a1:(List ze)}{a2:ze}{r:((List ze)×Bool)}(H:y7 a1 a2=some r):Fn Tryz.prog 94 (lent [(.sl 2 (List.map zd a1)),(.agg (zd a2))]) true [(.sl 2 (List.map zd r.1)),(.bool r.2)]:=by
 refine f94 (fle rfl) ?_
 rw[zx]
 refine AW.weaken (zg [] (kv 0 (.one (.d (.sl 2 (List.map zd a1)))) rfl rfl (kv 1 (.agg [(dI a2.Lo),(dI a2.Hi)]) rfl rfl SL.nil)) BL.nil BK.nil) ?_
 unfold y7 at H
 unfold i94
 refine aV (qY (n:=192) (m:=2) (cs:=[(dI a2.Lo),(dI a2.Hi)]) rfl rfl rfl rfl nZ (za eC (za eC (xQ (aV (za rfl (zM (es:=[(dI a2.Lo),(dI a2.Hi)]) rfl bZ rfl ?_)))))))
 obtain⟨v3,h4,H⟩:=zk H
 refine ju (u:=(.tup [(.one (.sl 512 0 v3.1.length)),(oB v3.2)])) (bs:=[(512,(.data 2 (List.map zd v3.1) true none))]) eC Cl.fn (zfK h4) (Ec rfl (Ec eZ (Ec eC En))) (Vc Vp (Vc (VD.agg rfl) (Vc Vp Vn))) (by simp[qZ,jC,qq,jn,qy]) rfl (fC (nR rfl) rfl (fC (nR rfl) rfl fN)) (kI (v:=(.one (.sl 512 0 v3.1.length))) eZ rfl (kI (v:=(oB v3.2)) rfl rfl (za rfl (za rfl (xQ (AW.ret ?_))))))
 cases H
 exact qK (RL.cons (RV.tmp rfl) (VO.sl bZ lm (zy fun _=>rfl)) (RL.cons (RV.tmp eZ) (VO.flat rfl) RL.nil)) (by decide)
theorem za8{a1:zn}{a2:ze}{a3:Bool}{r:Bool}(H:Ze a1 a2 a3=some r):Fn Tryz.prog 291 (lent [(.agg (zj a1)),(.ptr (zd a2)),(.ptr (yg a3))]) true [(.bool r)]:=by
 refine zG5 (fle rfl) ?_
 rw[zx]
 refine AW.weaken (zg [] (kv 0 (.agg [(dI a1.Key),(dI a1.Value)]) rfl rfl (SL.cons (v:=(.one (.ptr (.bd (zd a2) 0)))) (eS rfl eZ) rfl (VWk.one CWk.ptr) (SL.cons (v:=(.one (.ptr (.bd (yg a3) 0)))) (eS rfl (eS rfl eZ)) rfl (VWk.one CWk.ptr) SL.nil))) BL.nil BK.nil) ?_
 unfold Ze at H
 unfold zE1
 refine aV (qY (n:=192) (m:=2) (cs:=[(dI a1.Key),(dI a1.Value)]) rfl eZ rfl rfl nZ (za eC (xQ (aS (AW.regd (zZ (es:=[(dI a2.Lo),(dI a2.Hi)]) rfl rfl (zf (m:=0) rfl rfl (zl (q:=0) (c:=(dI a1.Key)) eZ bZ rfl rfl ?_))))))))
 obtain⟨v4,h5,H⟩:=zk H
 refine zD (u:=(oB v4)) eC Cl.fn (XP h5) (Ec rfl (Ec eZ En)) (Vc (VD.agg rfl) (Vc Vp Vn)) rfl (zY (e:=(.bool a3)) rfl rfl (zGI rfl eZ (za eZ (xQ (AW.ret ?_)))))
 cases H
 exact eE rfl rfl
theorem kJ{a1:(List zn)}{a2:ze}{a3:Bool}{r:Int}(H:qS a1 a2 a3=some r):Fn Tryz.prog 303 (lent [(.sl 2 (List.map zj a1)),(.fn 291 [.ptr (zd a2),.ptr (yg a3)])]) true [(.int .i64 r)]:=by
 refine zCT (fle rfl) ?_
 rw[zx]
 refine AW.weaken (zg [] (kv 0 (.one (.d (.sl 2 (List.map zj a1)))) rfl rfl (SL.cons (v:=(.one (.fn 291 [(.bd (zd a2) 0),(.bd (yg a3) 0)]))) (eS rfl eZ) rfl (VWk.one (CWk.fn (css:=[zd a2,yg a3]))) SL.nil)) BL.nil BK.nil) ?_
 unfold qS at H
 unfold zvi
 refine aV (za eC (xQ (zE (fun t4:Unit=>yf t4=some r) (fun t4=>mk [] [] noG) ?_ ?_)))
 ·intro t4 H
  unfold yf at H
  refine aV (za eC (xQ (AW.ret ?_)))
  cases H
  exact eE rfl rfl
 ·refine aV (za rfl (zX eZ (n:=a1.length) lm (za eC (xQ (AW.block (AW.iter (fun s6:Int=>mk [(0,(.one (.d (.sl 2 (List.map zj a1))))),(1,(.one (.fn 291 [(.bd (zd a2) 0),(.bd (yg a3) 0)]))),(7,(oI (a1.length:Int))),(8,(oI s6))] [] noG) H (zg [] (sR rfl rfl) BL.nil BK.nil) ?_))))))
  intro kb7 s6 H
  unfold jy at H
  refine aV (qi rfl rfl (xQ (aS ?_)))
  rcases zA H with⟨h8,H⟩|⟨h8,H⟩
  ·refine zi eZ (dT h8) (AW.skip (TQ.qn (aS (AW.block (aV (za rfl (za eZ (xQ (aV (za rfl (za rfl (za rfl ?_))))))))))))
   obtain⟨v9,h10,H⟩:=zk H
   refine qt rfl eZ h10 (zZ (es:=[(dI v9.Key),(dI v9.Value)]) eZ rfl ?_)
   obtain⟨v11,h12,H⟩:=zk H
   refine zD (u:=(oB v11)) rfl Cl.fn (za8 h12) (Ec eZ En) (Vc (VD.agg rfl) (Vc qX (Vc qX Vn))) rfl (xQ ?_)
   rcases zA H with⟨h13,H⟩|⟨h13,H⟩
   ·refine zi eZ h13 (aV (za rfl (za eZ (xQ (AW.ret (BQ.qr (TQ.qr (TQ.qr (BQ.qr (TQ.qr ?_))))))))))
    cases H
    exact eE rfl rfl
   ·exact zh eZ (nt h13) (AW.skip (BQ.qn (TQ.qn (aR (qg rfl eC (za eZ (zm (TQ.qn ⟨(IntKind.wrap .i64 (s6+1)),H,(zg [] (sR rfl rfl) BL.nil BK.nil)⟩))))))))
  ·exact zh eZ (dF h8) (AW.exit (TQ.qe (TQ.qe (BQ.qe (TQ.qn ⟨(),H,(zg [] SL.nil BL.nil BK.nil)⟩)))))
theorem ku{a1:(List zn)}{a2:ze}{a3:Bool}{r:(List zn)}(H:qN a1 a2 a3=some r):Fn Tryz.prog 290 [⟨(.sl 2 (List.map zj a1)),.g⟩,⟨(.fn 291 [.ptr (zd a2),.ptr (yg a3)]),.b⟩] true [(.sl 2 (List.map zj r))]:=by
 refine zGe (fle rfl) (fC nZ rfl fN) rfl ?_
 rw[X6]
 refine AW.weaken (t:=mk [(0,(.one (.sl 0 0 a1.length))),(1,(.one (.fn 291 [(.bd (zd a2) 0),(.bd (yg a3) 0)])))] [(0,(.data 2 (List.map zj a1) true none))] (lk [])) (zI (gl:=[]) [] (SL.cons (v:=(.one (.sl 0 0 a1.length))) eZ rfl (VWk.one (CWk.len lm)) (SL.cons (v:=(.one (.fn 291 [(.bd (zd a2) 0),(.bd (yg a3) 0)]))) (eS rfl eZ) rfl (VWk.one (CWk.fn (css:=[zd a2,yg a3]))) SL.nil)) (blR rfl) (BK.cons (n:=0) rfl bZ rfl rfl BK.nil) GK.nil) ?_
 unfold qN at H
 unfold zEv
 refine aV (za eC (xQ (aV (za rfl (za rfl ?_)))))
 obtain⟨v4,h5,H⟩:=zk H
 refine zD (u:=(oI v4)) eC Cl.fn (kJ h5) (Ec rfl (Ec eZ En)) (Vc (VD.sl bZ lm) (Vc (VD.fn (PDs.cons qX (PDs.cons qX PDs.nil))) Vn)) rfl (za eZ (xQ (aS (aV (za eZ (KG eZ eC (xQ ?_)))))))
 rcases zA H with⟨h6,H⟩|⟨h6,H⟩
 ·refine zi eZ (dT h6) (aV (za rfl (za eZ (xQ (AW.ret (TQ.qr ?_))))))
  cases H
  exact za0 (RL.cons (RV.tmp eZ) (VO.sl bZ lm (zy fun _=>rfl)) RL.nil) (ML.give (ML.lent ML.nil)) (by decide)
 ·refine zh eZ (dF h6) (AW.skip (TQ.qn (zE (fun t7:((List zn)×Int)=>qG t7=some r) (fun t7=>mk [(0,(.one (.sl 320128 0 t7.1.length))),(5,(oI t7.2))] [(320128,(.data 2 (List.map zj t7.1) true none))] (lk [])) ?_ ?_)))
  ·intro t7 H
   unfold qG at H
   refine aV (za eZ (za rfl ?_))
   obtain⟨h9,H⟩:=z6 H
   refine znF (r:=(Int.toNat t7.2)) (s:=(Int.toNat ((t7.1.length:Nat):Int) - Int.toNat t7.2)) rfl bZ rfl (Bd.at eZ) zlX rfl rfl h9 ?_
   obtain⟨h10,H⟩:=z6 H
   refine ztb (zv:=(zn.mk 0 0)) eZ bZ rfl rfl h10 (xQ (aV (za rfl (za rfl ?_))))
   obtain⟨h11,H⟩:=z6 H
   refine znF (r:=0) (s:=(Int.toNat t7.2)) rfl bZ rfl zlX (Bd.at eZ) rfl rfl h11 (za eZ (xQ (AW.weaken (zmV 320128 (Int.toNat t7.2) bZ) (AW.ret ?_))))
   cases H
   exact za0 (RL.cons (RV.tmp eZ) (VO.sl bZ (by first|(simp;done)|(simp;omega)|omega|(simp only[List.length_map];omega)) (zy fun _=>rfl)) RL.nil) (ML.give (ML.lent ML.nil)) (by decide)
  ·refine aV (za rfl (qg eZ eC (za eZ (xQ (AW.block (AW.iter (fun s12:((List zn)×Int×Int)=>mk [(0,(.one (.sl 320192 0 s12.1.length))),(1,(.one (.fn 291 [(.bd (zd a2) 0),(.bd (yg a3) 0)]))),(5,(oI s12.2.1)),(6,(oI s12.2.2))] [(320192,(.data 2 (List.map zj s12.1) true none))] (lk [])) H ((zI [] (sR rfl rfl) (blR rfl) (bkR rfl rfl rfl) GK.nil).trans (Ky 0 320192 rfl rfl (nR rfl) GR.nil)) ?_))))))
   intro kb13 s12 H
   unfold qE at H
   refine aS (aV (za rfl (za rfl (zb4 eZ (qi rfl eZ (xQ ?_))))))
   rcases zA H with⟨h14,H⟩|⟨h14,H⟩
   ·refine zi eZ (dT h14) (AW.skip (TQ.qn (aS (AW.block (aV (za rfl (za rfl ?_)))))))
    obtain⟨v15,h16,H⟩:=zk H
    refine Xr rfl eZ bZ rfl h16 (zml (t:=v15) (es:=[(.int .i64 v15.Key),(.int .i64 v15.Value)]) (cs:=[(dI v15.Key),(dI v15.Value)]) eZ bZ (yD h16) rfl rfl rfl (Zh (n:=448) (m:=2) rfl rfl (nR rfl) (zO (es:=[(dI v15.Key),(dI v15.Value)]) eZ rfl rfl rfl bZ rfl (xQ (aV (za rfl (zM (es:=[(dI v15.Key),(dI v15.Value)]) rfl bZ rfl ?_)))))))
    obtain⟨v17,h18,H⟩:=zk H
    refine zD (u:=(oB v17)) rfl Cl.fn (za8 h18) (Ec eZ En) (Vc (VD.agg rfl) (Vc qX (Vc qX Vn))) rfl (qI eZ (xQ (AW.weaken (zI [] (kr 29 rfl rfl (kr 7 rfl rfl (kr 0 rfl rfl (kr 1 rfl rfl (kr 5 rfl rfl (kr 6 rfl rfl SL.nil)))))) (blR rfl) (BK.cons (n:=448) rfl bZ rfl rfl (BK.cons (n:=320192) rfl (bR rfl) rfl rfl BK.nil)) GK.nil) ?_)))
    rcases zA H with⟨h19,H⟩|⟨h19,H⟩
    ·exact zh eZ (cN h19) (AW.skip (BQ.qn (TQ.qn (aR (za rfl (qg eZ eC (za eZ (zm (TQ.qn ⟨(s12.1,s12.2.1,(IntKind.wrap .i64 (s12.2.2+1))),H,(zI [448] (sR rfl rfl) (blR rfl) (bkR rfl rfl rfl) GK.nil)⟩)))))))))
    ·refine zi eZ (cN (nt h19)) (aV (za rfl (za rfl (zM (es:=[(dI v15.Key),(dI v15.Value)]) rfl bZ rfl ?_))))
     obtain⟨v20,h21,H⟩:=zk H
     exact Xr rfl rfl (bR rfl) rfl h21 (yO (t:=v20) (t':=v15) (es:=[(.int .i64 v15.Key),(.int .i64 v15.Value)]) eZ rfl rfl rfl (bR rfl) (yD h21) rfl rfl (xQ (aR (za rfl (qg eZ eC (za eZ (zm (BQ.qn (TQ.qn (aR (za rfl (qg eZ eC (za eZ (zm (TQ.qn ⟨(s12.1.set (Int.toNat s12.2.1) v15,(IntKind.wrap .i64 (s12.2.1+1)),(IntKind.wrap .i64 (s12.2.2+1))),H,(zI [448] (SL.cons rfl rfl (VWk.one (CWk.len (by first|(simp;done)|(simp;omega)|omega|(simp only[List.length_map];omega)))) (sR rfl rfl)) (blR rfl) (bkR rfl rfl rfl) GK.nil)⟩)))))))))))))))
   ·exact zh eZ (dF h14) (AW.exit (TQ.qe (TQ.qe (BQ.qe (TQ.qn ⟨(s12.1,s12.2.1),H,((zI [] (sR rfl rfl) (blR rfl) (bkR rfl rfl rfl) GK.nil).trans (Ky 320192 320128 rfl rfl (nR rfl) GR.nil))⟩)))))
theorem zgd{a1:(List zn)}{a2:ze}{a3:Bool}{r:(List zn)}(H:xG a1 a2 a3=some r):Fn Tryz.prog 217 (lent [(.sl 2 (List.map zj a1)),(.agg (zd a2)),(.bool a3)]) true [(.sl 2 (List.map zj r))]:=by
 refine zGM (fle rfl) ?_
 rw[zx]
 refine AW.weaken (t:=mk [(0,(.one (.d (.sl 2 (List.map zj a1))))),(1,(.agg [(dI a2.Lo),(dI a2.Hi)])),(2,(oB a3))] [] (lk [])) (zg [] (sR rfl rfl) BL.nil BK.nil) ?_
 unfold xG at H
 unfold zEd
 refine aV (qY (n:=256) (m:=2) (cs:=[(dI a2.Lo),(dI a2.Hi)]) rfl rfl rfl rfl nZ (qY (n:=320) (m:=1) (cs:=[(.d (.bool a3))]) rfl rfl rfl rfl (nR rfl) (za eC (xQ (aS (zE (fun t4:Bool=>(JY a1 a2 a3) t4=some r) (fun t4=>mk [(0,(.one (.d (.sl 2 (List.map zj a1))))),(4,(.one (.ptr (.nm 256 0 0)))),(5,(.one (.ptr (.nm 320 0 0)))),(14,(oB t4))] [(256,(.vars 2 [(dI a2.Lo),(dI a2.Hi)])),(320,(.vars 1 [(.d (.bool a3))]))] (lk [])) ?_ ?_))))))
 ·intro t4 H
  unfold JY at H
  rcases zA H with⟨h6,H⟩|⟨h6,H⟩
  ·refine zi rfl h6 (aV (za eC (xQ (AW.ret (TQ.qr ?_)))))
   cases H
   exact qK (RL.cons (RV.tmp eZ) VO.zs RL.nil) List.nodup_nil
  ·refine zh rfl (nt h6) (AW.skip (TQ.qn (aS (zW (zw (za eZ (zm (zw ?_))))))))
   obtain⟨v7,h8,H⟩:=zk H
   refine ju (u:=(.one (.sl 1024 0 v7.length))) (bs:=[(1024,(.data 2 (List.map zj v7) true none))]) eC Cl.fn (Kn h8) (Ec eZ En) (Vc Vp Vn) (by simp[qZ,jC,qq,jn,qy]) rfl (fC (nR rfl) rfl (fC (nR rfl) rfl fN)) (zm (zw (zbt (ps:=[(.nm 256 0 0),(.nm 320 0 0)]) (Ec rfl (Ec rfl En)) (zm ?_))))
   obtain⟨v9,h10,H⟩:=zk H
   refine zlp (ON:=[1024]) (ls:=[256,320]) (G:=[1024]) (E:=[1024]) (MB:=[]) (u:=(.one (.sl 1152 0 v9.length))) (bs:=[(1152,(.data 2 (List.map zj v9) true none))]) eC Cl.fn (ku h10) (Ec rfl (Ec eZ En)) (AO.give (VO.sl bZ lm (zy fun _=>rfl)) (AO.lent (VD.fn (PDs.cons (ZR (bR rfl) (CDs.plain (CDs.plain CDs.nil))) (PDs.cons (ZR (bR rfl) (CDs.plain CDs.nil)) PDs.nil))) rfl AO.nil)) rfl rfl rfl SZ.nil (erL.cons (v':=(.one (.fn 291 [(.nm 256 0 0),(.nm 320 0 0)]))) rfl (erL.cons (v':=(.one .any)) rfl (erL.cons (v':=(.one (.d (.sl 2 (List.map zj a1))))) rfl (erL.cons (v':=(.one (.d (.sl 2 (List.map zj a1))))) rfl (erL.cons (v':=(.one (.ptr (.nm 256 0 0)))) rfl (erL.cons (v':=(.one (.ptr (.nm 320 0 0)))) rfl (erL.cons (v':=(oB t4)) rfl erL.nil))))))) (erH.drop rfl (erH.cons (v':=(.vars 2 [(dI a2.Lo),(dI a2.Hi)])) rfl rfl (erH.cons (v':=(.vars 1 [(.d (.bool a3))])) rfl rfl erH.nil))) erL.nil (by simp[qZ,jC,qq,jn,qy]) rfl (fC (nR rfl) rfl (fC (nR rfl) rfl fN)) (z7 (za eZ (xQ (AW.ret ?_))))
   obtain rfl:=(Option.some.inj H)
   exact qK (RL.cons (RV.tmp eZ) (VO.sl bZ lm (zy fun _=>rfl)) RL.nil) (by decide)
 ·refine aR (za rfl ?_)
  obtain⟨v11,h12,H⟩:=zk H
  refine zD (u:=(oB v11)) eC Cl.fn (KR h12) (Ec eZ En) (Vc Vp Vn) rfl (qI eZ (za eZ ?_))
  rcases zA H with⟨h13,H⟩|⟨h13,H⟩
  ·refine gDo eZ (cN h13) (zM (es:=[(dI a2.Lo),(dI a2.Hi)]) rfl (bR rfl) rfl (gDo rfl (cN h13) ?_))
   obtain⟨v14,h15,H⟩:=zk H
   exact zD (u:=(oB v14)) eC Cl.fn (Ql h15) (Ec eZ En) (Vc (VD.agg rfl) Vn) rfl (gDo rfl (cN h13) (qI eZ (zJ rfl (cN h13) eZ (zm (TQ.qn ⟨(!v14),H,(zI [] (sR rfl rfl) (blR rfl) (bkR rfl rfl rfl) GK.nil)⟩)))))
  ·exact zb eZ (cN (nt h13)) rfl (zb rfl (cN (nt h13)) rfl (zb rfl (cN (nt h13)) rfl (zC rfl (cN (nt h13)) eC (zm (TQ.qn ⟨true,H,(zI [] (sR rfl rfl) (blR rfl) (bkR rfl rfl rfl) GK.nil)⟩)))))
theorem zeN{a1:(List zn)}{a2:ze}{r:(List zn)}(H:Ju a1 a2=some r):Fn Tryz.prog 114 (lent [(.sl 2 (List.map zj a1)),(.agg (zd a2))]) true [(.sl 2 (List.map zj r))]:=by
 refine zG1 (fle rfl) ?_
 rw[zx]
 refine AW.weaken (zg [] (kv 0 (.one (.d (.sl 2 (List.map zj a1)))) rfl rfl (kv 1 (.agg [(dI a2.Lo),(dI a2.Hi)]) rfl rfl SL.nil)) BL.nil BK.nil) ?_
 unfold Ju at H
 unfold zCa
 refine aV (qY (n:=192) (m:=2) (cs:=[(dI a2.Lo),(dI a2.Hi)]) rfl rfl rfl rfl nZ (za eC (xQ (aV (za rfl (zM (es:=[(dI a2.Lo),(dI a2.Hi)]) rfl bZ rfl ?_))))))
 obtain⟨v3,h4,H⟩:=zk H
 refine ju (u:=(.one (.sl 448 0 v3.length))) (bs:=[(448,(.data 2 (List.map zj v3) true none))]) eC Cl.fn (zgd h4) (Ec rfl (Ec eZ (Ec eC En))) (Vc Vp (Vc (VD.agg rfl) (Vc Vp Vn))) (by simp[qZ,jC,qq,jn,qy]) rfl (fC (nR rfl) rfl (fC (nR rfl) rfl fN)) (za eZ (xQ (AW.ret ?_)))
 obtain rfl:=(Option.some.inj H)
 exact qK (RL.cons (RV.tmp eZ) (VO.sl bZ lm (zy fun _=>rfl)) RL.nil) (by decide)
theorem zaE{a1:zo}{a2:Int}{a3:ze}{r:(zo×Int)}(H:Zz a1 a2 a3=some r):Fn Tryz.prog 27 (lent [(.agg (zR a1)),(.int .i64 a2),(.agg (zd a3))]) true [(.agg (zR r.1)),(.int .i64 r.2)]:=by
 refine f27 (fle rfl) ?_
 rw[zx]
 refine AW.weaken (t:=mk [(0,(.agg (zF a1))),(1,(oI a2)),(2,(.agg [(dI a3.Lo),(dI a3.Hi)]))] [] (lk [])) (zg [] (sR rfl rfl) BL.nil BK.nil) ?_
 unfold Zz at H
 unfold i27
 refine aV (qY (n:=192) (m:=9) (cs:=(zF a1)) rfl eZ rfl rfl nZ (qY (n:=320) (m:=2) (cs:=[(dI a3.Lo),(dI a3.Hi)]) rfl rfl rfl rfl (nR rfl) (Zh (n:=384) (m:=9) rfl rfl (nR rfl) (za eC (xQ (aV (zM (es:=(zF a1)) rfl (bR rfl) rfl (za rfl (zM (es:=[(dI a3.Lo),(dI a3.Hi)]) rfl (bR rfl) rfl ?_)))))))))
 obtain⟨v4,h5,H⟩:=zk H
 refine zD (u:=(oI v4)) eC Cl.fn (zfT h5) (Ec rfl (Ec rfl (Ec eZ En))) (Vc (VD.agg rfl) (Vc Vp (Vc (VD.agg rfl) Vn))) rfl (za eZ (xQ (aS (AW.block (aV (za eZ (Qh eZ eC (za eZ (xQ ?_)))))))))
 rcases zA H with⟨h6,H⟩|⟨h6,H⟩
 ·refine zi eZ (dT h6) (aS (zW (zw (zM (es:=(zF a1)) rfl (bR rfl) rfl (zm (zw (za rfl (zm (zw ?_)))))))))
  obtain⟨v7,h8,H⟩:=zk H
  refine ju (u:=(.tup [(.agg [(dI v7.1.Me),(.sl 1473 0 v7.1.Own.length),(.sl 1474 0 v7.1.Frozen.length),(.sl 1475 0 v7.1.Cells.length),(.sl 1476 0 v7.1.Locks.length),(.sl 1477 0 v7.1.Helds.length),(.sl 1478 0 v7.1.Wounded.length),(.sl 1479 0 v7.1.Ended.length),(dI v7.1.Rank)]),(oI v7.2)])) (bs:=[(1473,(.data 2 (List.map zd v7.1.Own) true none)),(1474,(.data 2 (List.map zd v7.1.Frozen) true none)),(1475,(.data 2 (List.map zj v7.1.Cells) true none)),(1476,(.data 4 (List.map zp v7.1.Locks) true none)),(1477,(.data 2 (List.map zB v7.1.Helds) true none)),(1478,(.data 1 (List.map zt v7.1.Wounded) true none)),(1479,(.data 1 (List.map zt v7.1.Ended) true none))]) eC Cl.fn (zfB h8) (Ec rfl (Ec eZ En)) (Vc (VD.agg rfl) (Vc Vp Vn)) (by simp[qZ,jC,qq,jn,qy]) rfl (fC (nR rfl) rfl (fC (nR rfl) rfl (fC (nR rfl) rfl (fC (nR rfl) rfl (fC (nR rfl) rfl (fC (nR rfl) rfl (fC (nR rfl) rfl (fC (nR rfl) rfl fN)))))))) (zm (zw (kI (v:=(.agg [(dI v7.1.Me),(.sl 1473 0 v7.1.Own.length),(.sl 1474 0 v7.1.Frozen.length),(.sl 1475 0 v7.1.Cells.length),(.sl 1476 0 v7.1.Locks.length),(.sl 1477 0 v7.1.Helds.length),(.sl 1478 0 v7.1.Wounded.length),(.sl 1479 0 v7.1.Ended.length),(dI v7.1.Rank)])) eZ rfl (zm (zw (kI (v:=(oI v7.2)) rfl rfl (zm (zw (zO (es:=[(dI v7.1.Me),(.sl 1473 0 v7.1.Own.length),(.sl 1474 0 v7.1.Frozen.length),(.sl 1475 0 v7.1.Cells.length),(.sl 1476 0 v7.1.Locks.length),(.sl 1477 0 v7.1.Helds.length),(.sl 1478 0 v7.1.Wounded.length),(.sl 1479 0 v7.1.Ended.length),(dI v7.1.Rank)]) rfl rfl rfl rfl (bR rfl) rfl (zm (z7 (za eZ (xQ (AW.weaken (zI [320,192] (kr 7 rfl rfl (kr 6 rfl rfl SL.nil)) (blR rfl) (BK.cons (n:=384) rfl bZ rfl rfl (BK.cons (n:=1479) rfl (bR rfl) rfl rfl (BK.cons (n:=1478) rfl (bR rfl) rfl rfl (BK.cons (n:=1477) rfl (bR rfl) rfl rfl (BK.cons (n:=1476) rfl (bR rfl) rfl rfl (BK.cons (n:=1475) rfl (bR rfl) rfl rfl (BK.cons (n:=1474) rfl (bR rfl) rfl rfl (BK.cons (n:=1473) rfl (bR rfl) rfl rfl BK.nil)))))))) GK.nil) (AW.ret (BQ.qr (TQ.qr ?_)))))))))))))))))
  cases H
  exact qK (RL.cons (jg (es:=[(dI v7.1.Me),(.sl 1473 0 v7.1.Own.length),(.sl 1474 0 v7.1.Frozen.length),(.sl 1475 0 v7.1.Cells.length),(.sl 1476 0 v7.1.Locks.length),(.sl 1477 0 v7.1.Helds.length),(.sl 1478 0 v7.1.Wounded.length),(.sl 1479 0 v7.1.Ended.length),(dI v7.1.Rank)]) rfl bZ rfl) (VO.aggs (VOs.cons (VO.flat rfl) (VOs.cons (VO.sl (bR rfl) lm (zy fun _=>rfl)) (VOs.cons (VO.sl (bR rfl) lm (zy fun _=>rfl)) (VOs.cons (VO.sl (bR rfl) lm (zy fun _=>rfl)) (VOs.cons (VO.sl (bR rfl) lm (zy fun _=>rfl)) (VOs.cons (Qf (bR rfl) lm rfl) (VOs.cons (VO.sl (bR rfl) lm (zy fun _=>rfl)) (VOs.cons (VO.sl (bR rfl) lm (zy fun _=>rfl)) (VOs.cons (VO.flat rfl) VOs.nil)))))))))) (RL.cons (RV.tmp eZ) (VO.flat rfl) RL.nil)) (by decide)
 ·refine zh eZ (dF h6) (zE (fun t9:Bool=>(y0 a1 a3 a2) t9=some r) (fun t9=>mk [(1,(oI a2)),(3,(.one (.ptr (.nm 192 0 0)))),(5,(.one (.ptr (.nm 320 0 0)))),(6,(.one (.ptr (.nm 384 0 0)))),(26,(oB t9))] [(192,(.vars 9 (zF a1))),(320,(.vars 2 [(dI a3.Lo),(dI a3.Hi)])),(384,(.vars 9 [(dI 0),.zs,.zs,.zs,.zs,.zs,.zs,.zs,(dI 0)]))] (lk [])) ?_ ?_)
  ·intro t9 H
   unfold y0 at H
   rcases zA H with⟨h11,H⟩|⟨h11,H⟩
   ·refine zi rfl h11 (aS (zW (zw (zM (es:=(zF a1)) rfl bZ rfl (zm (zw ?_))))))
    obtain⟨v12,h13,H⟩:=zk H
    refine ju (u:=(.agg [(dI v12.Me),(.sl 2497 0 v12.Own.length),(.sl 2498 0 v12.Frozen.length),(.sl 2499 0 v12.Cells.length),(.sl 2500 0 v12.Locks.length),(.sl 2501 0 v12.Helds.length),(.sl 2502 0 v12.Wounded.length),(.sl 2503 0 v12.Ended.length),(dI v12.Rank)])) (bs:=[(2497,(.data 2 (List.map zd v12.Own) true none)),(2498,(.data 2 (List.map zd v12.Frozen) true none)),(2499,(.data 2 (List.map zj v12.Cells) true none)),(2500,(.data 4 (List.map zp v12.Locks) true none)),(2501,(.data 2 (List.map zB v12.Helds) true none)),(2502,(.data 1 (List.map zt v12.Wounded) true none)),(2503,(.data 1 (List.map zt v12.Ended) true none))]) eC Cl.fn (Y3 h13) (Ec eZ En) (Vc (VD.agg rfl) Vn) (by simp[qZ,jC,qq,jn,qy]) rfl (fC (nR rfl) rfl (fC (nR rfl) rfl (fC (nR rfl) rfl (fC (nR rfl) rfl (fC (nR rfl) rfl (fC (nR rfl) rfl (fC (nR rfl) rfl (fC (nR rfl) rfl fN)))))))) (zm (zw (zO (es:=[(dI v12.Me),(.sl 2497 0 v12.Own.length),(.sl 2498 0 v12.Frozen.length),(.sl 2499 0 v12.Cells.length),(.sl 2500 0 v12.Locks.length),(.sl 2501 0 v12.Helds.length),(.sl 2502 0 v12.Wounded.length),(.sl 2503 0 v12.Ended.length),(dI v12.Rank)]) rfl eZ rfl rfl (bR rfl) rfl (zm (z7 (za eC (xQ (AW.ret (BQ.qr (TQ.qr ?_))))))))))
    cases H
    exact qK (RL.cons (jg (es:=[(dI v12.Me),(.sl 2497 0 v12.Own.length),(.sl 2498 0 v12.Frozen.length),(.sl 2499 0 v12.Cells.length),(.sl 2500 0 v12.Locks.length),(.sl 2501 0 v12.Helds.length),(.sl 2502 0 v12.Wounded.length),(.sl 2503 0 v12.Ended.length),(dI v12.Rank)]) rfl bZ rfl) (VO.aggs (VOs.cons (VO.flat rfl) (VOs.cons (VO.sl (bR rfl) lm (zy fun _=>rfl)) (VOs.cons (VO.sl (bR rfl) lm (zy fun _=>rfl)) (VOs.cons (VO.sl (bR rfl) lm (zy fun _=>rfl)) (VOs.cons (VO.sl (bR rfl) lm (zy fun _=>rfl)) (VOs.cons (Qf (bR rfl) lm rfl) (VOs.cons (VO.sl (bR rfl) lm (zy fun _=>rfl)) (VOs.cons (VO.sl (bR rfl) lm (zy fun _=>rfl)) (VOs.cons (VO.flat rfl) VOs.nil)))))))))) (RL.cons (RV.tmp eZ) (VO.flat rfl) RL.nil)) (by decide)
   ·refine zh rfl (nt h11) (zE (fun t14:Bool=>(ZN a1 a3 a2) t14=some r) (fun t14=>mk [(1,(oI a2)),(3,(.one (.ptr (.nm 192 0 0)))),(5,(.one (.ptr (.nm 320 0 0)))),(6,(.one (.ptr (.nm 384 0 0)))),(40,(oB t14))] [(192,(.vars 9 (zF a1))),(320,(.vars 2 [(dI a3.Lo),(dI a3.Hi)])),(384,(.vars 9 [(dI 0),.zs,.zs,.zs,.zs,.zs,.zs,.zs,(dI 0)]))] (lk [])) ?_ ?_)
    ·intro t14 H
     unfold ZN at H
     rcases zA H with⟨h16,H⟩|⟨h16,H⟩
     ·refine zi rfl h16 (aS (zW (zw (zM (es:=(zF a1)) rfl bZ rfl (zm (zw ?_))))))
      obtain⟨v17,h18,H⟩:=zk H
      refine ju (u:=(.agg [(dI v17.Me),(.sl 3393 0 v17.Own.length),(.sl 3394 0 v17.Frozen.length),(.sl 3395 0 v17.Cells.length),(.sl 3396 0 v17.Locks.length),(.sl 3397 0 v17.Helds.length),(.sl 3398 0 v17.Wounded.length),(.sl 3399 0 v17.Ended.length),(dI v17.Rank)])) (bs:=[(3393,(.data 2 (List.map zd v17.Own) true none)),(3394,(.data 2 (List.map zd v17.Frozen) true none)),(3395,(.data 2 (List.map zj v17.Cells) true none)),(3396,(.data 4 (List.map zp v17.Locks) true none)),(3397,(.data 2 (List.map zB v17.Helds) true none)),(3398,(.data 1 (List.map zt v17.Wounded) true none)),(3399,(.data 1 (List.map zt v17.Ended) true none))]) eC Cl.fn (Y3 h18) (Ec eZ En) (Vc (VD.agg rfl) Vn) (by simp[qZ,jC,qq,jn,qy]) rfl (fC (nR rfl) rfl (fC (nR rfl) rfl (fC (nR rfl) rfl (fC (nR rfl) rfl (fC (nR rfl) rfl (fC (nR rfl) rfl (fC (nR rfl) rfl (fC (nR rfl) rfl fN)))))))) (zm (zw (zO (es:=[(dI v17.Me),(.sl 3393 0 v17.Own.length),(.sl 3394 0 v17.Frozen.length),(.sl 3395 0 v17.Cells.length),(.sl 3396 0 v17.Locks.length),(.sl 3397 0 v17.Helds.length),(.sl 3398 0 v17.Wounded.length),(.sl 3399 0 v17.Ended.length),(dI v17.Rank)]) rfl eZ rfl rfl (bR rfl) rfl (zm (z7 (za eC (xQ (AW.ret (BQ.qr (TQ.qr ?_))))))))))
      cases H
      exact qK (RL.cons (jg (es:=[(dI v17.Me),(.sl 3393 0 v17.Own.length),(.sl 3394 0 v17.Frozen.length),(.sl 3395 0 v17.Cells.length),(.sl 3396 0 v17.Locks.length),(.sl 3397 0 v17.Helds.length),(.sl 3398 0 v17.Wounded.length),(.sl 3399 0 v17.Ended.length),(dI v17.Rank)]) rfl bZ rfl) (VO.aggs (VOs.cons (VO.flat rfl) (VOs.cons (VO.sl (bR rfl) lm (zy fun _=>rfl)) (VOs.cons (VO.sl (bR rfl) lm (zy fun _=>rfl)) (VOs.cons (VO.sl (bR rfl) lm (zy fun _=>rfl)) (VOs.cons (VO.sl (bR rfl) lm (zy fun _=>rfl)) (VOs.cons (Qf (bR rfl) lm rfl) (VOs.cons (VO.sl (bR rfl) lm (zy fun _=>rfl)) (VOs.cons (VO.sl (bR rfl) lm (zy fun _=>rfl)) (VOs.cons (VO.flat rfl) VOs.nil)))))))))) (RL.cons (RV.tmp eZ) (VO.flat rfl) RL.nil)) (by decide)
     ·refine zh rfl (nt h16) (AW.skip (BQ.qn (TQ.qn (aV (zf (m:=1) rfl rfl (zl (q:=1) (c:=(.d (.sl 2 (List.map zd a1.Own)))) eZ bZ rfl rfl (zM (es:=[(dI a3.Lo),(dI a3.Hi)]) rfl (bR rfl) rfl ?_)))))))
      obtain⟨v19,h20,H⟩:=zk H
      refine ju (u:=(.tup [(.one (.sl 3712 0 v19.1.length)),(oB v19.2)])) (bs:=[(3712,(.data 2 (List.map zd v19.1) true none))]) eC Cl.fn (K8 h20) (Ec rfl (Ec eZ En)) (Vc Vp (Vc (VD.agg rfl) Vn)) (by simp[qZ,jC,qq,jn,qy]) rfl (fC (nR rfl) rfl (fC (nR rfl) rfl fN)) (za eZ (kI (v:=(.one (.sl 3712 0 v19.1.length))) eZ rfl (kI (v:=(oB v19.2)) rfl rfl (za rfl (za rfl (xQ (aV (zf (m:=2) rfl rfl (zl (q:=2) (c:=(.d (.sl 2 (List.map zd a1.Frozen)))) eZ (bR rfl) rfl rfl (zM (es:=[(dI a3.Lo),(dI a3.Hi)]) rfl (bR rfl) rfl ?_))))))))))
      obtain⟨v21,h22,H⟩:=zk H
      refine ju (u:=(.tup [(.one (.sl 4160 0 v21.1.length)),(oB v21.2)])) (bs:=[(4160,(.data 2 (List.map zd v21.1) true none))]) eC Cl.fn (K8 h22) (Ec rfl (Ec eZ En)) (Vc Vp (Vc (VD.agg rfl) Vn)) (by simp[qZ,jC,qq,jn,qy]) rfl (fC (nR rfl) rfl (fC (nR rfl) rfl fN)) (za eZ (kI (v:=(.one (.sl 4160 0 v21.1.length))) eZ rfl (kI (v:=(oB v21.2)) rfl rfl (za rfl (za rfl (xQ (AW.weaken (zI [] (kr 12 rfl rfl (kr 11 rfl rfl (kr 10 rfl rfl (kr 9 rfl rfl (kr 1 rfl rfl (kr 3 rfl rfl (kr 5 rfl rfl (kr 6 rfl rfl SL.nil)))))))) (blR rfl) (BK.cons (n:=4160) rfl bZ rfl rfl (BK.cons (n:=3712) rfl (bR rfl) rfl rfl (BK.cons (n:=192) rfl (bR rfl) rfl rfl (BK.cons (n:=320) rfl (bR rfl) rfl rfl (BK.cons (n:=384) rfl (bR rfl) rfl rfl BK.nil))))) GK.nil) (aS (zW (zw (zM (es:=(zF a1)) rfl (bR rfl) rfl (zm (zw ?_)))))))))))))
      obtain⟨v23,h24,H⟩:=zk H
      refine ju (u:=(.agg [(dI v23.Me),(.sl 4417 0 v23.Own.length),(.sl 4418 0 v23.Frozen.length),(.sl 4419 0 v23.Cells.length),(.sl 4420 0 v23.Locks.length),(.sl 4421 0 v23.Helds.length),(.sl 4422 0 v23.Wounded.length),(.sl 4423 0 v23.Ended.length),(dI v23.Rank)])) (bs:=[(4417,(.data 2 (List.map zd v23.Own) true none)),(4418,(.data 2 (List.map zd v23.Frozen) true none)),(4419,(.data 2 (List.map zj v23.Cells) true none)),(4420,(.data 4 (List.map zp v23.Locks) true none)),(4421,(.data 2 (List.map zB v23.Helds) true none)),(4422,(.data 1 (List.map zt v23.Wounded) true none)),(4423,(.data 1 (List.map zt v23.Ended) true none))]) eC Cl.fn (Y3 h24) (Ec eZ En) (Vc (VD.agg rfl) Vn) (by simp[qZ,jC,qq,jn,qy]) rfl (fC (nR rfl) rfl (fC (nR rfl) rfl (fC (nR rfl) rfl (fC (nR rfl) rfl (fC (nR rfl) rfl (fC (nR rfl) rfl (fC (nR rfl) rfl (fC (nR rfl) rfl fN)))))))) (zm (zw (Zh (n:=832) (m:=9) rfl rfl (nR rfl) (zm (zw (zO (es:=[(dI v23.Me),(.sl 4417 0 v23.Own.length),(.sl 4418 0 v23.Frozen.length),(.sl 4419 0 v23.Cells.length),(.sl 4420 0 v23.Locks.length),(.sl 4421 0 v23.Helds.length),(.sl 4422 0 v23.Wounded.length),(.sl 4423 0 v23.Ended.length),(dI v23.Rank)]) eZ rfl rfl rfl bZ rfl (zm (z7 (xQ (aS (zE (fun t25:Bool=>(ZL v23 a1 a3 v19 v21 a2) t25=some r) (fun t25=>mk [(1,(oI a2)),(3,(.one (.ptr (.nm 192 0 0)))),(5,(.one (.ptr (.nm 320 0 0)))),(6,(.one (.ptr (.nm 384 0 0)))),(9,(.one (.sl 3712 0 v19.1.length))),(11,(.one (.sl 4160 0 v21.1.length))),(13,(.one (.ptr (.nm 832 0 0)))),(75,(oB t25))] [(192,(.vars 9 (zF a1))),(320,(.vars 2 [(dI a3.Lo),(dI a3.Hi)])),(384,(.vars 9 [(dI 0),.zs,.zs,.zs,.zs,.zs,.zs,.zs,(dI 0)])),(832,(.vars 9 [(dI v23.Me),(.sl 4417 0 v23.Own.length),(.sl 4418 0 v23.Frozen.length),(.sl 4419 0 v23.Cells.length),(.sl 4420 0 v23.Locks.length),(.sl 4421 0 v23.Helds.length),(.sl 4422 0 v23.Wounded.length),(.sl 4423 0 v23.Ended.length),(dI v23.Rank)])),(3712,(.data 2 (List.map zd v19.1) true none)),(4160,(.data 2 (List.map zd v21.1) true none)),(4417,(.data 2 (List.map zd v23.Own) true none)),(4418,(.data 2 (List.map zd v23.Frozen) true none)),(4419,(.data 2 (List.map zj v23.Cells) true none)),(4420,(.data 4 (List.map zp v23.Locks) true none)),(4421,(.data 2 (List.map zB v23.Helds) true none)),(4422,(.data 1 (List.map zt v23.Wounded) true none)),(4423,(.data 1 (List.map zt v23.Ended) true none))] (lk [])) ?_ ?_)))))))))))
      ·intro t25 H
       unfold ZL at H
       rcases zA H with⟨h27,H⟩|⟨h27,H⟩
       ·refine zi rfl h27 (aS (zW (zw (zM (es:=[(dI v23.Me),(.sl 4417 0 v23.Own.length),(.sl 4418 0 v23.Frozen.length),(.sl 4419 0 v23.Cells.length),(.sl 4420 0 v23.Locks.length),(.sl 4421 0 v23.Helds.length),(.sl 4422 0 v23.Wounded.length),(.sl 4423 0 v23.Ended.length),(dI v23.Rank)]) rfl (bR rfl) rfl (zm (zw (zO (es:=[(dI v23.Me),(.sl 4417 0 v23.Own.length),(.sl 4418 0 v23.Frozen.length),(.sl 4419 0 v23.Cells.length),(.sl 4420 0 v23.Locks.length),(.sl 4421 0 v23.Helds.length),(.sl 4422 0 v23.Wounded.length),(.sl 4423 0 v23.Ended.length),(dI v23.Rank)]) rfl eZ rfl rfl (bR rfl) rfl (zm (z7 (za eC (xQ (AW.ret (TQ.qr ?_)))))))))))))
        cases H
        exact qK (RL.cons (jg (es:=[(dI v23.Me),(.sl 4417 0 v23.Own.length),(.sl 4418 0 v23.Frozen.length),(.sl 4419 0 v23.Cells.length),(.sl 4420 0 v23.Locks.length),(.sl 4421 0 v23.Helds.length),(.sl 4422 0 v23.Wounded.length),(.sl 4423 0 v23.Ended.length),(dI v23.Rank)]) rfl bZ rfl) (VO.aggs (VOs.cons (VO.flat rfl) (VOs.cons (VO.sl (bR rfl) lm (zy fun _=>rfl)) (VOs.cons (VO.sl (bR rfl) lm (zy fun _=>rfl)) (VOs.cons (VO.sl (bR rfl) lm (zy fun _=>rfl)) (VOs.cons (VO.sl (bR rfl) lm (zy fun _=>rfl)) (VOs.cons (Qf (bR rfl) lm rfl) (VOs.cons (VO.sl (bR rfl) lm (zy fun _=>rfl)) (VOs.cons (VO.sl (bR rfl) lm (zy fun _=>rfl)) (VOs.cons (VO.flat rfl) VOs.nil)))))))))) (RL.cons (RV.tmp eZ) (VO.flat rfl) RL.nil)) (by decide)
       ·refine zh rfl (nt h27) (AW.skip (TQ.qn (aV (za eZ (zf (m:=8) rfl rfl (zO (es:=[(dI v23.Me),(.sl 4417 0 v23.Own.length),(.sl 4418 0 v23.Frozen.length),(.sl 4419 0 v23.Cells.length),(.sl 4420 0 v23.Locks.length),(.sl 4421 0 v23.Helds.length),(.sl 4422 0 v23.Wounded.length),(.sl 4423 0 v23.Ended.length),(dI a2)]) eZ rfl rfl rfl (bR rfl) rfl (xQ (aS (zW (zw (za rfl (zm (zw (zf (m:=1) rfl rfl (zm (zw (zO (es:=[(dI v23.Me),(.sl 3712 0 v19.1.length),(.sl 4418 0 v23.Frozen.length),(.sl 4419 0 v23.Cells.length),(.sl 4420 0 v23.Locks.length),(.sl 4421 0 v23.Helds.length),(.sl 4422 0 v23.Wounded.length),(.sl 4423 0 v23.Ended.length),(dI a2)]) eZ rfl rfl rfl bZ rfl (zm (z7 (xQ (aS (zW (zw (za rfl (zm (zw (zf (m:=2) rfl rfl (zm (zw (zO (es:=[(dI v23.Me),(.sl 3712 0 v19.1.length),(.sl 4160 0 v21.1.length),(.sl 4419 0 v23.Cells.length),(.sl 4420 0 v23.Locks.length),(.sl 4421 0 v23.Helds.length),(.sl 4422 0 v23.Wounded.length),(.sl 4423 0 v23.Ended.length),(dI a2)]) eZ rfl rfl rfl bZ rfl (zm (z7 (xQ (aS (zW ?_)))))))))))))))))))))))))))))))))))
        refine zw (zf (m:=3) rfl rfl (zm (zw (zl (q:=3) (c:=(.d (.sl 2 (List.map zj a1.Cells)))) eZ (bR rfl) rfl rfl (zm (zw (zM (es:=[(dI a3.Lo),(dI a3.Hi)]) rfl (bR rfl) rfl (zm (zw ?_)))))))))
        obtain⟨v28,h29,H⟩:=zk H
        refine ju (u:=(.one (.sl 5504 0 v28.length))) (bs:=[(5504,(.data 2 (List.map zj v28) true none))]) eC Cl.fn (zeN h29) (Ec rfl (Ec eZ En)) (Vc Vp (Vc (VD.agg rfl) Vn)) (by simp[qZ,jC,qq,jn,qy]) rfl (fC (nR rfl) rfl (fC (nR rfl) rfl fN)) (zm (zw (zf (m:=3) rfl rfl (zm (zw (zO (es:=[(dI v23.Me),(.sl 3712 0 v19.1.length),(.sl 4160 0 v21.1.length),(.sl 5504 0 v28.length),(.sl 4420 0 v23.Locks.length),(.sl 4421 0 v23.Helds.length),(.sl 4422 0 v23.Wounded.length),(.sl 4423 0 v23.Ended.length),(dI a2)]) eZ rfl rfl rfl (bR rfl) rfl (zm (z7 (xQ (AW.weaken (zI [192,320,4417,4418,4419] (kr 6 rfl rfl (kr 13 rfl rfl SL.nil)) (blR rfl) (BK.cons (n:=832) rfl bZ rfl rfl (BK.cons (n:=5504) rfl (bR rfl) rfl rfl (BK.cons (n:=384) rfl (bR rfl) rfl rfl (BK.cons (n:=3712) rfl (bR rfl) rfl rfl (BK.cons (n:=4160) rfl (bR rfl) rfl rfl (BK.cons (n:=4420) rfl (bR rfl) rfl rfl (BK.cons (n:=4421) rfl (bR rfl) rfl rfl (BK.cons (n:=4422) rfl (bR rfl) rfl rfl (BK.cons (n:=4423) rfl (bR rfl) rfl rfl BK.nil))))))))) GK.nil) (aS (zW (zw (zM (es:=[(dI v23.Me),(.sl 3712 0 v19.1.length),(.sl 4160 0 v21.1.length),(.sl 5504 0 v28.length),(.sl 4420 0 v23.Locks.length),(.sl 4421 0 v23.Helds.length),(.sl 4422 0 v23.Wounded.length),(.sl 4423 0 v23.Ended.length),(dI a2)]) rfl bZ rfl (zm (zw (zO (es:=[(dI v23.Me),(.sl 3712 0 v19.1.length),(.sl 4160 0 v21.1.length),(.sl 5504 0 v28.length),(.sl 4420 0 v23.Locks.length),(.sl 4421 0 v23.Helds.length),(.sl 4422 0 v23.Wounded.length),(.sl 4423 0 v23.Ended.length),(dI a2)]) rfl eZ rfl rfl (bR rfl) rfl (zm (z7 (za eC (xQ (AW.ret ?_))))))))))))))))))))))
        cases H
        exact qK (RL.cons (jg (es:=[(dI v23.Me),(.sl 3712 0 v19.1.length),(.sl 4160 0 v21.1.length),(.sl 5504 0 v28.length),(.sl 4420 0 v23.Locks.length),(.sl 4421 0 v23.Helds.length),(.sl 4422 0 v23.Wounded.length),(.sl 4423 0 v23.Ended.length),(dI a2)]) rfl bZ rfl) (VO.aggs (VOs.cons (VO.flat rfl) (VOs.cons (VO.sl (bR rfl) lm (zy fun _=>rfl)) (VOs.cons (VO.sl (bR rfl) lm (zy fun _=>rfl)) (VOs.cons (VO.sl (bR rfl) lm (zy fun _=>rfl)) (VOs.cons (VO.sl (bR rfl) lm (zy fun _=>rfl)) (VOs.cons (Qf (bR rfl) lm rfl) (VOs.cons (VO.sl (bR rfl) lm (zy fun _=>rfl)) (VOs.cons (VO.sl (bR rfl) lm (zy fun _=>rfl)) (VOs.cons (VO.flat rfl) VOs.nil)))))))))) (RL.cons (RV.tmp eZ) (VO.flat rfl) RL.nil)) (by decide)
      ·refine aR (za rfl (qI eZ (za eZ ?_)))
       rcases zA H with⟨h30,H⟩|⟨h30,H⟩
       ·exact gDo eZ (cN h30) (za rfl (gDo rfl (cN h30) (qI eZ (zJ rfl (cN h30) eZ (zm (TQ.qn ⟨(!v21.2),H,(zI [] (sR rfl rfl) (blR rfl) (BK.cons rfl (bR rfl) rfl rfl (BK.cons rfl (bR rfl) rfl rfl (BK.cons rfl (bR rfl) rfl rfl (BK.cons rfl bZ rfl (by first|rfl|simp) (bkR rfl rfl rfl))))) GK.nil)⟩))))))
       ·exact zb eZ (cN (nt h30)) rfl (zb rfl (cN (nt h30)) rfl (zC rfl (cN (nt h30)) eC (zm (TQ.qn ⟨true,H,(zI [] (sR rfl rfl) (blR rfl) (BK.cons rfl (bR rfl) rfl rfl (BK.cons rfl (bR rfl) rfl rfl (BK.cons rfl (bR rfl) rfl rfl (BK.cons rfl bZ rfl (by first|rfl|simp) (bkR rfl rfl rfl))))) GK.nil)⟩))))
    ·refine aR (zf (m:=2) rfl rfl (zl (q:=2) (c:=(.d (.sl 2 (List.map zd a1.Frozen)))) eZ bZ rfl rfl (zM (es:=[(dI a3.Lo),(dI a3.Hi)]) rfl (bR rfl) rfl ?_)))
     obtain⟨v31,h32,H⟩:=zk H
     refine zD (u:=(oB v31)) eC Cl.fn (kT h32) (Ec rfl (Ec eZ En)) (Vc Vp (Vc (VD.agg rfl) Vn)) rfl (qI eZ (za eZ ?_))
     rcases zA H with⟨h33,H⟩|⟨h33,H⟩
     ·refine gDo eZ (cN h33) (zf (m:=4) rfl rfl (gDo rfl (cN h33) (zl (q:=4) (c:=(.d (.sl 4 (List.map zp a1.Locks)))) eZ bZ rfl rfl (gDo rfl (cN h33) (zbt (ps:=[(.nm 320 0 0)]) (Ec rfl En) (gDo rfl (cN h33) ?_))))))
      obtain⟨v34,h35,H⟩:=zk H
      exact zD (u:=(oB v34)) eC Cl.fn (JU h35) (Ec rfl (Ec eZ En)) (Vc Vp (Vc (VD.fn (PDs.cons (ZR (bR rfl) (CDs.plain (CDs.plain CDs.nil))) PDs.nil)) Vn)) rfl (zJ rfl (cN h33) eZ (za eZ (zm (TQ.qn ⟨v34,H,(zI [] (sR rfl rfl) (blR rfl) (bkR rfl rfl rfl) GK.nil)⟩))))
     ·exact zb eZ (cN (nt h33)) rfl (zb rfl (cN (nt h33)) rfl (zb rfl (cN (nt h33)) rfl (zb rfl (cN (nt h33)) rfl (zC rfl (cN (nt h33)) eC (za eZ (zm (TQ.qn ⟨true,H,(zI [] (sR rfl rfl) (blR rfl) (bkR rfl rfl rfl) GK.nil)⟩)))))))
  ·refine aR (za rfl (zf (m:=8) rfl rfl (zl (q:=8) (c:=(dI a1.Rank)) eZ (bR rfl) rfl rfl (KG rfl eZ (za eZ ?_)))))
   rcases zA H with⟨h36,H⟩|⟨h36,H⟩
   ·refine gDo eZ (dT h36) (zf (m:=1) rfl rfl (gDo rfl (dT h36) (zl (q:=1) (c:=(.d (.sl 2 (List.map zd a1.Own)))) eZ (bR rfl) rfl rfl (gDo rfl (dT h36) (zM (es:=[(dI a3.Lo),(dI a3.Hi)]) rfl (bR rfl) rfl (gDo rfl (dT h36) ?_))))))
    obtain⟨v37,h38,H⟩:=zk H
    exact zD (u:=(oB v37)) eC Cl.fn (zfx h38) (Ec rfl (Ec eZ En)) (Vc Vp (Vc (VD.agg rfl) Vn)) rfl (gDo rfl (dT h36) (qI eZ (zC rfl (dT h36) eZ (za eZ (zm (TQ.qn ⟨(!v37),H,(zI [] (sR rfl rfl) (blR rfl) (bkR rfl rfl rfl) GK.nil)⟩))))))
   ·exact zb eZ (dF h36) rfl (zb rfl (dF h36) rfl (zb rfl (dF h36) rfl (zb rfl (dF h36) rfl (zb rfl (dF h36) rfl (zJ rfl (dF h36) eC (za eZ (zm (TQ.qn ⟨false,H,(zI [] (sR rfl rfl) (blR rfl) (bkR rfl rfl rfl) GK.nil)⟩))))))))
theorem ze8{a1:ze}{a2:ze}{r:Bool}(H:J8 a1 a2=some r):Fn Tryz.prog 209 (lent [(.agg (zd a1)),(.agg (zd a2))]) true [(.bool r)]:=by
 refine zGd (fle rfl) ?_
 rw[zx]
 refine AW.weaken (zg [] (kv 0 (.agg [(dI a1.Lo),(dI a1.Hi)]) rfl rfl (kv 1 (.agg [(dI a2.Lo),(dI a2.Hi)]) rfl rfl SL.nil)) BL.nil BK.nil) ?_
 unfold J8 at H
 unfold zDU
 refine aV (qY (n:=128) (m:=2) (cs:=[(dI a1.Lo),(dI a1.Hi)]) rfl eZ rfl rfl nZ (qY (n:=192) (m:=2) (cs:=[(dI a2.Lo),(dI a2.Hi)]) rfl rfl rfl rfl (nR rfl) (za eC (xQ (aS (aV (zf (m:=0) rfl rfl (zl (q:=0) (c:=(dI a1.Lo)) eZ (bR rfl) rfl rfl (zf (m:=0) rfl rfl (zl (q:=0) (c:=(dI a2.Lo)) eZ bZ rfl rfl (Qh rfl eZ (xQ ?_))))))))))))
 rcases zA H with⟨h3,H⟩|⟨h3,H⟩
 ·refine zi eZ (dT h3) (aV (za eC (xQ (AW.ret (TQ.qr ?_)))))
  cases H
  exact eE rfl rfl
 ·refine zh eZ (dF h3) (AW.skip (TQ.qn (aS (aV (zf (m:=1) rfl rfl (zl (q:=1) (c:=(dI a1.Hi)) eZ (bR rfl) rfl rfl (zf (m:=1) rfl rfl (zl (q:=1) (c:=(dI a2.Hi)) eZ bZ rfl rfl (Qh rfl eZ (xQ ?_))))))))))
  rcases zA H with⟨h4,H⟩|⟨h4,H⟩
  ·refine zi eZ (dT h4) (aV (za eC (xQ (AW.weaken (zg [192,128] (kr 4 rfl rfl SL.nil) (blR rfl) BK.nil) (AW.ret (TQ.qr ?_))))))
   cases H
   exact eE rfl rfl
  ·refine zh eZ (dF h4) (AW.skip (TQ.qn (aV (za eC (xQ (AW.weaken (zg [192,128] (kr 4 rfl rfl SL.nil) (blR rfl) BK.nil) (AW.ret ?_)))))))
   cases H
   exact eE rfl rfl
theorem za5{a1:(List ze)}{a2:(List ze)}{r:Bool}(H:ZW a1 a2=some r):Fn Tryz.prog 95 (lent [(.sl 2 (List.map zd a1)),(.sl 2 (List.map zd a2))]) true [(.bool r)]:=by
 refine f95 (fle rfl) ?_
 rw[zx]
 refine AW.weaken (zg [] (kv 0 (.one (.d (.sl 2 (List.map zd a1)))) rfl rfl (kv 1 (.one (.d (.sl 2 (List.map zd a2)))) rfl rfl SL.nil)) BL.nil BK.nil) ?_
 unfold ZW at H
 unfold i95
 refine aV (za eC (xQ (aS (aV (za rfl (zX eZ (n:=a1.length) lm (za rfl (zX eZ (n:=a2.length) lm (Qh rfl eZ (xQ ?_))))))))))
 rcases zA H with⟨h3,H⟩|⟨h3,H⟩
 ·refine zi eZ (dT h3) (aV (za eC (xQ (AW.ret (TQ.qr ?_)))))
  cases H
  exact eE rfl rfl
 ·refine zh eZ (dF h3) (AW.skip (TQ.qn (zE (fun t4:Unit=>XQ t4=some r) (fun t4=>mk [] [] noG) ?_ ?_)))
  ·intro t4 H
   unfold XQ at H
   refine aV (za eC (xQ (AW.ret ?_)))
   cases H
   exact eE rfl rfl
  ·refine aV (za eC (xQ (AW.block (AW.iter (fun s6:Int=>mk [(0,(.one (.d (.sl 2 (List.map zd a1))))),(1,(.one (.d (.sl 2 (List.map zd a2))))),(5,(oI s6))] [] noG) H (zg [] (sR rfl rfl) BL.nil BK.nil) ?_))))
   intro kb7 s6 H
   unfold YI at H
   refine aS (aV (za rfl (za rfl (zX eZ (n:=a1.length) lm (qi rfl eZ (xQ ?_))))))
   rcases zA H with⟨h8,H⟩|⟨h8,H⟩
   ·refine zi eZ (dT h8) (AW.skip (TQ.qn (aS (AW.block (aS (AW.regd (za rfl (za rfl ?_))))))))
    obtain⟨v9,h10,H⟩:=zk H
    refine qt rfl eZ h10 (zZ (es:=[(dI v9.Lo),(dI v9.Hi)]) eZ rfl (za rfl (za rfl ?_)))
    obtain⟨v11,h12,H⟩:=zk H
    refine qt rfl eZ h12 (zZ (es:=[(dI v11.Lo),(dI v11.Hi)]) eZ rfl ?_)
    obtain⟨v13,h14,H⟩:=zk H
    refine zD (u:=(oB v13)) eC Cl.fn (ze8 h14) (Ec rfl (Ec eZ En)) (Vc (VD.agg rfl) (Vc (VD.agg rfl) Vn)) rfl (qI eZ (xQ (AW.weaken (zg [] (kr 26 rfl rfl (kr 0 rfl rfl (kr 1 rfl rfl (kr 5 rfl rfl SL.nil)))) BL.nil BK.nil) ?_)))
    rcases zA H with⟨h15,H⟩|⟨h15,H⟩
    ·exact zh eZ (cN h15) (AW.skip (BQ.qn (TQ.qn (aR (za rfl (qg eZ eC (za eZ (zm (TQ.qn ⟨(IntKind.wrap .i64 (s6+1)),H,(zg [] (sR rfl rfl) BL.nil BK.nil)⟩)))))))))
    ·refine zi eZ (cN (nt h15)) (aV (za eC (xQ (AW.ret (BQ.qr (TQ.qr (TQ.qr (BQ.qr (TQ.qr ?_)))))))))
     cases H
     exact eE rfl rfl
   ·exact zh eZ (dF h8) (AW.exit (TQ.qe (TQ.qe (BQ.qe (TQ.qn ⟨(),H,(zg [] SL.nil BL.nil BK.nil)⟩)))))
theorem zgf{a1:zn}{a2:zn}{r:Bool}(H:xL a1 a2=some r):Fn Tryz.prog 146 (lent [(.agg (zj a1)),(.agg (zj a2))]) true [(.bool r)]:=by
 refine zFT (fle rfl) ?_
 rw[zx]
 refine AW.weaken (zg [] (kv 0 (.agg [(dI a1.Key),(dI a1.Value)]) rfl rfl (kv 1 (.agg [(dI a2.Key),(dI a2.Value)]) rfl rfl SL.nil)) BL.nil BK.nil) ?_
 unfold xL at H
 unfold zFc
 refine aV (qY (n:=128) (m:=2) (cs:=[(dI a1.Key),(dI a1.Value)]) rfl eZ rfl rfl nZ (qY (n:=192) (m:=2) (cs:=[(dI a2.Key),(dI a2.Value)]) rfl rfl rfl rfl (nR rfl) (za eC (xQ (aS (aV (zf (m:=0) rfl rfl (zl (q:=0) (c:=(dI a1.Key)) eZ (bR rfl) rfl rfl (zf (m:=0) rfl rfl (zl (q:=0) (c:=(dI a2.Key)) eZ bZ rfl rfl (Qh rfl eZ (xQ ?_))))))))))))
 rcases zA H with⟨h3,H⟩|⟨h3,H⟩
 ·refine zi eZ (dT h3) (aV (za eC (xQ (AW.ret (TQ.qr ?_)))))
  cases H
  exact eE rfl rfl
 ·refine zh eZ (dF h3) (AW.skip (TQ.qn (aS (aV (zf (m:=1) rfl rfl (zl (q:=1) (c:=(dI a1.Value)) eZ (bR rfl) rfl rfl (zf (m:=1) rfl rfl (zl (q:=1) (c:=(dI a2.Value)) eZ bZ rfl rfl (Qh rfl eZ (xQ ?_))))))))))
  rcases zA H with⟨h4,H⟩|⟨h4,H⟩
  ·refine zi eZ (dT h4) (aV (za eC (xQ (AW.weaken (zg [192,128] (kr 4 rfl rfl SL.nil) (blR rfl) BK.nil) (AW.ret (TQ.qr ?_))))))
   cases H
   exact eE rfl rfl
  ·refine zh eZ (dF h4) (AW.skip (TQ.qn (aV (za eC (xQ (AW.weaken (zg [192,128] (kr 4 rfl rfl SL.nil) (blR rfl) BK.nil) (AW.ret ?_)))))))
   cases H
   exact eE rfl rfl
theorem zfY{a1:(List zn)}{a2:(List zn)}{r:Bool}(H:YB a1 a2=some r):Fn Tryz.prog 32 (lent [(.sl 2 (List.map zj a1)),(.sl 2 (List.map zj a2))]) true [(.bool r)]:=by
 refine f32 (fle rfl) ?_
 rw[zx]
 refine AW.weaken (zg [] (kv 0 (.one (.d (.sl 2 (List.map zj a1)))) rfl rfl (kv 1 (.one (.d (.sl 2 (List.map zj a2)))) rfl rfl SL.nil)) BL.nil BK.nil) ?_
 unfold YB at H
 unfold i32
 refine aV (za eC (xQ (aS (aV (za rfl (zX eZ (n:=a1.length) lm (za rfl (zX eZ (n:=a2.length) lm (Qh rfl eZ (xQ ?_))))))))))
 rcases zA H with⟨h3,H⟩|⟨h3,H⟩
 ·refine zi eZ (dT h3) (aV (za eC (xQ (AW.ret (TQ.qr ?_)))))
  cases H
  exact eE rfl rfl
 ·refine zh eZ (dF h3) (AW.skip (TQ.qn (zE (fun t4:Unit=>Kc t4=some r) (fun t4=>mk [] [] noG) ?_ ?_)))
  ·intro t4 H
   unfold Kc at H
   refine aV (za eC (xQ (AW.ret ?_)))
   cases H
   exact eE rfl rfl
  ·refine aV (za eC (xQ (AW.block (AW.iter (fun s6:Int=>mk [(0,(.one (.d (.sl 2 (List.map zj a1))))),(1,(.one (.d (.sl 2 (List.map zj a2))))),(5,(oI s6))] [] noG) H (zg [] (sR rfl rfl) BL.nil BK.nil) ?_))))
   intro kb7 s6 H
   unfold xU at H
   refine aS (aV (za rfl (za rfl (zX eZ (n:=a1.length) lm (qi rfl eZ (xQ ?_))))))
   rcases zA H with⟨h8,H⟩|⟨h8,H⟩
   ·refine zi eZ (dT h8) (AW.skip (TQ.qn (aS (AW.block (aS (AW.regd (za rfl (za rfl ?_))))))))
    obtain⟨v9,h10,H⟩:=zk H
    refine qt rfl eZ h10 (zZ (es:=[(dI v9.Key),(dI v9.Value)]) eZ rfl (za rfl (za rfl ?_)))
    obtain⟨v11,h12,H⟩:=zk H
    refine qt rfl eZ h12 (zZ (es:=[(dI v11.Key),(dI v11.Value)]) eZ rfl ?_)
    obtain⟨v13,h14,H⟩:=zk H
    refine zD (u:=(oB v13)) eC Cl.fn (zgf h14) (Ec rfl (Ec eZ En)) (Vc (VD.agg rfl) (Vc (VD.agg rfl) Vn)) rfl (qI eZ (xQ (AW.weaken (zg [] (kr 26 rfl rfl (kr 0 rfl rfl (kr 1 rfl rfl (kr 5 rfl rfl SL.nil)))) BL.nil BK.nil) ?_)))
    rcases zA H with⟨h15,H⟩|⟨h15,H⟩
    ·exact zh eZ (cN h15) (AW.skip (BQ.qn (TQ.qn (aR (za rfl (qg eZ eC (za eZ (zm (TQ.qn ⟨(IntKind.wrap .i64 (s6+1)),H,(zg [] (sR rfl rfl) BL.nil BK.nil)⟩)))))))))
    ·refine zi eZ (cN (nt h15)) (aV (za eC (xQ (AW.ret (BQ.qr (TQ.qr (TQ.qr (BQ.qr (TQ.qr ?_)))))))))
     cases H
     exact eE rfl rfl
   ·exact zh eZ (dF h8) (AW.exit (TQ.qe (TQ.qe (BQ.qe (TQ.qn ⟨(),H,(zg [] SL.nil BL.nil BK.nil)⟩)))))
theorem zgt{a1:zL}{a2:zL}{r:Bool}(H:xJ a1 a2=some r):Fn Tryz.prog 210 (lent [(.agg (zp a1)),(.agg (zp a2))]) true [(.bool r)]:=by
 refine zFP (fle rfl) ?_
 rw[zx]
 refine AW.weaken (zg [] (kv 0 (.agg (qj a1)) rfl rfl (kv 1 (.agg (qj a2)) rfl rfl SL.nil)) BL.nil BK.nil) ?_
 unfold xJ at H
 unfold zDS
 refine aV (qY (n:=128) (m:=4) (cs:=(qj a1)) rfl eZ rfl rfl nZ (qY (n:=192) (m:=4) (cs:=(qj a2)) rfl rfl rfl rfl (nR rfl) (za eC (xQ (aS (aV (zf (m:=0) rfl rfl (zl (q:=0) (c:=(dI a1.Tx)) eZ (bR rfl) rfl rfl (zf (m:=0) rfl rfl (zl (q:=0) (c:=(dI a2.Tx)) eZ bZ rfl rfl (Qh rfl eZ (xQ ?_))))))))))))
 rcases zA H with⟨h3,H⟩|⟨h3,H⟩
 ·refine zi eZ (dT h3) (aV (za eC (xQ (AW.ret (TQ.qr ?_)))))
  cases H
  exact eE rfl rfl
 ·refine zh eZ (dF h3) (AW.skip (TQ.qn (aS (aV (zf (m:=1) rfl rfl (zl (q:=1) (c:=(dI a1.Lo)) eZ (bR rfl) rfl rfl (zf (m:=1) rfl rfl (zl (q:=1) (c:=(dI a2.Lo)) eZ bZ rfl rfl (Qh rfl eZ (xQ ?_))))))))))
  rcases zA H with⟨h4,H⟩|⟨h4,H⟩
  ·refine zi eZ (dT h4) (aV (za eC (xQ (AW.weaken (zg [192,128] (kr 4 rfl rfl SL.nil) (blR rfl) BK.nil) (AW.ret (TQ.qr ?_))))))
   cases H
   exact eE rfl rfl
  ·refine zh eZ (dF h4) (AW.skip (TQ.qn (aS (aV (zf (m:=2) rfl rfl (zl (q:=2) (c:=(dI a1.Hi)) eZ (bR rfl) rfl rfl (zf (m:=2) rfl rfl (zl (q:=2) (c:=(dI a2.Hi)) eZ bZ rfl rfl (Qh rfl eZ (xQ (AW.weaken (zg [] (kr 19 rfl rfl (kr 3 rfl rfl (kr 2 rfl rfl SL.nil))) (blR rfl) (BK.cons (n:=192) rfl bZ rfl rfl (BK.cons (n:=128) rfl (bR rfl) rfl rfl BK.nil))) ?_)))))))))))
   rcases zA H with⟨h5,H⟩|⟨h5,H⟩
   ·refine zi eZ (dT h5) (aV (za eC (xQ (AW.ret (TQ.qr ?_)))))
    cases H
    exact eE rfl rfl
   ·refine zh eZ (dF h5) (AW.skip (TQ.qn (aS (aV (zf (m:=3) rfl rfl (zl (q:=3) (c:=(dI a1.Mode)) eZ (bR rfl) rfl rfl (zf (m:=3) rfl rfl (zl (q:=3) (c:=(dI a2.Mode)) eZ bZ rfl rfl (Qh rfl eZ (xQ ?_))))))))))
    rcases zA H with⟨h6,H⟩|⟨h6,H⟩
    ·refine zi eZ (dT h6) (aV (za eC (xQ (AW.ret (TQ.qr ?_)))))
     cases H
     exact eE rfl rfl
    ·refine zh eZ (dF h6) (AW.skip (TQ.qn (aV (za eC (xQ (AW.ret ?_))))))
     cases H
     exact eE rfl rfl
theorem ze6{a1:(List zL)}{a2:(List zL)}{r:Bool}(H:Ya a1 a2=some r):Fn Tryz.prog 96 (lent [(.sl 4 (List.map zp a1)),(.sl 4 (List.map zp a2))]) true [(.bool r)]:=by
 refine f96 (fle rfl) ?_
 rw[zx]
 refine AW.weaken (zg [] (kv 0 (.one (.d (.sl 4 (List.map zp a1)))) rfl rfl (kv 1 (.one (.d (.sl 4 (List.map zp a2)))) rfl rfl SL.nil)) BL.nil BK.nil) ?_
 unfold Ya at H
 unfold i96
 refine aV (za eC (xQ (aS (aV (za rfl (zX eZ (n:=a1.length) lm (za rfl (zX eZ (n:=a2.length) lm (Qh rfl eZ (xQ ?_))))))))))
 rcases zA H with⟨h3,H⟩|⟨h3,H⟩
 ·refine zi eZ (dT h3) (aV (za eC (xQ (AW.ret (TQ.qr ?_)))))
  cases H
  exact eE rfl rfl
 ·refine zh eZ (dF h3) (AW.skip (TQ.qn (zE (fun t4:Unit=>Ke t4=some r) (fun t4=>mk [] [] noG) ?_ ?_)))
  ·intro t4 H
   unfold Ke at H
   refine aV (za eC (xQ (AW.ret ?_)))
   cases H
   exact eE rfl rfl
  ·refine aV (za eC (xQ (AW.block (AW.iter (fun s6:Int=>mk [(0,(.one (.d (.sl 4 (List.map zp a1))))),(1,(.one (.d (.sl 4 (List.map zp a2))))),(5,(oI s6))] [] noG) H (zg [] (sR rfl rfl) BL.nil BK.nil) ?_))))
   intro kb7 s6 H
   unfold xP at H
   refine aS (aV (za rfl (za rfl (zX eZ (n:=a1.length) lm (qi rfl eZ (xQ ?_))))))
   rcases zA H with⟨h8,H⟩|⟨h8,H⟩
   ·refine zi eZ (dT h8) (AW.skip (TQ.qn (aS (AW.block (aS (AW.regd (za rfl (za rfl ?_))))))))
    obtain⟨v9,h10,H⟩:=zk H
    refine qt rfl eZ h10 (zZ (es:=(qj v9)) eZ rfl (za rfl (za rfl ?_)))
    obtain⟨v11,h12,H⟩:=zk H
    refine qt rfl eZ h12 (zZ (es:=(qj v11)) eZ rfl ?_)
    obtain⟨v13,h14,H⟩:=zk H
    refine zD (u:=(oB v13)) eC Cl.fn (zgt h14) (Ec rfl (Ec eZ En)) (Vc (VD.agg rfl) (Vc (VD.agg rfl) Vn)) rfl (qI eZ (xQ (AW.weaken (zg [] (kr 26 rfl rfl (kr 0 rfl rfl (kr 1 rfl rfl (kr 5 rfl rfl SL.nil)))) BL.nil BK.nil) ?_)))
    rcases zA H with⟨h15,H⟩|⟨h15,H⟩
    ·exact zh eZ (cN h15) (AW.skip (BQ.qn (TQ.qn (aR (za rfl (qg eZ eC (za eZ (zm (TQ.qn ⟨(IntKind.wrap .i64 (s6+1)),H,(zg [] (sR rfl rfl) BL.nil BK.nil)⟩)))))))))
    ·refine zi eZ (cN (nt h15)) (aV (za eC (xQ (AW.ret (BQ.qr (TQ.qr (TQ.qr (BQ.qr (TQ.qr ?_)))))))))
     cases H
     exact eE rfl rfl
   ·exact zh eZ (dF h8) (AW.exit (TQ.qe (TQ.qe (BQ.qe (TQ.qn ⟨(),H,(zg [] SL.nil BL.nil BK.nil)⟩)))))
theorem zf6{a1:zn}{a2:zn}{r:Bool}(H:J3 a1 a2=some r):Fn Tryz.prog 345 (lent [(.agg (zj a1)),(.agg (zj a2))]) true [(.bool r)]:=by
 refine zGS (fle rfl) ?_
 rw[zx]
 refine AW.weaken (zg [] (kv 0 (.agg [(dI a1.Key),(dI a1.Value)]) rfl rfl (kv 1 (.agg [(dI a2.Key),(dI a2.Value)]) rfl rfl SL.nil)) BL.nil BK.nil) ?_
 unfold J3 at H
 unfold zDW
 refine aV (qY (n:=128) (m:=2) (cs:=[(dI a1.Key),(dI a1.Value)]) rfl eZ rfl rfl nZ (qY (n:=192) (m:=2) (cs:=[(dI a2.Key),(dI a2.Value)]) rfl rfl rfl rfl (nR rfl) (za eC (xQ (aS (aV (zf (m:=0) rfl rfl (zl (q:=0) (c:=(dI a1.Key)) eZ (bR rfl) rfl rfl (zf (m:=0) rfl rfl (zl (q:=0) (c:=(dI a2.Key)) eZ bZ rfl rfl (Qh rfl eZ (xQ ?_))))))))))))
 rcases zA H with⟨h3,H⟩|⟨h3,H⟩
 ·refine zi eZ (dT h3) (aV (za eC (xQ (AW.ret (TQ.qr ?_)))))
  cases H
  exact eE rfl rfl
 ·refine zh eZ (dF h3) (AW.skip (TQ.qn (aS (aV (zf (m:=1) rfl rfl (zl (q:=1) (c:=(dI a1.Value)) eZ (bR rfl) rfl rfl (zf (m:=1) rfl rfl (zl (q:=1) (c:=(dI a2.Value)) eZ bZ rfl rfl (Qh rfl eZ (xQ ?_))))))))))
  rcases zA H with⟨h4,H⟩|⟨h4,H⟩
  ·refine zi eZ (dT h4) (aV (za eC (xQ (AW.weaken (zg [192,128] (kr 4 rfl rfl SL.nil) (blR rfl) BK.nil) (AW.ret (TQ.qr ?_))))))
   cases H
   exact eE rfl rfl
  ·refine zh eZ (dF h4) (AW.skip (TQ.qn (aV (za eC (xQ (AW.weaken (zg [192,128] (kr 4 rfl rfl SL.nil) (blR rfl) BK.nil) (AW.ret ?_)))))))
   cases H
   exact eE rfl rfl
theorem zeM{a1:(List zn)}{a2:(List zn)}{r:Bool}(H:Jm a1 a2=some r):Fn Tryz.prog 289 (lent [(.sl 2 (List.map zj a1)),(.sl 2 (List.map zj a2))]) true [(.bool r)]:=by
 refine zGw (fle rfl) ?_
 rw[zx]
 refine AW.weaken (zg [] (kv 0 (.one (.d (.sl 2 (List.map zj a1)))) rfl rfl (kv 1 (.one (.d (.sl 2 (List.map zj a2)))) rfl rfl SL.nil)) BL.nil BK.nil) ?_
 unfold Jm at H
 unfold zAd
 refine aV (za eC (xQ (aS (aV (za rfl (zX eZ (n:=a1.length) lm (za rfl (zX eZ (n:=a2.length) lm (Qh rfl eZ (xQ ?_))))))))))
 rcases zA H with⟨h3,H⟩|⟨h3,H⟩
 ·refine zi eZ (dT h3) (aV (za eC (xQ (AW.ret (TQ.qr ?_)))))
  cases H
  exact eE rfl rfl
 ·refine zh eZ (dF h3) (AW.skip (TQ.qn (zE (fun t4:Unit=>XG t4=some r) (fun t4=>mk [] [] noG) ?_ ?_)))
  ·intro t4 H
   unfold XG at H
   refine aV (za eC (xQ (AW.ret ?_)))
   cases H
   exact eE rfl rfl
  ·refine aV (za eC (xQ (AW.block (AW.iter (fun s6:Int=>mk [(0,(.one (.d (.sl 2 (List.map zj a1))))),(1,(.one (.d (.sl 2 (List.map zj a2))))),(5,(oI s6))] [] noG) H (zg [] (sR rfl rfl) BL.nil BK.nil) ?_))))
   intro kb7 s6 H
   unfold YR at H
   refine aS (aV (za rfl (za rfl (zX eZ (n:=a1.length) lm (qi rfl eZ (xQ ?_))))))
   rcases zA H with⟨h8,H⟩|⟨h8,H⟩
   ·refine zi eZ (dT h8) (AW.skip (TQ.qn (aS (AW.block (aS (AW.regd (za rfl (za rfl ?_))))))))
    obtain⟨v9,h10,H⟩:=zk H
    refine qt rfl eZ h10 (zZ (es:=[(dI v9.Key),(dI v9.Value)]) eZ rfl (za rfl (za rfl ?_)))
    obtain⟨v11,h12,H⟩:=zk H
    refine qt rfl eZ h12 (zZ (es:=[(dI v11.Key),(dI v11.Value)]) eZ rfl ?_)
    obtain⟨v13,h14,H⟩:=zk H
    refine zD (u:=(oB v13)) eC Cl.fn (zf6 h14) (Ec rfl (Ec eZ En)) (Vc (VD.agg rfl) (Vc (VD.agg rfl) Vn)) rfl (qI eZ (xQ (AW.weaken (zg [] (kr 26 rfl rfl (kr 0 rfl rfl (kr 1 rfl rfl (kr 5 rfl rfl SL.nil)))) BL.nil BK.nil) ?_)))
    rcases zA H with⟨h15,H⟩|⟨h15,H⟩
    ·exact zh eZ (cN h15) (AW.skip (BQ.qn (TQ.qn (aR (za rfl (qg eZ eC (za eZ (zm (TQ.qn ⟨(IntKind.wrap .i64 (s6+1)),H,(zg [] (sR rfl rfl) BL.nil BK.nil)⟩)))))))))
    ·refine zi eZ (cN (nt h15)) (aV (za eC (xQ (AW.ret (BQ.qr (TQ.qr (TQ.qr (BQ.qr (TQ.qr ?_)))))))))
     cases H
     exact eE rfl rfl
   ·exact zh eZ (dF h8) (AW.exit (TQ.qe (TQ.qe (BQ.qe (TQ.qn ⟨(),H,(zg [] SL.nil BL.nil BK.nil)⟩)))))
theorem zge{a1:zN}{a2:zN}{r:Bool}(H:xD a1 a2=some r):Fn Tryz.prog 211 (lent [(.agg (zB a1)),(.agg (zB a2))]) true [(.bool r)]:=by
 refine zHr (fle rfl) ?_
 rw[zx]
 refine AW.weaken (zg [] (kv 0 (.agg (jQ a1)) rfl rfl (kv 1 (.agg (jQ a2)) rfl rfl SL.nil)) BL.nil BK.nil) ?_
 unfold xD at H
 unfold zFs
 refine aV (qY (n:=128) (m:=2) (cs:=(jQ a1)) rfl eZ rfl rfl nZ (qY (n:=192) (m:=2) (cs:=(jQ a2)) rfl rfl rfl rfl (nR rfl) (za eC (xQ (aS (aV (zf (m:=0) rfl rfl (zl (q:=0) (c:=(dI a1.Tx)) eZ (bR rfl) rfl rfl (zf (m:=0) rfl rfl (zl (q:=0) (c:=(dI a2.Tx)) eZ bZ rfl rfl (Qh rfl eZ (xQ ?_))))))))))))
 rcases zA H with⟨h3,H⟩|⟨h3,H⟩
 ·refine zi eZ (dT h3) (aV (za eC (xQ (AW.ret (TQ.qr ?_)))))
  cases H
  exact eE rfl rfl
 ·refine zh eZ (dF h3) (AW.skip (TQ.qn (aS (aV (zf (m:=1) rfl rfl (zl (q:=1) (c:=(.d (.sl 2 (List.map zj a1.Writes)))) eZ (bR rfl) rfl rfl (zf (m:=1) rfl rfl (zl (q:=1) (c:=(.d (.sl 2 (List.map zj a2.Writes)))) eZ bZ rfl rfl ?_))))))))
  obtain⟨v4,h5,H⟩:=zk H
  refine zD (u:=(oB v4)) eC Cl.fn (zeM h5) (Ec rfl (Ec eZ En)) (Vc Vp (Vc Vp Vn)) rfl (qI eZ (xQ (AW.weaken (zg [192,128] (kr 15 rfl rfl SL.nil) (blR rfl) BK.nil) ?_)))
  rcases zA H with⟨h6,H⟩|⟨h6,H⟩
  ·refine zh eZ (cN h6) (AW.skip (TQ.qn (aV (za eC (xQ (AW.ret ?_))))))
   cases H
   exact eE rfl rfl
  ·refine zi eZ (cN (nt h6)) (aV (za eC (xQ (AW.ret (TQ.qr ?_)))))
   cases H
   exact eE rfl rfl
theorem zeT{a1:(List zN)}{a2:(List zN)}{r:Bool}(H:Yh a1 a2=some r):Fn Tryz.prog 97 (lent [(.sl 2 (List.map zB a1)),(.sl 2 (List.map zB a2))]) true [(.bool r)]:=by
 refine f97 (fle rfl) ?_
 rw[zx]
 refine AW.weaken (zg [] (kv 0 (.one (.d (.sl 2 (List.map zB a1)))) rfl rfl (kv 1 (.one (.d (.sl 2 (List.map zB a2)))) rfl rfl SL.nil)) BL.nil BK.nil) ?_
 unfold Yh at H
 unfold i97
 refine aV (za eC (xQ (aS (aV (za rfl (zX eZ (n:=a1.length) lm (za rfl (zX eZ (n:=a2.length) lm (Qh rfl eZ (xQ ?_))))))))))
 rcases zA H with⟨h3,H⟩|⟨h3,H⟩
 ·refine zi eZ (dT h3) (aV (za eC (xQ (AW.ret (TQ.qr ?_)))))
  cases H
  exact eE rfl rfl
 ·refine zh eZ (dF h3) (AW.skip (TQ.qn (zE (fun t4:Unit=>Ka t4=some r) (fun t4=>mk [] [] noG) ?_ ?_)))
  ·intro t4 H
   unfold Ka at H
   refine aV (za eC (xQ (AW.ret ?_)))
   cases H
   exact eE rfl rfl
  ·refine aV (za eC (xQ (AW.block (AW.iter (fun s6:Int=>mk [(0,(.one (.d (.sl 2 (List.map zB a1))))),(1,(.one (.d (.sl 2 (List.map zB a2))))),(5,(oI s6))] [] noG) H (zg [] (sR rfl rfl) BL.nil BK.nil) ?_))))
   intro kb7 s6 H
   unfold ka at H
   refine aS (aV (za rfl (za rfl (zX eZ (n:=a1.length) lm (qi rfl eZ (xQ ?_))))))
   rcases zA H with⟨h8,H⟩|⟨h8,H⟩
   ·refine zi eZ (dT h8) (AW.skip (TQ.qn (aS (AW.block (aS (AW.regd (za rfl (za rfl ?_))))))))
    obtain⟨v9,h10,H⟩:=zk H
    refine qt rfl eZ h10 (zZ (es:=(jQ v9)) eZ rfl (za rfl (za rfl ?_)))
    obtain⟨v11,h12,H⟩:=zk H
    refine qt rfl eZ h12 (zZ (es:=(jQ v11)) eZ rfl ?_)
    obtain⟨v13,h14,H⟩:=zk H
    refine zD (u:=(oB v13)) eC Cl.fn (zge h14) (Ec rfl (Ec eZ En)) (Vc (VD.agg rfl) (Vc (VD.agg rfl) Vn)) rfl (qI eZ (xQ (AW.weaken (zg [] (kr 26 rfl rfl (kr 0 rfl rfl (kr 1 rfl rfl (kr 5 rfl rfl SL.nil)))) BL.nil BK.nil) ?_)))
    rcases zA H with⟨h15,H⟩|⟨h15,H⟩
    ·exact zh eZ (cN h15) (AW.skip (BQ.qn (TQ.qn (aR (za rfl (qg eZ eC (za eZ (zm (TQ.qn ⟨(IntKind.wrap .i64 (s6+1)),H,(zg [] (sR rfl rfl) BL.nil BK.nil)⟩)))))))))
    ·refine zi eZ (cN (nt h15)) (aV (za eC (xQ (AW.ret (BQ.qr (TQ.qr (TQ.qr (BQ.qr (TQ.qr ?_)))))))))
     cases H
     exact eE rfl rfl
   ·exact zh eZ (dF h8) (AW.exit (TQ.qe (TQ.qe (BQ.qe (TQ.qn ⟨(),H,(zg [] SL.nil BL.nil BK.nil)⟩)))))
theorem zcp{a1:(List Int)}{a2:(List Int)}{r:Bool}(H:JA a1 a2=some r):Fn Tryz.prog 98 (lent [(.sl 1 (List.map zt a1)),(.sl 1 (List.map zt a2))]) true [(.bool r)]:=by
 refine f98 (fle rfl) ?_
 rw[zx]
 refine AW.weaken (zg [] (kv 0 (.one (.d (.sl 1 (List.map zt a1)))) rfl rfl (kv 1 (.one (.d (.sl 1 (List.map zt a2)))) rfl rfl SL.nil)) BL.nil BK.nil) ?_
 unfold JA at H
 unfold i98
 refine aV (za eC (xQ (aS (aV (za rfl (zX eZ (n:=a1.length) lm (za rfl (zX eZ (n:=a2.length) lm (Qh rfl eZ (xQ ?_))))))))))
 rcases zA H with⟨h3,H⟩|⟨h3,H⟩
 ·refine zi eZ (dT h3) (aV (za eC (xQ (AW.ret (TQ.qr ?_)))))
  cases H
  exact eE rfl rfl
 ·refine zh eZ (dF h3) (AW.skip (TQ.qn (zE (fun t4:Unit=>KU t4=some r) (fun t4=>mk [] [] noG) ?_ ?_)))
  ·intro t4 H
   unfold KU at H
   refine aV (za eC (xQ (AW.ret ?_)))
   cases H
   exact eE rfl rfl
  ·refine aV (za eC (xQ (AW.block (AW.iter (fun s6:Int=>mk [(0,(.one (.d (.sl 1 (List.map zt a1))))),(1,(.one (.d (.sl 1 (List.map zt a2))))),(5,(oI s6))] [] noG) H (zg [] (sR rfl rfl) BL.nil BK.nil) ?_))))
   intro kb7 s6 H
   unfold kX at H
   refine aS (aV (za rfl (za rfl (zX eZ (n:=a1.length) lm (qi rfl eZ (xQ ?_))))))
   rcases zA H with⟨h8,H⟩|⟨h8,H⟩
   ·refine zi eZ (dT h8) (AW.skip (TQ.qn (aS (AW.block (aS (AW.regd (za rfl (za rfl ?_))))))))
    obtain⟨v9,h10,H⟩:=zk H
    refine qt rfl eZ h10 (zY (e:=(.int .i64 v9)) eZ rfl (za rfl (za rfl ?_)))
    obtain⟨v11,h12,H⟩:=zk H
    refine qt rfl eZ h12 (zY (e:=(.int .i64 v11)) eZ rfl (Qh rfl eZ (xQ (AW.weaken (zg [] (kr 25 rfl rfl (kr 0 rfl rfl (kr 1 rfl rfl (kr 5 rfl rfl SL.nil)))) BL.nil BK.nil) ?_))))
    rcases zA H with⟨h13,H⟩|⟨h13,H⟩
    ·refine zi eZ (dT h13) (aV (za eC (xQ (AW.ret (BQ.qr (TQ.qr (TQ.qr (BQ.qr (TQ.qr ?_)))))))))
     cases H
     exact eE rfl rfl
    ·exact zh eZ (dF h13) (AW.skip (BQ.qn (TQ.qn (aR (za rfl (qg eZ eC (za eZ (zm (TQ.qn ⟨(IntKind.wrap .i64 (s6+1)),H,(zg [] (sR rfl rfl) BL.nil BK.nil)⟩)))))))))
   ·exact zh eZ (dF h8) (AW.exit (TQ.qe (TQ.qe (BQ.qe (TQ.qn ⟨(),H,(zg [] SL.nil BL.nil BK.nil)⟩)))))
theorem Xp{a1:zo}{a2:zo}{r:Bool}(H:yV a1 a2=some r):Fn Tryz.prog 23 (lent [(.agg (zR a1)),(.agg (zR a2))]) true [(.bool r)]:=by
 refine f23 (fle rfl) ?_
 rw[zx]
 refine AW.weaken (zg [] (kv 0 (.agg (zF a1)) rfl rfl (kv 1 (.agg (zF a2)) rfl rfl SL.nil)) BL.nil BK.nil) ?_
 unfold yV at H
 unfold i23
 refine aV (qY (n:=128) (m:=9) (cs:=(zF a1)) rfl eZ rfl rfl nZ (qY (n:=192) (m:=9) (cs:=(zF a2)) rfl rfl rfl rfl (nR rfl) (za eC (xQ (aS (aV (zf (m:=0) rfl rfl (zl (q:=0) (c:=(dI a1.Me)) eZ (bR rfl) rfl rfl (zf (m:=0) rfl rfl (zl (q:=0) (c:=(dI a2.Me)) eZ bZ rfl rfl (Qh rfl eZ (xQ ?_))))))))))))
 rcases zA H with⟨h3,H⟩|⟨h3,H⟩
 ·refine zi eZ (dT h3) (aV (za eC (xQ (AW.ret (TQ.qr ?_)))))
  cases H
  exact eE rfl rfl
 ·refine zh eZ (dF h3) (AW.skip (TQ.qn (aS (aV (zf (m:=1) rfl rfl (zl (q:=1) (c:=(.d (.sl 2 (List.map zd a1.Own)))) eZ (bR rfl) rfl rfl (zf (m:=1) rfl rfl (zl (q:=1) (c:=(.d (.sl 2 (List.map zd a2.Own)))) eZ bZ rfl rfl ?_))))))))
  obtain⟨v4,h5,H⟩:=zk H
  refine zD (u:=(oB v4)) eC Cl.fn (za5 h5) (Ec rfl (Ec eZ En)) (Vc Vp (Vc Vp Vn)) rfl (qI eZ (xQ (AW.weaken (zg [] (kr 15 rfl rfl (kr 3 rfl rfl (kr 2 rfl rfl SL.nil))) (blR rfl) (BK.cons (n:=192) rfl bZ rfl rfl (BK.cons (n:=128) rfl (bR rfl) rfl rfl BK.nil))) ?_)))
  rcases zA H with⟨h6,H⟩|⟨h6,H⟩
  ·refine zh eZ (cN h6) (AW.skip (TQ.qn (aS (aV (zf (m:=2) rfl rfl (zl (q:=2) (c:=(.d (.sl 2 (List.map zd a1.Frozen)))) eZ (bR rfl) rfl rfl (zf (m:=2) rfl rfl (zl (q:=2) (c:=(.d (.sl 2 (List.map zd a2.Frozen)))) eZ bZ rfl rfl ?_))))))))
   obtain⟨v7,h8,H⟩:=zk H
   refine zD (u:=(oB v7)) eC Cl.fn (za5 h8) (Ec rfl (Ec eZ En)) (Vc Vp (Vc Vp Vn)) rfl (qI eZ (xQ ?_))
   rcases zA H with⟨h9,H⟩|⟨h9,H⟩
   ·refine zh eZ (cN h9) (AW.skip (TQ.qn (aS (aV (zf (m:=3) rfl rfl (zl (q:=3) (c:=(.d (.sl 2 (List.map zj a1.Cells)))) eZ (bR rfl) rfl rfl (zf (m:=3) rfl rfl (zl (q:=3) (c:=(.d (.sl 2 (List.map zj a2.Cells)))) eZ bZ rfl rfl ?_))))))))
    obtain⟨v10,h11,H⟩:=zk H
    refine zD (u:=(oB v10)) eC Cl.fn (zfY h11) (Ec rfl (Ec eZ En)) (Vc Vp (Vc Vp Vn)) rfl (qI eZ (xQ ?_))
    rcases zA H with⟨h12,H⟩|⟨h12,H⟩
    ·refine zh eZ (cN h12) (AW.skip (TQ.qn (aS (aV (zf (m:=4) rfl rfl (zl (q:=4) (c:=(.d (.sl 4 (List.map zp a1.Locks)))) eZ (bR rfl) rfl rfl (zf (m:=4) rfl rfl (zl (q:=4) (c:=(.d (.sl 4 (List.map zp a2.Locks)))) eZ bZ rfl rfl ?_))))))))
     obtain⟨v13,h14,H⟩:=zk H
     refine zD (u:=(oB v13)) eC Cl.fn (ze6 h14) (Ec rfl (Ec eZ En)) (Vc Vp (Vc Vp Vn)) rfl (qI eZ (xQ (AW.weaken (zg [] (kr 33 rfl rfl (kr 3 rfl rfl (kr 2 rfl rfl SL.nil))) (blR rfl) (BK.cons (n:=192) rfl bZ rfl rfl (BK.cons (n:=128) rfl (bR rfl) rfl rfl BK.nil))) ?_)))
     rcases zA H with⟨h15,H⟩|⟨h15,H⟩
     ·refine zh eZ (cN h15) (AW.skip (TQ.qn (aS (aV (zf (m:=5) rfl rfl (zl (q:=5) (c:=(.d (.sl 2 (List.map zB a1.Helds)))) eZ (bR rfl) rfl rfl (zf (m:=5) rfl rfl (zl (q:=5) (c:=(.d (.sl 2 (List.map zB a2.Helds)))) eZ bZ rfl rfl ?_))))))))
      obtain⟨v16,h17,H⟩:=zk H
      refine zD (u:=(oB v16)) eC Cl.fn (zeT h17) (Ec rfl (Ec eZ En)) (Vc Vp (Vc Vp Vn)) rfl (qI eZ (xQ ?_))
      rcases zA H with⟨h18,H⟩|⟨h18,H⟩
      ·refine zh eZ (cN h18) (AW.skip (TQ.qn (aS (aV (zf (m:=6) rfl rfl (zl (q:=6) (c:=(.d (.sl 1 (List.map zt a1.Wounded)))) eZ (bR rfl) rfl rfl (zf (m:=6) rfl rfl (zl (q:=6) (c:=(.d (.sl 1 (List.map zt a2.Wounded)))) eZ bZ rfl rfl ?_))))))))
       obtain⟨v19,h20,H⟩:=zk H
       refine zD (u:=(oB v19)) eC Cl.fn (zcp h20) (Ec rfl (Ec eZ En)) (Vc Vp (Vc Vp Vn)) rfl (qI eZ (xQ ?_))
       rcases zA H with⟨h21,H⟩|⟨h21,H⟩
       ·refine zh eZ (cN h21) (AW.skip (TQ.qn (aS (aV (zf (m:=7) rfl rfl (zl (q:=7) (c:=(.d (.sl 1 (List.map zt a1.Ended)))) eZ (bR rfl) rfl rfl (zf (m:=7) rfl rfl (zl (q:=7) (c:=(.d (.sl 1 (List.map zt a2.Ended)))) eZ bZ rfl rfl ?_))))))))
        obtain⟨v22,h23,H⟩:=zk H
        refine zD (u:=(oB v22)) eC Cl.fn (zcp h23) (Ec rfl (Ec eZ En)) (Vc Vp (Vc Vp Vn)) rfl (qI eZ (xQ (AW.weaken (zg [] (kr 51 rfl rfl (kr 3 rfl rfl (kr 2 rfl rfl SL.nil))) (blR rfl) (BK.cons (n:=192) rfl bZ rfl rfl (BK.cons (n:=128) rfl (bR rfl) rfl rfl BK.nil))) ?_)))
        rcases zA H with⟨h24,H⟩|⟨h24,H⟩
        ·refine zh eZ (cN h24) (AW.skip (TQ.qn (aS (aV (zf (m:=8) rfl rfl (zl (q:=8) (c:=(dI a1.Rank)) eZ (bR rfl) rfl rfl (zf (m:=8) rfl rfl (zl (q:=8) (c:=(dI a2.Rank)) eZ bZ rfl rfl (Qh rfl eZ (xQ ?_))))))))))
         rcases zA H with⟨h25,H⟩|⟨h25,H⟩
         ·refine zi eZ (dT h25) (aV (za eC (xQ (AW.ret (TQ.qr ?_)))))
          cases H
          exact eE rfl rfl
         ·refine zh eZ (dF h25) (AW.skip (TQ.qn (aV (za eC (xQ (AW.ret ?_))))))
          cases H
          exact eE rfl rfl
        ·refine zi eZ (cN (nt h24)) (aV (za eC (xQ (AW.ret (TQ.qr ?_)))))
         cases H
         exact eE rfl rfl
       ·refine zi eZ (cN (nt h21)) (aV (za eC (xQ (AW.weaken (zg [192,128] (kr 4 rfl rfl SL.nil) (blR rfl) BK.nil) (AW.ret (TQ.qr ?_))))))
        cases H
        exact eE rfl rfl
      ·refine zi eZ (cN (nt h18)) (aV (za eC (xQ (AW.ret (TQ.qr ?_)))))
       cases H
       exact eE rfl rfl
     ·refine zi eZ (cN (nt h15)) (aV (za eC (xQ (AW.ret (TQ.qr ?_)))))
      cases H
      exact eE rfl rfl
    ·refine zi eZ (cN (nt h12)) (aV (za eC (xQ (AW.weaken (zg [192,128] (kr 4 rfl rfl SL.nil) (blR rfl) BK.nil) (AW.ret (TQ.qr ?_))))))
     cases H
     exact eE rfl rfl
   ·refine zi eZ (cN (nt h9)) (aV (za eC (xQ (AW.ret (TQ.qr ?_)))))
    cases H
    exact eE rfl rfl
  ·refine zi eZ (cN (nt h6)) (aV (za eC (xQ (AW.ret (TQ.qr ?_)))))
   cases H
   exact eE rfl rfl
theorem zah{a1:(List ze)}{a2:Int}{r:(Int×(List ze))}(H:j3 a1 a2=some r):Fn Tryz.prog 99 [⟨(.sl 2 (List.map zd a1)),.m (.sl 2 (List.map zd r.2))⟩,⟨(.int .i64 a2),.b⟩] true [(.int .i64 r.1)]:=by
 refine m99 (fle rfl) (fC nZ rfl fN) rfl ?_
 rw[X6]
 refine AW.weaken (t:=mk [(0,(.one (.sl 0 0 a1.length))),(1,(oI a2))] [(0,(.data 2 (List.map zd a1) true none))] (lk [(0,(.one (.sl 0 0 ((List.map zd a1).length))))])) (zI (gl:=[(0,(.one (.sl 0 0 ((List.map zd a1).length))))]) [] (SL.cons (v:=(.one (.sl 0 0 a1.length))) eZ rfl (VWk.one (CWk.len lm)) (kv 1 (oI a2) rfl rfl SL.nil)) (blR rfl) (BK.cons (n:=0) rfl bZ rfl rfl BK.nil) (GK.cons rfl GK.nil)) ?_
 unfold j3 at H
 unfold i99
 refine aV (za eC (xQ (zE (fun t3:((List ze)×Int)=>(QY a1) t3=some r) (fun t3=>mk [(1,(oI t3.2))] [(0,(.data 2 (List.map zd t3.1) true none))] (lk [(0,(.one (.sl 0 0 ((List.map zd a1).length))))])) ?_ ?_)))
 ·intro t3 H
  unfold QY at H
  refine aV (za eZ (za eZ (xQ (AW.ret ?_))))
  obtain⟨h5,H⟩:=z6 H
  cases H
  exact za0 (RL.cons (RV.tmp eZ) (VO.flat rfl) RL.nil) (ML.mut eZ (VO.sl bZ (by first|(simp;done)|(simp;omega)|omega|(simp only[List.length_map];omega)) (zy fun _=>rfl)) (ML.lent ML.nil)) (by decide)
 ·refine aV (za eC (xQ (AW.block (AW.iter (fun s6:((List ze)×Int×Int)=>mk [(0,(.one (.sl 0 0 s6.1.length))),(1,(oI s6.2.1)),(5,(oI s6.2.2))] [(0,(.data 2 (List.map zd s6.1) true none))] (lk [(0,(.one (.sl 0 0 ((List.map zd a1).length))))])) H (zI [] (sR rfl rfl) (blR rfl) (bkR rfl rfl rfl) (GK.cons rfl GK.nil)) ?_))))
  intro kb7 s6 H
  unfold Q8 at H
  refine aS (aV (za rfl (za rfl (zb4 eZ (qi rfl eZ (xQ ?_))))))
  rcases zA H with⟨h8,H⟩|⟨h8,H⟩
  ·refine zi eZ (dT h8) (AW.skip (TQ.qn (aS (AW.block (aV (za rfl (za rfl (za rfl ?_))))))))
   obtain⟨v9,h10,H⟩:=zk H
   refine Xr rfl rfl bZ rfl h10 (zf (m:=0) eZ rfl (yO (t:=v9) (t':=(ze.mk s6.2.1 v9.Hi)) (es:=[(.int .i64 s6.2.1)]) eZ rfl rfl rfl bZ (yD h10) rfl rfl (xQ (aV (za rfl (qg eZ eC (za eZ (xQ (aV (za rfl (za rfl (za rfl ?_))))))))))))
   obtain⟨v11,h12,H⟩:=zk H
   exact Xr rfl rfl bZ (by first|(simp;done)|(simp;omega)|omega|(simp only[List.length_map];omega)) h12 (zf (m:=1) eZ rfl (yO (t:=v11) (t':=(ze.mk v11.Lo (IntKind.wrap .i64 (s6.2.1+1)))) (es:=[(.int .i64 (IntKind.wrap .i64 (s6.2.1+1)))]) eZ rfl rfl rfl bZ (yD h12) rfl rfl (xQ (AW.weaken (zI [] (kr 1 rfl rfl (kr 0 rfl rfl (kr 5 rfl rfl SL.nil))) (blR rfl) (BK.cons (n:=0) rfl bZ rfl rfl BK.nil) (GK.cons rfl GK.nil)) (aR (za eZ (qg eZ eC (za eZ (zm (BQ.qn (TQ.qn (aR (za rfl (qg eZ eC (za eZ (zm (TQ.qn ⟨((s6.1.set (Int.toNat s6.2.2) (ze.mk s6.2.1 v9.Hi)).set (Int.toNat s6.2.2) (ze.mk v11.Lo (IntKind.wrap .i64 (s6.2.1+1))),(IntKind.wrap .i64 ((IntKind.wrap .i64 (s6.2.1+1))+1)),(IntKind.wrap .i64 (s6.2.2+1))),H,(zI [] (SL.cons rfl rfl (VWk.one (CWk.len (by first|(simp;done)|(simp;omega)|omega|(simp only[List.length_map];omega)))) (sR rfl rfl)) (blR rfl) (bkR rfl rfl rfl) (GK.cons rfl GK.nil))⟩)))))))))))))))))
  ·exact zh eZ (dF h8) (AW.exit (TQ.qe (TQ.qe (BQ.qe (TQ.qn ⟨(s6.1,s6.2.1),H,(zI [] (sR rfl rfl) (blR rfl) (bkR rfl rfl rfl) (GK.cons rfl GK.nil))⟩)))))
theorem zd0{a1:(List zn)}{a2:Int}{r:(Int×(List zn))}(H:Zt a1 a2=some r):Fn Tryz.prog 33 [⟨(.sl 2 (List.map zj a1)),.m (.sl 2 (List.map zj r.2))⟩,⟨(.int .i64 a2),.b⟩] true [(.int .i64 r.1)]:=by
 refine m33 (fle rfl) (fC nZ rfl fN) rfl ?_
 rw[X6]
 refine AW.weaken (t:=mk [(0,(.one (.sl 0 0 a1.length))),(1,(oI a2))] [(0,(.data 2 (List.map zj a1) true none))] (lk [(0,(.one (.sl 0 0 ((List.map zj a1).length))))])) (zI (gl:=[(0,(.one (.sl 0 0 ((List.map zj a1).length))))]) [] (SL.cons (v:=(.one (.sl 0 0 a1.length))) eZ rfl (VWk.one (CWk.len lm)) (kv 1 (oI a2) rfl rfl SL.nil)) (blR rfl) (BK.cons (n:=0) rfl bZ rfl rfl BK.nil) (GK.cons rfl GK.nil)) ?_
 unfold Zt at H
 unfold i33
 refine aV (za eC (xQ (zE (fun t3:((List zn)×Int)=>(JH a1) t3=some r) (fun t3=>mk [(1,(oI t3.2))] [(0,(.data 2 (List.map zj t3.1) true none))] (lk [(0,(.one (.sl 0 0 ((List.map zj a1).length))))])) ?_ ?_)))
 ·intro t3 H
  unfold JH at H
  refine aV (za eZ (za eZ (xQ (AW.ret ?_))))
  obtain⟨h5,H⟩:=z6 H
  cases H
  exact za0 (RL.cons (RV.tmp eZ) (VO.flat rfl) RL.nil) (ML.mut eZ (VO.sl bZ (by first|(simp;done)|(simp;omega)|omega|(simp only[List.length_map];omega)) (zy fun _=>rfl)) (ML.lent ML.nil)) (by decide)
 ·refine aV (za eC (xQ (AW.block (AW.iter (fun s6:((List zn)×Int×Int)=>mk [(0,(.one (.sl 0 0 s6.1.length))),(1,(oI s6.2.1)),(5,(oI s6.2.2))] [(0,(.data 2 (List.map zj s6.1) true none))] (lk [(0,(.one (.sl 0 0 ((List.map zj a1).length))))])) H (zI [] (sR rfl rfl) (blR rfl) (bkR rfl rfl rfl) (GK.cons rfl GK.nil)) ?_))))
  intro kb7 s6 H
  unfold JG at H
  refine aS (aV (za rfl (za rfl (zb4 eZ (qi rfl eZ (xQ ?_))))))
  rcases zA H with⟨h8,H⟩|⟨h8,H⟩
  ·refine zi eZ (dT h8) (AW.skip (TQ.qn (aS (AW.block (aV (za rfl (za rfl (za rfl ?_))))))))
   obtain⟨v9,h10,H⟩:=zk H
   refine Xr rfl rfl bZ rfl h10 (zf (m:=0) eZ rfl (yO (t:=v9) (t':=(zn.mk s6.2.1 v9.Value)) (es:=[(.int .i64 s6.2.1)]) eZ rfl rfl rfl bZ (yD h10) rfl rfl (xQ (aV (za rfl (qg eZ eC (za eZ (xQ (aV (za rfl (za rfl (za rfl ?_))))))))))))
   obtain⟨v11,h12,H⟩:=zk H
   exact Xr rfl rfl bZ (by first|(simp;done)|(simp;omega)|omega|(simp only[List.length_map];omega)) h12 (zf (m:=1) eZ rfl (yO (t:=v11) (t':=(zn.mk v11.Key (IntKind.wrap .i64 (s6.2.1+1)))) (es:=[(.int .i64 (IntKind.wrap .i64 (s6.2.1+1)))]) eZ rfl rfl rfl bZ (yD h12) rfl rfl (xQ (AW.weaken (zI [] (kr 1 rfl rfl (kr 0 rfl rfl (kr 5 rfl rfl SL.nil))) (blR rfl) (BK.cons (n:=0) rfl bZ rfl rfl BK.nil) (GK.cons rfl GK.nil)) (aR (za eZ (qg eZ eC (za eZ (zm (BQ.qn (TQ.qn (aR (za rfl (qg eZ eC (za eZ (zm (TQ.qn ⟨((s6.1.set (Int.toNat s6.2.2) (zn.mk s6.2.1 v9.Value)).set (Int.toNat s6.2.2) (zn.mk v11.Key (IntKind.wrap .i64 (s6.2.1+1))),(IntKind.wrap .i64 ((IntKind.wrap .i64 (s6.2.1+1))+1)),(IntKind.wrap .i64 (s6.2.2+1))),H,(zI [] (SL.cons rfl rfl (VWk.one (CWk.len (by first|(simp;done)|(simp;omega)|omega|(simp only[List.length_map];omega)))) (sR rfl rfl)) (blR rfl) (bkR rfl rfl rfl) (GK.cons rfl GK.nil))⟩)))))))))))))))))
  ·exact zh eZ (dF h8) (AW.exit (TQ.qe (TQ.qe (BQ.qe (TQ.qn ⟨(s6.1,s6.2.1),H,(zI [] (sR rfl rfl) (blR rfl) (bkR rfl rfl rfl) (GK.cons rfl GK.nil))⟩)))))
theorem zdF{a1:(List zL)}{a2:Int}{r:(Int×(List zL))}(H:Zv a1 a2=some r):Fn Tryz.prog 100 [⟨(.sl 4 (List.map zp a1)),.m (.sl 4 (List.map zp r.2))⟩,⟨(.int .i64 a2),.b⟩] true [(.int .i64 r.1)]:=by
 refine zGk (fle rfl) (fC nZ rfl fN) rfl ?_
 rw[X6]
 refine AW.weaken (t:=mk [(0,(.one (.sl 0 0 a1.length))),(1,(oI a2))] [(0,(.data 4 (List.map zp a1) true none))] (lk [(0,(.one (.sl 0 0 ((List.map zp a1).length))))])) (zI (gl:=[(0,(.one (.sl 0 0 ((List.map zp a1).length))))]) [] (SL.cons (v:=(.one (.sl 0 0 a1.length))) eZ rfl (VWk.one (CWk.len lm)) (kv 1 (oI a2) rfl rfl SL.nil)) (blR rfl) (BK.cons (n:=0) rfl bZ rfl rfl BK.nil) (GK.cons rfl GK.nil)) ?_
 unfold Zv at H
 unfold zFG
 refine aV (za eC (xQ (zE (fun t3:((List zL)×Int)=>(JR a1) t3=some r) (fun t3=>mk [(1,(oI t3.2))] [(0,(.data 4 (List.map zp t3.1) true none))] (lk [(0,(.one (.sl 0 0 ((List.map zp a1).length))))])) ?_ ?_)))
 ·intro t3 H
  unfold JR at H
  refine aV (za eZ (za eZ (xQ (AW.ret ?_))))
  obtain⟨h5,H⟩:=z6 H
  cases H
  exact za0 (RL.cons (RV.tmp eZ) (VO.flat rfl) RL.nil) (ML.mut eZ (VO.sl bZ (by first|(simp;done)|(simp;omega)|omega|(simp only[List.length_map];omega)) (zy fun _=>rfl)) (ML.lent ML.nil)) (by decide)
 ·refine aV (za eC (xQ (AW.block (AW.iter (fun s6:((List zL)×Int×Int)=>mk [(0,(.one (.sl 0 0 s6.1.length))),(1,(oI s6.2.1)),(5,(oI s6.2.2))] [(0,(.data 4 (List.map zp s6.1) true none))] (lk [(0,(.one (.sl 0 0 ((List.map zp a1).length))))])) H (zI [] (sR rfl rfl) (blR rfl) (bkR rfl rfl rfl) (GK.cons rfl GK.nil)) ?_))))
  intro kb7 s6 H
  unfold JO at H
  refine aS (aV (za rfl (za rfl (zb4 eZ (qi rfl eZ (xQ ?_))))))
  rcases zA H with⟨h8,H⟩|⟨h8,H⟩
  ·refine zi eZ (dT h8) (AW.skip (TQ.qn (aS (AW.block (aV (za rfl (za rfl (za rfl ?_))))))))
   obtain⟨v9,h10,H⟩:=zk H
   refine Xr rfl rfl bZ rfl h10 (zf (m:=0) eZ rfl (yO (t:=v9) (t':=(zL.mk s6.2.1 v9.Lo v9.Hi v9.Mode)) (es:=[(.int .i64 s6.2.1)]) eZ rfl rfl rfl bZ (yD h10) rfl rfl (xQ (aV (za rfl (qg eZ eC (za eZ (xQ (aV (za rfl (za rfl (za rfl ?_))))))))))))
   obtain⟨v11,h12,H⟩:=zk H
   refine Xr rfl rfl bZ (by first|(simp;done)|(simp;omega)|omega|(simp only[List.length_map];omega)) h12 (zf (m:=1) eZ rfl (yO (t:=v11) (t':=(zL.mk v11.Tx (IntKind.wrap .i64 (s6.2.1+1)) v11.Hi v11.Mode)) (es:=[(.int .i64 (IntKind.wrap .i64 (s6.2.1+1)))]) eZ rfl rfl rfl bZ (yD h12) rfl rfl (xQ (AW.weaken (zI [] (kr 1 rfl rfl (kr 0 rfl rfl (kr 5 rfl rfl SL.nil))) (blR rfl) (BK.cons (n:=0) rfl bZ rfl rfl BK.nil) (GK.cons rfl GK.nil)) (aV (za eZ (qg eZ eC (za eZ (xQ (aV (za rfl (za rfl (za rfl ?_)))))))))))))
   obtain⟨v13,h14,H⟩:=zk H
   refine Xr rfl rfl bZ (by first|(simp;done)|(simp;omega)|omega|(simp only[List.length_map];omega)) h14 (zf (m:=2) eZ rfl (yO (t:=v13) (t':=(zL.mk v13.Tx v13.Lo (IntKind.wrap .i64 ((IntKind.wrap .i64 (s6.2.1+1))+1)) v13.Mode)) (es:=[(.int .i64 (IntKind.wrap .i64 ((IntKind.wrap .i64 (s6.2.1+1))+1)))]) eZ rfl rfl rfl bZ (yD h14) rfl rfl (xQ (aV (za rfl (qg eZ eC (za eZ (xQ (aV (za rfl (za rfl (za rfl ?_))))))))))))
   obtain⟨v15,h16,H⟩:=zk H
   exact Xr rfl rfl bZ (by first|(simp;done)|(simp;omega)|omega|(simp only[List.length_map];omega)) h16 (zf (m:=3) eZ rfl (yO (t:=v15) (t':=(zL.mk v15.Tx v15.Lo v15.Hi (IntKind.wrap .i64 ((IntKind.wrap .i64 ((IntKind.wrap .i64 (s6.2.1+1))+1))+1)))) (es:=[(.int .i64 (IntKind.wrap .i64 ((IntKind.wrap .i64 ((IntKind.wrap .i64 (s6.2.1+1))+1))+1)))]) eZ rfl rfl rfl bZ (yD h16) rfl rfl (xQ (AW.weaken (zI [] (kr 1 rfl rfl (kr 0 rfl rfl (kr 5 rfl rfl SL.nil))) (blR rfl) (BK.cons (n:=0) rfl bZ rfl rfl BK.nil) (GK.cons rfl GK.nil)) (aR (za eZ (qg eZ eC (za eZ (zm (BQ.qn (TQ.qn (aR (za rfl (qg eZ eC (za eZ (zm (TQ.qn ⟨((((s6.1.set (Int.toNat s6.2.2) (zL.mk s6.2.1 v9.Lo v9.Hi v9.Mode)).set (Int.toNat s6.2.2) (zL.mk v11.Tx (IntKind.wrap .i64 (s6.2.1+1)) v11.Hi v11.Mode)).set (Int.toNat s6.2.2) (zL.mk v13.Tx v13.Lo (IntKind.wrap .i64 ((IntKind.wrap .i64 (s6.2.1+1))+1)) v13.Mode)).set (Int.toNat s6.2.2) (zL.mk v15.Tx v15.Lo v15.Hi (IntKind.wrap .i64 ((IntKind.wrap .i64 ((IntKind.wrap .i64 (s6.2.1+1))+1))+1))),(IntKind.wrap .i64 ((IntKind.wrap .i64 ((IntKind.wrap .i64 ((IntKind.wrap .i64 (s6.2.1+1))+1))+1))+1)),(IntKind.wrap .i64 (s6.2.2+1))),H,(zI [] (SL.cons rfl rfl (VWk.one (CWk.len (by first|(simp;done)|(simp;omega)|omega|(simp only[List.length_map];omega)))) (sR rfl rfl)) (blR rfl) (bkR rfl rfl rfl) (GK.cons rfl GK.nil))⟩)))))))))))))))))
  ·exact zh eZ (dF h8) (AW.exit (TQ.qe (TQ.qe (BQ.qe (TQ.qn ⟨(s6.1,s6.2.1),H,(zI [] (sR rfl rfl) (blR rfl) (bkR rfl rfl rfl) (GK.cons rfl GK.nil))⟩)))))
theorem zdv{a1:(List zn)}{a2:Int}{r:(Int×(List zn))}(H:Z3 a1 a2=some r):Fn Tryz.prog 212 [⟨(.sl 2 (List.map zj a1)),.m (.sl 2 (List.map zj r.2))⟩,⟨(.int .i64 a2),.b⟩] true [(.int .i64 r.1)]:=by
 refine zHj (fle rfl) (fC nZ rfl fN) rfl ?_
 rw[X6]
 refine AW.weaken (t:=mk [(0,(.one (.sl 0 0 a1.length))),(1,(oI a2))] [(0,(.data 2 (List.map zj a1) true none))] (lk [(0,(.one (.sl 0 0 ((List.map zj a1).length))))])) (zI (gl:=[(0,(.one (.sl 0 0 ((List.map zj a1).length))))]) [] (SL.cons (v:=(.one (.sl 0 0 a1.length))) eZ rfl (VWk.one (CWk.len lm)) (kv 1 (oI a2) rfl rfl SL.nil)) (blR rfl) (BK.cons (n:=0) rfl bZ rfl rfl BK.nil) (GK.cons rfl GK.nil)) ?_
 unfold Z3 at H
 unfold zzZ
 refine aV (za eC (xQ (zE (fun t3:((List zn)×Int)=>(Q4 a1) t3=some r) (fun t3=>mk [(1,(oI t3.2))] [(0,(.data 2 (List.map zj t3.1) true none))] (lk [(0,(.one (.sl 0 0 ((List.map zj a1).length))))])) ?_ ?_)))
 ·intro t3 H
  unfold Q4 at H
  refine aV (za eZ (za eZ (xQ (AW.ret ?_))))
  obtain⟨h5,H⟩:=z6 H
  cases H
  exact za0 (RL.cons (RV.tmp eZ) (VO.flat rfl) RL.nil) (ML.mut eZ (VO.sl bZ (by first|(simp;done)|(simp;omega)|omega|(simp only[List.length_map];omega)) (zy fun _=>rfl)) (ML.lent ML.nil)) (by decide)
 ·refine aV (za eC (xQ (AW.block (AW.iter (fun s6:((List zn)×Int×Int)=>mk [(0,(.one (.sl 0 0 s6.1.length))),(1,(oI s6.2.1)),(5,(oI s6.2.2))] [(0,(.data 2 (List.map zj s6.1) true none))] (lk [(0,(.one (.sl 0 0 ((List.map zj a1).length))))])) H (zI [] (sR rfl rfl) (blR rfl) (bkR rfl rfl rfl) (GK.cons rfl GK.nil)) ?_))))
  intro kb7 s6 H
  unfold Q7 at H
  refine aS (aV (za rfl (za rfl (zb4 eZ (qi rfl eZ (xQ ?_))))))
  rcases zA H with⟨h8,H⟩|⟨h8,H⟩
  ·refine zi eZ (dT h8) (AW.skip (TQ.qn (aS (AW.block (aV (za rfl (za rfl (za rfl ?_))))))))
   obtain⟨v9,h10,H⟩:=zk H
   refine Xr rfl rfl bZ rfl h10 (zf (m:=0) eZ rfl (yO (t:=v9) (t':=(zn.mk s6.2.1 v9.Value)) (es:=[(.int .i64 s6.2.1)]) eZ rfl rfl rfl bZ (yD h10) rfl rfl (xQ (aV (za rfl (qg eZ eC (za eZ (xQ (aV (za rfl (za rfl (za rfl ?_))))))))))))
   obtain⟨v11,h12,H⟩:=zk H
   exact Xr rfl rfl bZ (by first|(simp;done)|(simp;omega)|omega|(simp only[List.length_map];omega)) h12 (zf (m:=1) eZ rfl (yO (t:=v11) (t':=(zn.mk v11.Key (IntKind.wrap .i64 (s6.2.1+1)))) (es:=[(.int .i64 (IntKind.wrap .i64 (s6.2.1+1)))]) eZ rfl rfl rfl bZ (yD h12) rfl rfl (xQ (AW.weaken (zI [] (kr 1 rfl rfl (kr 0 rfl rfl (kr 5 rfl rfl SL.nil))) (blR rfl) (BK.cons (n:=0) rfl bZ rfl rfl BK.nil) (GK.cons rfl GK.nil)) (aR (za eZ (qg eZ eC (za eZ (zm (BQ.qn (TQ.qn (aR (za rfl (qg eZ eC (za eZ (zm (TQ.qn ⟨((s6.1.set (Int.toNat s6.2.2) (zn.mk s6.2.1 v9.Value)).set (Int.toNat s6.2.2) (zn.mk v11.Key (IntKind.wrap .i64 (s6.2.1+1))),(IntKind.wrap .i64 ((IntKind.wrap .i64 (s6.2.1+1))+1)),(IntKind.wrap .i64 (s6.2.2+1))),H,(zI [] (SL.cons rfl rfl (VWk.one (CWk.len (by first|(simp;done)|(simp;omega)|omega|(simp only[List.length_map];omega)))) (sR rfl rfl)) (blR rfl) (bkR rfl rfl rfl) (GK.cons rfl GK.nil))⟩)))))))))))))))))
  ·exact zh eZ (dF h8) (AW.exit (TQ.qe (TQ.qe (BQ.qe (TQ.qn ⟨(s6.1,s6.2.1),H,(zI [] (sR rfl rfl) (blR rfl) (bkR rfl rfl rfl) (GK.cons rfl GK.nil))⟩)))))
theorem zdN{a1:(List zN)}{a2:Int}{r:(Int×(List zN))}(H:ZF a1 a2=some r):Fn Tryz.prog 101 [⟨(.sl 2 (List.map zB a1)),.m (.sl 2 (List.map zB r.2))⟩,⟨(.int .i64 a2),.b⟩] true [(.int .i64 r.1)]:=by
 refine zG7 (fle rfl) (fC nZ rfl fN) rfl ?_
 rw[X6]
 refine AW.weaken (t:=mk [(0,(.one (.sl 0 0 a1.length))),(1,(oI a2))] [(0,(.data 2 (List.map zB a1) true none))] (lk [(0,(.one (.sl 0 0 ((List.map zB a1).length))))])) (zI (gl:=[(0,(.one (.sl 0 0 ((List.map zB a1).length))))]) [] (SL.cons (v:=(.one (.sl 0 0 a1.length))) eZ rfl (VWk.one (CWk.len lm)) (kv 1 (oI a2) rfl rfl SL.nil)) (blR rfl) (BK.cons (n:=0) rfl bZ rfl rfl BK.nil) (GK.cons rfl GK.nil)) ?_
 unfold ZF at H
 unfold zzV
 refine aV (za eC (xQ (zE (fun t3:((List zN)×Int)=>(JN a1) t3=some r) (fun t3=>mk [(1,(oI t3.2))] [(0,(.data 2 (List.map zB t3.1) true none))] (lk [(0,(.one (.sl 0 0 ((List.map zB a1).length))))])) ?_ ?_)))
 ·intro t3 H
  unfold JN at H
  refine aV (za eZ (za eZ (xQ (AW.ret ?_))))
  obtain⟨h5,H⟩:=z6 H
  cases H
  exact za0 (RL.cons (RV.tmp eZ) (VO.flat rfl) RL.nil) (ML.mut eZ (Qf bZ (by first|(simp;done)|(simp;omega)|omega|(simp only[List.length_map];omega)) rfl) (ML.lent ML.nil)) (by decide)
 ·refine aV (za eC (xQ (AW.block (AW.iter (fun s6:((List zN)×Int×Int)=>mk [(0,(.one (.sl 0 0 s6.1.length))),(1,(oI s6.2.1)),(5,(oI s6.2.2))] [(0,(.data 2 (List.map zB s6.1) true none))] (lk [(0,(.one (.sl 0 0 ((List.map zB a1).length))))])) H (zI [] (sR rfl rfl) (blR rfl) (bkR rfl rfl rfl) (GK.cons rfl GK.nil)) ?_))))
  intro kb7 s6 H
  unfold JL at H
  refine aS (aV (za rfl (za rfl (zb4 eZ (qi rfl eZ (xQ ?_))))))
  rcases zA H with⟨h8,H⟩|⟨h8,H⟩
  ·refine zi eZ (dT h8) (AW.skip (TQ.qn (aS (AW.block (aV (za rfl (za rfl (za rfl ?_))))))))
   obtain⟨v9,h10,H⟩:=zk H
   refine Xr rfl rfl bZ rfl h10 (zf (m:=0) eZ rfl (yO (t:=v9) (t':=(zN.mk s6.2.1 v9.Writes)) (es:=[(.int .i64 s6.2.1)]) eZ rfl rfl rfl bZ (yD h10) rfl rfl (xQ (aV (za rfl (qg eZ eC (za eZ (xQ (zW (zw (za rfl (zm (zw (za rfl (zm (zw ?_))))))))))))))))
   obtain⟨v11,h12,H⟩:=zk H
   refine Xr rfl eZ bZ (by first|(simp;done)|(simp;omega)|omega|(simp only[List.length_map];omega)) h12 (zm (zw (zf (m:=1) eZ rfl (zm ?_))))
   obtain⟨v13,h14,H⟩:=zk H
   exact zm2 (f:=zB) (f':=zj) (t:=v11) (t':=(zN.mk v11.Tx v13.2)) (ys:=v11.Writes) (ys':=v13.2) eZ bZ (yD h12) rfl rfl rfl rfl rfl (zdv h14) rfl rfl (erL.cons (v':=(oI (IntKind.wrap .i64 (s6.2.1+1)))) rfl (erL.cons (v':=(.one .any)) rfl (erL.cons (v':=(.one (.ptr (.nm 0 (Int.toNat s6.2.2) 1)))) rfl (erL.cons (v':=(.one (.ptr (.nm 0 (Int.toNat s6.2.2) 0)))) rfl (erL.cons (v':=(oI s6.2.2)) rfl (erL.cons (v':=(.one (.sl 0 0 s6.1.length))) rfl (erL.cons (v':=(oI (IntKind.wrap .i64 (s6.2.1+1)))) rfl (erL.cons (v':=(oI (IntKind.wrap .i64 (s6.2.1+1)))) rfl (erL.cons (v':=(oI s6.2.1)) rfl (erL.cons (v':=(.one (.ptr (.nm 0 (Int.toNat s6.2.2) 0)))) rfl (erL.cons (v':=(.one (.ptr (.nm 0 (Int.toNat s6.2.2) 0)))) rfl (erL.cons (v':=(oI s6.2.1)) rfl (erL.cons (v':=(oI s6.2.2)) rfl (erL.cons (v':=(.one (.sl 0 0 s6.1.length))) rfl (erL.cons (v':=(oB (decide (s6.2.2 < ((s6.1.length:Nat):Int))))) rfl (erL.cons (v':=(oI ((s6.1.length:Nat):Int))) rfl (erL.cons (v':=(.one (.sl 0 0 s6.1.length))) rfl (erL.cons (v':=(oI s6.2.2)) rfl (erL.cons (v':=(.one (.sl 0 0 s6.1.length))) rfl (erL.cons (v':=(oI s6.2.1)) rfl (erL.cons (v':=(oI s6.2.2)) rfl erL.nil))))))))))))))))))))) (erH.cons (v':=(.data 2 (List.map zB (s6.1.set (Int.toNat s6.2.2) (zN.mk s6.2.1 v9.Writes))) true none)) rfl rfl (erH.cons (v':=(.data 2 (List.map zB s6.1) true none)) rfl rfl erH.nil)) (erL.cons (v':=(.one (.sl 0 0 ((List.map zB a1).length)))) rfl erL.nil) (z7 (za eZ (zm (BQ.qn (TQ.qn (AW.weaken (zI [] (kr 1 rfl rfl (kr 0 rfl rfl (kr 5 rfl rfl SL.nil))) (blR rfl) (BK.cons (n:=0) rfl bZ rfl rfl BK.nil) (GK.cons rfl GK.nil)) (aR (za rfl (qg eZ eC (za eZ (zm (TQ.qn ⟨((s6.1.set (Int.toNat s6.2.2) (zN.mk s6.2.1 v9.Writes)).set (Int.toNat s6.2.2) (zN.mk v11.Tx v13.2),v13.1,(IntKind.wrap .i64 (s6.2.2+1))),H,(zI [] (SL.cons rfl rfl (VWk.one (CWk.len (by first|(simp;done)|(simp;omega)|omega|(simp only[List.length_map];omega)))) (sR rfl rfl)) (blR rfl) (bkR rfl rfl rfl) (GK.cons rfl GK.nil))⟩))))))))))))
  ·exact zh eZ (dF h8) (AW.exit (TQ.qe (TQ.qe (BQ.qe (TQ.qn ⟨(s6.1,s6.2.1),H,(zI [] (sR rfl rfl) (blR rfl) (bkR rfl rfl rfl) (GK.cons rfl GK.nil))⟩)))))
theorem za7{a1:(List Int)}{a2:Int}{r:(Int×(List Int))}(H:yx a1 a2=some r):Fn Tryz.prog 102 [⟨(.sl 1 (List.map zt a1)),.m (.sl 1 (List.map zt r.2))⟩,⟨(.int .i64 a2),.b⟩] true [(.int .i64 r.1)]:=by
 refine zHx (fle rfl) (fC nZ rfl fN) rfl ?_
 rw[X6]
 refine AW.weaken (t:=mk [(0,(.one (.sl 0 0 a1.length))),(1,(oI a2))] [(0,(.data 1 (List.map zt a1) true none))] (lk [(0,(.one (.sl 0 0 ((List.map zt a1).length))))])) (zI (gl:=[(0,(.one (.sl 0 0 ((List.map zt a1).length))))]) [] (SL.cons (v:=(.one (.sl 0 0 a1.length))) eZ rfl (VWk.one (CWk.len lm)) (kv 1 (oI a2) rfl rfl SL.nil)) (blR rfl) (BK.cons (n:=0) rfl bZ rfl rfl BK.nil) (GK.cons rfl GK.nil)) ?_
 unfold yx at H
 unfold zDL
 refine aV (za eC (xQ (zE (fun t3:((List Int)×Int)=>(YP a1) t3=some r) (fun t3=>mk [(1,(oI t3.2))] [(0,(.data 1 (List.map zt t3.1) true none))] (lk [(0,(.one (.sl 0 0 ((List.map zt a1).length))))])) ?_ ?_)))
 ·intro t3 H
  unfold YP at H
  refine aV (za eZ (za eZ (xQ (AW.ret ?_))))
  obtain⟨h5,H⟩:=z6 H
  cases H
  exact za0 (RL.cons (RV.tmp eZ) (VO.flat rfl) RL.nil) (ML.mut eZ (VO.sl bZ (by first|(simp;done)|(simp;omega)|omega|(simp only[List.length_map];omega)) (zy fun _=>rfl)) (ML.lent ML.nil)) (by decide)
 ·refine aV (za eC (xQ (AW.block (AW.iter (fun s6:((List Int)×Int×Int)=>mk [(0,(.one (.sl 0 0 s6.1.length))),(1,(oI s6.2.1)),(5,(oI s6.2.2))] [(0,(.data 1 (List.map zt s6.1) true none))] (lk [(0,(.one (.sl 0 0 ((List.map zt a1).length))))])) H (zI [] (sR rfl rfl) (blR rfl) (bkR rfl rfl rfl) (GK.cons rfl GK.nil)) ?_))))
  intro kb7 s6 H
  unfold YG at H
  refine aS (aV (za rfl (za rfl (zb4 eZ (qi rfl eZ (xQ ?_))))))
  rcases zA H with⟨h8,H⟩|⟨h8,H⟩
  ·refine zi eZ (dT h8) (AW.skip (TQ.qn (aS (AW.block (aV (za rfl (za rfl (za rfl ?_))))))))
   obtain⟨v9,h10,H⟩:=zk H
   exact Xr rfl rfl bZ rfl h10 (yO (t:=v9) (t':=s6.2.1) (es:=[(.int .i64 s6.2.1)]) eZ rfl rfl rfl bZ (yD h10) rfl rfl (xQ (aR (za rfl (qg eZ eC (za eZ (zm (BQ.qn (TQ.qn (aR (za rfl (qg eZ eC (za eZ (zm (TQ.qn ⟨(s6.1.set (Int.toNat s6.2.2) s6.2.1,(IntKind.wrap .i64 (s6.2.1+1)),(IntKind.wrap .i64 (s6.2.2+1))),H,(zI [] (SL.cons rfl rfl (VWk.one (CWk.len (by first|(simp;done)|(simp;omega)|omega|(simp only[List.length_map];omega)))) (sR rfl rfl)) (blR rfl) (bkR rfl rfl rfl) (GK.cons rfl GK.nil))⟩)))))))))))))))
  ·exact zh eZ (dF h8) (AW.exit (TQ.qe (TQ.qe (BQ.qe (TQ.qn ⟨(s6.1,s6.2.1),H,(zI [] (sR rfl rfl) (blR rfl) (bkR rfl rfl rfl) (GK.cons rfl GK.nil))⟩)))))
theorem zaz{a1:zo}{a2:Int}{r:(Int×zo)}(H:Zu a1 a2=some r):Fn Tryz.prog 24 [⟨(.agg (zR a1)),.m (.agg (zR r.2))⟩,⟨(.int .i64 a2),.b⟩] true [(.int .i64 r.1)]:=by
 refine m24 (fle rfl) (fC nZ rfl (fC nZ rfl (fC nZ rfl (fC nZ rfl (fC nZ rfl (fC nZ rfl (fC nZ rfl fN))))))) rfl ?_
 rw[X6]
 refine AW.weaken (t:=mk [(0,(.agg [(dI a1.Me),(.sl 1 0 a1.Own.length),(.sl 2 0 a1.Frozen.length),(.sl 3 0 a1.Cells.length),(.sl 4 0 a1.Locks.length),(.sl 5 0 a1.Helds.length),(.sl 6 0 a1.Wounded.length),(.sl 7 0 a1.Ended.length),(dI a1.Rank)])),(1,(oI a2))] [(7,(.data 1 (List.map zt a1.Ended) true none)),(6,(.data 1 (List.map zt a1.Wounded) true none)),(5,(.data 2 (List.map zB a1.Helds) true none)),(4,(.data 4 (List.map zp a1.Locks) true none)),(3,(.data 2 (List.map zj a1.Cells) true none)),(2,(.data 2 (List.map zd a1.Frozen) true none)),(1,(.data 2 (List.map zd a1.Own) true none))] (lk [(0,(.agg [(dI a1.Me),(.sl 1 0 ((List.map zd a1.Own).length)),(.sl 2 0 ((List.map zd a1.Frozen).length)),(.sl 3 0 ((List.map zj a1.Cells).length)),(.sl 4 0 ((List.map zp a1.Locks).length)),(.sl 5 0 ((List.map zB a1.Helds).length)),(.sl 6 0 ((List.map zt a1.Wounded).length)),(.sl 7 0 ((List.map zt a1.Ended).length)),(dI a1.Rank)]))])) (zI (gl:=[(0,(.agg [(dI a1.Me),(.sl 1 0 ((List.map zd a1.Own).length)),(.sl 2 0 ((List.map zd a1.Frozen).length)),(.sl 3 0 ((List.map zj a1.Cells).length)),(.sl 4 0 ((List.map zp a1.Locks).length)),(.sl 5 0 ((List.map zB a1.Helds).length)),(.sl 6 0 ((List.map zt a1.Wounded).length)),(.sl 7 0 ((List.map zt a1.Ended).length)),(dI a1.Rank)]))]) [] (SL.cons (v:=(.agg [(dI a1.Me),(.sl 1 0 a1.Own.length),(.sl 2 0 a1.Frozen.length),(.sl 3 0 a1.Cells.length),(.sl 4 0 a1.Locks.length),(.sl 5 0 a1.Helds.length),(.sl 6 0 a1.Wounded.length),(.sl 7 0 a1.Ended.length),(dI a1.Rank)])) eZ rfl (VWk.agg (zaG.cons CWk.rfl (zaG.cons (CWk.len lm) (zaG.cons (CWk.len lm) (zaG.cons (CWk.len lm) (zaG.cons (CWk.len lm) (zaG.cons (CWk.len lm) (zaG.cons (CWk.len lm) (zaG.cons (CWk.len lm) (zaG.cons CWk.rfl zaG.nil)))))))))) (kv 1 (oI a2) rfl rfl SL.nil)) (blR rfl) (BK.cons (n:=7) rfl bZ rfl rfl (BK.cons (n:=6) rfl (bR rfl) rfl rfl (BK.cons (n:=5) rfl (bR rfl) rfl rfl (BK.cons (n:=4) rfl (bR rfl) rfl rfl (BK.cons (n:=3) rfl (bR rfl) rfl rfl (BK.cons (n:=2) rfl (bR rfl) rfl rfl (BK.cons (n:=1) rfl (bR rfl) rfl rfl BK.nil))))))) (GK.cons rfl GK.nil)) ?_
 unfold Zu at H
 unfold i24
 refine aV (qY (n:=128) (m:=9) (cs:=[(dI a1.Me),(.sl 1 0 a1.Own.length),(.sl 2 0 a1.Frozen.length),(.sl 3 0 a1.Cells.length),(.sl 4 0 a1.Locks.length),(.sl 5 0 a1.Helds.length),(.sl 6 0 a1.Wounded.length),(.sl 7 0 a1.Ended.length),(dI a1.Rank)]) rfl eZ rfl rfl (nR rfl) (za eC (xQ (aS (zW (zw (zf (m:=1) rfl rfl (zm (zw (zl (q:=1) (c:=(.sl 1 0 a1.Own.length)) eZ bZ rfl rfl (zm (zw (za rfl (zm ?_))))))))))))))
 obtain⟨v3,h4,H⟩:=zk H
 obtain⟨h5,H⟩:=z6 H
 refine Xf (ON:=[1]) (ls:=[]) (G:=[]) (E:=[qk 1]) (MB:=[(1,(.data 2 (List.map zd v3.2) true none))]) (u:=(oI v3.1)) eC Cl.fn (zah h4) (Ec rfl (Ec eZ En)) (AO.mut (VO.sl (bR rfl) lm (zy fun _=>rfl)) (AO.lent Vp rfl AO.nil)) rfl rfl rfl (SZ.cons (bR rfl) SZ.nil) (erL.cons (v':=(oI a2)) rfl (erL.cons (v':=(.one (.sl 1 0 a1.Own.length))) rfl (erL.cons (v':=(.one (.ptr (.nm 128 0 1)))) rfl (erL.cons (v':=(oI 0)) rfl (erL.cons (v':=(.one (.ptr (.nm 128 0 0)))) rfl (erL.cons (v':=(.agg [(dI a1.Me),(.sl 1 0 a1.Own.length),(.sl 2 0 a1.Frozen.length),(.sl 3 0 a1.Cells.length),(.sl 4 0 a1.Locks.length),(.sl 5 0 a1.Helds.length),(.sl 6 0 a1.Wounded.length),(.sl 7 0 a1.Ended.length),(dI a1.Rank)])) rfl (erL.cons (v':=(oI a2)) rfl erL.nil))))))) (erH.cons (v':=(.vars 9 [(dI a1.Me),(.sl 1 0 a1.Own.length),(.sl 2 0 a1.Frozen.length),(.sl 3 0 a1.Cells.length),(.sl 4 0 a1.Locks.length),(.sl 5 0 a1.Helds.length),(.sl 6 0 a1.Wounded.length),(.sl 7 0 a1.Ended.length),(dI a1.Rank)])) rfl rfl (erH.cons (v':=(.data 1 (List.map zt a1.Ended) true none)) rfl rfl (erH.cons (v':=(.data 1 (List.map zt a1.Wounded) true none)) rfl rfl (erH.cons (v':=(.data 2 (List.map zB a1.Helds) true none)) rfl rfl (erH.cons (v':=(.data 4 (List.map zp a1.Locks) true none)) rfl rfl (erH.cons (v':=(.data 2 (List.map zj a1.Cells) true none)) rfl rfl (erH.cons (v':=(.data 2 (List.map zd a1.Frozen) true none)) rfl rfl (erH.cons (v':=(.data 2 (List.map zd a1.Own) true none)) rfl rfl erH.nil)))))))) (erL.cons (v':=(.agg [(dI a1.Me),(.sl 1 0 ((List.map zd a1.Own).length)),(.sl 2 0 ((List.map zd a1.Frozen).length)),(.sl 3 0 ((List.map zj a1.Cells).length)),(.sl 4 0 ((List.map zp a1.Locks).length)),(.sl 5 0 ((List.map zB a1.Helds).length)),(.sl 6 0 ((List.map zt a1.Wounded).length)),(.sl 7 0 ((List.map zt a1.Ended).length)),(dI a1.Rank)])) rfl erL.nil) rfl rfl (z7 (za eZ (xQ (aS (zW (zw (zf (m:=2) rfl rfl (zm (zw (zl (q:=2) (c:=(.sl 2 0 a1.Frozen.length)) eZ (bR rfl) rfl rfl (zm (zw (za rfl (zm ?_))))))))))))))
 obtain⟨v6,h7,H⟩:=zk H
 obtain⟨h8,H⟩:=z6 H
 refine Xf (ON:=[2]) (ls:=[]) (G:=[]) (E:=[qk 2]) (MB:=[(2,(.data 2 (List.map zd v6.2) true none))]) (u:=(oI v6.1)) eC Cl.fn (zah h7) (Ec rfl (Ec eZ En)) (AO.mut (VO.sl (bR rfl) lm (zy fun _=>rfl)) (AO.lent Vp rfl AO.nil)) rfl rfl rfl (SZ.cons (bR rfl) SZ.nil) (erL.cons (v':=(oI v3.1)) rfl (erL.cons (v':=(.one (.sl 2 0 a1.Frozen.length))) rfl (erL.cons (v':=(.one (.ptr (.nm 128 0 2)))) rfl (erL.cons (v':=(oI v3.1)) rfl (erL.cons (v':=(oI v3.1)) rfl (erL.cons (v':=(oI a2)) rfl (erL.cons (v':=(.one (.sl 1 0 a1.Own.length))) rfl (erL.cons (v':=(.one (.ptr (.nm 128 0 1)))) rfl (erL.cons (v':=(oI 0)) rfl (erL.cons (v':=(.one (.ptr (.nm 128 0 0)))) rfl (erL.cons (v':=(.agg [(dI a1.Me),(.sl 1 0 a1.Own.length),(.sl 2 0 a1.Frozen.length),(.sl 3 0 a1.Cells.length),(.sl 4 0 a1.Locks.length),(.sl 5 0 a1.Helds.length),(.sl 6 0 a1.Wounded.length),(.sl 7 0 a1.Ended.length),(dI a1.Rank)])) rfl (erL.cons (v':=(oI a2)) rfl erL.nil)))))))))))) (erH.cons (v':=(.data 2 (List.map zd v3.2) true none)) rfl rfl (erH.cons (v':=(.vars 9 [(dI a1.Me),(.sl 1 0 a1.Own.length),(.sl 2 0 a1.Frozen.length),(.sl 3 0 a1.Cells.length),(.sl 4 0 a1.Locks.length),(.sl 5 0 a1.Helds.length),(.sl 6 0 a1.Wounded.length),(.sl 7 0 a1.Ended.length),(dI a1.Rank)])) rfl rfl (erH.cons (v':=(.data 1 (List.map zt a1.Ended) true none)) rfl rfl (erH.cons (v':=(.data 1 (List.map zt a1.Wounded) true none)) rfl rfl (erH.cons (v':=(.data 2 (List.map zB a1.Helds) true none)) rfl rfl (erH.cons (v':=(.data 4 (List.map zp a1.Locks) true none)) rfl rfl (erH.cons (v':=(.data 2 (List.map zj a1.Cells) true none)) rfl rfl (erH.cons (v':=(.data 2 (List.map zd a1.Frozen) true none)) rfl rfl (erH.cons (v':=(.data 2 (List.map zd a1.Own) true none)) rfl rfl erH.nil))))))))) (erL.cons (v':=(.agg [(dI a1.Me),(.sl 1 0 ((List.map zd a1.Own).length)),(.sl 2 0 ((List.map zd a1.Frozen).length)),(.sl 3 0 ((List.map zj a1.Cells).length)),(.sl 4 0 ((List.map zp a1.Locks).length)),(.sl 5 0 ((List.map zB a1.Helds).length)),(.sl 6 0 ((List.map zt a1.Wounded).length)),(.sl 7 0 ((List.map zt a1.Ended).length)),(dI a1.Rank)])) rfl erL.nil) rfl rfl (z7 (za eZ (xQ (aS (zW (zw (zf (m:=3) rfl rfl (zm (zw (zl (q:=3) (c:=(.sl 3 0 a1.Cells.length)) eZ (bR rfl) rfl rfl (zm (zw (za rfl (zm ?_))))))))))))))
 obtain⟨v9,h10,H⟩:=zk H
 obtain⟨h11,H⟩:=z6 H
 refine Xf (ON:=[3]) (ls:=[]) (G:=[]) (E:=[qk 3]) (MB:=[(3,(.data 2 (List.map zj v9.2) true none))]) (u:=(oI v9.1)) eC Cl.fn (zd0 h10) (Ec rfl (Ec eZ En)) (AO.mut (VO.sl (bR rfl) lm (zy fun _=>rfl)) (AO.lent Vp rfl AO.nil)) rfl rfl rfl (SZ.cons (bR rfl) SZ.nil) (erL.cons (v':=(oI v6.1)) rfl (erL.cons (v':=(.one (.sl 3 0 a1.Cells.length))) rfl (erL.cons (v':=(.one (.ptr (.nm 128 0 3)))) rfl (erL.cons (v':=(oI v6.1)) rfl (erL.cons (v':=(oI v6.1)) rfl (erL.cons (v':=(oI v3.1)) rfl (erL.cons (v':=(.one (.sl 2 0 a1.Frozen.length))) rfl (erL.cons (v':=(.one (.ptr (.nm 128 0 2)))) rfl (erL.cons (v':=(oI v3.1)) rfl (erL.cons (v':=(oI v3.1)) rfl (erL.cons (v':=(oI a2)) rfl (erL.cons (v':=(.one (.sl 1 0 a1.Own.length))) rfl (erL.cons (v':=(.one (.ptr (.nm 128 0 1)))) rfl (erL.cons (v':=(oI 0)) rfl (erL.cons (v':=(.one (.ptr (.nm 128 0 0)))) rfl (erL.cons (v':=(.agg [(dI a1.Me),(.sl 1 0 a1.Own.length),(.sl 2 0 a1.Frozen.length),(.sl 3 0 a1.Cells.length),(.sl 4 0 a1.Locks.length),(.sl 5 0 a1.Helds.length),(.sl 6 0 a1.Wounded.length),(.sl 7 0 a1.Ended.length),(dI a1.Rank)])) rfl (erL.cons (v':=(oI a2)) rfl erL.nil))))))))))))))))) (erH.cons (v':=(.data 2 (List.map zd v6.2) true none)) rfl rfl (erH.cons (v':=(.data 2 (List.map zd v3.2) true none)) rfl rfl (erH.cons (v':=(.vars 9 [(dI a1.Me),(.sl 1 0 a1.Own.length),(.sl 2 0 a1.Frozen.length),(.sl 3 0 a1.Cells.length),(.sl 4 0 a1.Locks.length),(.sl 5 0 a1.Helds.length),(.sl 6 0 a1.Wounded.length),(.sl 7 0 a1.Ended.length),(dI a1.Rank)])) rfl rfl (erH.cons (v':=(.data 1 (List.map zt a1.Ended) true none)) rfl rfl (erH.cons (v':=(.data 1 (List.map zt a1.Wounded) true none)) rfl rfl (erH.cons (v':=(.data 2 (List.map zB a1.Helds) true none)) rfl rfl (erH.cons (v':=(.data 4 (List.map zp a1.Locks) true none)) rfl rfl (erH.cons (v':=(.data 2 (List.map zj a1.Cells) true none)) rfl rfl (erH.cons (v':=(.data 2 (List.map zd a1.Frozen) true none)) rfl rfl (erH.cons (v':=(.data 2 (List.map zd a1.Own) true none)) rfl rfl erH.nil)))))))))) (erL.cons (v':=(.agg [(dI a1.Me),(.sl 1 0 ((List.map zd a1.Own).length)),(.sl 2 0 ((List.map zd a1.Frozen).length)),(.sl 3 0 ((List.map zj a1.Cells).length)),(.sl 4 0 ((List.map zp a1.Locks).length)),(.sl 5 0 ((List.map zB a1.Helds).length)),(.sl 6 0 ((List.map zt a1.Wounded).length)),(.sl 7 0 ((List.map zt a1.Ended).length)),(dI a1.Rank)])) rfl erL.nil) rfl rfl (z7 (za eZ (xQ (AW.weaken (zI [] (kr 1 rfl rfl (kr 2 rfl rfl SL.nil)) (blR rfl) (BK.cons (n:=3) rfl bZ rfl rfl (BK.cons (n:=2) rfl (bR rfl) rfl rfl (BK.cons (n:=1) rfl (bR rfl) rfl rfl (BK.cons (n:=128) rfl (bR rfl) rfl rfl (BK.cons (n:=7) rfl (bR rfl) rfl rfl (BK.cons (n:=6) rfl (bR rfl) rfl rfl (BK.cons (n:=5) rfl (bR rfl) rfl rfl (BK.cons (n:=4) rfl (bR rfl) rfl rfl BK.nil)))))))) (GK.cons rfl GK.nil)) (aS (zW (zw (zf (m:=4) rfl rfl (zm (zw (zl (q:=4) (c:=(.sl 4 0 a1.Locks.length)) eZ (bR rfl) rfl rfl (zm (zw (za rfl (zm ?_)))))))))))))))
 obtain⟨v12,h13,H⟩:=zk H
 obtain⟨h14,H⟩:=z6 H
 refine Xf (ON:=[4]) (ls:=[]) (G:=[]) (E:=[qk 4]) (MB:=[(4,(.data 4 (List.map zp v12.2) true none))]) (u:=(oI v12.1)) eC Cl.fn (zdF h13) (Ec rfl (Ec eZ En)) (AO.mut (VO.sl (bR rfl) lm (zy fun _=>rfl)) (AO.lent Vp rfl AO.nil)) rfl rfl rfl (SZ.cons (bR rfl) SZ.nil) (erL.cons (v':=(oI v9.1)) rfl (erL.cons (v':=(.one (.sl 4 0 a1.Locks.length))) rfl (erL.cons (v':=(.one (.ptr (.nm 128 0 4)))) rfl (erL.cons (v':=(oI v9.1)) rfl (erL.cons (v':=(.one (.ptr (.nm 128 0 0)))) rfl erL.nil))))) (erH.cons (v':=(.data 2 (List.map zj v9.2) true none)) rfl rfl (erH.cons (v':=(.data 2 (List.map zd v6.2) true none)) rfl rfl (erH.cons (v':=(.data 2 (List.map zd v3.2) true none)) rfl rfl (erH.cons (v':=(.vars 9 [(dI a1.Me),(.sl 1 0 a1.Own.length),(.sl 2 0 a1.Frozen.length),(.sl 3 0 a1.Cells.length),(.sl 4 0 a1.Locks.length),(.sl 5 0 a1.Helds.length),(.sl 6 0 a1.Wounded.length),(.sl 7 0 a1.Ended.length),(dI a1.Rank)])) rfl rfl (erH.cons (v':=(.data 1 (List.map zt a1.Ended) true none)) rfl rfl (erH.cons (v':=(.data 1 (List.map zt a1.Wounded) true none)) rfl rfl (erH.cons (v':=(.data 2 (List.map zB a1.Helds) true none)) rfl rfl (erH.cons (v':=(.data 4 (List.map zp a1.Locks) true none)) rfl rfl erH.nil)))))))) (erL.cons (v':=(.agg [(dI a1.Me),(.sl 1 0 ((List.map zd a1.Own).length)),(.sl 2 0 ((List.map zd a1.Frozen).length)),(.sl 3 0 ((List.map zj a1.Cells).length)),(.sl 4 0 ((List.map zp a1.Locks).length)),(.sl 5 0 ((List.map zB a1.Helds).length)),(.sl 6 0 ((List.map zt a1.Wounded).length)),(.sl 7 0 ((List.map zt a1.Ended).length)),(dI a1.Rank)])) rfl erL.nil) rfl rfl (z7 (za eZ (xQ (aS (zW (zw (zf (m:=5) rfl rfl (zm (zw (zl (q:=5) (c:=(.sl 5 0 a1.Helds.length)) eZ (bR rfl) rfl rfl (zm (zw (za rfl (zm ?_))))))))))))))
 obtain⟨v15,h16,H⟩:=zk H
 obtain⟨h17,H⟩:=z6 H
 refine Xf (ON:=[5]) (ls:=[]) (G:=[]) (E:=[qk 5]) (MB:=[(5,(.data 2 (List.map zB v15.2) true none))]) (u:=(oI v15.1)) eC Cl.fn (zdN h16) (Ec rfl (Ec eZ En)) (AO.mut (Qf (bR rfl) lm rfl) (AO.lent Vp rfl AO.nil)) rfl rfl rfl (SZ.cons (bR rfl) SZ.nil) (erL.cons (v':=(oI v12.1)) rfl (erL.cons (v':=(.one (.sl 5 0 a1.Helds.length))) rfl (erL.cons (v':=(.one (.ptr (.nm 128 0 5)))) rfl (erL.cons (v':=(oI v12.1)) rfl (erL.cons (v':=(oI v12.1)) rfl (erL.cons (v':=(oI v9.1)) rfl (erL.cons (v':=(.one (.sl 4 0 a1.Locks.length))) rfl (erL.cons (v':=(.one (.ptr (.nm 128 0 4)))) rfl (erL.cons (v':=(oI v9.1)) rfl (erL.cons (v':=(.one (.ptr (.nm 128 0 0)))) rfl erL.nil)))))))))) (erH.cons (v':=(.data 4 (List.map zp v12.2) true none)) rfl rfl (erH.cons (v':=(.data 2 (List.map zj v9.2) true none)) rfl rfl (erH.cons (v':=(.data 2 (List.map zd v6.2) true none)) rfl rfl (erH.cons (v':=(.data 2 (List.map zd v3.2) true none)) rfl rfl (erH.cons (v':=(.vars 9 [(dI a1.Me),(.sl 1 0 a1.Own.length),(.sl 2 0 a1.Frozen.length),(.sl 3 0 a1.Cells.length),(.sl 4 0 a1.Locks.length),(.sl 5 0 a1.Helds.length),(.sl 6 0 a1.Wounded.length),(.sl 7 0 a1.Ended.length),(dI a1.Rank)])) rfl rfl (erH.cons (v':=(.data 1 (List.map zt a1.Ended) true none)) rfl rfl (erH.cons (v':=(.data 1 (List.map zt a1.Wounded) true none)) rfl rfl (erH.cons (v':=(.data 2 (List.map zB a1.Helds) true none)) rfl rfl (erH.cons (v':=(.data 4 (List.map zp a1.Locks) true none)) rfl rfl erH.nil))))))))) (erL.cons (v':=(.agg [(dI a1.Me),(.sl 1 0 ((List.map zd a1.Own).length)),(.sl 2 0 ((List.map zd a1.Frozen).length)),(.sl 3 0 ((List.map zj a1.Cells).length)),(.sl 4 0 ((List.map zp a1.Locks).length)),(.sl 5 0 ((List.map zB a1.Helds).length)),(.sl 6 0 ((List.map zt a1.Wounded).length)),(.sl 7 0 ((List.map zt a1.Ended).length)),(dI a1.Rank)])) rfl erL.nil) rfl rfl (z7 (za eZ (xQ (aS (zW (zw (zf (m:=6) rfl rfl (zm (zw (zl (q:=6) (c:=(.sl 6 0 a1.Wounded.length)) eZ (bR rfl) rfl rfl (zm (zw (za rfl (zm ?_))))))))))))))
 obtain⟨v18,h19,H⟩:=zk H
 obtain⟨h20,H⟩:=z6 H
 refine Xf (ON:=[6]) (ls:=[]) (G:=[]) (E:=[qk 6]) (MB:=[(6,(.data 1 (List.map zt v18.2) true none))]) (u:=(oI v18.1)) eC Cl.fn (za7 h19) (Ec rfl (Ec eZ En)) (AO.mut (VO.sl (bR rfl) lm (zy fun _=>rfl)) (AO.lent Vp rfl AO.nil)) rfl rfl rfl (SZ.cons (bR rfl) SZ.nil) (erL.cons (v':=(oI v15.1)) rfl (erL.cons (v':=(.one (.sl 6 0 a1.Wounded.length))) rfl (erL.cons (v':=(.one (.ptr (.nm 128 0 6)))) rfl (erL.cons (v':=(oI v15.1)) rfl (erL.cons (v':=(oI v15.1)) rfl (erL.cons (v':=(oI v12.1)) rfl (erL.cons (v':=(.one (.sl 5 0 a1.Helds.length))) rfl (erL.cons (v':=(.one (.ptr (.nm 128 0 5)))) rfl (erL.cons (v':=(oI v12.1)) rfl (erL.cons (v':=(oI v12.1)) rfl (erL.cons (v':=(oI v9.1)) rfl (erL.cons (v':=(.one (.sl 4 0 a1.Locks.length))) rfl (erL.cons (v':=(.one (.ptr (.nm 128 0 4)))) rfl (erL.cons (v':=(oI v9.1)) rfl (erL.cons (v':=(.one (.ptr (.nm 128 0 0)))) rfl erL.nil))))))))))))))) (erH.cons (v':=(.data 2 (List.map zB v15.2) true none)) rfl rfl (erH.cons (v':=(.data 4 (List.map zp v12.2) true none)) rfl rfl (erH.cons (v':=(.data 2 (List.map zj v9.2) true none)) rfl rfl (erH.cons (v':=(.data 2 (List.map zd v6.2) true none)) rfl rfl (erH.cons (v':=(.data 2 (List.map zd v3.2) true none)) rfl rfl (erH.cons (v':=(.vars 9 [(dI a1.Me),(.sl 1 0 a1.Own.length),(.sl 2 0 a1.Frozen.length),(.sl 3 0 a1.Cells.length),(.sl 4 0 a1.Locks.length),(.sl 5 0 a1.Helds.length),(.sl 6 0 a1.Wounded.length),(.sl 7 0 a1.Ended.length),(dI a1.Rank)])) rfl rfl (erH.cons (v':=(.data 1 (List.map zt a1.Ended) true none)) rfl rfl (erH.cons (v':=(.data 1 (List.map zt a1.Wounded) true none)) rfl rfl (erH.cons (v':=(.data 2 (List.map zB a1.Helds) true none)) rfl rfl (erH.cons (v':=(.data 4 (List.map zp a1.Locks) true none)) rfl rfl erH.nil)))))))))) (erL.cons (v':=(.agg [(dI a1.Me),(.sl 1 0 ((List.map zd a1.Own).length)),(.sl 2 0 ((List.map zd a1.Frozen).length)),(.sl 3 0 ((List.map zj a1.Cells).length)),(.sl 4 0 ((List.map zp a1.Locks).length)),(.sl 5 0 ((List.map zB a1.Helds).length)),(.sl 6 0 ((List.map zt a1.Wounded).length)),(.sl 7 0 ((List.map zt a1.Ended).length)),(dI a1.Rank)])) rfl erL.nil) rfl rfl (z7 (za eZ (xQ (AW.weaken (zI [] (kr 1 rfl rfl (kr 2 rfl rfl SL.nil)) (blR rfl) (BK.cons (n:=6) rfl bZ rfl rfl (BK.cons (n:=5) rfl (bR rfl) rfl rfl (BK.cons (n:=4) rfl (bR rfl) rfl rfl (BK.cons (n:=3) rfl (bR rfl) rfl rfl (BK.cons (n:=2) rfl (bR rfl) rfl rfl (BK.cons (n:=1) rfl (bR rfl) rfl rfl (BK.cons (n:=128) rfl (bR rfl) rfl rfl (BK.cons (n:=7) rfl (bR rfl) rfl rfl BK.nil)))))))) (GK.cons rfl GK.nil)) (aS (zW (zw (zf (m:=7) rfl rfl (zm (zw (zl (q:=7) (c:=(.sl 7 0 a1.Ended.length)) eZ (bR rfl) rfl rfl (zm (zw (za rfl (zm ?_)))))))))))))))
 obtain⟨v21,h22,H⟩:=zk H
 obtain⟨h23,H⟩:=z6 H
 refine Xf (ON:=[7]) (ls:=[]) (G:=[]) (E:=[qk 7]) (MB:=[(7,(.data 1 (List.map zt v21.2) true none))]) (u:=(oI v21.1)) eC Cl.fn (za7 h22) (Ec rfl (Ec eZ En)) (AO.mut (VO.sl (bR rfl) lm (zy fun _=>rfl)) (AO.lent Vp rfl AO.nil)) rfl rfl rfl (SZ.cons (bR rfl) SZ.nil) (erL.cons (v':=(oI v18.1)) rfl (erL.cons (v':=(.one (.sl 7 0 a1.Ended.length))) rfl (erL.cons (v':=(.one (.ptr (.nm 128 0 7)))) rfl (erL.cons (v':=(oI v18.1)) rfl (erL.cons (v':=(.one (.ptr (.nm 128 0 0)))) rfl erL.nil))))) (erH.cons (v':=(.data 1 (List.map zt v18.2) true none)) rfl rfl (erH.cons (v':=(.data 2 (List.map zB v15.2) true none)) rfl rfl (erH.cons (v':=(.data 4 (List.map zp v12.2) true none)) rfl rfl (erH.cons (v':=(.data 2 (List.map zj v9.2) true none)) rfl rfl (erH.cons (v':=(.data 2 (List.map zd v6.2) true none)) rfl rfl (erH.cons (v':=(.data 2 (List.map zd v3.2) true none)) rfl rfl (erH.cons (v':=(.vars 9 [(dI a1.Me),(.sl 1 0 a1.Own.length),(.sl 2 0 a1.Frozen.length),(.sl 3 0 a1.Cells.length),(.sl 4 0 a1.Locks.length),(.sl 5 0 a1.Helds.length),(.sl 6 0 a1.Wounded.length),(.sl 7 0 a1.Ended.length),(dI a1.Rank)])) rfl rfl (erH.cons (v':=(.data 1 (List.map zt a1.Ended) true none)) rfl rfl erH.nil)))))))) (erL.cons (v':=(.agg [(dI a1.Me),(.sl 1 0 ((List.map zd a1.Own).length)),(.sl 2 0 ((List.map zd a1.Frozen).length)),(.sl 3 0 ((List.map zj a1.Cells).length)),(.sl 4 0 ((List.map zp a1.Locks).length)),(.sl 5 0 ((List.map zB a1.Helds).length)),(.sl 6 0 ((List.map zt a1.Wounded).length)),(.sl 7 0 ((List.map zt a1.Ended).length)),(dI a1.Rank)])) rfl erL.nil) rfl rfl (z7 (za eZ (xQ (aV (za eZ (za eZ (xQ (AW.ret ?_))))))))
 obtain⟨h24,H⟩:=z6 H
 obtain⟨h25,H⟩:=z6 H
 obtain⟨h26,H⟩:=z6 H
 obtain⟨h27,H⟩:=z6 H
 obtain⟨h28,H⟩:=z6 H
 obtain⟨h29,H⟩:=z6 H
 obtain⟨h30,H⟩:=z6 H
 cases H
 exact za0 (RL.cons (RV.tmp eZ) (VO.flat rfl) RL.nil) (ML.mut eZ (VO.aggs (VOs.cons (VO.flat rfl) (VOs.cons (VO.sl (bR rfl) (by first|(simp;done)|(simp;omega)|omega|(simp only[List.length_map];omega)) (zy fun _=>rfl)) (VOs.cons (VO.sl (bR rfl) (by first|(simp;done)|(simp;omega)|omega|(simp only[List.length_map];omega)) (zy fun _=>rfl)) (VOs.cons (VO.sl (bR rfl) (by first|(simp;done)|(simp;omega)|omega|(simp only[List.length_map];omega)) (zy fun _=>rfl)) (VOs.cons (VO.sl (bR rfl) (by first|(simp;done)|(simp;omega)|omega|(simp only[List.length_map];omega)) (zy fun _=>rfl)) (VOs.cons (Qf (bR rfl) (by first|(simp;done)|(simp;omega)|omega|(simp only[List.length_map];omega)) rfl) (VOs.cons (VO.sl (bR rfl) (by first|(simp;done)|(simp;omega)|omega|(simp only[List.length_map];omega)) (zy fun _=>rfl)) (VOs.cons (VO.sl bZ (by first|(simp;done)|(simp;omega)|omega|(simp only[List.length_map];omega)) (zy fun _=>rfl)) (VOs.cons (VO.flat rfl) VOs.nil)))))))))) (ML.lent ML.nil)) (by decide)
theorem zae{a1:(List ze)}{a2:Int}{r:Int}(H:j4 a1 a2=some r):Fn Tryz.prog 103 (lent [(.sl 2 (List.map zd a1)),(.int .i64 a2)]) true [(.int .i64 r)]:=by
 refine zG0 (fle rfl) ?_
 rw[zx]
 refine AW.weaken (zg [] (kv 0 (.one (.d (.sl 2 (List.map zd a1)))) rfl rfl (kv 1 (oI a2) rfl rfl SL.nil)) BL.nil BK.nil) ?_
 unfold j4 at H
 unfold zBj
 refine aV (za eC (xQ (zE (fun t3:Int=>QZ t3=some r) (fun t3=>mk [(1,(oI t3))] [] noG) ?_ ?_)))
 ·intro t3 H
  unfold QZ at H
  refine aV (za eZ (za eZ (xQ (AW.ret ?_))))
  cases H
  exact eE rfl rfl
 ·refine aV (za eC (xQ (AW.block (AW.iter (fun s5:(Int×Int)=>mk [(0,(.one (.d (.sl 2 (List.map zd a1))))),(1,(oI s5.1)),(5,(oI s5.2))] [] noG) H (zg [] (sR rfl rfl) BL.nil BK.nil) ?_))))
  intro kb6 s5 H
  unfold Q9 at H
  refine aS (aV (za rfl (za rfl (zX eZ (n:=a1.length) lm (qi rfl eZ (xQ ?_))))))
  rcases zA H with⟨h7,H⟩|⟨h7,H⟩
  ·refine zi eZ (dT h7) (AW.skip (TQ.qn (aS (AW.block (aS (aV (za rfl (za rfl ?_))))))))
   obtain⟨v8,h9,H⟩:=zk H
   refine qt rfl eZ h9 (qa (m:=0) eZ rfl (zY (e:=(.int .i64 v8.Lo)) eZ rfl (za rfl (Qh rfl eZ (xQ ?_)))))
   rcases zA H with⟨h10,H⟩|⟨h10,H⟩
   ·refine zi eZ (dT h10) (aV (za eC (xQ (AW.ret (TQ.qr (BQ.qr (TQ.qr (TQ.qr (BQ.qr (TQ.qr ?_))))))))))
    cases H
    exact eE rfl rfl
   ·refine zh eZ (dF h10) (AW.skip (TQ.qn (aV (za rfl (qg eZ eC (za eZ (xQ (AW.weaken (zg [] (kr 1 rfl rfl (kr 0 rfl rfl (kr 5 rfl rfl SL.nil))) BL.nil BK.nil) (aS (aV (za rfl (za rfl ?_))))))))))))
    obtain⟨v11,h12,H⟩:=zk H
    refine qt rfl eZ h12 (qa (m:=1) eZ rfl (zY (e:=(.int .i64 v11.Hi)) eZ rfl (za rfl (Qh rfl eZ (xQ ?_)))))
    rcases zA H with⟨h13,H⟩|⟨h13,H⟩
    ·refine zi eZ (dT h13) (aV (za eC (xQ (AW.ret (TQ.qr (BQ.qr (TQ.qr (TQ.qr (BQ.qr (TQ.qr ?_))))))))))
     cases H
     exact eE rfl rfl
    ·exact zh eZ (dF h13) (AW.skip (TQ.qn (aR (za rfl (qg eZ eC (za eZ (zm (BQ.qn (TQ.qn (aR (za rfl (qg eZ eC (za eZ (zm (TQ.qn ⟨((IntKind.wrap .i64 ((IntKind.wrap .i64 (s5.1+1))+1)),(IntKind.wrap .i64 (s5.2+1))),H,(zg [] (sR rfl rfl) BL.nil BK.nil)⟩)))))))))))))))
  ·exact zh eZ (dF h7) (AW.exit (TQ.qe (TQ.qe (BQ.qe (TQ.qn ⟨s5.1,H,(zg [] (sR rfl rfl) BL.nil BK.nil)⟩)))))
theorem zdH{a1:(List zn)}{a2:Int}{r:Int}(H:ZD a1 a2=some r):Fn Tryz.prog 34 (lent [(.sl 2 (List.map zj a1)),(.int .i64 a2)]) true [(.int .i64 r)]:=by
 refine f34 (fle rfl) ?_
 rw[zx]
 refine AW.weaken (zg [] (kv 0 (.one (.d (.sl 2 (List.map zj a1)))) rfl rfl (kv 1 (oI a2) rfl rfl SL.nil)) BL.nil BK.nil) ?_
 unfold ZD at H
 unfold i34
 refine aV (za eC (xQ (zE (fun t3:Int=>JS t3=some r) (fun t3=>mk [(1,(oI t3))] [] noG) ?_ ?_)))
 ·intro t3 H
  unfold JS at H
  refine aV (za eZ (za eZ (xQ (AW.ret ?_))))
  cases H
  exact eE rfl rfl
 ·refine aV (za eC (xQ (AW.block (AW.iter (fun s5:(Int×Int)=>mk [(0,(.one (.d (.sl 2 (List.map zj a1))))),(1,(oI s5.1)),(5,(oI s5.2))] [] noG) H (zg [] (sR rfl rfl) BL.nil BK.nil) ?_))))
  intro kb6 s5 H
  unfold JM at H
  refine aS (aV (za rfl (za rfl (zX eZ (n:=a1.length) lm (qi rfl eZ (xQ ?_))))))
  rcases zA H with⟨h7,H⟩|⟨h7,H⟩
  ·refine zi eZ (dT h7) (AW.skip (TQ.qn (aS (AW.block (aS (aV (za rfl (za rfl ?_))))))))
   obtain⟨v8,h9,H⟩:=zk H
   refine qt rfl eZ h9 (qa (m:=0) eZ rfl (zY (e:=(.int .i64 v8.Key)) eZ rfl (za rfl (Qh rfl eZ (xQ ?_)))))
   rcases zA H with⟨h10,H⟩|⟨h10,H⟩
   ·refine zi eZ (dT h10) (aV (za eC (xQ (AW.ret (TQ.qr (BQ.qr (TQ.qr (TQ.qr (BQ.qr (TQ.qr ?_))))))))))
    cases H
    exact eE rfl rfl
   ·refine zh eZ (dF h10) (AW.skip (TQ.qn (aV (za rfl (qg eZ eC (za eZ (xQ (AW.weaken (zg [] (kr 1 rfl rfl (kr 0 rfl rfl (kr 5 rfl rfl SL.nil))) BL.nil BK.nil) (aS (aV (za rfl (za rfl ?_))))))))))))
    obtain⟨v11,h12,H⟩:=zk H
    refine qt rfl eZ h12 (qa (m:=1) eZ rfl (zY (e:=(.int .i64 v11.Value)) eZ rfl (za rfl (Qh rfl eZ (xQ ?_)))))
    rcases zA H with⟨h13,H⟩|⟨h13,H⟩
    ·refine zi eZ (dT h13) (aV (za eC (xQ (AW.ret (TQ.qr (BQ.qr (TQ.qr (TQ.qr (BQ.qr (TQ.qr ?_))))))))))
     cases H
     exact eE rfl rfl
    ·exact zh eZ (dF h13) (AW.skip (TQ.qn (aR (za rfl (qg eZ eC (za eZ (zm (BQ.qn (TQ.qn (aR (za rfl (qg eZ eC (za eZ (zm (TQ.qn ⟨((IntKind.wrap .i64 ((IntKind.wrap .i64 (s5.1+1))+1)),(IntKind.wrap .i64 (s5.2+1))),H,(zg [] (sR rfl rfl) BL.nil BK.nil)⟩)))))))))))))))
  ·exact zh eZ (dF h7) (AW.exit (TQ.qe (TQ.qe (BQ.qe (TQ.qn ⟨s5.1,H,(zg [] (sR rfl rfl) BL.nil BK.nil)⟩)))))
theorem zd1{a1:(List zL)}{a2:Int}{r:Int}(H:ZA a1 a2=some r):Fn Tryz.prog 104 (lent [(.sl 4 (List.map zp a1)),(.int .i64 a2)]) true [(.int .i64 r)]:=by
 refine zG8 (fle rfl) ?_
 rw[zx]
 refine AW.weaken (zg [] (kv 0 (.one (.d (.sl 4 (List.map zp a1)))) rfl rfl (kv 1 (oI a2) rfl rfl SL.nil)) BL.nil BK.nil) ?_
 unfold ZA at H
 unfold zB2
 refine aV (za eC (xQ (zE (fun t3:Int=>JE t3=some r) (fun t3=>mk [(1,(oI t3))] [] noG) ?_ ?_)))
 ·intro t3 H
  unfold JE at H
  refine aV (za eZ (za eZ (xQ (AW.ret ?_))))
  cases H
  exact eE rfl rfl
 ·refine aV (za eC (xQ (AW.block (AW.iter (fun s5:(Int×Int)=>mk [(0,(.one (.d (.sl 4 (List.map zp a1))))),(1,(oI s5.1)),(5,(oI s5.2))] [] noG) H (zg [] (sR rfl rfl) BL.nil BK.nil) ?_))))
  intro kb6 s5 H
  unfold JD at H
  refine aS (aV (za rfl (za rfl (zX eZ (n:=a1.length) lm (qi rfl eZ (xQ ?_))))))
  rcases zA H with⟨h7,H⟩|⟨h7,H⟩
  ·refine zi eZ (dT h7) (AW.skip (TQ.qn (aS (AW.block (aS (aV (za rfl (za rfl ?_))))))))
   obtain⟨v8,h9,H⟩:=zk H
   refine qt rfl eZ h9 (qa (m:=0) eZ rfl (zY (e:=(.int .i64 v8.Tx)) eZ rfl (za rfl (Qh rfl eZ (xQ ?_)))))
   rcases zA H with⟨h10,H⟩|⟨h10,H⟩
   ·refine zi eZ (dT h10) (aV (za eC (xQ (AW.ret (TQ.qr (BQ.qr (TQ.qr (TQ.qr (BQ.qr (TQ.qr ?_))))))))))
    cases H
    exact eE rfl rfl
   ·refine zh eZ (dF h10) (AW.skip (TQ.qn (aV (za rfl (qg eZ eC (za eZ (xQ (AW.weaken (zg [] (kr 1 rfl rfl (kr 0 rfl rfl (kr 5 rfl rfl SL.nil))) BL.nil BK.nil) (aS (aV (za rfl (za rfl ?_))))))))))))
    obtain⟨v11,h12,H⟩:=zk H
    refine qt rfl eZ h12 (qa (m:=1) eZ rfl (zY (e:=(.int .i64 v11.Lo)) eZ rfl (za rfl (Qh rfl eZ (xQ ?_)))))
    rcases zA H with⟨h13,H⟩|⟨h13,H⟩
    ·refine zi eZ (dT h13) (aV (za eC (xQ (AW.ret (TQ.qr (BQ.qr (TQ.qr (TQ.qr (BQ.qr (TQ.qr ?_))))))))))
     cases H
     exact eE rfl rfl
    ·refine zh eZ (dF h13) (AW.skip (TQ.qn (aV (za rfl (qg eZ eC (za eZ (xQ (aS (aV (za rfl (za rfl ?_)))))))))))
     obtain⟨v14,h15,H⟩:=zk H
     refine qt rfl eZ h15 (qa (m:=2) eZ rfl (zY (e:=(.int .i64 v14.Hi)) eZ rfl (za rfl (Qh rfl eZ (xQ (AW.weaken (zg [] (kr 36 rfl rfl (kr 1 rfl rfl (kr 0 rfl rfl (kr 5 rfl rfl SL.nil)))) BL.nil BK.nil) ?_))))))
     rcases zA H with⟨h16,H⟩|⟨h16,H⟩
     ·refine zi eZ (dT h16) (aV (za eC (xQ (AW.ret (TQ.qr (BQ.qr (TQ.qr (TQ.qr (BQ.qr (TQ.qr ?_))))))))))
      cases H
      exact eE rfl rfl
     ·refine zh eZ (dF h16) (AW.skip (TQ.qn (aV (za rfl (qg eZ eC (za eZ (xQ (aS (aV (za rfl (za rfl ?_)))))))))))
      obtain⟨v17,h18,H⟩:=zk H
      refine qt rfl eZ h18 (qa (m:=3) eZ rfl (zY (e:=(.int .i64 v17.Mode)) eZ rfl (za rfl (Qh rfl eZ (xQ ?_)))))
      rcases zA H with⟨h19,H⟩|⟨h19,H⟩
      ·refine zi eZ (dT h19) (aV (za eC (xQ (AW.ret (TQ.qr (BQ.qr (TQ.qr (TQ.qr (BQ.qr (TQ.qr ?_))))))))))
       cases H
       exact eE rfl rfl
      ·exact zh eZ (dF h19) (AW.skip (TQ.qn (aR (za rfl (qg eZ eC (za eZ (zm (BQ.qn (TQ.qn (AW.weaken (zg [] (kr 1 rfl rfl (kr 0 rfl rfl (kr 5 rfl rfl SL.nil))) BL.nil BK.nil) (aR (za rfl (qg eZ eC (za eZ (zm (TQ.qn ⟨((IntKind.wrap .i64 ((IntKind.wrap .i64 ((IntKind.wrap .i64 ((IntKind.wrap .i64 (s5.1+1))+1))+1))+1)),(IntKind.wrap .i64 (s5.2+1))),H,(zg [] (sR rfl rfl) BL.nil BK.nil)⟩))))))))))))))))
  ·exact zh eZ (dF h7) (AW.exit (TQ.qe (TQ.qe (BQ.qe (TQ.qn ⟨s5.1,H,(zg [] (sR rfl rfl) BL.nil BK.nil)⟩)))))
end Go.AW
