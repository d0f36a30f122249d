/- That functions of the program compute what the plain functions say. Conditions: each theorem's own. -/
import Derived.Test.YtpabbbmfcgnhdaaGreatMShardThaw
import Derived.Test.YtpabbbmfcgnhdaaGreatGShardThaw
import Derived.Test.YtpabbbmfcgnhdaaGreatSShardThaw
import Derived.Test.YtpabbbmfcgnhdaaGreatYt
import Derived.KernelRfl
import Derived.Test.YtpabbbmfcgnhdaaGreatDShardThawa
import Derived.Test.YtpabbbmfcgnhdaaGreatDShardThawb
set_option linter.unusedVariables false
set_option linter.unusedSimpArgs false
set_option maxRecDepth 100000
namespace Go.AW
open Go.Proofs
theorem zds{a1:(List zK)}{a2:Int}{a3:ze}{a4:Int}{r:Bool}(H:Z3 a1 a2 a3 a4=some r):Fn Tryz.prog 302 (lent [(.sl 4 (List.map zp a1)),(.int .i64 a2),(.agg (zd a3)),(.int .i64 a4)]) true [(.bool r)]:=by
 refine zEs (fle rfl) ?_
 rw[zx]
 refine AW.weaken (zg [] (kv 0 (.one (.d (.sl 4 (List.map zp a1)))) rfl rfl (kv 1 (oI a2) rfl rfl (kv 2 (.agg [(dI a3.Lo),(dI a3.Hi)]) rfl rfl (kv 3 (oI a4) rfl rfl SL.nil)))) BL.nil BK.nil) ?_
 unfold Z3 at H
 unfold zye
 refine aV (ji (n:=320) (m:=1) (cs:=[(dI a2)]) rfl rfl rfl rfl nZ (ji (n:=384) (m:=2) (cs:=[(dI a3.Lo),(dI a3.Hi)]) rfl rfl rfl rfl (nR rfl) (ji (n:=448) (m:=1) (cs:=[(dI a4)]) rfl rfl rfl rfl (nR rfl) (za eC (xQ (aV (za rfl ?_)))))))
 obtain⟨v5,h6,H⟩:=zk H
 refine zD (u:=(oB v5)) eC Cl.fn (zaI h6) (Ec eZ En) (Vc Vp Vn) rfl (za eZ ?_)
 rcases zC H with⟨h7,H⟩|⟨h7,H⟩
 ·refine gDo eZ h7 (zP (es:=[(dI a3.Lo),(dI a3.Hi)]) rfl (bR rfl) rfl (gDo rfl h7 ?_))
  obtain⟨v8,h9,H⟩:=zk H
  refine zD (u:=(oB v8)) eC Cl.fn (JY h9) (Ec eZ En) (Vc (VD.agg rfl) Vn) rfl (zB rfl h7 eZ (za eZ ?_))
  rcases zC H with⟨h10,H⟩|⟨h10,H⟩
  ·refine gDo eZ h10 (zl (q:=0) (c:=(dI a4)) rfl bZ rfl rfl (gDo rfl h10 ?_))
   obtain⟨v11,h12,H⟩:=zk H
   refine zD (u:=(oB v11)) eC Cl.fn (zbD h12) (Ec eZ En) (Vc Vp Vn) rfl (zB rfl h10 eZ (za eZ ?_))
   rcases zC H with⟨h13,H⟩|⟨h13,H⟩
   ·refine gDo eZ h13 (za rfl (gDo rfl h13 (zcP (ps:=[(.nm 320 0 0),(.nm 448 0 0),(.nm 384 0 0)]) (Ec rfl (Ec rfl (Ec rfl En))) (gDo rfl h13 ?_))))
    obtain⟨v14,h15,H⟩:=zk H
    refine zD (u:=(oB v14)) eC Cl.fn (Js h15) (Ec rfl (Ec eZ En)) (Vc Vp (Vc (VD.fn (PDs.cons (QP (bR rfl) (CDs.plain CDs.nil)) (PDs.cons (QP bZ (CDs.plain CDs.nil)) (PDs.cons (QP (bR rfl) (CDs.plain (CDs.plain CDs.nil))) PDs.nil)))) Vn)) rfl (zB rfl h13 eZ (za eZ (xQ (AW.weaken (zg [448,384,320] (kr 8 rfl rfl SL.nil) (blR rfl) BK.nil) (AW.ret ?_)))))
    cases H
    exact eE rfl rfl
   ·refine zb eZ (nt h13) rfl (zb rfl (nt h13) rfl (zb rfl (nt h13) rfl (zJ rfl (nt h13) eC (za eZ (xQ (AW.weaken (zg [448,384,320] (kr 8 rfl rfl SL.nil) (blR rfl) BK.nil) (AW.ret ?_)))))))
    cases H
    exact eE rfl rfl
  ·refine zb eZ (nt h10) rfl (zb rfl (nt h10) rfl (zJ rfl (nt h10) eC (za eZ (zb eZ rfl rfl (zb rfl rfl rfl (zb rfl rfl rfl (zJ rfl rfl eC (za eZ (xQ (AW.weaken (zg [448,384,320] (kr 8 rfl rfl SL.nil) (blR rfl) BK.nil) (AW.ret ?_)))))))))))
   cases H
   exact eE rfl rfl
 ·refine zb eZ (nt h7) rfl (zb rfl (nt h7) rfl (zJ rfl (nt h7) eC (za eZ (zb eZ rfl rfl (zb rfl rfl rfl (zJ rfl rfl eC (za eZ (zb eZ rfl rfl (zb rfl rfl rfl (zb rfl rfl rfl (zJ rfl rfl eC (za eZ (xQ (AW.weaken (zg [448,384,320] (kr 8 rfl rfl SL.nil) (blR rfl) BK.nil) (AW.ret ?_)))))))))))))))
  cases H
  exact eE rfl rfl
theorem zc4{a1:zu}{a2:zn}{a3:zL}{r:Bool}(H:Qg a1 a2 a3=some r):Fn Tryz.prog 301 (lent [(.agg (zj a1)),(.ptr (zS a2)),(.ptr (zA a3))]) true [(.bool r)]:=by
 refine zys (fle rfl) ?_
 rw[zx]
 refine AW.weaken (zg [] (kv 0 (.agg [(dI a1.Key),(dI a1.Value)]) rfl rfl (SL.cons (v:=(.one (.ptr (.bd (zS a2) 0)))) (eS rfl eZ) rfl (VWk.one CWk.ptr) (SL.cons (v:=(.one (.ptr (.bd (zA a3) 0)))) (eS rfl (eS rfl eZ)) rfl (VWk.one CWk.ptr) SL.nil))) BL.nil BK.nil) ?_
 unfold Qg at H
 unfold zxS
 refine aV (ji (n:=192) (m:=2) (cs:=[(dI a1.Key),(dI a1.Value)]) rfl eZ rfl rfl nZ (za eC (xQ (aS (AW.regd (z7 (m:=4) rfl rfl (zZ (e:=(.sl 4 (List.map zp a2.Locks))) eZ rfl (z7 (m:=0) rfl rfl (zZ (e:=(.int .i64 a3.Tx)) eZ rfl (zf (m:=0) rfl rfl (zl (q:=0) (c:=(dI a1.Key)) eZ bZ rfl rfl ?_)))))))))))
 obtain⟨v4,h5,H⟩:=zk H
 refine zD (u:=(.agg [(dI v4.Lo),(dI v4.Hi)])) eC Cl.fn (ze7 h5) (Ec eZ En) (Vc Vp Vn) rfl ?_
 obtain⟨v6,h7,H⟩:=zk H
 refine zD (u:=(oB v6)) eC Cl.fn (zds h7) (Ec rfl (Ec rfl (Ec eZ (Ec eC En)))) (Vc Vp (Vc Vp (Vc (VD.agg rfl) (Vc Vp Vn)))) rfl (qH eZ (za eZ (xQ (AW.ret ?_))))
 cases H
 exact eE rfl rfl
theorem Y9{a1:(List zu)}{a2:zn}{a3:zL}{r:Int}(H:jc a1 a2 a3=some r):Fn Tryz.prog 347 (lent [(.sl 2 (List.map zj a1)),(.fn 301 [.ptr (zS a2),.ptr (zA a3)])]) true [(.int .i64 r)]:=by
 refine zFp (fle rfl) ?_
 rw[zx]
 refine AW.weaken (zg [] (kv 0 (.one (.d (.sl 2 (List.map zj a1)))) rfl rfl (SL.cons (v:=(.one (.fn 301 [(.bd (zS a2) 0),(.bd (zA a3) 0)]))) (eS rfl eZ) rfl (VWk.one (CWk.fn (css:=[zS a2,zA a3]))) SL.nil)) BL.nil BK.nil) ?_
 unfold jc at H
 unfold zyE
 refine aV (za eC (xQ (zF (fun t4:Unit=>jN t4=some r) (fun t4=>mk [] [] noG) ?_ ?_)))
 ·intro t4 H
  unfold jN at H
  refine aV (za eC (xQ (AW.ret ?_)))
  cases H
  exact eE rfl rfl
 ·refine aV (za rfl (zY eZ (n:=a1.length) lm (za eC (xQ (AW.block (AW.iter (fun s6:Int=>mk [(0,(.one (.d (.sl 2 (List.map zj a1))))),(1,(.one (.fn 301 [(.bd (zS a2) 0),(.bd (zA a3) 0)]))),(7,(oI (a1.length:Int))),(8,(oI s6))] [] noG) H (zg [] (sR rfl rfl) BL.nil BK.nil) ?_))))))
  intro kb7 s6 H
  unfold qV at H
  refine aV (qi rfl rfl (xQ (aS ?_)))
  rcases zC H with⟨h8,H⟩|⟨h8,H⟩
  ·refine zi eZ (dT h8) (AW.skip (TQ.qn (aS (AW.block (aV (za rfl (za eZ (xQ (aV (za rfl (za rfl (za rfl ?_))))))))))))
   obtain⟨v9,h10,H⟩:=zk H
   refine qz rfl eZ h10 (qg (es:=[(dI v9.Key),(dI v9.Value)]) eZ rfl ?_)
   obtain⟨v11,h12,H⟩:=zk H
   refine zD (u:=(oB v11)) rfl Cl.fn (zc4 h12) (Ec eZ En) (Vc (VD.agg rfl) (Vc jH (Vc jH Vn))) rfl (xQ ?_)
   rcases zC H with⟨h13,H⟩|⟨h13,H⟩
   ·refine zi eZ h13 (aV (za rfl (za eZ (xQ (AW.ret (BQ.qr (TQ.qr (TQ.qr (BQ.qr (TQ.qr ?_))))))))))
    cases H
    exact eE rfl rfl
   ·exact zh eZ (nt h13) (AW.skip (BQ.qn (TQ.qn (aR (qk rfl eC (za eZ (zm (TQ.qn ⟨(IntKind.wrap .i64 (s6+1)),H,(zg [] (sR rfl rfl) BL.nil BK.nil)⟩))))))))
  ·exact zh eZ (dF h8) (AW.exit (TQ.qe (TQ.qe (BQ.qe (TQ.qn ⟨(),H,(zg [] SL.nil BL.nil BK.nil)⟩)))))
theorem J9{a1:(List zu)}{a2:zn}{a3:zL}{r:Bool}(H:qt a1 a2 a3=some r):Fn Tryz.prog 300 (lent [(.sl 2 (List.map zj a1)),(.fn 301 [.ptr (zS a2),.ptr (zA a3)])]) true [(.bool r)]:=by
 refine zBb (fle rfl) ?_
 rw[zx]
 refine AW.weaken (zg [] (kv 0 (.one (.d (.sl 2 (List.map zj a1)))) rfl rfl (SL.cons (v:=(.one (.fn 301 [(.bd (zS a2) 0),(.bd (zA a3) 0)]))) (eS rfl eZ) rfl (VWk.one (CWk.fn (css:=[zS a2,zA a3]))) SL.nil)) BL.nil BK.nil) ?_
 unfold qt at H
 unfold zAG
 refine aV (za eC (xQ (aV (za rfl (za rfl ?_)))))
 obtain⟨v4,h5,H⟩:=zk H
 refine zD (u:=(oI v4)) eC Cl.fn (Y9 h5) (Ec rfl (Ec eZ En)) (Vc Vp (Vc (VD.fn (PDs.cons jH (PDs.cons jH PDs.nil))) Vn)) rfl (Xt eZ eC (za eZ (xQ (AW.ret ?_))))
 cases H
 exact eE rfl rfl
theorem zcz{a1:(List zL)}{r:(List Int)}(H:YU a1=some r):Fn Tryz.prog 126 (lent [(.sl 2 (List.map zA a1))]) true [(.sl 1 (List.map zt r))]:=by
 refine zFB (fle rfl) ?_
 rw[zx]
 refine AW.weaken (t:=mk [(0,(.one (.d (.sl 2 (List.map zA a1)))))] [] (lk [])) (zg [] (sR rfl rfl) BL.nil BK.nil) ?_
 unfold YU at H
 unfold zBO
 refine aV (za eC (xQ (aV (yy (m:=384) rfl nZ (za eZ (xQ (zF (fun t2:(List Int)=>Xl t2=some r) (fun t2=>mk [(3,(.one (.sl 320128 0 t2.length)))] [(320128,(.data 1 (List.map zt t2) true none))] (lk [])) ?_ ?_)))))))
 ·intro t2 H
  unfold Xl at H
  refine aV (za eZ (za eZ (xQ (AW.ret ?_))))
  obtain rfl:=(Option.some.inj H)
  exact qL (RL.cons (RV.tmp eZ) (VO.sl bZ lm (zy fun _=>rfl)) RL.nil) (by decide)
 ·refine aV (za rfl (zY eZ (n:=a1.length) lm (za eC (xQ (AW.block (AW.iter (fun s4:((List Int)×Int)=>mk [(3,(.one (.sl 320192 0 s4.1.length))),(7,(.one (.d (.sl 2 (List.map zA a1))))),(8,(oI (a1.length:Int))),(9,(oI s4.2))] [(320192,(.data 1 (List.map zt s4.1) true none))] (lk [])) H ((zN [] (SL.cons eZ rfl (VWk.one (CWk.len (by first|(simp;done)|(simp;omega)|omega|(simp only[List.length_map];omega)))) (sR rfl rfl)) (blR rfl) (bkR rfl rfl rfl) GK.nil).trans (zkh 320192 1 3 true rfl nZ)) ?_))))))
  intro kb5 s4 H
  unfold Xm at H
  refine aV (qi rfl rfl (xQ (aS ?_)))
  rcases zC H with⟨h6,H⟩|⟨h6,H⟩
  ·refine zi eZ (dT h6) (AW.skip (TQ.qn (aS (AW.block (aS (zX (zw ?_)))))))
   obtain⟨v7,h8,H⟩:=zk H
   refine qz rfl rfl h8 (zm (zw (qg (es:=(jG v7)) eZ rfl (zm (zw (Zj (n:=320) (m:=2) rfl rfl (nR rfl) (zm (zw (zQ (es:=(jG v7)) eZ rfl rfl rfl bZ rfl (zm (qc (xQ (aR (za rfl (zf (m:=0) rfl rfl (zl (q:=0) (c:=(dI v7.Tx)) eZ bZ rfl rfl (zbm (m:=1024) (q:=1) (cs:=[(dI v7.Tx)]) rfl (jL eZ kj) rfl (List.cons_ne_nil _ _) (by simp) (nR rfl) ?_)))))))))))))))))
   obtain⟨h9,H⟩:=qb H
   exact zit (f:=zt) (xs:=s4.1) (ys:=[v7.Tx]) (q:=(s4.1++([v7.Tx])).length) rfl eZ (bR rfl) rfl (El.one (f:=zt) (t:=v7.Tx) (es:=[(.int .i64 v7.Tx)]) bZ rfl rfl rfl) rfl h9 (by decide) (by decide) (erL.cons (v':=(.one (.sl 1024 0 1))) rfl (erL.cons (v':=(oI v7.Tx)) rfl (erL.cons (v':=(.one (.ptr (.nm 320 0 0)))) rfl (erL.cons (v':=(.one .any)) rfl (erL.cons (v':=(.one (.ptr (.nm 320 0 0)))) rfl (erL.cons (v':=(.agg (jG v7))) rfl (erL.cons (v':=(.one (.ptr (.bd (zA v7) 0)))) rfl (erL.cons (v':=(oB (decide (s4.2 < (a1.length:Int))))) rfl (erL.cons (v':=(.one .any)) rfl (erL.cons (v':=(.one (.d (.sl 2 (List.map zA a1))))) rfl (erL.cons (v':=(oI (a1.length:Int))) rfl (erL.cons (v':=(oI s4.2)) rfl erL.nil)))))))))))) (erH.cons (v':=(.vars 1 [(dI v7.Tx)])) rfl rfl (erH.cons (v':=(.vars 2 (jG v7))) rfl rfl (erH.cons (v':=(.vars 2 [(dI 0),.zs])) rfl rfl (erH.drop rfl erH.nil)))) GK.nil (za eZ (zm (BQ.qn (TQ.qn (aR (qk rfl eC (za eZ (zm (TQ.qn ⟨((s4.1++([v7.Tx])),(IntKind.wrap .i64 (s4.2+1))),H,(zN [1024,320] (sR rfl rfl) (blR rfl) (bkR rfl rfl rfl) GK.nil)⟩)))))))))
  ·exact zh eZ (dF h6) (AW.exit (TQ.qe (TQ.qe (BQ.qe (TQ.qn ⟨s4.1,H,((zN [] (sR rfl rfl) (blR rfl) (bkR rfl rfl rfl) GK.nil).trans (zac 320192 320128 rfl rfl (nR rfl) GR.nil))⟩)))))
theorem Xd{a1:(List Int)}{r:Bool}(H:yq a1=some r):Fn Tryz.prog 230 (lent [(.sl 1 (List.map zt a1))]) true [(.bool r)]:=by
 refine zE9 (fle rfl) ?_
 rw[zx]
 refine AW.weaken (zg [] (kv 0 (.one (.d (.sl 1 (List.map zt a1)))) rfl rfl SL.nil) BL.nil BK.nil) ?_
 unfold yq at H
 unfold zBp
 refine aV (za eC (xQ (zF (fun t2:Unit=>ks t2=some r) (fun t2=>mk [] [] noG) ?_ ?_)))
 ·intro t2 H
  unfold ks at H
  refine aV (za eC (xQ (AW.ret ?_)))
  cases H
  exact eE rfl rfl
 ·refine aV (za rfl (zY eZ (n:=a1.length) lm (za eC (xQ (AW.block (AW.iter (fun s4:Int=>mk [(0,(.one (.d (.sl 1 (List.map zt a1))))),(5,(.one (.d (.sl 1 (List.map zt a1))))),(6,(oI (a1.length:Int))),(7,(oI s4))] [] noG) H (zg [] (sR rfl rfl) BL.nil BK.nil) ?_))))))
  intro kb5 s4 H
  unfold Jc at H
  refine aV (qi rfl rfl (xQ (aS ?_)))
  rcases zC H with⟨h6,H⟩|⟨h6,H⟩
  ·refine zi eZ (dT h6) (AW.skip (TQ.qn (aS (AW.block (aV (za rfl ?_))))))
   obtain⟨v7,h8,H⟩:=zk H
   refine qz rfl rfl h8 (zZ (e:=(.int .i64 v7)) eZ rfl (za rfl (za rfl (xQ (zF (fun t9:Bool=>(yI kb5 s4) t9=some r) (fun t9=>mk [(0,(.one (.d (.sl 1 (List.map zt a1))))),(5,(.one (.d (.sl 1 (List.map zt a1))))),(6,(oI (a1.length:Int))),(7,(oI s4)),(27,(oB t9))] [] noG) ?_ ?_)))))
   ·intro t9 H
    unfold yI at H
    rcases zC H with⟨h11,H⟩|⟨h11,H⟩
    ·refine zi rfl h11 (aV (za eC (xQ (AW.ret (BQ.qr (TQ.qr (TQ.qr (BQ.qr (TQ.qr ?_)))))))))
     cases H
     exact eE rfl rfl
    ·exact zh rfl (nt h11) (AW.skip (BQ.qn (TQ.qn (aR (qk rfl eC (za eZ (zm (TQ.qn ⟨(IntKind.wrap .i64 (s4+1)),H,(zg [] (sR rfl rfl) BL.nil BK.nil)⟩))))))))
   ·refine aR (za eZ ?_)
    obtain⟨v12,h13,H⟩:=zk H
    refine zD (u:=(oB v12)) eC Cl.fn (zdE h13) (Ec eZ En) (Vc Vp Vn) rfl (qH eZ (za eZ ?_))
    rcases zC H with⟨h14,H⟩|⟨h14,H⟩
    ·refine gDo eZ (cN h14) (za rfl (gDo rfl (cN h14) (KQ eZ eC (gDo rfl (cN h14) (za eZ ?_)))))
     rcases zC H with⟨h15,H⟩|⟨h15,H⟩
     ·refine gDo eZ (dT h15) (za rfl (gDo rfl (dT h15) (za rfl (gDo rfl (dT h15) (zam eZ eC (gDo rfl (dT h15) ?_))))))
      obtain⟨v16,h17,H⟩:=zk H
      exact qz rfl eZ h17 (gDo rfl (dT h15) (zZ (e:=(.int .i64 v16)) eZ rfl (gDo rfl (dT h15) (za rfl (gDo rfl (dT h15) (Xt rfl eZ (gDo rfl (cN h14) (zB rfl (dT h15) eZ (zJ rfl (cN h14) eZ (zm (TQ.qn ⟨(decide (v7≤v16)),H,(zg [] (sR rfl rfl) BL.nil BK.nil)⟩)))))))))))
     ·exact zb eZ (dF h15) rfl (zb rfl (dF h15) rfl (zb rfl (dF h15) rfl (zb rfl (dF h15) rfl (zb rfl (dF h15) rfl (zb rfl (dF h15) rfl (zb rfl (dF h15) rfl (gDo rfl (cN h14) (zJ rfl (dF h15) eC (zJ rfl (cN h14) eZ (zm (TQ.qn ⟨false,H,(zg [] (sR rfl rfl) BL.nil BK.nil)⟩)))))))))))
    ·exact zb eZ (cN (nt h14)) rfl (zb rfl (cN (nt h14)) rfl (zb rfl (cN (nt h14)) rfl (zG eZ rfl (zG rfl rfl (zG rfl rfl (zG rfl rfl (zG rfl rfl (zG rfl rfl (zG rfl rfl (zb rfl (cN (nt h14)) rfl (zB rfl (cN (nt h14)) eC (zm (TQ.qn ⟨true,H,(zg [] (sR rfl rfl) BL.nil BK.nil)⟩)))))))))))))
  ·exact zh eZ (dF h6) (AW.exit (TQ.qe (TQ.qe (BQ.qe (TQ.qn ⟨(),H,(zg [] SL.nil BL.nil BK.nil)⟩)))))
theorem zff{a1:zn}{r:Bool}(H:Jw a1=some r):Fn Tryz.prog 229 (lent [(.agg (zS a1))]) true [(.bool r)]:=by
 refine zFo (fle rfl) ?_
 rw[zx]
 refine AW.weaken (t:=mk [(0,(.agg (zE a1)))] [] (lk [])) (zg [] (sR rfl rfl) BL.nil BK.nil) ?_
 unfold Jw at H
 unfold zyF
 refine aV (ji (n:=64) (m:=9) (cs:=(zE a1)) rfl eZ rfl rfl nZ (za eC (xQ (zF (fun t2:Unit=>(xi a1) t2=some r) (fun t2=>mk [(1,(.one (.ptr (.nm 64 0 0))))] [(64,(.vars 9 (zE a1)))] (lk [])) ?_ ?_))))
 ·intro t2 H
  unfold xi at H
  refine aV (zf (m:=5) eZ rfl (zl (q:=5) (c:=(.d (.sl 2 (List.map zA a1.Helds)))) eZ bZ rfl rfl ?_))
  obtain⟨v4,h5,H⟩:=zk H
  refine zD (u:=(.one (.d (.sl 1 (List.map zt v4))))) eC Cl.fn (zcz h5) (Ec eZ En) (Vc Vp Vn) rfl ?_
  obtain⟨v6,h7,H⟩:=zk H
  refine zD (u:=(oB v6)) eC Cl.fn (Xd h7) (Ec eZ En) (Vc Vp Vn) rfl (za eZ (xQ (AW.ret ?_)))
  cases H
  exact eE rfl rfl
 ·refine aV (zf (m:=5) rfl rfl (zl (q:=5) (c:=(.d (.sl 2 (List.map zA a1.Helds)))) eZ bZ rfl rfl (zY eZ (n:=a1.Helds.length) lm (za eC (xQ (AW.block (AW.iter (fun s8:Int=>mk [(1,(.one (.ptr (.nm 64 0 0)))),(6,(.one (.d (.sl 2 (List.map zA a1.Helds))))),(7,(oI (a1.Helds.length:Int))),(8,(oI s8))] [(64,(.vars 9 (zE a1)))] (lk [])) H (zN [] (sR rfl rfl) (blR rfl) (bkR rfl rfl rfl) GK.nil) ?_)))))))
  intro kb9 s8 H
  unfold xI at H
  refine aV (qi rfl rfl (xQ (aS ?_)))
  rcases zC H with⟨h10,H⟩|⟨h10,H⟩
  ·refine zi eZ (dT h10) (AW.skip (TQ.qn (aS (AW.block (aS (zX (zw ?_)))))))
   obtain⟨v11,h12,H⟩:=zk H
   refine qz rfl rfl h12 (zm (zw (qg (es:=(jG v11)) eZ rfl (zm (zw (Zj (n:=256) (m:=2) rfl rfl (nR rfl) (zm (zw (zQ (es:=(jG v11)) eZ rfl rfl rfl bZ rfl (zm (qc (xQ (zF (fun t13:Bool=>(Qo kb9 s8) t13=some r) (fun t13=>mk [(1,(.one (.ptr (.nm 64 0 0)))),(6,(.one (.d (.sl 2 (List.map zA a1.Helds))))),(7,(oI (a1.Helds.length:Int))),(8,(oI s8)),(21,(oB t13))] [(64,(.vars 9 (zE a1)))] (lk [])) ?_ ?_)))))))))))))
   ·intro t13 H
    unfold Qo at H
    rcases zC H with⟨h15,H⟩|⟨h15,H⟩
    ·refine zi rfl h15 (aV (za eC (xQ (AW.ret (BQ.qr (TQ.qr (TQ.qr (BQ.qr (TQ.qr ?_)))))))))
     cases H
     exact eE rfl rfl
    ·exact zh rfl (nt h15) (AW.skip (BQ.qn (TQ.qn (aR (qk rfl eC (za eZ (zm (TQ.qn ⟨(IntKind.wrap .i64 (s8+1)),H,(zN [] (sR rfl rfl) (blR rfl) (bkR rfl rfl rfl) GK.nil)⟩))))))))
   ·refine aR (zf (m:=1) eZ rfl (zl (q:=1) (c:=(.d (.sl 2 (List.map zj v11.Writes)))) eZ bZ rfl rfl ?_))
    obtain⟨v16,h17,H⟩:=zk H
    refine zD (u:=(oB v16)) eC Cl.fn (zao h17) (Ec eZ En) (Vc Vp Vn) rfl (qH eZ (za eZ ?_))
    rcases zC H with⟨h18,H⟩|⟨h18,H⟩
    ·refine gDo eZ (cN h18) (zf (m:=1) rfl rfl (gDo rfl (cN h18) (zl (q:=1) (c:=(.d (.sl 2 (List.map zj v11.Writes)))) eZ bZ rfl rfl (gDo rfl (cN h18) (zcP (ps:=[(.nm 64 0 0),(.nm 256 0 0)]) (Ec rfl (Ec rfl En)) (gDo rfl (cN h18) ?_))))))
     obtain⟨v19,h20,H⟩:=zk H
     exact zD (u:=(oB v19)) eC Cl.fn (J9 h20) (Ec rfl (Ec eZ En)) (Vc Vp (Vc (VD.fn (PDs.cons (QP (bR rfl) (CDs.plain (CDs.plain (CDs.plain (CDs.plain (CDs.plain (CDs.plain (CDs.plain (CDs.plain (CDs.plain CDs.nil)))))))))) (PDs.cons (QP bZ (CDs.plain (CDs.plain CDs.nil))) PDs.nil))) Vn)) rfl (zJ rfl (cN h18) eZ (zm (TQ.qn ⟨v19,H,(zN [256] (sR rfl rfl) (blR rfl) (bkR rfl rfl rfl) GK.nil)⟩)))
    ·exact zb eZ (cN (nt h18)) rfl (zb rfl (cN (nt h18)) rfl (zb rfl (cN (nt h18)) rfl (zb rfl (cN (nt h18)) rfl (zB rfl (cN (nt h18)) eC (zm (TQ.qn ⟨true,H,(zN [256] (sR rfl rfl) (blR rfl) (bkR rfl rfl rfl) GK.nil)⟩))))))
  ·exact zh eZ (dF h10) (AW.exit (TQ.qe (TQ.qe (BQ.qe (TQ.qn ⟨(),H,(zN [] (sR rfl rfl) (blR rfl) (bkR rfl rfl rfl) GK.nil)⟩)))))
theorem kI{a1:(List ze)}{a2:ze}{r:Bool}(H:yz a1 a2=some r):Fn Tryz.prog 93 (lent [(.sl 2 (List.map zd a1)),(.agg (zd a2))]) true [(.bool r)]:=by
 refine f93 (fle rfl) ?_
 rw[zx]
 refine AW.weaken (zg [] (kv 0 (.one (.d (.sl 2 (List.map zd a1)))) rfl rfl (kv 1 (.agg [(dI a2.Lo),(dI a2.Hi)]) rfl rfl SL.nil)) BL.nil BK.nil) ?_
 unfold yz at H
 unfold i93
 refine aV (ji (n:=192) (m:=2) (cs:=[(dI a2.Lo),(dI a2.Hi)]) rfl rfl rfl rfl nZ (za eC (xQ (aV (zf (m:=0) rfl rfl (zl (q:=0) (c:=(dI a2.Lo)) eZ bZ rfl rfl (za eZ (xQ (zF (fun t3:Int=>(xt a2) t3=some r) (fun t3=>mk [(3,(.one (.ptr (.nm 192 0 0)))),(5,(oI t3))] [(192,(.vars 2 [(dI a2.Lo),(dI a2.Hi)]))] noG) ?_ ?_)))))))))
 ·intro t3 H
  unfold xt at H
  refine aV (za rfl (zf (m:=1) rfl rfl (zl (q:=1) (c:=(dI a2.Hi)) eZ bZ rfl rfl (Xt rfl eZ (za eZ (xQ (AW.ret ?_)))))))
  cases H
  exact eE rfl rfl
 ·refine aV (za rfl (zY eZ (n:=a1.length) lm (za eC (xQ (AW.block (AW.iter (fun s5:(Int×Int)=>mk [(3,(.one (.ptr (.nm 192 0 0)))),(5,(oI s5.1)),(10,(.one (.d (.sl 2 (List.map zd a1))))),(11,(oI (a1.length:Int))),(12,(oI s5.2))] [(192,(.vars 2 [(dI a2.Lo),(dI a2.Hi)]))] noG) H (zg [] (sR rfl rfl) (blR rfl) (bkR rfl rfl rfl)) ?_))))))
  intro kb6 s5 H
  unfold xh at H
  refine aV (qi rfl rfl (xQ (aS ?_)))
  rcases zC H with⟨h7,H⟩|⟨h7,H⟩
  ·refine zi eZ (dT h7) (AW.skip (TQ.qn (aS (AW.block (aV ?_)))))
   obtain⟨v8,h9,H⟩:=zk H
   refine qz rfl rfl h9 (qg (es:=[(dI v8.Lo),(dI v8.Hi)]) eZ rfl (Zj (n:=448) (m:=2) rfl rfl (nR rfl) (zQ (es:=[(dI v8.Lo),(dI v8.Hi)]) eZ rfl rfl rfl bZ rfl (xQ (zF (fun t10:Bool=>(ZY kb6 v8 s5) t10=some r) (fun t10=>mk [(3,(.one (.ptr (.nm 192 0 0)))),(5,(oI s5.1)),(7,(.one (.ptr (.nm 448 0 0)))),(10,(.one (.d (.sl 2 (List.map zd a1))))),(11,(oI (a1.length:Int))),(12,(oI s5.2)),(25,(oB t10))] [(192,(.vars 2 [(dI a2.Lo),(dI a2.Hi)])),(448,(.vars 2 [(dI v8.Lo),(dI v8.Hi)]))] noG) ?_ ?_)))))
   ·intro t10 H
    unfold ZY at H
    rcases zC H with⟨h12,H⟩|⟨h12,H⟩
    ·exact zi rfl h12 (aR (zf (m:=1) rfl rfl (zl (q:=1) (c:=(dI v8.Hi)) eZ (bR rfl) rfl rfl (za eZ (zm (BQ.qn (TQ.qn (aR (qk rfl eC (za eZ (zm (TQ.qn ⟨(v8.Hi,(IntKind.wrap .i64 (s5.2+1))),H,(zg [448] (sR rfl rfl) (blR rfl) (bkR rfl rfl rfl))⟩))))))))))))
    ·exact zh rfl (nt h12) (AW.skip (BQ.qn (TQ.qn (aR (qk rfl eC (za eZ (zm (TQ.qn ⟨(s5.1,(IntKind.wrap .i64 (s5.2+1))),H,(zg [448] (sR rfl rfl) (blR rfl) (bkR rfl rfl rfl))⟩))))))))
   ·refine aR (zf (m:=0) eZ rfl (zl (q:=0) (c:=(dI v8.Lo)) eZ bZ rfl rfl (za rfl (zaA rfl eZ (za eZ ?_)))))
    rcases zC H with⟨h13,H⟩|⟨h13,H⟩
    ·exact gDo eZ (dT h13) (za rfl (gDo rfl (dT h13) (zf (m:=1) rfl rfl (gDo rfl (dT h13) (zl (q:=1) (c:=(dI v8.Hi)) eZ bZ rfl rfl (gDo rfl (dT h13) (qi rfl eZ (zB rfl (dT h13) eZ (zm (TQ.qn ⟨(decide (s5.1 < v8.Hi)),H,(zg [] (sR rfl rfl) (blR rfl) (bkR rfl rfl rfl))⟩))))))))))
    ·exact zb eZ (dF h13) rfl (zb rfl (dF h13) rfl (zb rfl (dF h13) rfl (zb rfl (dF h13) rfl (zJ rfl (dF h13) eC (zm (TQ.qn ⟨false,H,(zg [] (sR rfl rfl) (blR rfl) (bkR rfl rfl rfl))⟩))))))
  ·exact zh eZ (dF h7) (AW.exit (TQ.qe (TQ.qe (BQ.qe (TQ.qn ⟨s5.1,H,(zg [] (sR rfl rfl) (blR rfl) (bkR rfl rfl rfl))⟩)))))
theorem zdq{a1:ze}{a2:zn}{r:Bool}(H:ZZ a1 a2=some r):Fn Tryz.prog 231 (lent [(.agg (zd a1)),(.ptr (zS a2))]) true [(.bool r)]:=by
 refine zFP (fle rfl) ?_
 rw[zx]
 refine AW.weaken (zg [] (kv 0 (.agg [(dI a1.Lo),(dI a1.Hi)]) rfl rfl (SL.cons (v:=(.one (.ptr (.bd (zS a2) 0)))) (eS rfl eZ) rfl (VWk.one CWk.ptr) SL.nil)) BL.nil BK.nil) ?_
 unfold ZZ at H
 unfold zBT
 refine aV (ji (n:=128) (m:=2) (cs:=[(dI a1.Lo),(dI a1.Hi)]) rfl eZ rfl rfl nZ (za eC (xQ (aV (z7 (m:=1) rfl rfl (zZ (e:=(.sl 2 (List.map zd a2.Own))) eZ rfl (zP (es:=[(dI a1.Lo),(dI a1.Hi)]) rfl bZ rfl ?_)))))))
 obtain⟨v3,h4,H⟩:=zk H
 refine zD (u:=(oB v3)) eC Cl.fn (kI h4) (Ec rfl (Ec eZ En)) (Vc Vp (Vc (VD.agg rfl) Vn)) rfl (qH eZ (za eZ (xQ (AW.ret ?_))))
 cases H
 exact eE rfl rfl
theorem xc{a1:(List ze)}{a2:zn}{r:Int}(H:jh a1 a2=some r):Fn Tryz.prog 284 (lent [(.sl 2 (List.map zd a1)),(.fn 231 [.ptr (zS a2)])]) true [(.int .i64 r)]:=by
 refine ztk (fle rfl) ?_
 rw[zx]
 refine AW.weaken (zg [] (kv 0 (.one (.d (.sl 2 (List.map zd a1)))) rfl rfl (SL.cons (v:=(.one (.fn 231 [(.bd (zS a2) 0)]))) (eS rfl eZ) rfl (VWk.one (CWk.fn (css:=[zS a2]))) SL.nil)) BL.nil BK.nil) ?_
 unfold jh at H
 unfold zlL
 refine aV (za eC (xQ (zF (fun t3:Unit=>jM t3=some r) (fun t3=>mk [] [] noG) ?_ ?_)))
 ·intro t3 H
  unfold jM at H
  refine aV (za eC (xQ (AW.ret ?_)))
  cases H
  exact eE rfl rfl
 ·refine aV (za rfl (zY eZ (n:=a1.length) lm (za eC (xQ (AW.block (AW.iter (fun s5:Int=>mk [(0,(.one (.d (.sl 2 (List.map zd a1))))),(1,(.one (.fn 231 [(.bd (zS a2) 0)]))),(7,(oI (a1.length:Int))),(8,(oI s5))] [] noG) H (zg [] (sR rfl rfl) BL.nil BK.nil) ?_))))))
  intro kb6 s5 H
  unfold qX at H
  refine aV (qi rfl rfl (xQ (aS ?_)))
  rcases zC H with⟨h7,H⟩|⟨h7,H⟩
  ·refine zi eZ (dT h7) (AW.skip (TQ.qn (aS (AW.block (aV (za rfl (za eZ (xQ (aV (za rfl (za rfl (za rfl ?_))))))))))))
   obtain⟨v8,h9,H⟩:=zk H
   refine qz rfl eZ h9 (qg (es:=[(dI v8.Lo),(dI v8.Hi)]) eZ rfl ?_)
   obtain⟨v10,h11,H⟩:=zk H
   refine zD (u:=(oB v10)) rfl Cl.fn (zdq h11) (Ec eZ En) (Vc (VD.agg rfl) (Vc jH Vn)) rfl (xQ ?_)
   rcases zC H with⟨h12,H⟩|⟨h12,H⟩
   ·refine zi eZ h12 (aV (za rfl (za eZ (xQ (AW.ret (BQ.qr (TQ.qr (TQ.qr (BQ.qr (TQ.qr ?_))))))))))
    cases H
    exact eE rfl rfl
   ·exact zh eZ (nt h12) (AW.skip (BQ.qn (TQ.qn (aR (qk rfl eC (za eZ (zm (TQ.qn ⟨(IntKind.wrap .i64 (s5+1)),H,(zg [] (sR rfl rfl) BL.nil BK.nil)⟩))))))))
  ·exact zh eZ (dF h7) (AW.exit (TQ.qe (TQ.qe (BQ.qe (TQ.qn ⟨(),H,(zg [] SL.nil BL.nil BK.nil)⟩)))))
theorem JN{a1:(List ze)}{a2:zn}{r:Bool}(H:qq a1 a2=some r):Fn Tryz.prog 201 (lent [(.sl 2 (List.map zd a1)),(.fn 231 [.ptr (zS a2)])]) true [(.bool r)]:=by
 refine zvT (fle rfl) ?_
 rw[zx]
 refine AW.weaken (zg [] (kv 0 (.one (.d (.sl 2 (List.map zd a1)))) rfl rfl (SL.cons (v:=(.one (.fn 231 [(.bd (zS a2) 0)]))) (eS rfl eZ) rfl (VWk.one (CWk.fn (css:=[zS a2]))) SL.nil)) BL.nil BK.nil) ?_
 unfold qq at H
 unfold zlc
 refine aV (za eC (xQ (aV (za rfl (za rfl ?_)))))
 obtain⟨v3,h4,H⟩:=zk H
 refine zD (u:=(oI v3)) eC Cl.fn (xc h4) (Ec rfl (Ec eZ En)) (Vc Vp (Vc (VD.fn (PDs.cons jH PDs.nil)) Vn)) rfl (Xt eZ eC (za eZ (xQ (AW.ret ?_))))
 cases H
 exact eE rfl rfl
theorem zdo{a1:zu}{a2:zn}{r:Bool}(H:Z4 a1 a2=some r):Fn Tryz.prog 233 (lent [(.agg (zj a1)),(.ptr (zS a2))]) true [(.bool r)]:=by
 refine zFC (fle rfl) ?_
 rw[zx]
 refine AW.weaken (zg [] (kv 0 (.agg [(dI a1.Key),(dI a1.Value)]) rfl rfl (SL.cons (v:=(.one (.ptr (.bd (zS a2) 0)))) (eS rfl eZ) rfl (VWk.one CWk.ptr) SL.nil)) BL.nil BK.nil) ?_
 unfold Z4 at H
 unfold zxC
 refine aV (ji (n:=128) (m:=2) (cs:=[(dI a1.Key),(dI a1.Value)]) rfl eZ rfl rfl nZ (za eC (xQ (aS (AW.regd (z7 (m:=1) rfl rfl (zZ (e:=(.sl 2 (List.map zd a2.Own))) eZ rfl (zf (m:=0) rfl rfl (zl (q:=0) (c:=(dI a1.Key)) eZ bZ rfl rfl ?_)))))))))
 obtain⟨v3,h4,H⟩:=zk H
 refine zD (u:=(.agg [(dI v3.Lo),(dI v3.Hi)])) eC Cl.fn (ze7 h4) (Ec eZ En) (Vc Vp Vn) rfl ?_
 obtain⟨v5,h6,H⟩:=zk H
 refine zD (u:=(oB v5)) eC Cl.fn (kI h6) (Ec rfl (Ec eZ En)) (Vc Vp (Vc (VD.agg rfl) Vn)) rfl (qH eZ (za eZ (xQ (AW.ret ?_))))
 cases H
 exact eE rfl rfl
theorem xK{a1:(List zu)}{a2:zn}{r:Int}(H:jk a1 a2=some r):Fn Tryz.prog 303 (lent [(.sl 2 (List.map zj a1)),(.fn 233 [.ptr (zS a2)])]) true [(.int .i64 r)]:=by
 refine zFr (fle rfl) ?_
 rw[zx]
 refine AW.weaken (zg [] (kv 0 (.one (.d (.sl 2 (List.map zj a1)))) rfl rfl (SL.cons (v:=(.one (.fn 233 [(.bd (zS a2) 0)]))) (eS rfl eZ) rfl (VWk.one (CWk.fn (css:=[zS a2]))) SL.nil)) BL.nil BK.nil) ?_
 unfold jk at H
 unfold zy9
 refine aV (za eC (xQ (zF (fun t3:Unit=>jU t3=some r) (fun t3=>mk [] [] noG) ?_ ?_)))
 ·intro t3 H
  unfold jU at H
  refine aV (za eC (xQ (AW.ret ?_)))
  cases H
  exact eE rfl rfl
 ·refine aV (za rfl (zY eZ (n:=a1.length) lm (za eC (xQ (AW.block (AW.iter (fun s5:Int=>mk [(0,(.one (.d (.sl 2 (List.map zj a1))))),(1,(.one (.fn 233 [(.bd (zS a2) 0)]))),(7,(oI (a1.length:Int))),(8,(oI s5))] [] noG) H (zg [] (sR rfl rfl) BL.nil BK.nil) ?_))))))
  intro kb6 s5 H
  unfold je at H
  refine aV (qi rfl rfl (xQ (aS ?_)))
  rcases zC H with⟨h7,H⟩|⟨h7,H⟩
  ·refine zi eZ (dT h7) (AW.skip (TQ.qn (aS (AW.block (aV (za rfl (za eZ (xQ (aV (za rfl (za rfl (za rfl ?_))))))))))))
   obtain⟨v8,h9,H⟩:=zk H
   refine qz rfl eZ h9 (qg (es:=[(dI v8.Key),(dI v8.Value)]) eZ rfl ?_)
   obtain⟨v10,h11,H⟩:=zk H
   refine zD (u:=(oB v10)) rfl Cl.fn (zdo h11) (Ec eZ En) (Vc (VD.agg rfl) (Vc jH Vn)) rfl (xQ ?_)
   rcases zC H with⟨h12,H⟩|⟨h12,H⟩
   ·refine zi eZ h12 (aV (za rfl (za eZ (xQ (AW.ret (BQ.qr (TQ.qr (TQ.qr (BQ.qr (TQ.qr ?_))))))))))
    cases H
    exact eE rfl rfl
   ·exact zh eZ (nt h12) (AW.skip (BQ.qn (TQ.qn (aR (qk rfl eC (za eZ (zm (TQ.qn ⟨(IntKind.wrap .i64 (s5+1)),H,(zg [] (sR rfl rfl) BL.nil BK.nil)⟩))))))))
  ·exact zh eZ (dF h7) (AW.exit (TQ.qe (TQ.qe (BQ.qe (TQ.qn ⟨(),H,(zg [] SL.nil BL.nil BK.nil)⟩)))))
theorem Yh{a1:(List zu)}{a2:zn}{r:Bool}(H:qx a1 a2=some r):Fn Tryz.prog 232 (lent [(.sl 2 (List.map zj a1)),(.fn 233 [.ptr (zS a2)])]) true [(.bool r)]:=by
 refine zES (fle rfl) ?_
 rw[zx]
 refine AW.weaken (zg [] (kv 0 (.one (.d (.sl 2 (List.map zj a1)))) rfl rfl (SL.cons (v:=(.one (.fn 233 [(.bd (zS a2) 0)]))) (eS rfl eZ) rfl (VWk.one (CWk.fn (css:=[zS a2]))) SL.nil)) BL.nil BK.nil) ?_
 unfold qx at H
 unfold zyX
 refine aV (za eC (xQ (aV (za rfl (za rfl ?_)))))
 obtain⟨v3,h4,H⟩:=zk H
 refine zD (u:=(oI v3)) eC Cl.fn (xK h4) (Ec rfl (Ec eZ En)) (Vc Vp (Vc (VD.fn (PDs.cons jH PDs.nil)) Vn)) rfl (Xt eZ eC (za eZ (xQ (AW.ret ?_))))
 cases H
 exact eE rfl rfl
theorem zcC{a1 r:List Int}{a2:Int}(H:kB a1 a2=some r):Fn Tryz.prog 304 [⟨(.sl 1 []),.z⟩,⟨(.int .i64 a2),.b⟩] true [(.sl 1 (List.map zt r))]:=by
 obtain⟨⟨h1,h2⟩,H⟩:=qb H
 cases H
 obtain⟨n,rfl⟩:∃n:Nat,a2=(n:Int):=⟨Int.toNat a2,by omega⟩
 exact zl4 zgM (by kernel_rfl) (by kernel_rfl) (by kernel_rfl) n (by omega)
theorem zbB{a1:(List (List Int))}{r:(List Int)}(H:yX a1=some r):Fn Tryz.prog 235 (lent [(.sl 1 (List.map ZN a1))]) true [(.sl 1 (List.map zt r))]:=by
 refine zEy (fle rfl) ?_
 rw[zx]
 refine AW.weaken (t:=mk [(0,(.one (.d (.sl 1 (List.map ZN a1)))))] [] (lk [])) (zg [] (sR rfl rfl) BL.nil BK.nil) ?_
 unfold yX at H
 unfold zyB
 refine aV (za eC (xQ (aV (za eC (xQ (zF (fun t2:Int=>(ZB a1) t2=some r) (fun t2=>mk [(0,(.one (.d (.sl 1 (List.map ZN a1))))),(3,(oI t2))] [] (lk [])) ?_ ?_))))))
 ·intro t2 H
  unfold ZB at H
  refine aS (zX (zw (za rfl (zm ?_))))
  obtain⟨v4,h5,H⟩:=zk H
  refine zvA (ON:=[]) (ls:=[]) (G:=[]) (E:=[]) (MB:=[]) (u:=(.one (.sl 1536 0 v4.length))) (bs:=[(1536,(.data 1 (List.map zt v4) true none))]) eC Cl.fn (zcC h5) (Ec eC (Ec eZ En)) (AO.zs (AO.lent Vp rfl AO.nil)) rfl rfl rfl SZ.nil (erL.cons (v':=(oI t2)) rfl (erL.cons (v':=(.one (.d (.sl 1 (List.map ZN a1))))) rfl (erL.cons (v':=(oI t2)) rfl erL.nil))) erH.nil erL.nil (by simp[js,jX,qG,jw,qI]) rfl (fC nZ rfl (fC nZ rfl fN)) (qc (za eZ (xQ (zF (fun t6:(List Int)=>ZF t6=some r) (fun t6=>mk [(6,(.one (.sl 320128 0 t6.length)))] [(320128,(.data 1 (List.map zt t6) true none))] (lk [])) ?_ ?_))))
  ·intro t6 H
   unfold ZF at H
   refine aV (za eZ (za eZ (xQ (AW.ret ?_))))
   obtain rfl:=(Option.some.inj H)
   exact qL (RL.cons (RV.tmp eZ) (VO.sl bZ lm (zy fun _=>rfl)) RL.nil) (by decide)
  ·refine aV (za rfl (zY eZ (n:=a1.length) lm (za eC (xQ (AW.block (AW.iter (fun s8:((List Int)×Int)=>mk [(6,(.one (.sl 320192 0 s8.1.length))),(25,(.one (.d (.sl 1 (List.map ZN a1))))),(26,(oI (a1.length:Int))),(27,(oI s8.2))] [(320192,(.data 1 (List.map zt s8.1) true none))] (lk [])) H ((zN [] (sR rfl rfl) (blR rfl) (bkR rfl rfl rfl) GK.nil).trans (zac 1536 320192 rfl rfl (nR rfl) GR.nil)) ?_))))))
   intro kb9 s8 H
   unfold ZA at H
   refine aV (qi rfl rfl (xQ (aS ?_)))
   rcases zC H with⟨h10,H⟩|⟨h10,H⟩
   ·refine zi eZ (dT h10) (AW.skip (TQ.qn (aS (AW.block (aV ?_)))))
    obtain⟨v11,h12,H⟩:=zk H
    refine qz rfl rfl h12 (zZ (e:=(.sl 1 (List.map zt v11))) eZ rfl (za eZ (xQ (aR (za rfl (za rfl ?_))))))
    obtain⟨h13,H⟩:=qb H
    exact zit (f:=zt) (xs:=s8.1) (ys:=v11) (q:=(s8.1++v11).length) rfl eZ bZ rfl (El.lent fun _ _=>rfl) rfl h13 (by decide) (by decide) (erL.cons (v':=(.one (.d (.sl 1 (List.map zt v11))))) rfl (erL.cons (v':=(.one .any)) rfl (erL.cons (v':=(.one (.d (.sl 1 (List.map zt v11))))) rfl (erL.cons (v':=(.one (.d (.sl 1 (List.map zt v11))))) rfl (erL.cons (v':=(.one (.ptr (.bd (ZN v11) 0)))) rfl (erL.cons (v':=(oB (decide (s8.2 < (a1.length:Int))))) rfl (erL.cons (v':=(.one .any)) rfl (erL.cons (v':=(.one (.d (.sl 1 (List.map ZN a1))))) rfl (erL.cons (v':=(oI (a1.length:Int))) rfl (erL.cons (v':=(oI s8.2)) rfl erL.nil)))))))))) (erH.drop rfl erH.nil) GK.nil (za eZ (zm (BQ.qn (TQ.qn (aR (qk rfl eC (za eZ (zm (TQ.qn ⟨((s8.1++v11),(IntKind.wrap .i64 (s8.2+1))),H,(zN [] (sR rfl rfl) (blR rfl) (bkR rfl rfl rfl) GK.nil)⟩)))))))))
   ·exact zh eZ (dF h10) (AW.exit (TQ.qe (TQ.qe (BQ.qe (TQ.qn ⟨s8.1,H,((zN [] (sR rfl rfl) (blR rfl) (bkR rfl rfl rfl) GK.nil).trans (zac 320192 320128 rfl rfl (nR rfl) GR.nil))⟩)))))
 ·refine aV (za rfl (zY eZ (n:=a1.length) lm (za eC (xQ (AW.block (AW.iter (fun s14:(Int×Int)=>mk [(0,(.one (.d (.sl 1 (List.map ZN a1))))),(3,(oI s14.1)),(9,(.one (.d (.sl 1 (List.map ZN a1))))),(10,(oI (a1.length:Int))),(11,(oI s14.2))] [] (lk [])) H (zN [] (sR rfl rfl) BL.nil BK.nil GK.nil) ?_))))))
  intro kb15 s14 H
  unfold Zt at H
  refine aV (qi rfl rfl (xQ (aS ?_)))
  rcases zC H with⟨h16,H⟩|⟨h16,H⟩
  ·refine zi eZ (dT h16) (AW.skip (TQ.qn (aS (AW.block (aV ?_)))))
   obtain⟨v17,h18,H⟩:=zk H
   refine qz rfl rfl h18 (zZ (e:=(.sl 1 (List.map zt v17))) eZ rfl (za eZ (xQ (aV (za rfl (za rfl (zY eZ (n:=v17.length) lm (qk rfl eZ (za eZ (xQ (aV (za eZ (qi eZ eC (xQ (AW.weaken (zN [] (kr 20 rfl rfl (kr 3 rfl rfl (kr 0 rfl rfl (kr 9 rfl rfl (kr 10 rfl rfl (kr 11 rfl rfl SL.nil)))))) BL.nil BK.nil GK.nil) ?_)))))))))))))))
   rcases zC H with⟨h19,H⟩|⟨h19,H⟩
   ·refine zi eZ (dT h19) (aR ?_)
    cases H
   ·exact zh eZ (dF h19) (AW.skip (BQ.qn (TQ.qn (aR (qk rfl eC (za eZ (zm (TQ.qn ⟨((IntKind.wrap .i64 (s14.1+(v17.length:Int))),(IntKind.wrap .i64 (s14.2+1))),H,(zN [] (sR rfl rfl) BL.nil BK.nil GK.nil)⟩))))))))
  ·exact zh eZ (dF h16) (AW.exit (TQ.qe (TQ.qe (BQ.qe (TQ.qn ⟨s14.1,H,(zN [] (sR rfl rfl) BL.nil BK.nil GK.nil)⟩)))))
theorem zbY{a1:(List Int)}{a2:Int}{r:Int}(H:QF a1 a2=some r):Fn Tryz.prog 125 (lent [(.sl 1 (List.map zt a1)),(.int .i64 a2)]) true [(.int .i64 r)]:=by
 refine zyI (fle rfl) ?_
 rw[zx]
 refine AW.weaken (zg [] (kv 0 (.one (.d (.sl 1 (List.map zt a1)))) rfl rfl (kv 1 (oI a2) rfl rfl SL.nil)) BL.nil BK.nil) ?_
 unfold QF at H
 unfold zzv
 refine aV (za eC (xQ (zF (fun t3:Unit=>YZ t3=some r) (fun t3=>mk [] [] noG) ?_ ?_)))
 ·intro t3 H
  unfold YZ at H
  refine aV (za eC (xQ (AW.ret ?_)))
  cases H
  exact eE rfl rfl
 ·refine aV (za rfl (zY eZ (n:=a1.length) lm (za eC (xQ (AW.block (AW.iter (fun s5:Int=>mk [(0,(.one (.d (.sl 1 (List.map zt a1))))),(1,(oI a2)),(7,(oI (a1.length:Int))),(8,(oI s5))] [] noG) H (zg [] (sR rfl rfl) BL.nil BK.nil) ?_))))))
  intro kb6 s5 H
  unfold ZR at H
  refine aV (qi rfl rfl (xQ (aS ?_)))
  rcases zC H with⟨h7,H⟩|⟨h7,H⟩
  ·refine zi eZ (dT h7) (AW.skip (TQ.qn (aS (AW.block (aV (za rfl (za eZ (xQ (aV (za rfl (za rfl (za rfl ?_))))))))))))
   obtain⟨v8,h9,H⟩:=zk H
   refine qz rfl eZ h9 (zZ (e:=(.int .i64 v8)) eZ rfl (Kn rfl eZ (xQ ?_)))
   rcases zC H with⟨h10,H⟩|⟨h10,H⟩
   ·refine zi eZ (dT h10) (aV (za rfl (za eZ (xQ (AW.ret (BQ.qr (TQ.qr (TQ.qr (BQ.qr (TQ.qr ?_))))))))))
    cases H
    exact eE rfl rfl
   ·exact zh eZ (dF h10) (AW.skip (BQ.qn (TQ.qn (aR (qk rfl eC (za eZ (zm (TQ.qn ⟨(IntKind.wrap .i64 (s5+1)),H,(zg [] (sR rfl rfl) BL.nil BK.nil)⟩))))))))
  ·exact zh eZ (dF h7) (AW.exit (TQ.qe (TQ.qe (BQ.qe (TQ.qn ⟨(),H,(zg [] SL.nil BL.nil BK.nil)⟩)))))
theorem zaz{a1:(List Int)}{a2:Int}{r:Bool}(H:ym a1 a2=some r):Fn Tryz.prog 124 (lent [(.sl 1 (List.map zt a1)),(.int .i64 a2)]) true [(.bool r)]:=by
 refine zEM (fle rfl) ?_
 rw[zx]
 refine AW.weaken (zg [] (kv 0 (.one (.d (.sl 1 (List.map zt a1)))) rfl rfl (kv 1 (oI a2) rfl rfl SL.nil)) BL.nil BK.nil) ?_
 unfold ym at H
 unfold zy4
 refine aV (za eC (xQ (aV (za rfl (za rfl ?_)))))
 obtain⟨v3,h4,H⟩:=zk H
 refine zD (u:=(oI v3)) eC Cl.fn (zbY h4) (Ec rfl (Ec eZ En)) (Vc Vp (Vc Vp Vn)) rfl (Xt eZ eC (za eZ (xQ (AW.ret ?_))))
 cases H
 exact eE rfl rfl
theorem zdf{a1:zK}{a2:zn}{a3:(List Int)}{r:Bool}(H:Qi a1 a2 a3=some r):Fn Tryz.prog 236 (lent [(.agg (zp a1)),(.ptr (zS a2)),(.ptr (ZN a3))]) true [(.bool r)]:=by
 refine zET (fle rfl) ?_
 rw[zx]
 refine AW.weaken (zg [] (kv 0 (.agg (qp a1)) rfl rfl (SL.cons (v:=(.one (.ptr (.bd (zS a2) 0)))) (eS rfl eZ) rfl (VWk.one CWk.ptr) (SL.cons (v:=(.one (.ptr (.bd (ZN a3) 0)))) (eS rfl (eS rfl eZ)) rfl (VWk.one CWk.ptr) SL.nil))) BL.nil BK.nil) ?_
 unfold Qi at H
 unfold zx6
 refine aV (ji (n:=192) (m:=4) (cs:=(qp a1)) rfl eZ rfl rfl nZ (za eC (xQ (aS (AW.regd (z7 (m:=1) rfl rfl (zZ (e:=(.sl 2 (List.map zd a2.Own))) eZ rfl (zP (es:=(qp a1)) rfl bZ rfl ?_))))))))
 obtain⟨v4,h5,H⟩:=zk H
 refine zD (u:=(.agg [(dI v4.Lo),(dI v4.Hi)])) eC Cl.fn (y5 h5) (Ec eZ En) (Vc (VD.agg rfl) Vn) rfl ?_
 obtain⟨v6,h7,H⟩:=zk H
 refine zD (u:=(oB v6)) eC Cl.fn (kI h7) (Ec rfl (Ec eZ En)) (Vc Vp (Vc (VD.agg rfl) Vn)) rfl (qH eZ (za eZ ?_))
 rcases zC H with⟨h8,H⟩|⟨h8,H⟩
 ·refine gDo eZ (cN h8) (zZ (e:=(.sl 1 (List.map zt a3))) rfl rfl (gDo rfl (cN h8) (zf (m:=0) rfl rfl (gDo rfl (cN h8) (zl (q:=0) (c:=(dI a1.Tx)) eZ bZ rfl rfl (gDo rfl (cN h8) ?_))))))
  obtain⟨v9,h10,H⟩:=zk H
  refine zD (u:=(oB v9)) eC Cl.fn (zaz h10) (Ec rfl (Ec eZ En)) (Vc Vp (Vc Vp Vn)) rfl (zJ rfl (cN h8) eZ (za eZ (xQ (AW.weaken (zg [192] (kr 4 rfl rfl SL.nil) (blR rfl) BK.nil) (AW.ret ?_)))))
  cases H
  exact eE rfl rfl
 ·refine zb eZ (cN (nt h8)) rfl (zb rfl (cN (nt h8)) rfl (zb rfl (cN (nt h8)) rfl (zb rfl (cN (nt h8)) rfl (zB rfl (cN (nt h8)) eC (za eZ (xQ (AW.weaken (zg [192] (kr 4 rfl rfl SL.nil) (blR rfl) BK.nil) (AW.ret ?_))))))))
  cases H
  exact eE rfl rfl
theorem xO{a1:(List zK)}{a2:zn}{a3:(List Int)}{r:Int}(H:jn a1 a2 a3=some r):Fn Tryz.prog 216 (lent [(.sl 4 (List.map zp a1)),(.fn 236 [.ptr (zS a2),.ptr (ZN a3)])]) true [(.int .i64 r)]:=by
 refine zk2 (fle rfl) ?_
 rw[zx]
 refine AW.weaken (zg [] (kv 0 (.one (.d (.sl 4 (List.map zp a1)))) rfl rfl (SL.cons (v:=(.one (.fn 236 [(.bd (zS a2) 0),(.bd (ZN a3) 0)]))) (eS rfl eZ) rfl (VWk.one (CWk.fn (css:=[zS a2,ZN a3]))) SL.nil)) BL.nil BK.nil) ?_
 unfold jn at H
 unfold zmx
 refine aV (za eC (xQ (zF (fun t4:Unit=>jY t4=some r) (fun t4=>mk [] [] noG) ?_ ?_)))
 ·intro t4 H
  unfold jY at H
  refine aV (za eC (xQ (AW.ret ?_)))
  cases H
  exact eE rfl rfl
 ·refine aV (za rfl (zY eZ (n:=a1.length) lm (za eC (xQ (AW.block (AW.iter (fun s6:Int=>mk [(0,(.one (.d (.sl 4 (List.map zp a1))))),(1,(.one (.fn 236 [(.bd (zS a2) 0),(.bd (ZN a3) 0)]))),(7,(oI (a1.length:Int))),(8,(oI s6))] [] noG) H (zg [] (sR rfl rfl) BL.nil BK.nil) ?_))))))
  intro kb7 s6 H
  unfold jg at H
  refine aV (qi rfl rfl (xQ (aS ?_)))
  rcases zC H with⟨h8,H⟩|⟨h8,H⟩
  ·refine zi eZ (dT h8) (AW.skip (TQ.qn (aS (AW.block (aV (za rfl (za eZ (xQ (aV (za rfl (za rfl (za rfl ?_))))))))))))
   obtain⟨v9,h10,H⟩:=zk H
   refine qz rfl eZ h10 (qg (es:=(qp v9)) eZ rfl ?_)
   obtain⟨v11,h12,H⟩:=zk H
   refine zD (u:=(oB v11)) rfl Cl.fn (zdf h12) (Ec eZ En) (Vc (VD.agg rfl) (Vc jH (Vc jH Vn))) rfl (xQ ?_)
   rcases zC H with⟨h13,H⟩|⟨h13,H⟩
   ·refine zi eZ h13 (aV (za rfl (za eZ (xQ (AW.ret (BQ.qr (TQ.qr (TQ.qr (BQ.qr (TQ.qr ?_))))))))))
    cases H
    exact eE rfl rfl
   ·exact zh eZ (nt h13) (AW.skip (BQ.qn (TQ.qn (aR (qk rfl eC (za eZ (zm (TQ.qn ⟨(IntKind.wrap .i64 (s6+1)),H,(zg [] (sR rfl rfl) BL.nil BK.nil)⟩))))))))
  ·exact zh eZ (dF h8) (AW.exit (TQ.qe (TQ.qe (BQ.qe (TQ.qn ⟨(),H,(zg [] SL.nil BL.nil BK.nil)⟩)))))
theorem Yj{a1:(List zK)}{a2:zn}{a3:(List Int)}{r:Bool}(H:qy a1 a2 a3=some r):Fn Tryz.prog 110 (lent [(.sl 4 (List.map zp a1)),(.fn 236 [.ptr (zS a2),.ptr (ZN a3)])]) true [(.bool r)]:=by
 refine zpM (fle rfl) ?_
 rw[zx]
 refine AW.weaken (zg [] (kv 0 (.one (.d (.sl 4 (List.map zp a1)))) rfl rfl (SL.cons (v:=(.one (.fn 236 [(.bd (zS a2) 0),(.bd (ZN a3) 0)]))) (eS rfl eZ) rfl (VWk.one (CWk.fn (css:=[zS a2,ZN a3]))) SL.nil)) BL.nil BK.nil) ?_
 unfold qy at H
 unfold zl1
 refine aV (za eC (xQ (aV (za rfl (za rfl ?_)))))
 obtain⟨v4,h5,H⟩:=zk H
 refine zD (u:=(oI v4)) eC Cl.fn (xO h5) (Ec rfl (Ec eZ En)) (Vc Vp (Vc (VD.fn (PDs.cons jH (PDs.cons jH PDs.nil))) Vn)) rfl (Xt eZ eC (za eZ (xQ (AW.ret ?_))))
 cases H
 exact eE rfl rfl
theorem zcO{a1 r:List Int}(H:kh a1=some r):Fn Tryz.prog 237 [⟨(.sl 1 (List.map zt a1)),.m (.sl 1 (List.map zt r))⟩] true []:=by
 obtain⟨h,H⟩:=qb H
 cases H
 exact zmg zgL (by kernel_rfl) (by kernel_rfl) a1 (by omega)
theorem xL{a1:(List Int)}{r:(List Int)}(H:j5 a1=some r):Fn Tryz.prog 206 (lent [(.sl 1 (List.map zt a1))]) true [(.sl 1 (List.map zt r))]:=by
 refine zFM (fle rfl) ?_
 rw[zx]
 refine AW.weaken (zg [] (kv 0 (.one (.d (.sl 1 (List.map zt a1)))) rfl rfl SL.nil) BL.nil BK.nil) ?_
 unfold j5 at H
 unfold zCo
 refine aV (za eC (xQ (zF (fun t2:Unit=>(yg a1) t2=some r) (fun t2=>mk [(0,(.one (.d (.sl 1 (List.map zt a1)))))] [] noG) ?_ ?_)))
 ·intro t2 H
  unfold yg at H
  refine aV (yy (m:=320) rfl nZ (za rfl ?_))
  obtain⟨h4,H⟩:=qb H
  refine zaq (f:=zt) (m:=448) (own:=true) (ys:=a1) (q:=a1.length) rfl rfl rfl eZ (El.lent fun _ _=>rfl) rfl h4 (by decide) nZ (za eZ (xQ (AW.ret ?_)))
  obtain rfl:=(Option.some.inj H)
  exact qL (RL.cons (RV.tmp eZ) (VO.sl bZ lm (zy fun _=>rfl)) RL.nil) (by decide)
 ·refine aV (za rfl ?_)
  rcases zC H with⟨h5,H⟩|⟨h5,H⟩
  ·refine zfq eZ h5 (xQ (AW.condU eZ ?_ ?_))
   ·have H:(some ([]:(List Int)))=some r:=by rw[←H];simp[List.eq_nil_of_length_eq_zero h5,yg]
    refine aV (za eC (xQ (AW.ret (TQ.qr ?_))))
    cases H
    exact qL (RL.cons (RV.tmp eZ) VO.zs RL.nil) List.nodup_nil
   ·exact AW.skip (TQ.qn ⟨(),H,(zg [] (sR rfl rfl) BL.nil BK.nil)⟩)
  ·exact zhK eZ h5 (xQ (zh eZ rfl (AW.skip (TQ.qn ⟨(),H,(zg [] (sR rfl rfl) BL.nil BK.nil)⟩))))
theorem zaQ{a1 r:List Int}(H:J7 a1=some r):Fn Tryz.prog 238 [⟨(.sl 1 (List.map zt a1)),.g⟩] true [(.sl 1 (List.map zt r))]:=by
 obtain⟨h,H⟩:=qb H
 cases H
 exact zh6 zfs (by kernel_rfl) (by kernel_rfl) a1 (by omega)
theorem K5{a1:zu}{a2:Int}{r:Int}(H:Zf a1 a2=some r):Fn Tryz.prog 390 (lent [(.agg (zj a1)),(.int .i64 a2)]) true [(.int .i64 r)]:=by
 refine zFA (fle rfl) ?_
 rw[zx]
 refine AW.weaken (zg [] (kv 0 (.agg [(dI a1.Key),(dI a1.Value)]) rfl rfl (kv 1 (oI a2) rfl rfl SL.nil)) BL.nil BK.nil) ?_
 unfold Zf at H
 unfold zAH
 refine aV (ji (n:=128) (m:=2) (cs:=[(dI a1.Key),(dI a1.Value)]) rfl eZ rfl rfl nZ (za eC (xQ (aV (zf (m:=0) rfl rfl (zl (q:=0) (c:=(dI a1.Key)) eZ bZ rfl rfl (za rfl (zam rfl eZ (za eZ (xQ (AW.ret ?_)))))))))))
 cases H
 exact eE rfl rfl
theorem ZP{a1:(List zu)}{a2:Int}{r:(Int×Bool)}(H:qu a1 a2=some r):Fn Tryz.prog 389 (lent [(.sl 2 (List.map zj a1)),(.int .i64 a2),(.fn 390 [])]) true [(.int .i64 r.1),(.bool r.2)]:=by
 refine zE1 (fle rfl) ?_
 rw[zx]
 refine AW.weaken (zg [] (kv 0 (.one (.d (.sl 2 (List.map zj a1)))) rfl rfl (kv 1 (oI a2) rfl rfl (SL.cons (v:=(.one (.fn 390 []))) (eS rfl (eS rfl eZ)) rfl (VWk.one (CWk.fn (css:=[]))) SL.nil))) BL.nil BK.nil) ?_
 unfold qu at H
 unfold zze
 refine aV (za eC (za eC (xQ (aV (za rfl (zY eZ (n:=a1.length) lm (za eZ (xQ (aV (za eZ (za eC (za rfl (xQ (zF (fun t3:Int=>(zW a1 a2) t3=some r) (fun t3=>mk [(0,(.one (.d (.sl 2 (List.map zj a1))))),(1,(oI a2)),(2,(.one (.fn 390 []))),(8,(oI (a1.length:Int))),(9,(oI t3))] [] noG) ?_ ?_))))))))))))))
 ·intro t3 H
  unfold zW at H
  refine aV (za rfl (za rfl (za rfl (qi rfl eZ (za eZ ?_)))))
  rcases zC H with⟨h5,H⟩|⟨h5,H⟩
  ·refine gDo eZ (dT h5) (za rfl (gDo rfl (dT h5) (za rfl (gDo rfl (dT h5) (za rfl (gDo rfl (dT h5) ?_))))))
   obtain⟨v6,h7,H⟩:=zk H
   refine qz rfl eZ h7 (gDo rfl (dT h5) (qg (es:=[(dI v6.Key),(dI v6.Value)]) eZ rfl (gDo rfl (dT h5) (za rfl (gDo rfl (dT h5) ?_)))))
   obtain⟨v8,h9,H⟩:=zk H
   refine zD (u:=(oI v8)) rfl Cl.fn (K5 h9) (Ec rfl (Ec eZ En)) (Vc (VD.agg rfl) (Vc Vp Vn)) rfl (gDo rfl (dT h5) (Kn eZ eC (zB rfl (dT h5) eZ (za rfl (za rfl (xQ (AW.weaken (zg [] (kr 7 rfl rfl (kr 6 rfl rfl SL.nil)) BL.nil BK.nil) (AW.ret ?_))))))))
   cases H
   exact qL (RL.cons (RV.tmp rfl) (VO.flat rfl) (RL.cons (RV.tmp eZ) (VO.flat rfl) RL.nil)) List.nodup_nil
  ·refine zb eZ (dF h5) rfl (zb rfl (dF h5) rfl (zb rfl (dF h5) rfl (zb rfl (dF h5) rfl (zb rfl (dF h5) rfl (zb rfl (dF h5) rfl (zb rfl (dF h5) rfl (zb rfl (dF h5) rfl (zJ rfl (dF h5) eC (za rfl (za rfl (xQ (AW.weaken (zg [] (kr 7 rfl rfl (kr 6 rfl rfl SL.nil)) BL.nil BK.nil) (AW.ret ?_)))))))))))))
   cases H
   exact qL (RL.cons (RV.tmp rfl) (VO.flat rfl) (RL.cons (RV.tmp eZ) (VO.flat rfl) RL.nil)) List.nodup_nil
 ·refine AW.block (AW.iter (fun s10:(Int×Int)=>mk [(0,(.one (.d (.sl 2 (List.map zj a1))))),(1,(oI a2)),(2,(.one (.fn 390 []))),(8,(oI (a1.length:Int))),(9,(oI s10.1)),(10,(oI s10.2))] [] noG) H (zg [] (sR rfl rfl) BL.nil BK.nil) ?_)
  intro kb11 s10 H
  unfold z6 at H
  refine aS (aV (za rfl (za rfl (qi rfl eZ (xQ ?_)))))
  rcases zC H with⟨h12,H⟩|⟨h12,H⟩
  ·refine zi eZ (dT h12) (AW.skip (TQ.qn (AW.block (aV (za rfl (za rfl (qk rfl eZ (zmC eZ (zFh eZ eC (by decide) (zmC eZ (za eZ (xQ (AW.weaken (zg [] (kr 11 rfl rfl (kr 0 rfl rfl (kr 1 rfl rfl (kr 2 rfl rfl (kr 8 rfl rfl (kr 9 rfl rfl (kr 10 rfl rfl SL.nil))))))) BL.nil BK.nil) (aV (za rfl (za rfl (za rfl ?_)))))))))))))))))
   obtain⟨v13,h14,H⟩:=zk H
   refine qz rfl eZ h14 (qg (es:=[(dI v13.Key),(dI v13.Value)]) eZ rfl (za rfl ?_))
   obtain⟨v15,h16,H⟩:=zk H
   refine zD (u:=(oI v15)) rfl Cl.fn (K5 h16) (Ec rfl (Ec eZ En)) (Vc (VD.agg rfl) (Vc Vp Vn)) rfl (qi eZ eC (xQ ?_))
   rcases zC H with⟨h17,H⟩|⟨h17,H⟩
   ·exact zi eZ (dT h17) (aR (za rfl (qk eZ eC (za eZ (zm (BQ.qn (TQ.qn ⟨((IntKind.wrap .i64 ((IntKind.wrap .i64 (Int.fdiv (IntKind.wrap .u64 (IntKind.wrap .i64 (s10.1+s10.2))) (2 ^ (min (Int.toNat 1) (IntKind.bits .u64)))))+1)),s10.2),H,(zg [] (sR rfl rfl) BL.nil BK.nil)⟩)))))))
   ·exact zh eZ (dF h17) (aR (za rfl (za eZ (zm (BQ.qn (TQ.qn ⟨(s10.1,(IntKind.wrap .i64 (Int.fdiv (IntKind.wrap .u64 (IntKind.wrap .i64 (s10.1+s10.2))) (2 ^ (min (Int.toNat 1) (IntKind.bits .u64)))))),H,(zg [] (sR rfl rfl) BL.nil BK.nil)⟩))))))
  ·exact zh eZ (dF h12) (AW.exit (TQ.qe (TQ.qe (BQ.qe (TQ.qn ⟨s10.1,H,(zg [] (sR rfl rfl) BL.nil BK.nil)⟩)))))
theorem zeR{a1:(List zu)}{a2:Int}{r:(Int×Bool)}(H:JL a1 a2=some r):Fn Tryz.prog 360 (lent [(.sl 2 (List.map zj a1)),(.int .i64 a2)]) true [(.int .i64 r.1),(.bool r.2)]:=by
 refine zEY (fle rfl) ?_
 rw[zx]
 refine AW.weaken (zg [] (kv 0 (.one (.d (.sl 2 (List.map zj a1)))) rfl rfl (kv 1 (oI a2) rfl rfl SL.nil)) BL.nil BK.nil) ?_
 unfold JL at H
 unfold zyW
 refine aV (za eC (za eC (xQ (aV (za rfl (za rfl ?_))))))
 obtain⟨v3,h4,H⟩:=zk H
 refine zD (u:=(.tup [(oI v3.1),(oB v3.2)])) eC Cl.fn (ZP h4) (Ec rfl (Ec eZ (Ec eC En))) (Vc Vp (Vc Vp (Vc (VD.fn PDs.nil) Vn))) rfl (XR (v:=(oI v3.1)) eZ rfl (XR (v:=(oB v3.2)) rfl rfl (za rfl (za rfl (xQ (AW.ret ?_))))))
 cases H
 exact qL (RL.cons (RV.tmp rfl) (VO.flat rfl) (RL.cons (RV.tmp eZ) (VO.flat rfl) RL.nil)) List.nodup_nil
theorem zfj{a1:(List zu)}{a2:Int}{r:Int}(H:Jv a1 a2=some r):Fn Tryz.prog 359 (lent [(.sl 2 (List.map zj a1)),(.int .i64 a2)]) true [(.int .i64 r)]:=by
 refine zE7 (fle rfl) ?_
 rw[zx]
 refine AW.weaken (zg [] (kv 0 (.one (.d (.sl 2 (List.map zj a1)))) rfl rfl (kv 1 (oI a2) rfl rfl SL.nil)) BL.nil BK.nil) ?_
 unfold Jv at H
 unfold zz7
 refine aV (za eC (xQ (aV (za rfl (za rfl ?_)))))
 obtain⟨v3,h4,H⟩:=zk H
 refine zD (u:=(.tup [(oI v3.1),(oB v3.2)])) eC Cl.fn (zeR h4) (Ec rfl (Ec eZ En)) (Vc Vp (Vc Vp Vn)) rfl (za eZ (XR (v:=(oI v3.1)) eZ rfl (XR (v:=(oB v3.2)) rfl rfl (za rfl (za rfl (xQ (aS (aV (za eZ (qH eZ (xQ ?_)))))))))))
 rcases zC H with⟨h5,H⟩|⟨h5,H⟩
 ·refine zh eZ (cN h5) (AW.skip (TQ.qn (aV (za rfl (za rfl ?_)))))
  obtain⟨v6,h7,H⟩:=zk H
  refine qz rfl eZ h7 (z7 (m:=1) eZ rfl (zZ (e:=(.int .i64 v6.Value)) eZ rfl (za eZ (xQ (AW.weaken (zg [] (kr 4 rfl rfl SL.nil) BL.nil BK.nil) (AW.ret ?_))))))
  cases H
  exact eE rfl rfl
 ·refine zi eZ (cN (nt h5)) (aV (za eC (xQ (AW.ret (TQ.qr ?_)))))
  cases H
  exact eE rfl rfl
theorem zdY{a1:(List zu)}{a2:(List zu)}{r:Int}(H:Q1 a1 a2=some r):Fn Tryz.prog 307 (lent [(.sl 2 (List.map zj a1)),(.sl 2 (List.map zj a2))]) true [(.int .i64 r)]:=by
 refine zEr (fle rfl) ?_
 rw[zx]
 refine AW.weaken (zg [] (kv 0 (.one (.d (.sl 2 (List.map zj a1)))) rfl rfl (kv 1 (.one (.d (.sl 2 (List.map zj a2)))) rfl rfl SL.nil)) BL.nil BK.nil) ?_
 unfold Q1 at H
 unfold zzf
 refine aV (za eC (xQ (aS (zF (fun t3:Bool=>(Qq a2 a1) t3=some r) (fun t3=>mk [(0,(.one (.d (.sl 2 (List.map zj a1))))),(1,(.one (.d (.sl 2 (List.map zj a2))))),(15,(oB t3))] [] noG) ?_ ?_))))
 ·intro t3 H
  unfold Qq at H
  rcases zC H with⟨h5,H⟩|⟨h5,H⟩
  ·refine zi rfl h5 (aV (za eC (xQ (AW.ret (TQ.qr ?_)))))
   cases H
   exact eE rfl rfl
  ·refine zh rfl (nt h5) (AW.skip (TQ.qn (aV (za eC (xQ (zF (fun t6:Int=>YQ t6=some r) (fun t6=>mk [(5,(oI t6))] [] noG) ?_ ?_))))))
   ·intro t6 H
    unfold YQ at H
    refine aV (za eZ (za eZ (xQ (AW.ret ?_))))
    cases H
    exact eE rfl rfl
   ·refine aV (za rfl (zY eZ (n:=a2.length) lm (za eC (xQ (AW.block (AW.iter (fun s8:(Int×Int)=>mk [(0,(.one (.d (.sl 2 (List.map zj a1))))),(5,(oI s8.1)),(16,(.one (.d (.sl 2 (List.map zj a2))))),(17,(oI (a2.length:Int))),(18,(oI s8.2))] [] noG) H (zg [] (sR rfl rfl) BL.nil BK.nil) ?_))))))
    intro kb9 s8 H
    unfold YL at H
    refine aV (qi rfl rfl (xQ (aS ?_)))
    rcases zC H with⟨h10,H⟩|⟨h10,H⟩
    ·refine zi eZ (dT h10) (AW.skip (TQ.qn (aS (AW.block (aV ?_)))))
     obtain⟨v11,h12,H⟩:=zk H
     refine qz rfl rfl h12 (qg (es:=[(dI v11.Key),(dI v11.Value)]) eZ rfl (Zj (n:=448) (m:=2) rfl rfl nZ (zQ (es:=[(dI v11.Key),(dI v11.Value)]) eZ rfl rfl rfl bZ rfl (xQ (zF (fun t13:Bool=>(ZH kb9 s8) t13=some r) (fun t13=>mk [(0,(.one (.d (.sl 2 (List.map zj a1))))),(5,(oI s8.1)),(16,(.one (.d (.sl 2 (List.map zj a2))))),(17,(oI (a2.length:Int))),(18,(oI s8.2)),(31,(oB t13))] [] noG) ?_ ?_)))))
     ·intro t13 H
      unfold ZH at H
      rcases zC H with⟨h15,H⟩|⟨h15,H⟩
      ·exact zi rfl h15 (aR (za rfl (qk eZ eC (za eZ (zm (BQ.qn (TQ.qn (aR (qk rfl eC (za eZ (zm (TQ.qn ⟨((IntKind.wrap .i64 (s8.1+1)),(IntKind.wrap .i64 (s8.2+1))),H,(zg [] (sR rfl rfl) BL.nil BK.nil)⟩))))))))))))
      ·exact zh rfl (nt h15) (AW.skip (BQ.qn (TQ.qn (aR (qk rfl eC (za eZ (zm (TQ.qn ⟨(s8.1,(IntKind.wrap .i64 (s8.2+1))),H,(zg [] (sR rfl rfl) BL.nil BK.nil)⟩))))))))
     ·refine aR (zf (m:=1) eZ rfl (zl (q:=1) (c:=(dI v11.Value)) eZ bZ rfl rfl (ZQ eZ eC (za eZ ?_))))
      rcases zC H with⟨h16,H⟩|⟨h16,H⟩
      ·refine gDo eZ (dT h16) (za rfl (gDo rfl (dT h16) (zf (m:=0) rfl rfl (gDo rfl (dT h16) (zl (q:=0) (c:=(dI v11.Key)) eZ bZ rfl rfl (gDo rfl (dT h16) ?_))))))
       obtain⟨v17,h18,H⟩:=zk H
       exact zD (u:=(oI v17)) eC Cl.fn (zfj h18) (Ec rfl (Ec eZ En)) (Vc Vp (Vc Vp Vn)) rfl (gDo rfl (dT h16) (qi eZ eC (zB rfl (dT h16) eZ (zm (TQ.qn ⟨(decide (v17 < 0)),H,(zg [448] (sR rfl rfl) (blR rfl) BK.nil)⟩)))))
      ·exact zb eZ (dF h16) rfl (zb rfl (dF h16) rfl (zb rfl (dF h16) rfl (zb rfl (dF h16) rfl (zb rfl (dF h16) rfl (zJ rfl (dF h16) eC (zm (TQ.qn ⟨false,H,(zg [448] (sR rfl rfl) (blR rfl) BK.nil)⟩)))))))
    ·exact zh eZ (dF h10) (AW.exit (TQ.qe (TQ.qe (BQ.qe (TQ.qn ⟨s8.1,H,(zg [] (sR rfl rfl) BL.nil BK.nil)⟩)))))
 ·refine aR (za rfl ?_)
  obtain⟨v19,h20,H⟩:=zk H
  refine zD (u:=(oB v19)) eC Cl.fn (za2 h20) (Ec eZ En) (Vc Vp Vn) rfl (qH eZ (za eZ ?_))
  rcases zC H with⟨h21,H⟩|⟨h21,H⟩
  ·refine gDo eZ (cN h21) (za rfl (gDo rfl (cN h21) ?_))
   obtain⟨v22,h23,H⟩:=zk H
   exact zD (u:=(oB v22)) eC Cl.fn (zao h23) (Ec eZ En) (Vc Vp Vn) rfl (gDo rfl (cN h21) (qH eZ (zJ rfl (cN h21) eZ (zm (TQ.qn ⟨(!v22),H,(zg [] (sR rfl rfl) BL.nil BK.nil)⟩)))))
  ·exact zb eZ (cN (nt h21)) rfl (zb rfl (cN (nt h21)) rfl (zb rfl (cN (nt h21)) rfl (zB rfl (cN (nt h21)) eC (zm (TQ.qn ⟨true,H,(zg [] (sR rfl rfl) BL.nil BK.nil)⟩)))))
theorem zhy{a1:zn}{r:Int}(H:Xv a1=some r):Fn Tryz.prog 239 (lent [(.agg (zS a1))]) true [(.int .i64 r)]:=by
 refine zFw (fle rfl) ?_
 rw[zx]
 refine AW.weaken (t:=mk [(0,(.agg (zE a1)))] [] (lk [])) (zg [] (sR rfl rfl) BL.nil BK.nil) ?_
 unfold Xv at H
 unfold zxO
 refine aV (ji (n:=64) (m:=9) (cs:=(zE a1)) rfl eZ rfl rfl nZ (za eC (xQ (aV (zf (m:=3) rfl rfl (zl (q:=3) (c:=(.d (.sl 2 (List.map zj a1.Cells)))) eZ bZ rfl rfl (zY eZ (n:=a1.Cells.length) lm (za eZ (xQ (zF (fun t2:Int=>XQ t2=some r) (fun t2=>mk [(3,(oI t2))] [] (lk [])) ?_ ?_))))))))))
 ·intro t2 H
  unfold XQ at H
  refine aV (za eZ (za eZ (xQ (AW.ret ?_))))
  cases H
  exact eE rfl rfl
 ·refine aV (zf (m:=5) rfl rfl (zl (q:=5) (c:=(.d (.sl 2 (List.map zA a1.Helds)))) eZ bZ rfl rfl (zY eZ (n:=a1.Helds.length) lm (za eC (xQ (AW.block (AW.iter (fun s4:(Int×Int)=>mk [(1,(.one (.ptr (.nm 64 0 0)))),(3,(oI s4.1)),(10,(.one (.d (.sl 2 (List.map zA a1.Helds))))),(11,(oI (a1.Helds.length:Int))),(12,(oI s4.2))] [(64,(.vars 9 (zE a1)))] (lk [])) H (zN [] (sR rfl rfl) (blR rfl) (bkR rfl rfl rfl) GK.nil) ?_)))))))
  intro kb5 s4 H
  unfold XU at H
  refine aV (qi rfl rfl (xQ (aS ?_)))
  rcases zC H with⟨h6,H⟩|⟨h6,H⟩
  ·refine zi eZ (dT h6) (AW.skip (TQ.qn (aS (AW.block (aS (zX (zw ?_)))))))
   obtain⟨v7,h8,H⟩:=zk H
   refine qz rfl rfl h8 (zm (zw (qg (es:=(jG v7)) eZ rfl (zm (zw (Zj (n:=320) (m:=2) rfl rfl (nR rfl) (zm (zw (zQ (es:=(jG v7)) eZ rfl rfl rfl bZ rfl (zm (qc (xQ (aR (za rfl (zf (m:=3) rfl rfl (zl (q:=3) (c:=(.d (.sl 2 (List.map zj a1.Cells)))) eZ (bR rfl) rfl rfl (zf (m:=1) rfl rfl (zl (q:=1) (c:=(.d (.sl 2 (List.map zj v7.Writes)))) eZ bZ rfl rfl ?_))))))))))))))))))
   obtain⟨v9,h10,H⟩:=zk H
   exact zD (u:=(oI v9)) eC Cl.fn (zdY h10) (Ec rfl (Ec eZ En)) (Vc Vp (Vc Vp Vn)) rfl (qk rfl eZ (za eZ (zm (BQ.qn (TQ.qn (AW.weaken (zN [320] (kr 3 rfl rfl (kr 1 rfl rfl (kr 10 rfl rfl (kr 11 rfl rfl (kr 12 rfl rfl SL.nil))))) (blR rfl) (BK.cons (n:=64) rfl (bR rfl) rfl rfl BK.nil) GK.nil) (aR (qk rfl eC (za eZ (zm (TQ.qn ⟨((IntKind.wrap .i64 (s4.1+v9)),(IntKind.wrap .i64 (s4.2+1))),H,(zN [] (sR rfl rfl) (blR rfl) (bkR rfl rfl rfl) GK.nil)⟩)))))))))))
  ·exact zh eZ (dF h6) (AW.exit (TQ.qe (TQ.qe (BQ.qe (TQ.qn ⟨s4.1,H,(zN [64] (sR rfl rfl) (blR rfl) BK.nil GK.nil)⟩)))))
theorem zek{a1:zn}{r:Bool}(H:Z1 a1=some r):Fn Tryz.prog 122 (lent [(.agg (zS a1))]) true [(.bool r)]:=by
 refine zFN (fle rfl) ?_
 rw[zx]
 refine AW.weaken (t:=mk [(0,(.agg (zE a1)))] [] (lk [])) (zg [] (sR rfl rfl) BL.nil BK.nil) ?_
 unfold Z1 at H
 unfold zDM
 refine aV (ji (n:=64) (m:=9) (cs:=(zE a1)) rfl eZ rfl rfl nZ (za eC (xQ (aS (zF (fun t2:Bool=>(qD a1) t2=some r) (fun t2=>mk [(1,(.one (.ptr (.nm 64 0 0)))),(55,(oB t2))] [(64,(.vars 9 (zE a1)))] (lk [])) ?_ ?_)))))
 ·intro t2 H
  unfold qD at H
  rcases zC H with⟨h4,H⟩|⟨h4,H⟩
  ·refine zi rfl h4 (aV (za eC (xQ (AW.ret (TQ.qr ?_)))))
   cases H
   exact eE rfl rfl
  ·refine zh rfl (nt h4) (AW.skip (TQ.qn (aS (zF (fun t5:Bool=>(yN a1) t5=some r) (fun t5=>mk [(1,(.one (.ptr (.nm 64 0 0)))),(65,(oB t5))] [(64,(.vars 9 (zE a1)))] (lk [])) ?_ ?_))))
   ·intro t5 H
    unfold yN at H
    rcases zC H with⟨h7,H⟩|⟨h7,H⟩
    ·refine zi rfl h7 (aV (za eC (xQ (AW.ret (TQ.qr ?_)))))
     cases H
     exact eE rfl rfl
    ·refine zh rfl (nt h7) (AW.skip (TQ.qn (aS (zX (zw (zf (m:=6) eZ rfl (zm (zw (zl (q:=6) (c:=(.d (.sl 1 (List.map zt a1.Wounded)))) eZ bZ rfl rfl (zm (zw (zf (m:=7) rfl rfl (zm (zw (zl (q:=7) (c:=(.d (.sl 1 (List.map zt a1.Ended)))) eZ bZ rfl rfl (zm (zw (zbm (m:=4480) (q:=2) (cs:=[(.d (.sl 1 (List.map zt a1.Wounded))),(.d (.sl 1 (List.map zt a1.Ended)))]) rfl (jL rfl (jL eZ kj)) rfl (List.cons_ne_nil _ _) (by simp) (nR rfl) (zm (zw ?_))))))))))))))))))))
     obtain⟨v8,h9,H⟩:=zk H
     refine zD (u:=(.one (.d (.sl 1 (List.map zt v8))))) eC Cl.fn (zbB h9) (Ec eZ En) (Vc (VD.vars [(.sl 1 (List.map zt a1.Wounded)),(.sl 1 (List.map zt a1.Ended))] bZ rfl rfl) Vn) rfl (zm (zw (Zj (n:=192) (m:=1) rfl rfl (nR rfl) (zm (zw (zQ (es:=[(.d (.sl 1 (List.map zt v8)))]) eZ rfl rfl rfl bZ rfl (zm (qc (xQ (aS (aV (zf (m:=4) rfl rfl (zl (q:=4) (c:=(.d (.sl 4 (List.map zp a1.Locks)))) eZ (bR rfl) rfl rfl (zcP (ps:=[(.nm 64 0 0),(.nm 192 0 0)]) (Ec rfl (Ec rfl En)) ?_))))))))))))))
     obtain⟨v10,h11,H⟩:=zk H
     refine zD (u:=(oB v10)) eC Cl.fn (Yj h11) (Ec rfl (Ec eZ En)) (Vc Vp (Vc (VD.fn (PDs.cons (QP (bR rfl) (CDs.plain (CDs.plain (CDs.plain (CDs.plain (CDs.plain (CDs.plain (CDs.plain (CDs.plain (CDs.plain CDs.nil)))))))))) (PDs.cons (QP bZ (CDs.plain CDs.nil)) PDs.nil))) Vn)) rfl (xQ ?_)
     rcases zC H with⟨h12,H⟩|⟨h12,H⟩
     ·refine zi eZ h12 (aV (za eC (xQ (AW.ret (TQ.qr ?_)))))
      cases H
      exact eE rfl rfl
     ·refine zh eZ (nt h12) (AW.skip (TQ.qn (aS (AW.regd (zf (m:=5) rfl rfl (zl (q:=5) (c:=(.d (.sl 2 (List.map zA a1.Helds)))) eZ (bR rfl) rfl rfl ?_))))))
      obtain⟨v13,h14,H⟩:=zk H
      refine jP (u:=(.one (.sl 4992 0 v13.length))) (bs:=[(4992,(.data 1 (List.map zt v13) true none))]) eC Cl.fn (zcz h14) (Ec eZ En) (Vc Vp Vn) (by simp[js,jX,qG,jw,qI]) rfl (fC (nR rfl) rfl (fC (nR rfl) rfl fN)) (zl (q:=0) (c:=(.d (.sl 1 (List.map zt v8)))) rfl (hB rfl (bR rfl)) rfl rfl ?_)
      obtain⟨h15,H⟩:=qb H
      refine zit (f:=zt) (xs:=v13) (ys:=v8) (q:=(v13++v8).length) rfl eZ bZ rfl (El.lent fun _ _=>rfl) rfl h15 (by decide) (by decide) (erL.cons (v':=(.one (.d (.sl 1 (List.map zt v8))))) rfl (erL.cons (v':=(.one .any)) rfl (erL.cons (v':=(.one (.d (.sl 2 (List.map zA a1.Helds))))) rfl (erL.cons (v':=(.one (.ptr (.nm 64 0 5)))) rfl (erL.cons (v':=(oB v10)) rfl (erL.cons (v':=(.one (.fn 236 [(.nm 64 0 0),(.nm 192 0 0)]))) rfl (erL.cons (v':=(.one (.d (.sl 4 (List.map zp a1.Locks))))) rfl (erL.cons (v':=(.one (.ptr (.nm 64 0 4)))) rfl (erL.cons (v':=(.one (.ptr (.nm 192 0 0)))) rfl (erL.cons (v':=(.one (.d (.sl 1 (List.map zt v8))))) rfl (erL.cons (v':=(.one (.sl 4480 0 2))) rfl (erL.cons (v':=(.one (.d (.sl 1 (List.map zt a1.Ended))))) rfl (erL.cons (v':=(.one (.ptr (.nm 64 0 7)))) rfl (erL.cons (v':=(.one (.d (.sl 1 (List.map zt a1.Wounded))))) rfl (erL.cons (v':=(.one (.ptr (.nm 64 0 6)))) rfl (erL.cons (v':=(.one (.ptr (.nm 64 0 0)))) rfl (erL.cons (v':=(oB t5)) rfl erL.nil))))))))))))))))) (erH.drop rfl (erH.cons (v':=(.vars 1 [(.d (.sl 1 (List.map zt v8)))])) rfl rfl (erH.cons (v':=(.vars 1 [.zs])) rfl rfl (erH.cons (v':=(.vars 1 [(.d (.sl 1 (List.map zt a1.Wounded))),(.d (.sl 1 (List.map zt a1.Ended)))])) rfl rfl (erH.cons (v':=(.vars 9 (zE a1))) rfl rfl erH.nil))))) GK.nil (za eZ (xQ (AW.weaken (zN [192,4480] (kr 4 rfl rfl (kr 1 rfl rfl SL.nil)) (blR rfl) (BK.cons (n:=4992) rfl bZ rfl rfl (BK.cons (n:=64) rfl (bR rfl) rfl rfl BK.nil)) GK.nil) (aS (zX (zw (za eZ (zm ?_))))))))
      obtain⟨v16,h17,H⟩:=zk H
      obtain⟨h18,H⟩:=qb H
      refine kH (ON:=[4992]) (ls:=[]) (G:=[]) (E:=[qh 4992]) (MB:=[(4992,(.data 1 (List.map zt v16) true none))]) (u:=(.tup [])) eC Cl.fn (zcO h17) (Ec eZ En) (AO.mut (VO.sl bZ lm (zy fun _=>rfl)) AO.nil) rfl rfl rfl (SZ.cons bZ SZ.nil) (erL.cons (v':=(.one (.sl 4992 0 ((v13++v8).length)))) rfl (erL.cons (v':=(.one (.sl 4992 0 ((v13++v8).length)))) rfl (erL.cons (v':=(.one (.ptr (.nm 64 0 0)))) rfl erL.nil))) (erH.cons (v':=(.data 1 (List.map zt (v13++v8)) true none)) rfl rfl (erH.cons (v':=(.vars 9 (zE a1))) rfl rfl erH.nil)) erL.nil rfl rfl (qc (xQ (aS (zX (zw (za rfl (zm (zw ?_))))))))
      obtain⟨v19,h20,H⟩:=zk H
      refine jP (u:=(.one (.sl 5376 0 v19.length))) (bs:=[(5376,(.data 1 (List.map zt v19) true none))]) eC Cl.fn (xL h20) (Ec eZ En) (Vc (VD.sl bZ (by first|(simp;done)|(simp;omega)|omega|(simp only[List.length_map];omega))) Vn) (by simp[js,jX,qG,jw,qI]) rfl (fC (nR rfl) rfl (fC (nR rfl) rfl fN)) (zm ?_)
      obtain⟨v21,h22,H⟩:=zk H
      refine kH (ON:=[5376]) (ls:=[]) (G:=[5376]) (E:=[5376]) (MB:=[]) (u:=(.one (.d (.sl 1 (List.map zt v21))))) eC Cl.fn (zaQ h22) (Ec eZ En) (AO.give (VO.sl bZ lm (zy fun _=>rfl)) AO.nil) rfl rfl rfl SZ.nil (erL.cons (v':=(.one .any)) rfl (erL.cons (v':=(.one (.sl 4992 0 ((v13++v8).length)))) rfl (erL.cons (v':=(.tup [])) rfl (erL.cons (v':=(.one (.sl 4992 0 ((v13++v8).length)))) rfl (erL.cons (v':=(.one (.sl 4992 0 ((v13++v8).length)))) rfl (erL.cons (v':=(.one (.ptr (.nm 64 0 0)))) rfl erL.nil)))))) (erH.drop rfl (erH.cons (v':=(.data 1 (List.map zt v16) true none)) rfl rfl (erH.cons (v':=(.data 1 (List.map zt (v13++v8)) true none)) rfl rfl (erH.cons (v':=(.vars 9 (zE a1))) rfl rfl erH.nil)))) erL.nil rfl rfl (qc (zY eZ (n:=v21.length) lm (za rfl (zbJ eZ (Kn rfl eZ (za eZ ?_))))))
      rcases zC H with⟨h23,H⟩|⟨h23,H⟩
      ·refine gDo eZ (dT h23) (zP (es:=(zE a1)) rfl (bR rfl) rfl (gDo rfl (dT h23) ?_))
       obtain⟨v24,h25,H⟩:=zk H
       refine zD (u:=(oI v24)) eC Cl.fn (zhy h25) (Ec eZ En) (Vc (VD.agg rfl) Vn) rfl (gDo rfl (dT h23) (zaA eZ eC (zB rfl (dT h23) eZ (za eZ (xQ (AW.weaken (zN [4992,64] (kr 2 rfl rfl SL.nil) (blR rfl) BK.nil GK.nil) (AW.ret ?_)))))))
       cases H
       exact eE rfl rfl
      ·refine zb eZ (dF h23) rfl (zb rfl (dF h23) rfl (zb rfl (dF h23) rfl (zJ rfl (dF h23) eC (za eZ (xQ (AW.weaken (zN [4992,64] (kr 2 rfl rfl SL.nil) (blR rfl) BK.nil GK.nil) (AW.ret ?_)))))))
       cases H
       exact eE rfl rfl
   ·refine aR (zf (m:=2) eZ rfl (zl (q:=2) (c:=(.d (.sl 2 (List.map zd a1.Frozen)))) eZ bZ rfl rfl (zcP (ps:=[(.nm 64 0 0)]) (Ec rfl En) ?_)))
    obtain⟨v26,h27,H⟩:=zk H
    refine zD (u:=(oB v26)) eC Cl.fn (JN h27) (Ec rfl (Ec eZ En)) (Vc Vp (Vc (VD.fn (PDs.cons (QP bZ (CDs.plain (CDs.plain (CDs.plain (CDs.plain (CDs.plain (CDs.plain (CDs.plain (CDs.plain (CDs.plain CDs.nil)))))))))) PDs.nil)) Vn)) rfl (za eZ ?_)
    rcases zC H with⟨h28,H⟩|⟨h28,H⟩
    ·exact zb eZ h28 rfl (zb rfl h28 rfl (zb rfl h28 rfl (zb rfl h28 rfl (zB rfl h28 eC (zm (TQ.qn ⟨true,H,(zN [] (sR rfl rfl) (blR rfl) (bkR rfl rfl rfl) GK.nil)⟩))))))
    ·refine gDo eZ (nt h28) (zf (m:=3) rfl rfl (gDo rfl (nt h28) (zl (q:=3) (c:=(.d (.sl 2 (List.map zj a1.Cells)))) eZ bZ rfl rfl (gDo rfl (nt h28) (zcP (ps:=[(.nm 64 0 0)]) (Ec rfl En) (gDo rfl (nt h28) ?_))))))
     obtain⟨v29,h30,H⟩:=zk H
     exact zD (u:=(oB v29)) eC Cl.fn (Yh h30) (Ec rfl (Ec eZ En)) (Vc Vp (Vc (VD.fn (PDs.cons (QP bZ (CDs.plain (CDs.plain (CDs.plain (CDs.plain (CDs.plain (CDs.plain (CDs.plain (CDs.plain (CDs.plain CDs.nil)))))))))) PDs.nil)) Vn)) rfl (zJ rfl (nt h28) eZ (zm (TQ.qn ⟨v29,H,(zN [] (sR rfl rfl) (blR rfl) (bkR rfl rfl rfl) GK.nil)⟩)))
 ·refine aR (zf (m:=0) rfl rfl (zl (q:=0) (c:=(dI a1.Me)) eZ bZ rfl rfl ?_))
  obtain⟨v31,h32,H⟩:=zk H
  refine zD (u:=(oB v31)) eC Cl.fn (zem h32) (Ec eZ En) (Vc Vp Vn) rfl (qH eZ (za eZ ?_))
  rcases zC H with⟨h33,H⟩|⟨h33,H⟩
  ·refine gDo eZ (cN h33) (zf (m:=1) rfl rfl (gDo rfl (cN h33) (zl (q:=1) (c:=(.d (.sl 2 (List.map zd a1.Own)))) eZ bZ rfl rfl (gDo rfl (cN h33) ?_))))
   obtain⟨v34,h35,H⟩:=zk H
   refine zD (u:=(oB v34)) eC Cl.fn (XI h35) (Ec eZ En) (Vc Vp Vn) rfl (gDo rfl (cN h33) (qH eZ (zJ rfl (cN h33) eZ (za eZ ?_))))
   rcases zC H with⟨h36,H⟩|⟨h36,H⟩
   ·refine gDo eZ (cN h36) (zf (m:=2) rfl rfl (gDo rfl (cN h36) (zl (q:=2) (c:=(.d (.sl 2 (List.map zd a1.Frozen)))) eZ bZ rfl rfl (gDo rfl (cN h36) ?_))))
    obtain⟨v37,h38,H⟩:=zk H
    refine zD (u:=(oB v37)) eC Cl.fn (XI h38) (Ec eZ En) (Vc Vp Vn) rfl (gDo rfl (cN h36) (qH eZ (zJ rfl (cN h36) eZ (za eZ ?_))))
    rcases zC H with⟨h39,H⟩|⟨h39,H⟩
    ·refine gDo eZ (cN h39) (zf (m:=3) rfl rfl (gDo rfl (cN h39) (zl (q:=3) (c:=(.d (.sl 2 (List.map zj a1.Cells)))) eZ bZ rfl rfl (gDo rfl (cN h39) ?_))))
     obtain⟨v40,h41,H⟩:=zk H
     refine zD (u:=(oB v40)) eC Cl.fn (za2 h41) (Ec eZ En) (Vc Vp Vn) rfl (gDo rfl (cN h39) (qH eZ (zJ rfl (cN h39) eZ (za eZ ?_))))
     rcases zC H with⟨h42,H⟩|⟨h42,H⟩
     ·refine gDo eZ (cN h42) (zf (m:=4) rfl rfl (gDo rfl (cN h42) (zl (q:=4) (c:=(.d (.sl 4 (List.map zp a1.Locks)))) eZ bZ rfl rfl (gDo rfl (cN h42) ?_))))
      obtain⟨v43,h44,H⟩:=zk H
      refine zD (u:=(oB v43)) eC Cl.fn (zaI h44) (Ec eZ En) (Vc Vp Vn) rfl (gDo rfl (cN h42) (qH eZ (zJ rfl (cN h42) eZ (za eZ ?_))))
      rcases zC H with⟨h45,H⟩|⟨h45,H⟩
      ·refine gDo eZ (cN h45) (zP (es:=(zE a1)) rfl bZ rfl (gDo rfl (cN h45) ?_))
       obtain⟨v46,h47,H⟩:=zk H
       refine zD (u:=(oB v46)) eC Cl.fn (zff h47) (Ec eZ En) (Vc (VD.agg rfl) Vn) rfl (gDo rfl (cN h45) (qH eZ (zJ rfl (cN h45) eZ (za eZ ?_))))
       rcases zC H with⟨h48,H⟩|⟨h48,H⟩
       ·refine gDo eZ (cN h48) (zf (m:=6) rfl rfl (gDo rfl (cN h48) (zl (q:=6) (c:=(.d (.sl 1 (List.map zt a1.Wounded)))) eZ bZ rfl rfl (gDo rfl (cN h48) ?_))))
        obtain⟨v49,h50,H⟩:=zk H
        refine zD (u:=(oB v49)) eC Cl.fn (Xd h50) (Ec eZ En) (Vc Vp Vn) rfl (gDo rfl (cN h48) (qH eZ (zJ rfl (cN h48) eZ (za eZ ?_))))
        rcases zC H with⟨h51,H⟩|⟨h51,H⟩
        ·refine gDo eZ (cN h51) (zf (m:=7) rfl rfl (gDo rfl (cN h51) (zl (q:=7) (c:=(.d (.sl 1 (List.map zt a1.Ended)))) eZ bZ rfl rfl (gDo rfl (cN h51) ?_))))
         obtain⟨v52,h53,H⟩:=zk H
         refine zD (u:=(oB v52)) eC Cl.fn (Xd h53) (Ec eZ En) (Vc Vp Vn) rfl (gDo rfl (cN h51) (qH eZ (zJ rfl (cN h51) eZ (za eZ ?_))))
         rcases zC H with⟨h54,H⟩|⟨h54,H⟩
         ·refine gDo eZ (cN h54) (zf (m:=8) rfl rfl (gDo rfl (cN h54) (zl (q:=8) (c:=(dI a1.Rank)) eZ bZ rfl rfl (gDo rfl (cN h54) ?_))))
          obtain⟨v55,h56,H⟩:=zk H
          exact zD (u:=(oB v55)) eC Cl.fn (Qt h56) (Ec eZ (Ec eC (Ec eC En))) (Vc Vp (Vc Vp (Vc Vp Vn))) rfl (gDo rfl (cN h54) (qH eZ (zJ rfl (cN h54) eZ (zm (TQ.qn ⟨(!v55),H,(zN [] (sR rfl rfl) (blR rfl) (bkR rfl rfl rfl) GK.nil)⟩)))))
         ·exact zb eZ (cN (nt h54)) rfl (zb rfl (cN (nt h54)) rfl (zb rfl (cN (nt h54)) rfl (zb rfl (cN (nt h54)) rfl (zB rfl (cN (nt h54)) eC (zm (TQ.qn ⟨true,H,(zN [] (sR rfl rfl) (blR rfl) (bkR rfl rfl rfl) GK.nil)⟩))))))
        ·exact zb eZ (cN (nt h51)) rfl (zb rfl (cN (nt h51)) rfl (zb rfl (cN (nt h51)) rfl (zb rfl (cN (nt h51)) rfl (zB rfl (cN (nt h51)) eC (za eZ (zb eZ rfl rfl (zb rfl rfl rfl (zb rfl rfl rfl (zb rfl rfl rfl (zB rfl rfl eC (zm (TQ.qn ⟨true,H,(zN [] (sR rfl rfl) (blR rfl) (bkR rfl rfl rfl) GK.nil)⟩))))))))))))
       ·exact zb eZ (cN (nt h48)) rfl (zb rfl (cN (nt h48)) rfl (zb rfl (cN (nt h48)) rfl (zb rfl (cN (nt h48)) rfl (zB rfl (cN (nt h48)) eC (za eZ (zb eZ rfl rfl (zb rfl rfl rfl (zb rfl rfl rfl (zb rfl rfl rfl (zB rfl rfl eC (za eZ (zb eZ rfl rfl (zb rfl rfl rfl (zb rfl rfl rfl (zb rfl rfl rfl (zB rfl rfl eC (zm (TQ.qn ⟨true,H,(zN [] (sR rfl rfl) (blR rfl) (bkR rfl rfl rfl) GK.nil)⟩))))))))))))))))))
      ·exact zb eZ (cN (nt h45)) rfl (zb rfl (cN (nt h45)) rfl (zb rfl (cN (nt h45)) rfl (zB rfl (cN (nt h45)) eC (za eZ (zb eZ rfl rfl (zb rfl rfl rfl (zb rfl rfl rfl (zb rfl rfl rfl (zB rfl rfl eC (za eZ (zb eZ rfl rfl (zb rfl rfl rfl (zb rfl rfl rfl (zb rfl rfl rfl (zB rfl rfl eC (za eZ (zb eZ rfl rfl (zb rfl rfl rfl (zb rfl rfl rfl (zb rfl rfl rfl (zB rfl rfl eC (zm (TQ.qn ⟨true,H,(zN [] (sR rfl rfl) (blR rfl) (bkR rfl rfl rfl) GK.nil)⟩)))))))))))))))))))))))
     ·exact zb eZ (cN (nt h42)) rfl (zb rfl (cN (nt h42)) rfl (zb rfl (cN (nt h42)) rfl (zb rfl (cN (nt h42)) rfl (zB rfl (cN (nt h42)) eC (za eZ (zb eZ rfl rfl (zb rfl rfl rfl (zb rfl rfl rfl (zB rfl rfl eC (za eZ (zb eZ rfl rfl (zb rfl rfl rfl (zb rfl rfl rfl (zb rfl rfl rfl (zB rfl rfl eC (za eZ (zb eZ rfl rfl (zb rfl rfl rfl (zb rfl rfl rfl (zb rfl rfl rfl (zB rfl rfl eC (za eZ (zb eZ rfl rfl (zb rfl rfl rfl (zb rfl rfl rfl (zb rfl rfl rfl (zB rfl rfl eC (zm (TQ.qn ⟨true,H,(zN [] (sR rfl rfl) (blR rfl) (bkR rfl rfl rfl) GK.nil)⟩)))))))))))))))))))))))))))))
    ·exact zb eZ (cN (nt h39)) rfl (zb rfl (cN (nt h39)) rfl (zb rfl (cN (nt h39)) rfl (zb rfl (cN (nt h39)) rfl (zB rfl (cN (nt h39)) eC (za eZ (zb eZ rfl rfl (zb rfl rfl rfl (zb rfl rfl rfl (zb rfl rfl rfl (zB rfl rfl eC (za eZ (zb eZ rfl rfl (zb rfl rfl rfl (zb rfl rfl rfl (zB rfl rfl eC (za eZ (zb eZ rfl rfl (zb rfl rfl rfl (zb rfl rfl rfl (zb rfl rfl rfl (zB rfl rfl eC (za eZ (zb eZ rfl rfl (zb rfl rfl rfl (zb rfl rfl rfl (zb rfl rfl rfl (zB rfl rfl eC (za eZ (zb eZ rfl rfl (zb rfl rfl rfl (zb rfl rfl rfl (zb rfl rfl rfl (zB rfl rfl eC (zm (TQ.qn ⟨true,H,(zN [] (sR rfl rfl) (blR rfl) (bkR rfl rfl rfl) GK.nil)⟩)))))))))))))))))))))))))))))))))))
   ·refine zb eZ (cN (nt h36)) rfl (zb rfl (cN (nt h36)) rfl (zb rfl (cN (nt h36)) rfl (zb rfl (cN (nt h36)) rfl (zB rfl (cN (nt h36)) eC (za eZ (zb eZ rfl rfl (zb rfl rfl rfl (zb rfl rfl rfl (zb rfl rfl rfl (zB rfl rfl eC (za eZ (zb eZ rfl rfl (zb rfl rfl rfl (zb rfl rfl rfl (zb rfl rfl rfl (zB rfl rfl eC (za eZ (zb eZ rfl rfl (zb rfl rfl rfl (zb rfl rfl rfl (zB rfl rfl eC (za eZ (zb eZ rfl rfl (zb rfl rfl rfl (zb rfl rfl rfl (zb rfl rfl rfl (zB rfl rfl eC (za eZ (zb eZ rfl rfl (zb rfl rfl rfl (zb rfl rfl rfl (zb rfl rfl rfl (zB rfl rfl eC (za eZ (zb eZ rfl rfl (zb rfl rfl rfl (zb rfl rfl rfl (zb rfl rfl rfl (zB rfl rfl eC ?_)))))))))))))))))))))))))))))))))))))))
    exact zm (TQ.qn ⟨true,H,(zN [] (sR rfl rfl) (blR rfl) (bkR rfl rfl rfl) GK.nil)⟩)
  ·refine zb eZ (cN (nt h33)) rfl (zb rfl (cN (nt h33)) rfl (zb rfl (cN (nt h33)) rfl (zb rfl (cN (nt h33)) rfl (zB rfl (cN (nt h33)) eC (za eZ (zb eZ rfl rfl (zb rfl rfl rfl (zb rfl rfl rfl (zb rfl rfl rfl (zB rfl rfl eC (za eZ (zb eZ rfl rfl (zb rfl rfl rfl (zb rfl rfl rfl (zb rfl rfl rfl (zB rfl rfl eC (za eZ (zb eZ rfl rfl (zb rfl rfl rfl (zb rfl rfl rfl (zb rfl rfl rfl (zB rfl rfl eC (za eZ (zb eZ rfl rfl (zb rfl rfl rfl (zb rfl rfl rfl (zB rfl rfl eC (za eZ (zb eZ rfl rfl (zb rfl rfl rfl (zb rfl rfl rfl (zb rfl rfl rfl (zB rfl rfl eC (za eZ (zb eZ rfl rfl (zb rfl rfl rfl (zb rfl rfl rfl (zb rfl rfl rfl (zB rfl rfl eC ?_)))))))))))))))))))))))))))))))))))))))
   exact za eZ (zb eZ rfl rfl (zb rfl rfl rfl (zb rfl rfl rfl (zb rfl rfl rfl (zB rfl rfl eC (zm (TQ.qn ⟨true,H,(zN [] (sR rfl rfl) (blR rfl) (bkR rfl rfl rfl) GK.nil)⟩)))))))
theorem zeg{a1:zn}{a2:Int}{a3:ze}{r:Int}(H:JI a1 a2 a3=some r):Fn Tryz.prog 89 (lent [(.agg (zS a1)),(.int .i64 a2),(.agg (zd a3))]) true [(.int .i64 r)]:=by
 refine f89 (fle rfl) ?_
 rw[zx]
 refine AW.weaken (zg [] (kv 0 (.agg (zE a1)) rfl rfl (kv 1 (oI a2) rfl rfl (kv 2 (.agg [(dI a3.Lo),(dI a3.Hi)]) rfl rfl SL.nil))) BL.nil BK.nil) ?_
 unfold JI at H
 unfold i89
 refine aV (ji (n:=192) (m:=9) (cs:=(zE a1)) rfl eZ rfl rfl nZ (ji (n:=320) (m:=2) (cs:=[(dI a3.Lo),(dI a3.Hi)]) rfl rfl rfl rfl (nR rfl) (za eC (xQ (aS (AW.block (zF (fun t4:Bool=>(Zy a2 a1) t4=some r) (fun t4=>mk [(1,(oI a2)),(3,(.one (.ptr (.nm 192 0 0)))),(7,(oB t4))] [(192,(.vars 9 (zE a1)))] noG) ?_ ?_)))))))
 ·intro t4 H
  unfold Zy at H
  rcases zC H with⟨h6,H⟩|⟨h6,H⟩
  ·refine zi rfl h6 (aV (za eC (xQ (AW.ret (BQ.qr (TQ.qr ?_))))))
   cases H
   exact eE rfl rfl
  ·refine zh rfl (nt h6) (aV (za eZ (zf (m:=8) rfl rfl (zl (q:=8) (c:=(dI a1.Rank)) eZ bZ rfl rfl (qi rfl eZ (za eZ (xQ ?_)))))))
   rcases zC H with⟨h7,H⟩|⟨h7,H⟩
   ·refine zi eZ (dT h7) (aV (za eC (xQ (AW.ret (BQ.qr (TQ.qr ?_))))))
    cases H
    exact eE rfl rfl
   ·refine zh eZ (dF h7) (AW.skip (BQ.qn (TQ.qn (aV (za eC (xQ (AW.ret ?_)))))))
    cases H
    exact eE rfl rfl
 ·refine aR (zP (es:=(zE a1)) rfl (bR rfl) rfl ?_)
  obtain⟨v8,h9,H⟩:=zk H
  refine zD (u:=(oB v8)) eC Cl.fn (zek h9) (Ec eZ En) (Vc (VD.agg rfl) Vn) rfl (qH eZ (za eZ ?_))
  rcases zC H with⟨h10,H⟩|⟨h10,H⟩
  ·refine gDo eZ (cN h10) (za rfl (gDo rfl (cN h10) ?_))
   obtain⟨v11,h12,H⟩:=zk H
   refine zD (u:=(oB v11)) eC Cl.fn (Qt h12) (Ec eZ (Ec eC (Ec eC En))) (Vc Vp (Vc Vp (Vc Vp Vn))) rfl (gDo rfl (cN h10) (qH eZ (zJ rfl (cN h10) eZ (za eZ ?_))))
   rcases zC H with⟨h13,H⟩|⟨h13,H⟩
   ·refine gDo eZ (cN h13) (zP (es:=[(dI a3.Lo),(dI a3.Hi)]) rfl bZ rfl (gDo rfl (cN h13) ?_))
    obtain⟨v14,h15,H⟩:=zk H
    exact zD (u:=(oB v14)) eC Cl.fn (JY h15) (Ec eZ En) (Vc (VD.agg rfl) Vn) rfl (gDo rfl (cN h13) (qH eZ (zJ rfl (cN h13) eZ (za eZ (zm (TQ.qn ⟨(!v14),H,(zg [320] (sR rfl rfl) (blR rfl) (bkR rfl rfl rfl))⟩))))))
   ·exact zb eZ (cN (nt h13)) rfl (zb rfl (cN (nt h13)) rfl (zb rfl (cN (nt h13)) rfl (zB rfl (cN (nt h13)) eC (za eZ (zm (TQ.qn ⟨true,H,(zg [320] (sR rfl rfl) (blR rfl) (bkR rfl rfl rfl))⟩))))))
  ·exact zb eZ (cN (nt h10)) rfl (zb rfl (cN (nt h10)) rfl (zb rfl (cN (nt h10)) rfl (zB rfl (cN (nt h10)) eC (za eZ (zb eZ rfl rfl (zb rfl rfl rfl (zb rfl rfl rfl (zB rfl rfl eC (za eZ (zm (TQ.qn ⟨true,H,(zg [320] (sR rfl rfl) (blR rfl) (bkR rfl rfl rfl))⟩)))))))))))
theorem Xx{a1:(List ze)}{r:(List ze)}(H:j6 a1=some r):Fn Tryz.prog 203 (lent [(.sl 2 (List.map zd a1))]) true [(.sl 2 (List.map zd r))]:=by
 refine zEN (fle rfl) ?_
 rw[zx]
 refine AW.weaken (zg [] (kv 0 (.one (.d (.sl 2 (List.map zd a1)))) rfl rfl SL.nil) BL.nil BK.nil) ?_
 unfold j6 at H
 unfold zDF
 refine aV (za eC (xQ (zF (fun t2:Unit=>(jT a1) t2=some r) (fun t2=>mk [(0,(.one (.d (.sl 2 (List.map zd a1)))))] [] noG) ?_ ?_)))
 ·intro t2 H
  unfold jT at H
  refine aV (yy (m:=320) rfl nZ (za rfl ?_))
  obtain⟨h4,H⟩:=qb H
  refine zaq (f:=zd) (m:=448) (own:=true) (ys:=a1) (q:=a1.length) rfl rfl rfl eZ (El.lent fun _ _=>rfl) rfl h4 (by decide) nZ (za eZ (xQ (AW.ret ?_)))
  obtain rfl:=(Option.some.inj H)
  exact qL (RL.cons (RV.tmp eZ) (VO.sl bZ lm (zy fun _=>rfl)) RL.nil) (by decide)
 ·refine aV (za rfl ?_)
  rcases zC H with⟨h5,H⟩|⟨h5,H⟩
  ·refine zfq eZ h5 (xQ (AW.condU eZ ?_ ?_))
   ·have H:(some ([]:(List ze)))=some r:=by rw[←H];simp[List.eq_nil_of_length_eq_zero h5,jT]
    refine aV (za eC (xQ (AW.ret (TQ.qr ?_))))
    cases H
    exact qL (RL.cons (RV.tmp eZ) VO.zs RL.nil) List.nodup_nil
   ·exact AW.skip (TQ.qn ⟨(),H,(zg [] (sR rfl rfl) BL.nil BK.nil)⟩)
  ·exact zhK eZ h5 (xQ (zh eZ rfl (AW.skip (TQ.qn ⟨(),H,(zg [] (sR rfl rfl) BL.nil BK.nil)⟩))))
theorem zbC{a1:(List zu)}{r:(List zu)}(H:yU a1=some r):Fn Tryz.prog 204 (lent [(.sl 2 (List.map zj a1))]) true [(.sl 2 (List.map zj r))]:=by
 refine zFu (fle rfl) ?_
 rw[zx]
 refine AW.weaken (zg [] (kv 0 (.one (.d (.sl 2 (List.map zj a1)))) rfl rfl SL.nil) BL.nil BK.nil) ?_
 unfold yU at H
 unfold zyb
 refine aV (za eC (xQ (zF (fun t2:Unit=>(yb a1) t2=some r) (fun t2=>mk [(0,(.one (.d (.sl 2 (List.map zj a1)))))] [] noG) ?_ ?_)))
 ·intro t2 H
  unfold yb at H
  refine aV (yy (m:=320) rfl nZ (za rfl ?_))
  obtain⟨h4,H⟩:=qb H
  refine zaq (f:=zj) (m:=448) (own:=true) (ys:=a1) (q:=a1.length) rfl rfl rfl eZ (El.lent fun _ _=>rfl) rfl h4 (by decide) nZ (za eZ (xQ (AW.ret ?_)))
  obtain rfl:=(Option.some.inj H)
  exact qL (RL.cons (RV.tmp eZ) (VO.sl bZ lm (zy fun _=>rfl)) RL.nil) (by decide)
 ·refine aV (za rfl ?_)
  rcases zC H with⟨h5,H⟩|⟨h5,H⟩
  ·refine zfq eZ h5 (xQ (AW.condU eZ ?_ ?_))
   ·have H:(some ([]:(List zu)))=some r:=by rw[←H];simp[List.eq_nil_of_length_eq_zero h5,yb]
    refine aV (za eC (xQ (AW.ret (TQ.qr ?_))))
    cases H
    exact qL (RL.cons (RV.tmp eZ) VO.zs RL.nil) List.nodup_nil
   ·exact AW.skip (TQ.qn ⟨(),H,(zg [] (sR rfl rfl) BL.nil BK.nil)⟩)
  ·exact zhK eZ h5 (xQ (zh eZ rfl (AW.skip (TQ.qn ⟨(),H,(zg [] (sR rfl rfl) BL.nil BK.nil)⟩))))
theorem zby{a1:(List zK)}{r:(List zK)}(H:yY a1=some r):Fn Tryz.prog 205 (lent [(.sl 4 (List.map zp a1))]) true [(.sl 4 (List.map zp r))]:=by
 refine zE5 (fle rfl) ?_
 rw[zx]
 refine AW.weaken (zg [] (kv 0 (.one (.d (.sl 4 (List.map zp a1)))) rfl rfl SL.nil) BL.nil BK.nil) ?_
 unfold yY at H
 unfold zyi
 refine aV (za eC (xQ (zF (fun t2:Unit=>(j8 a1) t2=some r) (fun t2=>mk [(0,(.one (.d (.sl 4 (List.map zp a1)))))] [] noG) ?_ ?_)))
 ·intro t2 H
  unfold j8 at H
  refine aV (yy (m:=320) rfl nZ (za rfl ?_))
  obtain⟨h4,H⟩:=qb H
  refine zaq (f:=zp) (m:=448) (own:=true) (ys:=a1) (q:=a1.length) rfl rfl rfl eZ (El.lent fun _ _=>rfl) rfl h4 (by decide) nZ (za eZ (xQ (AW.ret ?_)))
  obtain rfl:=(Option.some.inj H)
  exact qL (RL.cons (RV.tmp eZ) (VO.sl bZ lm (zy fun _=>rfl)) RL.nil) (by decide)
 ·refine aV (za rfl ?_)
  rcases zC H with⟨h5,H⟩|⟨h5,H⟩
  ·refine zfq eZ h5 (xQ (AW.condU eZ ?_ ?_))
   ·have H:(some ([]:(List zK)))=some r:=by rw[←H];simp[List.eq_nil_of_length_eq_zero h5,j8]
    refine aV (za eC (xQ (AW.ret (TQ.qr ?_))))
    cases H
    exact qL (RL.cons (RV.tmp eZ) VO.zs RL.nil) List.nodup_nil
   ·exact AW.skip (TQ.qn ⟨(),H,(zg [] (sR rfl rfl) BL.nil BK.nil)⟩)
  ·exact zhK eZ h5 (xQ (zh eZ rfl (AW.skip (TQ.qn ⟨(),H,(zg [] (sR rfl rfl) BL.nil BK.nil)⟩))))
theorem zaL{a1:(List zu)}{r:(List zu)}(H:yt a1=some r):Fn Tryz.prog 207 (lent [(.sl 2 (List.map zj a1))]) true [(.sl 2 (List.map zj r))]:=by
 refine zEE (fle rfl) ?_
 rw[zx]
 refine AW.weaken (zg [] (kv 0 (.one (.d (.sl 2 (List.map zj a1)))) rfl rfl SL.nil) BL.nil BK.nil) ?_
 unfold yt at H
 unfold zAS
 refine aV (za eC (xQ (zF (fun t2:Unit=>(jS a1) t2=some r) (fun t2=>mk [(0,(.one (.d (.sl 2 (List.map zj a1)))))] [] noG) ?_ ?_)))
 ·intro t2 H
  unfold jS at H
  refine aV (yy (m:=320) rfl nZ (za rfl ?_))
  obtain⟨h4,H⟩:=qb H
  refine zaq (f:=zj) (m:=448) (own:=true) (ys:=a1) (q:=a1.length) rfl rfl rfl eZ (El.lent fun _ _=>rfl) rfl h4 (by decide) nZ (za eZ (xQ (AW.ret ?_)))
  obtain rfl:=(Option.some.inj H)
  exact qL (RL.cons (RV.tmp eZ) (VO.sl bZ lm (zy fun _=>rfl)) RL.nil) (by decide)
 ·refine aV (za rfl ?_)
  rcases zC H with⟨h5,H⟩|⟨h5,H⟩
  ·refine zfq eZ h5 (xQ (AW.condU eZ ?_ ?_))
   ·have H:(some ([]:(List zu)))=some r:=by rw[←H];simp[List.eq_nil_of_length_eq_zero h5,jS]
    refine aV (za eC (xQ (AW.ret (TQ.qr ?_))))
    cases H
    exact qL (RL.cons (RV.tmp eZ) VO.zs RL.nil) List.nodup_nil
   ·exact AW.skip (TQ.qn ⟨(),H,(zg [] (sR rfl rfl) BL.nil BK.nil)⟩)
  ·exact zhK eZ h5 (xQ (zh eZ rfl (AW.skip (TQ.qn ⟨(),H,(zg [] (sR rfl rfl) BL.nil BK.nil)⟩))))
theorem YB{a1:zn}{r:zn}(H:j7 a1=some r):Fn Tryz.prog 92 (lent [(.agg (zS a1))]) true [(.agg (zS r))]:=by
 refine f92 (fle rfl) ?_
 rw[zx]
 refine AW.weaken (t:=mk [(0,(.agg (zE a1)))] [] (lk [])) (zg [] (sR rfl rfl) BL.nil BK.nil) ?_
 unfold j7 at H
 unfold i92
 refine aV (ji (n:=64) (m:=9) (cs:=(zE a1)) rfl eZ rfl rfl nZ (Zj (n:=128) (m:=9) rfl rfl (nR rfl) (xQ (aS (AW.regd (zf (m:=0) rfl rfl (zl (q:=0) (c:=(dI a1.Me)) eZ (hB rfl (bR rfl)) rfl rfl (zf (m:=1) rfl rfl (zl (q:=1) (c:=(.d (.sl 2 (List.map zd a1.Own)))) eZ (hB rfl (bR rfl)) rfl rfl ?_)))))))))
 obtain⟨v2,h3,H⟩:=zk H
 refine jP (u:=(.one (.sl 640 0 v2.length))) (bs:=[(640,(.data 2 (List.map zd v2) true none))]) eC Cl.fn (Xx h3) (Ec eZ En) (Vc Vp Vn) (by simp[js,jX,qG,jw,qI]) rfl (fC (hN (nR rfl)) rfl (fC (hN (nR rfl)) rfl fN)) (zf (m:=2) rfl rfl (zl (q:=2) (c:=(.d (.sl 2 (List.map zd a1.Frozen)))) eZ (hB rfl (bR rfl)) rfl rfl ?_))
 obtain⟨v4,h5,H⟩:=zk H
 refine jP (u:=(.one (.sl 832 0 v4.length))) (bs:=[(832,(.data 2 (List.map zd v4) true none))]) eC Cl.fn (Xx h5) (Ec eZ En) (Vc Vp Vn) (by simp[js,jX,qG,jw,qI]) rfl (fC (hN (nR rfl)) rfl (fC (hN (nR rfl)) rfl fN)) (zf (m:=3) rfl rfl (zl (q:=3) (c:=(.d (.sl 2 (List.map zj a1.Cells)))) eZ (hB rfl (bR rfl)) rfl rfl ?_))
 obtain⟨v6,h7,H⟩:=zk H
 refine jP (u:=(.one (.sl 1024 0 v6.length))) (bs:=[(1024,(.data 2 (List.map zj v6) true none))]) eC Cl.fn (zbC h7) (Ec eZ En) (Vc Vp Vn) (by simp[js,jX,qG,jw,qI]) rfl (fC (hN (nR rfl)) rfl (fC (hN (nR rfl)) rfl fN)) (zf (m:=4) rfl rfl (zl (q:=4) (c:=(.d (.sl 4 (List.map zp a1.Locks)))) eZ (hB rfl (bR rfl)) rfl rfl ?_))
 obtain⟨v8,h9,H⟩:=zk H
 refine jP (u:=(.one (.sl 1216 0 v8.length))) (bs:=[(1216,(.data 4 (List.map zp v8) true none))]) eC Cl.fn (zby h9) (Ec eZ En) (Vc Vp Vn) (by simp[js,jX,qG,jw,qI]) rfl (fC (hN (nR rfl)) rfl (fC (hN (nR rfl)) rfl fN)) (zf (m:=6) rfl rfl (zl (q:=6) (c:=(.d (.sl 1 (List.map zt a1.Wounded)))) eZ (hB rfl (bR rfl)) rfl rfl ?_))
 obtain⟨v10,h11,H⟩:=zk H
 refine jP (u:=(.one (.sl 1408 0 v10.length))) (bs:=[(1408,(.data 1 (List.map zt v10) true none))]) eC Cl.fn (xL h11) (Ec eZ En) (Vc Vp Vn) (by simp[js,jX,qG,jw,qI]) rfl (fC (hN (nR rfl)) rfl (fC (hN (nR rfl)) rfl fN)) (zf (m:=7) rfl rfl (zl (q:=7) (c:=(.d (.sl 1 (List.map zt a1.Ended)))) eZ (hB rfl (bR rfl)) rfl rfl ?_))
 obtain⟨v12,h13,H⟩:=zk H
 refine jP (u:=(.one (.sl 1600 0 v12.length))) (bs:=[(1600,(.data 1 (List.map zt v12) true none))]) eC Cl.fn (xL h13) (Ec eZ En) (Vc Vp Vn) (by simp[js,jX,qG,jw,qI]) rfl (fC (hN (nR rfl)) rfl (fC (hN (nR rfl)) rfl fN)) (zf (m:=8) rfl rfl (zl (q:=8) (c:=(dI a1.Rank)) eZ (hB rfl (bR rfl)) rfl rfl (kQ (cs:=[(dI a1.Me),(.sl 640 0 v2.length),(.sl 832 0 v4.length),(.sl 1024 0 v6.length),(.sl 1216 0 v8.length),.zs,(.sl 1408 0 v10.length),(.sl 1600 0 v12.length),(dI a1.Rank)]) (jL rfl (jL rfl (jL rfl (jL rfl (jL rfl (jL rfl (jL rfl (jL eZ kj)))))))) (by kernel_rfl) (Zj (n:=192) (m:=9) rfl rfl (hN (nR rfl)) (zQ (es:=[(dI a1.Me),(.sl 640 0 v2.length),(.sl 832 0 v4.length),(.sl 1024 0 v6.length),(.sl 1216 0 v8.length),.zs,(.sl 1408 0 v10.length),(.sl 1600 0 v12.length),(dI a1.Rank)]) eZ rfl rfl rfl bZ rfl (xQ (AW.weaken (zN [] (kr 3 rfl rfl (kr 2 rfl rfl (kr 1 rfl rfl SL.nil))) (blR rfl) (BK.cons (n:=192) rfl bZ rfl rfl (BK.cons (n:=1600) rfl (bR rfl) rfl rfl (BK.cons (n:=1408) rfl (bR rfl) rfl rfl (BK.cons (n:=1216) rfl (bR rfl) rfl rfl (BK.cons (n:=1024) rfl (bR rfl) rfl rfl (BK.cons (n:=832) rfl (bR rfl) rfl rfl (BK.cons (n:=640) rfl (bR rfl) rfl rfl (BK.cons (n:=128) rfl (bR rfl) rfl rfl (BK.cons (n:=64) rfl (bR rfl) rfl rfl BK.nil))))))))) GK.nil) (zF (fun t14:(List zL)=>(QL a1 v2 v4 v6 v8 v10 v12) t14=some r) (fun t14=>mk [(2,(.one (.ptr (.nm 128 0 0)))),(3,(.one (.ptr (.nm 192 0 0))))] [(128,(.vars 9 [(dI 0),.zs,.zs,.zs,.zs,.zs,.zs,.zs,(dI 0)])),(320128,(.data 2 (List.map zA t14) true none)),(192,(.vars 9 [(dI a1.Me),(.sl 640 0 v2.length),(.sl 832 0 v4.length),(.sl 1024 0 v6.length),(.sl 1216 0 v8.length),(.sl 320128 0 t14.length),(.sl 1408 0 v10.length),(.sl 1600 0 v12.length),(dI a1.Rank)])),(640,(.data 2 (List.map zd v2) true none)),(832,(.data 2 (List.map zd v4) true none)),(1024,(.data 2 (List.map zj v6) true none)),(1216,(.data 4 (List.map zp v8) true none)),(1408,(.data 1 (List.map zt v10) true none)),(1600,(.data 1 (List.map zt v12) true none))] (lk [])) ?_ ?_))))))))
 ·intro t14 H
  unfold QL at H
  refine aS (zX (zw (zP (es:=[(dI a1.Me),(.sl 640 0 v2.length),(.sl 832 0 v4.length),(.sl 1024 0 v6.length),(.sl 1216 0 v8.length),(.sl 320128 0 t14.length),(.sl 1408 0 v10.length),(.sl 1600 0 v12.length),(dI a1.Rank)]) rfl (bR rfl) rfl (zm (zw (zQ (es:=[(dI a1.Me),(.sl 640 0 v2.length),(.sl 832 0 v4.length),(.sl 1024 0 v6.length),(.sl 1216 0 v8.length),(.sl 320128 0 t14.length),(.sl 1408 0 v10.length),(.sl 1600 0 v12.length),(dI a1.Rank)]) rfl eZ rfl rfl bZ rfl (zm (qc (xQ (AW.ret ?_))))))))))
  cases H
  exact qL (RL.cons (qT (es:=[(dI a1.Me),(.sl 640 0 v2.length),(.sl 832 0 v4.length),(.sl 1024 0 v6.length),(.sl 1216 0 v8.length),(.sl 320128 0 t14.length),(.sl 1408 0 v10.length),(.sl 1600 0 v12.length),(dI a1.Rank)]) rfl bZ rfl) (VO.aggs (VOs.cons (VO.flat rfl) (VOs.cons (VO.sl (bR rfl) lm (zy fun _=>rfl)) (VOs.cons (VO.sl (bR rfl) lm (zy fun _=>rfl)) (VOs.cons (VO.sl (bR rfl) lm (zy fun _=>rfl)) (VOs.cons (VO.sl (bR rfl) lm (zy fun _=>rfl)) (VOs.cons (ZO (bR rfl) lm rfl) (VOs.cons (VO.sl (bR rfl) lm (zy fun _=>rfl)) (VOs.cons (VO.sl (bR rfl) lm (zy fun _=>rfl)) (VOs.cons (VO.flat rfl) VOs.nil)))))))))) RL.nil) (by decide)
 ·refine aV (zf (m:=5) rfl rfl (zl (q:=5) (c:=(.d (.sl 2 (List.map zA a1.Helds)))) eZ (bR rfl) rfl rfl (zY eZ (n:=a1.Helds.length) lm (za eC (xQ (AW.block (AW.iter (fun s16:(Int×(List zL))=>mk [(2,(.one (.ptr (.nm 128 0 0)))),(3,(.one (.ptr (.nm 192 0 0)))),(30,(.one (.d (.sl 2 (List.map zA a1.Helds))))),(31,(oI (a1.Helds.length:Int))),(32,(oI s16.1))] [(128,(.vars 9 [(dI 0),.zs,.zs,.zs,.zs,.zs,.zs,.zs,(dI 0)])),(320192,(.data 2 (List.map zA s16.2) true none)),(192,(.vars 9 [(dI a1.Me),(.sl 640 0 v2.length),(.sl 832 0 v4.length),(.sl 1024 0 v6.length),(.sl 1216 0 v8.length),(.sl 320192 0 s16.2.length),(.sl 1408 0 v10.length),(.sl 1600 0 v12.length),(dI a1.Rank)])),(640,(.data 2 (List.map zd v2) true none)),(832,(.data 2 (List.map zd v4) true none)),(1024,(.data 2 (List.map zj v6) true none)),(1216,(.data 4 (List.map zp v8) true none)),(1408,(.data 1 (List.map zt v10) true none)),(1600,(.data 1 (List.map zt v12) true none))] (lk [])) H ((zN [64] (sR rfl rfl) (blR rfl) (BK.cons rfl (bR rfl) rfl rfl (BK.cons rfl (bR rfl) rfl rfl (BK.cons rfl bZ rfl (by first|rfl|simp) (bkR rfl rfl rfl)))) GK.nil).trans (zkD 320192 2 192 5 true bZ rfl (nR rfl))) ?_)))))))
  intro kb17 s16 H
  unfold Qu at H
  refine aV (qi rfl rfl (xQ (aS ?_)))
  rcases zC H with⟨h18,H⟩|⟨h18,H⟩
  ·refine zi eZ (dT h18) (AW.skip (TQ.qn (aS (AW.block (aS (zX (zw ?_)))))))
   obtain⟨v19,h20,H⟩:=zk H
   refine qz rfl rfl h20 (zm (zw (qg (es:=(jG v19)) eZ rfl (zm (zw (Zj (n:=320) (m:=2) rfl rfl (nR rfl) (zm (zw (zQ (es:=(jG v19)) eZ rfl rfl rfl bZ rfl (zm (qc (xQ (AW.regt (zf (m:=5) rfl rfl (zl (q:=5) (c:=(.sl 320192 0 s16.2.length)) eZ (hB rfl (bR rfl)) rfl rfl (zf (m:=0) rfl rfl (zl (q:=0) (c:=(dI v19.Tx)) eZ (hB rfl bZ) rfl rfl (zf (m:=1) rfl rfl (zl (q:=1) (c:=(.d (.sl 2 (List.map zj v19.Writes)))) eZ bZ rfl rfl ?_)))))))))))))))))))
   obtain⟨v21,h22,H⟩:=zk H
   refine jP (u:=(.one (.sl 2688 0 v21.length))) (bs:=[(2688,(.data 2 (List.map zj v21) true none))]) eC Cl.fn (zaL h22) (Ec eZ En) (Vc Vp Vn) (by simp[js,jX,qG,jw,qI]) rfl (fC (nR rfl) rfl (fC (nR rfl) rfl fN)) (kQ (cs:=[(dI v19.Tx),(.sl 2688 0 v21.length)]) (jL rfl (jL eZ kj)) rfl (zbm (m:=2816) (q:=1) (cs:=[(dI v19.Tx),(.sl 2688 0 v21.length)]) rfl (jL eZ kj) rfl (List.cons_ne_nil _ _) (by simp) (nR rfl) (zm ?_)))
   obtain⟨h23,H⟩:=qb H
   refine zg9 (f:=zA) (xs:=s16.2) (t:=(zL.mk v19.Tx v21)) (q:=(s16.2++[(zL.mk v19.Tx v21)]).length) (ds:=[(.int .i64 v19.Tx),(.sl 2 (List.map zj v21))]) (ns:=[2688]) rfl eZ (bR rfl) rfl bZ rfl (VOs.cons (VO.flat rfl) (VOs.cons (VO.sl (bR rfl) lm (zy fun _=>rfl)) VOs.nil)) rfl rfl rfl rfl h23 (by decide) (erL.cons (v':=(.one (.sl 2816 0 1))) rfl (erL.cons (v':=(.agg [(dI v19.Tx),.any])) rfl (erL.cons (v':=(.one .any)) rfl (erL.cons (v':=(.one (.d (.sl 2 (List.map zj v19.Writes))))) rfl (erL.cons (v':=(.one (.ptr (.nm 320 0 1)))) rfl (erL.cons (v':=(oI v19.Tx)) rfl (erL.cons (v':=(.one (.ptr (.nm 320 0 0)))) rfl (erL.cons (v':=(.one (.sl 320192 0 s16.2.length))) rfl (erL.cons (v':=(.one (.ptr (.nm 192 0 5)))) rfl (erL.cons (v':=(.one (.ptr (.nm 320 0 0)))) rfl (erL.cons (v':=(.agg (jG v19))) rfl (erL.cons (v':=(.one (.ptr (.bd (zA v19) 0)))) rfl (erL.cons (v':=(oB (decide (s16.1 < (a1.Helds.length:Int))))) rfl (erL.cons (v':=(.one (.ptr (.nm 128 0 0)))) rfl (erL.cons (v':=(.one (.ptr (.nm 192 0 0)))) rfl (erL.cons (v':=(.one (.d (.sl 2 (List.map zA a1.Helds))))) rfl (erL.cons (v':=(oI (a1.Helds.length:Int))) rfl (erL.cons (v':=(oI s16.1)) rfl erL.nil)))))))))))))))))) (erH.cons (v':=(.vars 2 [(dI v19.Tx),.any])) rfl rfl (erH.drop rfl (erH.cons (v':=(.vars 2 (jG v19))) rfl rfl (erH.cons (v':=(.vars 2 [(dI 0),.zs])) rfl rfl (erH.cons (v':=(.vars 9 [(dI 0),.zs,.zs,.zs,.zs,.zs,.zs,.zs,(dI 0)])) rfl rfl (erH.cons (v':=(.data 2 (List.map zA s16.2) true none)) rfl rfl (erH.cons (v':=(.vars 9 [(dI a1.Me),(.sl 640 0 v2.length),(.sl 832 0 v4.length),(.sl 1024 0 v6.length),(.sl 1216 0 v8.length),(.sl 320192 0 s16.2.length),(.sl 1408 0 v10.length),(.sl 1600 0 v12.length),(dI a1.Rank)])) rfl rfl (erH.cons (v':=(.data 2 (List.map zd v2) true none)) rfl rfl (erH.cons (v':=(.data 2 (List.map zd v4) true none)) rfl rfl (erH.cons (v':=(.data 2 (List.map zj v6) true none)) rfl rfl (erH.cons (v':=(.data 4 (List.map zp v8) true none)) rfl rfl (erH.cons (v':=(.data 1 (List.map zt v10) true none)) rfl rfl (erH.cons (v':=(.data 1 (List.map zt v12) true none)) rfl rfl erH.nil))))))))))))) erL.nil (erL.cons (v':=(.one (.sl 2816 0 1))) rfl (erL.cons (v':=(.agg [(dI v19.Tx),.any])) rfl (erL.cons (v':=(.one .any)) rfl (erL.cons (v':=(.one (.d (.sl 2 (List.map zj v19.Writes))))) rfl (erL.cons (v':=(.one (.ptr (.nm 320 0 1)))) rfl (erL.cons (v':=(oI v19.Tx)) rfl (erL.cons (v':=(.one (.ptr (.nm 320 0 0)))) rfl (erL.cons (v':=(.one .any)) rfl (erL.cons (v':=(.one (.ptr (.nm 192 0 5)))) rfl (erL.cons (v':=(.one (.ptr (.nm 320 0 0)))) rfl (erL.cons (v':=(.agg (jG v19))) rfl (erL.cons (v':=(.one (.ptr (.bd (zA v19) 0)))) rfl (erL.cons (v':=(oB (decide (s16.1 < (a1.Helds.length:Int))))) rfl (erL.cons (v':=(.one (.ptr (.nm 128 0 0)))) rfl (erL.cons (v':=(.one (.ptr (.nm 192 0 0)))) rfl (erL.cons (v':=(.one (.d (.sl 2 (List.map zA a1.Helds))))) rfl (erL.cons (v':=(oI (a1.Helds.length:Int))) rfl (erL.cons (v':=(oI s16.1)) rfl erL.nil)))))))))))))))))) (erH.cons (v':=(.vars 2 [(dI v19.Tx),.any])) rfl rfl (erH.cons (v':=(.vars 2 (jG v19))) rfl rfl (erH.cons (v':=(.vars 2 [(dI 0),.zs])) rfl rfl (erH.cons (v':=(.vars 9 [(dI 0),.zs,.zs,.zs,.zs,.zs,.zs,.zs,(dI 0)])) rfl rfl (erH.drop rfl (erH.cons (v':=(.vars 9 [(dI a1.Me),(.sl 640 0 v2.length),(.sl 832 0 v4.length),(.sl 1024 0 v6.length),(.sl 1216 0 v8.length),.any,(.sl 1408 0 v10.length),(.sl 1600 0 v12.length),(dI a1.Rank)])) rfl rfl (erH.cons (v':=(.data 2 (List.map zd v2) true none)) rfl rfl (erH.cons (v':=(.data 2 (List.map zd v4) true none)) rfl rfl (erH.cons (v':=(.data 2 (List.map zj v6) true none)) rfl rfl (erH.cons (v':=(.data 4 (List.map zp v8) true none)) rfl rfl (erH.cons (v':=(.data 1 (List.map zt v10) true none)) rfl rfl (erH.cons (v':=(.data 1 (List.map zt v12) true none)) rfl rfl erH.nil)))))))))))) erL.nil (zw (zf (m:=5) rfl rfl (zm (zw (zQ (es:=[(dI a1.Me),(.sl 640 0 v2.length),(.sl 832 0 v4.length),(.sl 1024 0 v6.length),(.sl 1216 0 v8.length),(.sl 320192 0 ((s16.2++[(zL.mk v19.Tx v21)]).length)),(.sl 1408 0 v10.length),(.sl 1600 0 v12.length),(dI a1.Rank)]) eZ rfl rfl rfl (bR rfl) rfl (zm (qc (zm (BQ.qn (TQ.qn (AW.weaken (zN [2816,320] (kr 2 rfl rfl (kr 3 rfl rfl (kr 30 rfl rfl (kr 31 rfl rfl (kr 32 rfl rfl SL.nil))))) (blR rfl) (BK.cons (n:=192) rfl bZ rfl rfl (BK.cons (n:=320192) rfl (bR rfl) rfl rfl (BK.cons (n:=128) rfl (bR rfl) rfl rfl (BK.cons (n:=640) rfl (bR rfl) rfl rfl (BK.cons (n:=832) rfl (bR rfl) rfl rfl (BK.cons (n:=1024) rfl (bR rfl) rfl rfl (BK.cons (n:=1216) rfl (bR rfl) rfl rfl (BK.cons (n:=1408) rfl (bR rfl) rfl rfl (BK.cons (n:=1600) rfl (bR rfl) rfl rfl BK.nil))))))))) GK.nil) ?_)))))))))))
   exact aR (qk rfl eC (za eZ (zm (TQ.qn ⟨((IntKind.wrap .i64 (s16.1+1)),(s16.2++[(zL.mk v19.Tx v21)])),H,(zN [] (sR rfl rfl) (blR rfl) (BK.cons rfl (bR rfl) rfl rfl (BK.cons rfl (bR rfl) rfl rfl (BK.cons rfl bZ rfl (by first|rfl|simp) (bkR rfl rfl rfl)))) GK.nil)⟩))))
  ·exact zh eZ (dF h18) (AW.exit (TQ.qe (TQ.qe (BQ.qe (TQ.qn ⟨s16.2,H,((zN [] (sR rfl rfl) (blR rfl) (BK.cons rfl bZ rfl rfl (BK.cons rfl (bR rfl) rfl rfl (BK.cons rfl (bR rfl) rfl (by first|rfl|simp) (bkR rfl rfl rfl)))) GK.nil).trans (zac 320192 320128 rfl rfl (nR rfl) GR.nil))⟩)))))
theorem zer{a1:zn}{a2:Int}{r:(zn×Int)}(H:JD a1 a2=some r):Fn Tryz.prog 90 (lent [(.agg (zS a1)),(.int .i64 a2)]) true [(.agg (zS r.1)),(.int .i64 r.2)]:=by
 refine f90 (fle rfl) ?_
 rw[zx]
 refine AW.weaken (t:=mk [(0,(.agg (zE a1))),(1,(oI a2))] [] (lk [])) (zg [] (sR rfl rfl) BL.nil BK.nil) ?_
 unfold JD at H
 unfold i90
 refine aV (ji (n:=128) (m:=9) (cs:=(zE a1)) rfl eZ rfl rfl nZ (Zj (n:=256) (m:=9) rfl rfl (nR rfl) (za eC (xQ (aS (aV (za rfl (Kn eZ eC (xQ ?_)))))))))
 rcases zC H with⟨h3,H⟩|⟨h3,H⟩
 ·refine zi eZ (dT h3) (aS (zX (zw (kQ (cs:=[(dI 0),.zs,.zs,.zs,.zs,.zs,.zs,.zs,(dI 0)]) kj rfl (zm (zw (zQ (es:=[(dI 0),.zs,.zs,.zs,.zs,.zs,.zs,.zs,(dI 0)]) rfl eZ rfl rfl bZ rfl (zm (qc (za eC (xQ (AW.ret (TQ.qr ?_)))))))))))))
  cases H
  exact qL (RL.cons (qT (es:=[(dI 0),.zs,.zs,.zs,.zs,.zs,.zs,.zs,(dI 0)]) rfl bZ rfl) (VO.aggs (VOs.cons (VO.flat rfl) (VOs.cons VO.zs (VOs.cons VO.zs (VOs.cons VO.zs (VOs.cons VO.zs (VOs.cons VO.zs (VOs.cons VO.zs (VOs.cons VO.zs (VOs.cons (VO.flat rfl) VOs.nil)))))))))) (RL.cons (RV.tmp eZ) (VO.flat rfl) RL.nil)) List.nodup_nil
 ·refine zh eZ (dF h3) (AW.skip (TQ.qn (aS (zX (zw (zP (es:=(zE a1)) rfl (bR rfl) rfl (zm (zw ?_))))))))
  obtain⟨v4,h5,H⟩:=zk H
  refine jP (u:=(.agg [(dI v4.Me),(.sl 641 0 v4.Own.length),(.sl 642 0 v4.Frozen.length),(.sl 643 0 v4.Cells.length),(.sl 644 0 v4.Locks.length),(.sl 645 0 v4.Helds.length),(.sl 646 0 v4.Wounded.length),(.sl 647 0 v4.Ended.length),(dI v4.Rank)])) (bs:=[(641,(.data 2 (List.map zd v4.Own) true none)),(642,(.data 2 (List.map zd v4.Frozen) true none)),(643,(.data 2 (List.map zj v4.Cells) true none)),(644,(.data 4 (List.map zp v4.Locks) true none)),(645,(.data 2 (List.map zA v4.Helds) true none)),(646,(.data 1 (List.map zt v4.Wounded) true none)),(647,(.data 1 (List.map zt v4.Ended) true none))]) eC Cl.fn (YB h5) (Ec eZ En) (Vc (VD.agg rfl) Vn) (by simp[js,jX,qG,jw,qI]) rfl (fC (nR rfl) rfl (fC (nR rfl) rfl (fC (nR rfl) rfl (fC (nR rfl) rfl (fC (nR rfl) rfl (fC (nR rfl) rfl (fC (nR rfl) rfl (fC (nR rfl) rfl fN)))))))) (zm (zw (za rfl (zm (zw (zQ (es:=[(dI v4.Me),(.sl 641 0 v4.Own.length),(.sl 642 0 v4.Frozen.length),(.sl 643 0 v4.Cells.length),(.sl 644 0 v4.Locks.length),(.sl 645 0 v4.Helds.length),(.sl 646 0 v4.Wounded.length),(.sl 647 0 v4.Ended.length),(dI v4.Rank)]) rfl rfl rfl rfl (bR rfl) rfl (zm (qc (za eZ (xQ (AW.ret ?_)))))))))))
  cases H
  exact qL (RL.cons (qT (es:=[(dI v4.Me),(.sl 641 0 v4.Own.length),(.sl 642 0 v4.Frozen.length),(.sl 643 0 v4.Cells.length),(.sl 644 0 v4.Locks.length),(.sl 645 0 v4.Helds.length),(.sl 646 0 v4.Wounded.length),(.sl 647 0 v4.Ended.length),(dI v4.Rank)]) rfl bZ rfl) (VO.aggs (VOs.cons (VO.flat rfl) (VOs.cons (VO.sl (bR rfl) lm (zy fun _=>rfl)) (VOs.cons (VO.sl (bR rfl) lm (zy fun _=>rfl)) (VOs.cons (VO.sl (bR rfl) lm (zy fun _=>rfl)) (VOs.cons (VO.sl (bR rfl) lm (zy fun _=>rfl)) (VOs.cons (ZO (bR rfl) lm rfl) (VOs.cons (VO.sl (bR rfl) lm (zy fun _=>rfl)) (VOs.cons (VO.sl (bR rfl) lm (zy fun _=>rfl)) (VOs.cons (VO.flat rfl) VOs.nil)))))))))) (RL.cons (RV.tmp eZ) (VO.flat rfl) RL.nil)) (by decide)
theorem zc6{a1:ze}{a2:ze}{r:Bool}(H:Yx a1 a2=some r):Fn Tryz.prog 202 (lent [(.agg (zd a1)),(.ptr (zd a2))]) true [(.bool r)]:=by
 refine zEP (fle rfl) ?_
 rw[zx]
 refine AW.weaken (zg [] (kv 0 (.agg [(dI a1.Lo),(dI a1.Hi)]) rfl rfl (SL.cons (v:=(.one (.ptr (.bd (zd a2) 0)))) (eS rfl eZ) rfl (VWk.one CWk.ptr) SL.nil)) BL.nil BK.nil) ?_
 unfold Yx at H
 unfold zyp
 refine aV (ji (n:=128) (m:=2) (cs:=[(dI a1.Lo),(dI a1.Hi)]) rfl eZ rfl rfl nZ (za eC (xQ (aV (qg (es:=[(dI a2.Lo),(dI a2.Hi)]) rfl rfl (zP (es:=[(dI a1.Lo),(dI a1.Hi)]) rfl bZ rfl ?_))))))
 obtain⟨v3,h4,H⟩:=zk H
 refine zD (u:=(oB v3)) eC Cl.fn (zae h4) (Ec rfl (Ec eZ En)) (Vc (VD.agg rfl) (Vc (VD.agg rfl) Vn)) rfl (za eZ (xQ (AW.ret ?_)))
 cases H
 exact eE rfl rfl
theorem Y8{a1:(List ze)}{a2:ze}{r:Int}(H:jf a1 a2=some r):Fn Tryz.prog 284 (lent [(.sl 2 (List.map zd a1)),(.fn 202 [.ptr (zd a2)])]) true [(.int .i64 r)]:=by
 refine ztk (fle rfl) ?_
 rw[zx]
 refine AW.weaken (zg [] (kv 0 (.one (.d (.sl 2 (List.map zd a1)))) rfl rfl (SL.cons (v:=(.one (.fn 202 [(.bd (zd a2) 0)]))) (eS rfl eZ) rfl (VWk.one (CWk.fn (css:=[zd a2]))) SL.nil)) BL.nil BK.nil) ?_
 unfold jf at H
 unfold zlL
 refine aV (za eC (xQ (zF (fun t3:Unit=>jO t3=some r) (fun t3=>mk [] [] noG) ?_ ?_)))
 ·intro t3 H
  unfold jO at H
  refine aV (za eC (xQ (AW.ret ?_)))
  cases H
  exact eE rfl rfl
 ·refine aV (za rfl (zY eZ (n:=a1.length) lm (za eC (xQ (AW.block (AW.iter (fun s5:Int=>mk [(0,(.one (.d (.sl 2 (List.map zd a1))))),(1,(.one (.fn 202 [(.bd (zd a2) 0)]))),(7,(oI (a1.length:Int))),(8,(oI s5))] [] noG) H (zg [] (sR rfl rfl) BL.nil BK.nil) ?_))))))
  intro kb6 s5 H
  unfold qW at H
  refine aV (qi rfl rfl (xQ (aS ?_)))
  rcases zC H with⟨h7,H⟩|⟨h7,H⟩
  ·refine zi eZ (dT h7) (AW.skip (TQ.qn (aS (AW.block (aV (za rfl (za eZ (xQ (aV (za rfl (za rfl (za rfl ?_))))))))))))
   obtain⟨v8,h9,H⟩:=zk H
   refine qz rfl eZ h9 (qg (es:=[(dI v8.Lo),(dI v8.Hi)]) eZ rfl ?_)
   obtain⟨v10,h11,H⟩:=zk H
   refine zD (u:=(oB v10)) rfl Cl.fn (zc6 h11) (Ec eZ En) (Vc (VD.agg rfl) (Vc jH Vn)) rfl (xQ ?_)
   rcases zC H with⟨h12,H⟩|⟨h12,H⟩
   ·refine zi eZ h12 (aV (za rfl (za eZ (xQ (AW.ret (BQ.qr (TQ.qr (TQ.qr (BQ.qr (TQ.qr ?_))))))))))
    cases H
    exact eE rfl rfl
   ·exact zh eZ (nt h12) (AW.skip (BQ.qn (TQ.qn (aR (qk rfl eC (za eZ (zm (TQ.qn ⟨(IntKind.wrap .i64 (s5+1)),H,(zg [] (sR rfl rfl) BL.nil BK.nil)⟩))))))))
  ·exact zh eZ (dF h7) (AW.exit (TQ.qe (TQ.qe (BQ.qe (TQ.qn ⟨(),H,(zg [] SL.nil BL.nil BK.nil)⟩)))))
theorem J1{a1:(List ze)}{a2:ze}{r:Bool}(H:qJ a1 a2=some r):Fn Tryz.prog 201 (lent [(.sl 2 (List.map zd a1)),(.fn 202 [.ptr (zd a2)])]) true [(.bool r)]:=by
 refine zvT (fle rfl) ?_
 rw[zx]
 refine AW.weaken (zg [] (kv 0 (.one (.d (.sl 2 (List.map zd a1)))) rfl rfl (SL.cons (v:=(.one (.fn 202 [(.bd (zd a2) 0)]))) (eS rfl eZ) rfl (VWk.one (CWk.fn (css:=[zd a2]))) SL.nil)) BL.nil BK.nil) ?_
 unfold qJ at H
 unfold zlc
 refine aV (za eC (xQ (aV (za rfl (za rfl ?_)))))
 obtain⟨v3,h4,H⟩:=zk H
 refine zD (u:=(oI v3)) eC Cl.fn (Y8 h4) (Ec rfl (Ec eZ En)) (Vc Vp (Vc (VD.fn (PDs.cons jH PDs.nil)) Vn)) rfl (Xt eZ eC (za eZ (xQ (AW.ret ?_))))
 cases H
 exact eE rfl rfl
theorem zfk{a1:(List ze)}{a2:ze}{r:Bool}(H:JC a1 a2=some r):Fn Tryz.prog 91 (lent [(.sl 2 (List.map zd a1)),(.agg (zd a2))]) true [(.bool r)]:=by
 refine f91 (fle rfl) ?_
 rw[zx]
 refine AW.weaken (zg [] (kv 0 (.one (.d (.sl 2 (List.map zd a1)))) rfl rfl (kv 1 (.agg [(dI a2.Lo),(dI a2.Hi)]) rfl rfl SL.nil)) BL.nil BK.nil) ?_
 unfold JC at H
 unfold i91
 refine aV (ji (n:=192) (m:=2) (cs:=[(dI a2.Lo),(dI a2.Hi)]) rfl rfl rfl rfl nZ (za eC (xQ (aV (za rfl (zcP (ps:=[(.nm 192 0 0)]) (Ec rfl En) ?_))))))
 obtain⟨v3,h4,H⟩:=zk H
 refine zD (u:=(oB v3)) eC Cl.fn (J1 h4) (Ec rfl (Ec eZ En)) (Vc Vp (Vc (VD.fn (PDs.cons (QP bZ (CDs.plain (CDs.plain CDs.nil))) PDs.nil)) Vn)) rfl (za eZ (xQ (AW.ret ?_)))
 cases H
 exact eE rfl rfl
theorem K4{a1:ze}{a2:Int}{r:Bool}(H:Zd a1 a2=some r):Fn Tryz.prog 287 (lent [(.agg (zd a1)),(.int .i64 a2)]) true [(.bool r)]:=by
 refine zEo (fle rfl) ?_
 rw[zx]
 refine AW.weaken (zg [] (kv 0 (.agg [(dI a1.Lo),(dI a1.Hi)]) rfl rfl (kv 1 (oI a2) rfl rfl SL.nil)) BL.nil BK.nil) ?_
 unfold Zd at H
 unfold zyl
 refine aV (ji (n:=128) (m:=2) (cs:=[(dI a1.Lo),(dI a1.Hi)]) rfl eZ rfl rfl nZ (za eC (xQ (aV (za rfl (zf (m:=0) rfl rfl (zl (q:=0) (c:=(dI a1.Lo)) eZ bZ rfl rfl (zf (m:=1) rfl rfl (zl (q:=1) (c:=(dI a1.Hi)) eZ bZ rfl rfl (zam eZ eC ?_))))))))))
 obtain⟨v3,h4,H⟩:=zk H
 refine zD (u:=(oB v3)) eC Cl.fn (Qt h4) (Ec rfl (Ec rfl (Ec eZ En))) (Vc Vp (Vc Vp (Vc Vp Vn))) rfl (za eZ (xQ (AW.ret ?_)))
 cases H
 exact eE rfl rfl
theorem zbP{a1:ze}{a2:Int}{r:Bool}(H:QH a1 a2=some r):Fn Tryz.prog 288 (lent [(.agg (zd a1)),(.ptr (zt a2))]) true [(.bool r)]:=by
 refine zEZ (fle rfl) ?_
 rw[zx]
 refine AW.weaken (zg [] (kv 0 (.agg [(dI a1.Lo),(dI a1.Hi)]) rfl rfl (SL.cons (v:=(.one (.ptr (.bd (zt a2) 0)))) (eS rfl eZ) rfl (VWk.one CWk.ptr) SL.nil)) BL.nil BK.nil) ?_
 unfold QH at H
 unfold zDK
 refine aV (ji (n:=128) (m:=2) (cs:=[(dI a1.Lo),(dI a1.Hi)]) rfl eZ rfl rfl nZ (za eC (xQ (aV (zP (es:=[(dI a1.Lo),(dI a1.Hi)]) rfl bZ rfl (zZ (e:=(.int .i64 a2)) rfl rfl ?_))))))
 obtain⟨v3,h4,H⟩:=zk H
 refine zD (u:=(oB v3)) eC Cl.fn (K4 h4) (Ec rfl (Ec eZ En)) (Vc (VD.agg rfl) (Vc Vp Vn)) rfl (za eZ (xQ (AW.ret ?_)))
 cases H
 exact eE rfl rfl
theorem Yg{a1:(List ze)}{a2:Int}{r:Int}(H:qQ a1 a2=some r):Fn Tryz.prog 284 (lent [(.sl 2 (List.map zd a1)),(.fn 288 [.ptr (zt a2)])]) true [(.int .i64 r)]:=by
 refine ztk (fle rfl) ?_
 rw[zx]
 refine AW.weaken (zg [] (kv 0 (.one (.d (.sl 2 (List.map zd a1)))) rfl rfl (SL.cons (v:=(.one (.fn 288 [(.bd (zt a2) 0)]))) (eS rfl eZ) rfl (VWk.one (CWk.fn (css:=[zt a2]))) SL.nil)) BL.nil BK.nil) ?_
 unfold qQ at H
 unfold zlL
 refine aV (za eC (xQ (zF (fun t3:Unit=>jv t3=some r) (fun t3=>mk [] [] noG) ?_ ?_)))
 ·intro t3 H
  unfold jv at H
  refine aV (za eC (xQ (AW.ret ?_)))
  cases H
  exact eE rfl rfl
 ·refine aV (za rfl (zY eZ (n:=a1.length) lm (za eC (xQ (AW.block (AW.iter (fun s5:Int=>mk [(0,(.one (.d (.sl 2 (List.map zd a1))))),(1,(.one (.fn 288 [(.bd (zt a2) 0)]))),(7,(oI (a1.length:Int))),(8,(oI s5))] [] noG) H (zg [] (sR rfl rfl) BL.nil BK.nil) ?_))))))
  intro kb6 s5 H
  unfold qM at H
  refine aV (qi rfl rfl (xQ (aS ?_)))
  rcases zC H with⟨h7,H⟩|⟨h7,H⟩
  ·refine zi eZ (dT h7) (AW.skip (TQ.qn (aS (AW.block (aV (za rfl (za eZ (xQ (aV (za rfl (za rfl (za rfl ?_))))))))))))
   obtain⟨v8,h9,H⟩:=zk H
   refine qz rfl eZ h9 (qg (es:=[(dI v8.Lo),(dI v8.Hi)]) eZ rfl ?_)
   obtain⟨v10,h11,H⟩:=zk H
   refine zD (u:=(oB v10)) rfl Cl.fn (zbP h11) (Ec eZ En) (Vc (VD.agg rfl) (Vc jH Vn)) rfl (xQ ?_)
   rcases zC H with⟨h12,H⟩|⟨h12,H⟩
   ·refine zi eZ h12 (aV (za rfl (za eZ (xQ (AW.ret (BQ.qr (TQ.qr (TQ.qr (BQ.qr (TQ.qr ?_))))))))))
    cases H
    exact eE rfl rfl
   ·exact zh eZ (nt h12) (AW.skip (BQ.qn (TQ.qn (aR (qk rfl eC (za eZ (zm (TQ.qn ⟨(IntKind.wrap .i64 (s5+1)),H,(zg [] (sR rfl rfl) BL.nil BK.nil)⟩))))))))
  ·exact zh eZ (dF h7) (AW.exit (TQ.qe (TQ.qe (BQ.qe (TQ.qn ⟨(),H,(zg [] SL.nil BL.nil BK.nil)⟩)))))
theorem Jb{a1:(List ze)}{a2:Int}{r:Bool}(H:ql a1 a2=some r):Fn Tryz.prog 201 (lent [(.sl 2 (List.map zd a1)),(.fn 288 [.ptr (zt a2)])]) true [(.bool r)]:=by
 refine zvT (fle rfl) ?_
 rw[zx]
 refine AW.weaken (zg [] (kv 0 (.one (.d (.sl 2 (List.map zd a1)))) rfl rfl (SL.cons (v:=(.one (.fn 288 [(.bd (zt a2) 0)]))) (eS rfl eZ) rfl (VWk.one (CWk.fn (css:=[zt a2]))) SL.nil)) BL.nil BK.nil) ?_
 unfold ql at H
 unfold zlc
 refine aV (za eC (xQ (aV (za rfl (za rfl ?_)))))
 obtain⟨v3,h4,H⟩:=zk H
 refine zD (u:=(oI v3)) eC Cl.fn (Yg h4) (Ec rfl (Ec eZ En)) (Vc Vp (Vc (VD.fn (PDs.cons jH PDs.nil)) Vn)) rfl (Xt eZ eC (za eZ (xQ (AW.ret ?_))))
 cases H
 exact eE rfl rfl
theorem zdl{a1:Int}{a2:ze}{a3:Bool}{a4:(List ze)}{r:Bool}(H:Z6 a1 a2 a3 a4=some r):Fn Tryz.prog 286 (lent [(.int .i64 a1),(.ptr (zd a2)),(.ptr (Qe a3)),(.ptr (Qp a4))]) true [(.bool r)]:=by
 refine zFJ (fle rfl) ?_
 rw[zx]
 refine AW.weaken (zg [] (kv 0 (oI a1) rfl rfl (SL.cons (v:=(.one (.ptr (.bd (zd a2) 0)))) (eS rfl eZ) rfl (VWk.one CWk.ptr) (SL.cons (v:=(.one (.ptr (.bd (Qe a3) 0)))) (eS rfl (eS rfl eZ)) rfl (VWk.one CWk.ptr) (SL.cons (v:=(.one (.ptr (.bd (Qp a4) 0)))) (eS rfl (eS rfl (eS rfl eZ))) rfl (VWk.one CWk.ptr) SL.nil)))) BL.nil BK.nil) ?_
 unfold Z6 at H
 unfold zB8
 refine aV (ji (n:=256) (m:=1) (cs:=[(dI a1)]) rfl eZ rfl rfl nZ (za eC (xQ (aS (aV (qg (es:=[(dI a2.Lo),(dI a2.Hi)]) rfl rfl (zl (q:=0) (c:=(dI a1)) rfl bZ rfl rfl ?_)))))))
 obtain⟨v5,h6,H⟩:=zk H
 refine zD (u:=(oB v5)) eC Cl.fn (K4 h6) (Ec rfl (Ec eZ En)) (Vc (VD.agg rfl) (Vc Vp Vn)) rfl (xQ ?_)
 rcases zC H with⟨h7,H⟩|⟨h7,H⟩
 ·refine zi eZ h7 (aV (zZ (e:=(.bool a3)) rfl rfl (za eZ (xQ (AW.ret (TQ.qr ?_))))))
  cases H
  exact eE rfl rfl
 ·refine zh eZ (nt h7) (AW.skip (TQ.qn (aV (zZ (e:=(.sl 2 (List.map zd a4))) rfl rfl (zcP (ps:=[(.nm 256 0 0)]) (Ec rfl En) ?_)))))
  obtain⟨v8,h9,H⟩:=zk H
  refine zD (u:=(oB v8)) eC Cl.fn (Jb h9) (Ec rfl (Ec eZ En)) (Vc Vp (Vc (VD.fn (PDs.cons (QP bZ (CDs.plain CDs.nil)) PDs.nil)) Vn)) rfl (za eZ (xQ (AW.ret ?_)))
  cases H
  exact eE rfl rfl
theorem X9{a1:ze}{a2:Bool}{a3:(List ze)}{r:(List ze)}(H:jy a1 a2 a3=some r):Fn Tryz.prog 285 (lent [(.fn 286 [.ptr (zd a1),.ptr (Qe a2),.ptr (Qp a3)])]) true [(.sl 2 (List.map zd r))]:=by
 refine zEG (fle rfl) ?_
 rw[zx]
 refine AW.weaken (zg [] (SL.cons (v:=(.one (.fn 286 [(.bd (zd a1) 0),(.bd (Qe a2) 0),(.bd (Qp a3) 0)]))) eZ rfl (VWk.one (CWk.fn (css:=[zd a1,Qe a2,Qp a3]))) SL.nil) BL.nil BK.nil) ?_
 unfold jy at H
 unfold zB7
 refine aV (za eC (xQ (aV (yy (m:=384) rfl nZ (za eZ (xQ (zF (fun t4:(List ze)=>yc t4=some r) (fun t4=>mk [(3,(.one (.sl 320128 0 t4.length)))] [(320128,(.data 2 (List.map zd t4) true none))] noG) ?_ ?_)))))))
 ·intro t4 H
  unfold yc at H
  refine aV (za eZ (za eZ (xQ (AW.ret ?_))))
  obtain rfl:=(Option.some.inj H)
  exact qL (RL.cons (RV.tmp eZ) (VO.sl bZ lm (zy fun _=>rfl)) RL.nil) (by decide)
 ·refine aV (za eC (xQ (AW.block (AW.iter (fun s6:((List ze)×Int)=>mk [(0,(.one (.fn 286 [(.bd (zd a1) 0),(.bd (Qe a2) 0),(.bd (Qp a3) 0)]))),(3,(.one (.sl 320192 0 s6.1.length))),(7,(oI s6.2))] [(320192,(.data 2 (List.map zd s6.1) true none))] noG) H ((zg [] (kR rfl rfl (SL.cons eZ rfl (VWk.one (CWk.len (by first|(simp;done)|(simp;omega)|omega|(simp only[List.length_map];omega)))) (sR rfl rfl))) (blR rfl) (bkR rfl rfl rfl)).trans (zmG 320192 2 3 true rfl nZ)) ?_))))
  intro kb7 s6 H
  unfold yd at H
  refine aV (qi rfl eC (xQ (aS ?_)))
  rcases zC H with⟨h8,H⟩|⟨h8,H⟩
  ·refine zi eZ (dT h8) (AW.skip (TQ.qn (aS (AW.block (aV (za rfl (za eZ (xQ (aV (za rfl (zbJ eZ (za eZ (xQ (AW.block (aV (za rfl (za rfl ?_)))))))))))))))))
   obtain⟨v9,h10,H⟩:=zk H
   refine zD (u:=(oB v9)) rfl Cl.fn (zdl h10) (Ec eZ En) (Vc Vp (Vc jH (Vc jH (Vc jH Vn)))) rfl (qH eZ (za eZ (xQ ?_)))
   rcases zC H with⟨h11,H⟩|⟨h11,H⟩
   ·refine zh eZ (cN h11) (zF (fun t12:Bool=>(jr s6 kb7) t12=some r) (fun t12=>mk [(0,(.one (.fn 286 [(.bd (zd a1) 0),(.bd (Qe a2) 0),(.bd (Qp a3) 0)]))),(3,(.one (.sl 320192 0 s6.1.length))),(4,(oI s6.2)),(5,(oI ((s6.1.length:Nat):Int))),(7,(oI s6.2)),(24,(oB t12))] [(320192,(.data 2 (List.map zd s6.1) true none))] noG) ?_ ?_)
    ·intro t12 H
     unfold jr at H
     rcases zC H with⟨h14,H⟩|⟨h14,H⟩
     ·refine zi rfl h14 (aR (za rfl (za rfl (zam eZ eC ?_))))
      obtain⟨v15,h16,H⟩:=zk H
      refine Xs rfl eZ bZ rfl h16 (zf (m:=1) eZ rfl (zgG (t:=v15) (e:=(.int .i64 v15.Hi)) eZ bZ (yx h16) rfl rfl (qk eZ eC ?_)))
      obtain⟨v17,h18,H⟩:=zk H
      exact Xs rfl rfl bZ rfl h18 (zf (m:=1) eZ rfl (yH (t:=v17) (t':=(ze.mk v17.Lo (IntKind.wrap .i64 (v15.Hi+1)))) (es:=[(.int .i64 (IntKind.wrap .i64 (v15.Hi+1)))]) eZ rfl rfl rfl bZ (yx h18) rfl rfl (zm (BQ.qn (BQ.qn (TQ.qn (aR (qk rfl eC (za eZ (zm (TQ.qn ⟨(s6.1.set (Int.toNat (IntKind.wrap .i64 (((s6.1.length:Nat):Int) - 1))) (ze.mk v17.Lo (IntKind.wrap .i64 (v15.Hi+1))),(IntKind.wrap .i64 (s6.2+1))),H,(zg [] (kR rfl rfl (SL.cons (eR rfl) rfl (VWk.one (CWk.len (by first|(simp;done)|(simp;omega)|omega|(simp only[List.length_map];omega)))) (sR rfl rfl))) (blR rfl) (bkR rfl rfl rfl))⟩)))))))))))
     ·refine zh rfl (nt h14) (aR (za rfl (za rfl (za rfl (qk eZ eC (kQ (cs:=[(dI s6.2),(dI (IntKind.wrap .i64 (s6.2+1)))]) (jL rfl (jL eZ kj)) rfl (zbm (m:=1088) (q:=1) (cs:=[(dI s6.2),(dI (IntKind.wrap .i64 (s6.2+1)))]) rfl (jL eZ kj) rfl (List.cons_ne_nil _ _) (by simp) (nR rfl) ?_)))))))
      obtain⟨h19,H⟩:=qb H
      exact zmD (f:=zd) (xs:=s6.1) (ys:=[(ze.mk s6.2 (IntKind.wrap .i64 (s6.2+1)))]) (q:=(s6.1++([(ze.mk s6.2 (IntKind.wrap .i64 (s6.2+1)))])).length) rfl eZ (bR rfl) rfl (El.one (f:=zd) (t:=(ze.mk s6.2 (IntKind.wrap .i64 (s6.2+1)))) (es:=[(.int .i64 s6.2),(.int .i64 (IntKind.wrap .i64 (s6.2+1)))]) bZ rfl rfl rfl) rfl h19 (by decide) (by decide) (erL.cons (v':=(.one (.sl 1088 0 1))) rfl (erL.cons (v':=(.agg [(dI s6.2),(dI (IntKind.wrap .i64 (s6.2+1)))])) rfl (erL.cons (v':=(oI (IntKind.wrap .i64 (s6.2+1)))) rfl (erL.cons (v':=(oI s6.2)) rfl (erL.cons (v':=(oI s6.2)) rfl (erL.cons (v':=(.one .any)) rfl (erL.cons (v':=(.one (.fn 286 [(.bd (zd a1) 0),(.bd (Qe a2) 0),(.bd (Qp a3) 0)]))) rfl (erL.cons (v':=(.one .any)) rfl (erL.cons (v':=(oI s6.2)) rfl (erL.cons (v':=(oI ((s6.1.length:Nat):Int))) rfl (erL.cons (v':=(oI s6.2)) rfl (erL.cons (v':=(oB t12)) rfl erL.nil)))))))))))) (erH.cons (v':=(.vars 2 [(dI s6.2),(dI (IntKind.wrap .i64 (s6.2+1)))])) rfl rfl (erH.drop rfl erH.nil)) (za eZ (zm (BQ.qn (BQ.qn (TQ.qn (aR (qk rfl eC (za eZ (zm (TQ.qn ⟨((s6.1++([(ze.mk s6.2 (IntKind.wrap .i64 (s6.2+1)))])),(IntKind.wrap .i64 (s6.2+1))),H,(zg [1088] (sR rfl rfl) (blR rfl) (bkR rfl rfl rfl))⟩))))))))))
    ·refine aR (za rfl (KQ eZ eC (za eZ ?_)))
     rcases zC H with⟨h20,H⟩|⟨h20,H⟩
     ·refine gDo eZ (dT h20) (za rfl (gDo rfl (dT h20) (za rfl (gDo rfl (dT h20) (zam eZ eC (gDo rfl (dT h20) ?_))))))
      obtain⟨v21,h22,H⟩:=zk H
      exact Xs rfl eZ bZ rfl h22 (gDo rfl (dT h20) (zf (m:=1) eZ rfl (gDo rfl (dT h20) (zgG (t:=v21) (e:=(.int .i64 v21.Hi)) eZ bZ (yx h22) rfl rfl (gDo rfl (dT h20) (za rfl (gDo rfl (dT h20) (Kn rfl eZ (zB rfl (dT h20) eZ (za eZ (zm (TQ.qn ⟨(decide (v21.Hi=s6.2)),H,(zg [] (sR rfl rfl) (blR rfl) (bkR rfl rfl rfl))⟩))))))))))))
     ·exact zb eZ (dF h20) rfl (zb rfl (dF h20) rfl (zb rfl (dF h20) rfl (zb rfl (dF h20) rfl (zb rfl (dF h20) rfl (zb rfl (dF h20) rfl (zb rfl (dF h20) rfl (zb rfl (dF h20) rfl (zJ rfl (dF h20) eC (za eZ (zm (TQ.qn ⟨false,H,(zg [] (sR rfl rfl) (blR rfl) (bkR rfl rfl rfl))⟩)))))))))))
   ·exact zi eZ (cN (nt h11)) (AW.skip (BQ.qn (BQ.qn (TQ.qn (aR (qk rfl eC (za eZ (zm (TQ.qn ⟨(s6.1,(IntKind.wrap .i64 (s6.2+1))),H,(zg [] (sR rfl rfl) (blR rfl) (bkR rfl rfl rfl))⟩)))))))))
  ·exact zh eZ (dF h8) (AW.exit (TQ.qe (TQ.qe (BQ.qe (TQ.qn ⟨s6.1,H,((zg [] (sR rfl rfl) (blR rfl) (bkR rfl rfl rfl)).trans (Qv 320192 320128 rfl rfl (nR rfl)))⟩)))))
theorem zfb{a1:(List ze)}{a2:ze}{a3:Bool}{r:((List ze)×Bool)}(H:Yb a1 a2 a3=some r):Fn Tryz.prog 208 (lent [(.sl 2 (List.map zd a1)),(.agg (zd a2)),(.bool a3)]) true [(.sl 2 (List.map zd r.1)),(.bool r.2)]:=by
 refine zEU (fle rfl) ?_
 rw[zx]
 refine AW.weaken (zg [] (kv 0 (.one (.d (.sl 2 (List.map zd a1)))) rfl rfl (kv 1 (.agg [(dI a2.Lo),(dI a2.Hi)]) rfl rfl (kv 2 (oB a3) rfl rfl SL.nil))) BL.nil BK.nil) ?_
 unfold Yb at H
 unfold zCL
 refine aV (ji (n:=192) (m:=1) (cs:=[(.d (.sl 2 (List.map zd a1)))]) rfl eZ rfl rfl nZ (ji (n:=256) (m:=2) (cs:=[(dI a2.Lo),(dI a2.Hi)]) rfl rfl rfl rfl (nR rfl) (ji (n:=320) (m:=1) (cs:=[(.d (.bool a3))]) rfl rfl rfl rfl (nR rfl) (za eC (za eC (xQ (aS (zF (fun t4:Bool=>(QQ a2 a3 a1) t4=some r) (fun t4=>mk [(3,(.one (.ptr (.nm 192 0 0)))),(4,(.one (.ptr (.nm 256 0 0)))),(5,(.one (.ptr (.nm 320 0 0)))),(16,(oB t4))] [(192,(.vars 1 [(.d (.sl 2 (List.map zd a1)))])),(256,(.vars 2 [(dI a2.Lo),(dI a2.Hi)])),(320,(.vars 1 [(.d (.bool a3))]))] noG) ?_ ?_))))))))
 ·intro t4 H
  unfold QQ at H
  rcases zC H with⟨h6,H⟩|⟨h6,H⟩
  ·refine zi rfl h6 (aV (za eC (za eC (xQ (AW.ret (TQ.qr ?_))))))
   cases H
   exact qL (RL.cons (RV.tmp rfl) VO.zs (RL.cons (RV.tmp eZ) (VO.flat rfl) RL.nil)) List.nodup_nil
  ·refine zh rfl (nt h6) (AW.skip (TQ.qn (aV (zcP (ps:=[(.nm 256 0 0),(.nm 320 0 0),(.nm 192 0 0)]) (Ec rfl (Ec rfl (Ec eZ En))) ?_))))
   obtain⟨v7,h8,H⟩:=zk H
   refine jP (u:=(.one (.sl 1152 0 v7.length))) (bs:=[(1152,(.data 2 (List.map zd v7) true none))]) eC Cl.fn (X9 h8) (Ec eZ En) (Vc (VD.fn (PDs.cons (QP (bR rfl) (CDs.plain (CDs.plain CDs.nil))) (PDs.cons (QP (bR rfl) (CDs.plain CDs.nil)) (PDs.cons (QP bZ (CDs.plain CDs.nil)) PDs.nil)))) Vn) (by simp[js,jX,qG,jw,qI]) rfl (fC (nR rfl) rfl (fC (nR rfl) rfl fN)) (za eZ (xQ (aS (aV (za eZ (zbJ eZ (KQ eZ eC (xQ ?_))))))))
   rcases zC H with⟨h9,H⟩|⟨h9,H⟩
   ·refine zi eZ (dT h9) (aV (za eC (za eC (xQ (AW.ret (TQ.qr ?_))))))
    cases H
    exact qL (RL.cons (RV.tmp rfl) VO.zs (RL.cons (RV.tmp eZ) (VO.flat rfl) RL.nil)) List.nodup_nil
   ·refine zh eZ (dF h9) (AW.skip (TQ.qn (aV (za rfl (za eZ (za eC (xQ (AW.ret ?_))))))))
    cases H
    exact qL (RL.cons (RV.tmp rfl) (VO.sl bZ lm (zy fun _=>rfl)) (RL.cons (RV.tmp eZ) (VO.flat rfl) RL.nil)) (by decide)
 ·refine aR (zl (q:=0) (c:=(.d (.sl 2 (List.map zd a1)))) rfl (bR rfl) rfl rfl ?_)
  obtain⟨v10,h11,H⟩:=zk H
  refine zD (u:=(oB v10)) eC Cl.fn (XI h11) (Ec eZ En) (Vc Vp Vn) rfl (qH eZ (za eZ ?_))
  rcases zC H with⟨h12,H⟩|⟨h12,H⟩
  ·refine gDo eZ (cN h12) (zP (es:=[(dI a2.Lo),(dI a2.Hi)]) rfl (bR rfl) rfl (gDo rfl (cN h12) ?_))
   obtain⟨v13,h14,H⟩:=zk H
   exact zD (u:=(oB v13)) eC Cl.fn (JY h14) (Ec eZ En) (Vc (VD.agg rfl) Vn) rfl (gDo rfl (cN h12) (qH eZ (zJ rfl (cN h12) eZ (zm (TQ.qn ⟨(!v13),H,(zg [] (sR rfl rfl) (blR rfl) (bkR rfl rfl rfl))⟩)))))
  ·exact zb eZ (cN (nt h12)) rfl (zb rfl (cN (nt h12)) rfl (zb rfl (cN (nt h12)) rfl (zB rfl (cN (nt h12)) eC (zm (TQ.qn ⟨true,H,(zg [] (sR rfl rfl) (blR rfl) (bkR rfl rfl rfl))⟩)))))
theorem zcF{a1:(List ze)}{a2:ze}{r:((List ze)×Bool)}(H:ZD a1 a2=some r):Fn Tryz.prog 94 (lent [(.sl 2 (List.map zd a1)),(.agg (zd a2))]) true [(.sl 2 (List.map zd r.1)),(.bool r.2)]:=by
 refine f94 (fle rfl) ?_
 rw[zx]
 refine AW.weaken (zg [] (kv 0 (.one (.d (.sl 2 (List.map zd a1)))) rfl rfl (kv 1 (.agg [(dI a2.Lo),(dI a2.Hi)]) rfl rfl SL.nil)) BL.nil BK.nil) ?_
 unfold ZD at H
 unfold i94
 refine aV (ji (n:=192) (m:=2) (cs:=[(dI a2.Lo),(dI a2.Hi)]) rfl rfl rfl rfl nZ (za eC (za eC (xQ (aV (za rfl (zP (es:=[(dI a2.Lo),(dI a2.Hi)]) rfl bZ rfl ?_)))))))
 obtain⟨v3,h4,H⟩:=zk H
 refine jP (u:=(.tup [(.one (.sl 512 0 v3.1.length)),(oB v3.2)])) (bs:=[(512,(.data 2 (List.map zd v3.1) true none))]) eC Cl.fn (zfb h4) (Ec rfl (Ec eZ (Ec eC En))) (Vc Vp (Vc (VD.agg rfl) (Vc Vp Vn))) (by simp[js,jX,qG,jw,qI]) rfl (fC (nR rfl) rfl (fC (nR rfl) rfl fN)) (XR (v:=(.one (.sl 512 0 v3.1.length))) eZ rfl (XR (v:=(oB v3.2)) rfl rfl (za rfl (za rfl (xQ (AW.ret ?_))))))
 cases H
 exact qL (RL.cons (RV.tmp rfl) (VO.sl bZ lm (zy fun _=>rfl)) (RL.cons (RV.tmp eZ) (VO.flat rfl) RL.nil)) (by decide)
end Go.AW
