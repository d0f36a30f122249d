/- That functions of the program compute what the plain functions say. Conditions: each theorem's own. -/
import Derived.Test.YtpabbbmfcgnhdaaGreatMShardThaw
import Derived.Test.YtpabbbmfcgnhdaaGreatGShardThaw
import Derived.Test.YtpabbbmfcgnhdaaGreatSShardThaw
import Derived.Test.YtpabbbmfcgnhdaaGreatYt
import Derived.KernelRfl
import Derived.Test.YtpabbbmfcgnhdaaGreatDShardThawa
import Derived.Test.YtpabbbmfcgnhdaaGreatDShardThawb
set_option linter.unusedVariables false
set_option linter.unusedSimpArgs false
set_option maxRecDepth 100000
namespace Go.AW
open Go.Proofs
theorem zdn{a1:(List zK)}{a2:Int}{a3:ze}{a4:Int}{r:Bool}(H:ZV a1 a2 a3 a4=some r):Fn Tryz.prog 302 (lent [(.sl 4 (List.map zp a1)),(.int .i64 a2),(.agg (zd a3)),(.int .i64 a4)]) true [(.bool r)]:=by
 refine zEN (fle rfl) ?_
 rw[zx]
 refine AW.weaken (zg [] (kv 0 (.one (.d (.sl 4 (List.map zp a1)))) rfl rfl (kv 1 (oI a2) rfl rfl (kv 2 (.agg [(dI a3.Lo),(dI a3.Hi)]) rfl rfl (kv 3 (oI a4) rfl rfl SL.nil)))) BL.nil BK.nil) ?_
 unfold ZV at H
 unfold zBf
 refine aV (jh (n:=320) (m:=1) (cs:=[(dI a2)]) rfl rfl rfl rfl nZ (jh (n:=384) (m:=2) (cs:=[(dI a3.Lo),(dI a3.Hi)]) rfl rfl rfl rfl (nR rfl) (jh (n:=448) (m:=1) (cs:=[(dI a4)]) rfl rfl rfl rfl (nR rfl) (za eC (xQ (aV (za rfl ?_)))))))
 obtain⟨v5,h6,H⟩:=zk H
 refine zD (u:=(oB v5)) eC Cl.fn (zbb h6) (Ec eZ En) (Vc Vp Vn) rfl (za eZ ?_)
 rcases zC H with⟨h7,H⟩|⟨h7,H⟩
 ·refine gDo eZ h7 (zN (es:=[(dI a3.Lo),(dI a3.Hi)]) rfl (bR rfl) rfl (gDo rfl h7 ?_))
  obtain⟨v8,h9,H⟩:=zk H
  refine zD (u:=(oB v8)) eC Cl.fn (J6 h9) (Ec eZ En) (Vc (VD.agg rfl) Vn) rfl (zB rfl h7 eZ (za eZ ?_))
  rcases zC H with⟨h10,H⟩|⟨h10,H⟩
  ·refine gDo eZ h10 (zl (q:=0) (c:=(dI a4)) rfl bZ rfl rfl (gDo rfl h10 ?_))
   obtain⟨v11,h12,H⟩:=zk H
   refine zD (u:=(oB v11)) eC Cl.fn (zbN h12) (Ec eZ En) (Vc Vp Vn) rfl (zB rfl h10 eZ (za eZ ?_))
   rcases zC H with⟨h13,H⟩|⟨h13,H⟩
   ·refine gDo eZ h13 (za rfl (gDo rfl h13 (zcj (ps:=[(.nm 320 0 0),(.nm 448 0 0),(.nm 384 0 0)]) (Ec rfl (Ec rfl (Ec rfl En))) (gDo rfl h13 ?_))))
    obtain⟨v14,h15,H⟩:=zk H
    refine zD (u:=(oB v14)) eC Cl.fn (Jr h15) (Ec rfl (Ec eZ En)) (Vc Vp (Vc (VD.fn (PDs.cons (QO (bR rfl) (CDs.plain CDs.nil)) (PDs.cons (QO bZ (CDs.plain CDs.nil)) (PDs.cons (QO (bR rfl) (CDs.plain (CDs.plain CDs.nil))) PDs.nil)))) Vn)) rfl (zB rfl h13 eZ (za eZ (xQ (AW.weaken (zg [448,384,320] (kr 8 rfl rfl SL.nil) (blR rfl) BK.nil) (AW.ret ?_)))))
    cases H
    exact eE rfl rfl
   ·refine zb eZ (nt h13) rfl (zb rfl (nt h13) rfl (zb rfl (nt h13) rfl (zJ rfl (nt h13) eC (za eZ (xQ (AW.weaken (zg [448,384,320] (kr 8 rfl rfl SL.nil) (blR rfl) BK.nil) (AW.ret ?_)))))))
    cases H
    exact eE rfl rfl
  ·refine zb eZ (nt h10) rfl (zb rfl (nt h10) rfl (zJ rfl (nt h10) eC (za eZ (zb eZ rfl rfl (zb rfl rfl rfl (zb rfl rfl rfl (zJ rfl rfl eC (za eZ (xQ (AW.weaken (zg [448,384,320] (kr 8 rfl rfl SL.nil) (blR rfl) BK.nil) (AW.ret ?_)))))))))))
   cases H
   exact eE rfl rfl
 ·refine zb eZ (nt h7) rfl (zb rfl (nt h7) rfl (zJ rfl (nt h7) eC (za eZ (zb eZ rfl rfl (zb rfl rfl rfl (zJ rfl rfl eC (za eZ (zb eZ rfl rfl (zb rfl rfl rfl (zb rfl rfl rfl (zJ rfl rfl eC (za eZ (xQ (AW.weaken (zg [448,384,320] (kr 8 rfl rfl SL.nil) (blR rfl) BK.nil) (AW.ret ?_)))))))))))))))
  cases H
  exact eE rfl rfl
theorem zc3{a1:zu}{a2:zn}{a3:zL}{r:Bool}(H:ZZ a1 a2 a3=some r):Fn Tryz.prog 301 (lent [(.agg (zj a1)),(.ptr (zR a2)),(.ptr (zA a3))]) true [(.bool r)]:=by
 refine f301 (fle rfl) ?_
 rw[zx]
 refine AW.weaken (zg [] (kv 0 (.agg [(dI a1.Key),(dI a1.Value)]) rfl rfl (SL.cons (v:=(.one (.ptr (.bd (zR a2) 0)))) (eS rfl eZ) rfl (VWk.one CWk.ptr) (SL.cons (v:=(.one (.ptr (.bd (zA a3) 0)))) (eS rfl (eS rfl eZ)) rfl (VWk.one CWk.ptr) SL.nil))) BL.nil BK.nil) ?_
 unfold ZZ at H
 unfold zDh
 refine aV (jh (n:=192) (m:=2) (cs:=[(dI a1.Key),(dI a1.Value)]) rfl eZ rfl rfl nZ (za eC (xQ (aS (AW.regd (z6 (m:=4) rfl rfl (zY (e:=(.sl 4 (List.map zp a2.Locks))) eZ rfl (z6 (m:=0) rfl rfl (zY (e:=(.int .i64 a3.Tx)) eZ rfl (zf (m:=0) rfl rfl (zl (q:=0) (c:=(dI a1.Key)) eZ bZ rfl rfl ?_)))))))))))
 obtain⟨v4,h5,H⟩:=zk H
 refine zD (u:=(.agg [(dI v4.Lo),(dI v4.Hi)])) eC Cl.fn (zeZ h5) (Ec eZ En) (Vc Vp Vn) rfl ?_
 obtain⟨v6,h7,H⟩:=zk H
 refine zD (u:=(oB v6)) eC Cl.fn (zdn h7) (Ec rfl (Ec rfl (Ec eZ (Ec eC En)))) (Vc Vp (Vc Vp (Vc (VD.agg rfl) (Vc Vp Vn)))) rfl (qG eZ (za eZ (xQ (AW.ret ?_))))
 cases H
 exact eE rfl rfl
theorem Y1{a1:(List zu)}{a2:zn}{a3:zL}{r:Int}(H:jf a1 a2 a3=some r):Fn Tryz.prog 347 (lent [(.sl 2 (List.map zj a1)),(.fn 301 [.ptr (zR a2),.ptr (zA a3)])]) true [(.int .i64 r)]:=by
 refine zEG (fle rfl) ?_
 rw[zx]
 refine AW.weaken (zg [] (kv 0 (.one (.d (.sl 2 (List.map zj a1)))) rfl rfl (SL.cons (v:=(.one (.fn 301 [(.bd (zR a2) 0),(.bd (zA a3) 0)]))) (eS rfl eZ) rfl (VWk.one (CWk.fn (css:=[zR a2,zA a3]))) SL.nil)) BL.nil BK.nil) ?_
 unfold jf at H
 unfold zA0
 refine aV (za eC (xQ (zF (fun t4:Unit=>jN t4=some r) (fun t4=>mk [] [] noG) ?_ ?_)))
 ·intro t4 H
  unfold jN at H
  refine aV (za eC (xQ (AW.ret ?_)))
  cases H
  exact eE rfl rfl
 ·refine aV (za rfl (zX eZ (n:=a1.length) lm (za eC (xQ (AW.block (AW.iter (fun s6:Int=>mk [(0,(.one (.d (.sl 2 (List.map zj a1))))),(1,(.one (.fn 301 [(.bd (zR a2) 0),(.bd (zA a3) 0)]))),(7,(oI (a1.length:Int))),(8,(oI s6))] [] noG) H (zg [] (sR rfl rfl) BL.nil BK.nil) ?_))))))
  intro kb7 s6 H
  unfold qW at H
  refine aV (qh rfl rfl (xQ (aS ?_)))
  rcases zC H with⟨h8,H⟩|⟨h8,H⟩
  ·refine zi eZ (dT h8) (AW.skip (TQ.qn (aS (AW.block (aV (za rfl (za eZ (xQ (aV (za rfl (za rfl (za rfl ?_))))))))))))
   obtain⟨v9,h10,H⟩:=zk H
   refine qy rfl eZ h10 (qf (es:=[(dI v9.Key),(dI v9.Value)]) eZ rfl ?_)
   obtain⟨v11,h12,H⟩:=zk H
   refine zD (u:=(oB v11)) rfl Cl.fn (zc3 h12) (Ec eZ En) (Vc (VD.agg rfl) (Vc jG (Vc jG Vn))) rfl (xQ ?_)
   rcases zC H with⟨h13,H⟩|⟨h13,H⟩
   ·refine zi eZ h13 (aV (za rfl (za eZ (xQ (AW.ret (BQ.qr (TQ.qr (TQ.qr (BQ.qr (TQ.qr ?_))))))))))
    cases H
    exact eE rfl rfl
   ·exact zh eZ (nt h13) (AW.skip (BQ.qn (TQ.qn (aR (qj rfl eC (za eZ (zm (TQ.qn ⟨(IntKind.wrap .i64 (s6+1)),H,(zg [] (sR rfl rfl) BL.nil BK.nil)⟩))))))))
  ·exact zh eZ (dF h8) (AW.exit (TQ.qe (TQ.qe (BQ.qe (TQ.qn ⟨(),H,(zg [] SL.nil BL.nil BK.nil)⟩)))))
theorem Yc{a1:(List zu)}{a2:zn}{a3:zL}{r:Bool}(H:qq a1 a2 a3=some r):Fn Tryz.prog 300 (lent [(.sl 2 (List.map zj a1)),(.fn 301 [.ptr (zR a2),.ptr (zA a3)])]) true [(.bool r)]:=by
 refine f300 (fle rfl) ?_
 rw[zx]
 refine AW.weaken (zg [] (kv 0 (.one (.d (.sl 2 (List.map zj a1)))) rfl rfl (SL.cons (v:=(.one (.fn 301 [(.bd (zR a2) 0),(.bd (zA a3) 0)]))) (eS rfl eZ) rfl (VWk.one (CWk.fn (css:=[zR a2,zA a3]))) SL.nil)) BL.nil BK.nil) ?_
 unfold qq at H
 unfold zDZ
 refine aV (za eC (xQ (aV (za rfl (za rfl ?_)))))
 obtain⟨v4,h5,H⟩:=zk H
 refine zD (u:=(oI v4)) eC Cl.fn (Y1 h5) (Ec rfl (Ec eZ En)) (Vc Vp (Vc (VD.fn (PDs.cons jG (PDs.cons jG PDs.nil))) Vn)) rfl (Xr eZ eC (za eZ (xQ (AW.ret ?_))))
 cases H
 exact eE rfl rfl
theorem zcw{a1:(List zL)}{r:(List Int)}(H:Yp a1=some r):Fn Tryz.prog 126 (lent [(.sl 2 (List.map zA a1))]) true [(.sl 1 (List.map zt r))]:=by
 refine zFv (fle rfl) ?_
 rw[zx]
 refine AW.weaken (t:=mk [(0,(.one (.d (.sl 2 (List.map zA a1)))))] [] (lk [])) (zg [] (sR rfl rfl) BL.nil BK.nil) ?_
 unfold Yp at H
 unfold zyf
 refine aV (za eC (xQ (aV (yw (m:=384) rfl nZ (za eZ (xQ (zF (fun t2:(List Int)=>Xp t2=some r) (fun t2=>mk [(3,(.one (.sl 320128 0 t2.length)))] [(320128,(.data 1 (List.map zt t2) true none))] (lk [])) ?_ ?_)))))))
 ·intro t2 H
  unfold Xp at H
  refine aV (za eZ (za eZ (xQ (AW.ret ?_))))
  obtain rfl:=(Option.some.inj H)
  exact qI (RL.cons (RV.tmp eZ) (VO.sl bZ lm (zy fun _=>rfl)) RL.nil) (by decide)
 ·refine aV (za rfl (zX eZ (n:=a1.length) lm (za eC (xQ (AW.block (AW.iter (fun s4:((List Int)×Int)=>mk [(3,(.one (.sl 320192 0 s4.1.length))),(7,(.one (.d (.sl 2 (List.map zA a1))))),(8,(oI (a1.length:Int))),(9,(oI s4.2))] [(320192,(.data 1 (List.map zt s4.1) true none))] (lk [])) H ((zM [] (SL.cons eZ rfl (VWk.one (CWk.len (by first|(simp;done)|(simp;omega)|omega|(simp only[List.length_map];omega)))) (sR rfl rfl)) (blR rfl) (bkR rfl rfl rfl) GK.nil).trans (zkS 320192 1 3 true rfl nZ)) ?_))))))
  intro kb5 s4 H
  unfold Xj at H
  refine aV (qh rfl rfl (xQ (aS ?_)))
  rcases zC H with⟨h6,H⟩|⟨h6,H⟩
  ·refine zi eZ (dT h6) (AW.skip (TQ.qn (aS (AW.block (aS (zW (zw ?_)))))))
   obtain⟨v7,h8,H⟩:=zk H
   refine qy rfl rfl h8 (zm (zw (qf (es:=(jE v7)) eZ rfl (zm (zw (Zl (n:=320) (m:=2) rfl rfl (nR rfl) (zm (zw (zP (es:=(jE v7)) eZ rfl rfl rfl bZ rfl (zm (qc (xQ (aR (za rfl (zf (m:=0) rfl rfl (zl (q:=0) (c:=(dI v7.Tx)) eZ bZ rfl rfl (zbt (m:=1024) (q:=1) (cs:=[(dI v7.Tx)]) rfl (jO eZ kF) rfl (List.cons_ne_nil _ _) (by simp) (nR rfl) ?_)))))))))))))))))
   obtain⟨h9,H⟩:=qa H
   exact zij (f:=zt) (xs:=s4.1) (ys:=[v7.Tx]) (q:=(s4.1++([v7.Tx])).length) rfl eZ (bR rfl) rfl (El.one (f:=zt) (t:=v7.Tx) (es:=[(.int .i64 v7.Tx)]) bZ rfl rfl rfl) rfl h9 (by decide) (by decide) (erL.cons (v':=(.one (.sl 1024 0 1))) rfl (erL.cons (v':=(oI v7.Tx)) rfl (erL.cons (v':=(.one (.ptr (.nm 320 0 0)))) rfl (erL.cons (v':=(.one .any)) rfl (erL.cons (v':=(.one (.ptr (.nm 320 0 0)))) rfl (erL.cons (v':=(.agg (jE v7))) rfl (erL.cons (v':=(.one (.ptr (.bd (zA v7) 0)))) rfl (erL.cons (v':=(oB (decide (s4.2 < (a1.length:Int))))) rfl (erL.cons (v':=(.one .any)) rfl (erL.cons (v':=(.one (.d (.sl 2 (List.map zA a1))))) rfl (erL.cons (v':=(oI (a1.length:Int))) rfl (erL.cons (v':=(oI s4.2)) rfl erL.nil)))))))))))) (erH.cons (v':=(.vars 1 [(dI v7.Tx)])) rfl rfl (erH.cons (v':=(.vars 2 (jE v7))) rfl rfl (erH.cons (v':=(.vars 2 [(dI 0),.zs])) rfl rfl (erH.drop rfl erH.nil)))) GK.nil (za eZ (zm (BQ.qn (TQ.qn (aR (qj rfl eC (za eZ (zm (TQ.qn ⟨((s4.1++([v7.Tx])),(IntKind.wrap .i64 (s4.2+1))),H,(zM [1024,320] (sR rfl rfl) (blR rfl) (bkR rfl rfl rfl) GK.nil)⟩)))))))))
  ·exact zh eZ (dF h6) (AW.exit (TQ.qe (TQ.qe (BQ.qe (TQ.qn ⟨s4.1,H,((zM [] (sR rfl rfl) (blR rfl) (bkR rfl rfl rfl) GK.nil).trans (zai 320192 320128 rfl rfl (nR rfl) GR.nil))⟩)))))
theorem kV{a1:(List Int)}{r:Bool}(H:yp a1=some r):Fn Tryz.prog 230 (lent [(.sl 1 (List.map zt a1))]) true [(.bool r)]:=by
 refine zES (fle rfl) ?_
 rw[zx]
 refine AW.weaken (zg [] (kv 0 (.one (.d (.sl 1 (List.map zt a1)))) rfl rfl SL.nil) BL.nil BK.nil) ?_
 unfold yp at H
 unfold zBs
 refine aV (za eC (xQ (zF (fun t2:Unit=>kc t2=some r) (fun t2=>mk [] [] noG) ?_ ?_)))
 ·intro t2 H
  unfold kc at H
  refine aV (za eC (xQ (AW.ret ?_)))
  cases H
  exact eE rfl rfl
 ·refine aV (za rfl (zX eZ (n:=a1.length) lm (za eC (xQ (AW.block (AW.iter (fun s4:Int=>mk [(0,(.one (.d (.sl 1 (List.map zt a1))))),(5,(.one (.d (.sl 1 (List.map zt a1))))),(6,(oI (a1.length:Int))),(7,(oI s4))] [] noG) H (zg [] (sR rfl rfl) BL.nil BK.nil) ?_))))))
  intro kb5 s4 H
  unfold Ji at H
  refine aV (qh rfl rfl (xQ (aS ?_)))
  rcases zC H with⟨h6,H⟩|⟨h6,H⟩
  ·refine zi eZ (dT h6) (AW.skip (TQ.qn (aS (AW.block (aV (za rfl ?_))))))
   obtain⟨v7,h8,H⟩:=zk H
   refine qy rfl rfl h8 (zY (e:=(.int .i64 v7)) eZ rfl (za rfl (za rfl (xQ (zF (fun t9:Bool=>(yI kb5 s4) t9=some r) (fun t9=>mk [(0,(.one (.d (.sl 1 (List.map zt a1))))),(5,(.one (.d (.sl 1 (List.map zt a1))))),(6,(oI (a1.length:Int))),(7,(oI s4)),(27,(oB t9))] [] noG) ?_ ?_)))))
   ·intro t9 H
    unfold yI at H
    rcases zC H with⟨h11,H⟩|⟨h11,H⟩
    ·refine zi rfl h11 (aV (za eC (xQ (AW.ret (BQ.qr (TQ.qr (TQ.qr (BQ.qr (TQ.qr ?_)))))))))
     cases H
     exact eE rfl rfl
    ·exact zh rfl (nt h11) (AW.skip (BQ.qn (TQ.qn (aR (qj rfl eC (za eZ (zm (TQ.qn ⟨(IntKind.wrap .i64 (s4+1)),H,(zg [] (sR rfl rfl) BL.nil BK.nil)⟩))))))))
   ·refine aR (za eZ ?_)
    obtain⟨v12,h13,H⟩:=zk H
    refine zD (u:=(oB v12)) eC Cl.fn (zdK h13) (Ec eZ En) (Vc Vp Vn) rfl (qG eZ (za eZ ?_))
    rcases zC H with⟨h14,H⟩|⟨h14,H⟩
    ·refine gDo eZ (cN h14) (za rfl (gDo rfl (cN h14) (KN eZ eC (gDo rfl (cN h14) (za eZ ?_)))))
     rcases zC H with⟨h15,H⟩|⟨h15,H⟩
     ·refine gDo eZ (dT h15) (za rfl (gDo rfl (dT h15) (za rfl (gDo rfl (dT h15) (zac eZ eC (gDo rfl (dT h15) ?_))))))
      obtain⟨v16,h17,H⟩:=zk H
      exact qy rfl eZ h17 (gDo rfl (dT h15) (zY (e:=(.int .i64 v16)) eZ rfl (gDo rfl (dT h15) (za rfl (gDo rfl (dT h15) (Xr rfl eZ (gDo rfl (cN h14) (zB rfl (dT h15) eZ (zJ rfl (cN h14) eZ (zm (TQ.qn ⟨(decide (v7≤v16)),H,(zg [] (sR rfl rfl) BL.nil BK.nil)⟩)))))))))))
     ·exact zb eZ (dF h15) rfl (zb rfl (dF h15) rfl (zb rfl (dF h15) rfl (zb rfl (dF h15) rfl (zb rfl (dF h15) rfl (zb rfl (dF h15) rfl (zb rfl (dF h15) rfl (gDo rfl (cN h14) (zJ rfl (dF h15) eC (zJ rfl (cN h14) eZ (zm (TQ.qn ⟨false,H,(zg [] (sR rfl rfl) BL.nil BK.nil)⟩)))))))))))
    ·exact zb eZ (cN (nt h14)) rfl (zb rfl (cN (nt h14)) rfl (zb rfl (cN (nt h14)) rfl (zG eZ rfl (zG rfl rfl (zG rfl rfl (zG rfl rfl (zG rfl rfl (zG rfl rfl (zG rfl rfl (zb rfl (cN (nt h14)) rfl (zB rfl (cN (nt h14)) eC (zm (TQ.qn ⟨true,H,(zg [] (sR rfl rfl) BL.nil BK.nil)⟩)))))))))))))
  ·exact zh eZ (dF h6) (AW.exit (TQ.qe (TQ.qe (BQ.qe (TQ.qn ⟨(),H,(zg [] SL.nil BL.nil BK.nil)⟩)))))
theorem zfc{a1:zn}{r:Bool}(H:Jx a1=some r):Fn Tryz.prog 229 (lent [(.agg (zR a1))]) true [(.bool r)]:=by
 refine zFu (fle rfl) ?_
 rw[zx]
 refine AW.weaken (t:=mk [(0,(.agg (zE a1)))] [] (lk [])) (zg [] (sR rfl rfl) BL.nil BK.nil) ?_
 unfold Jx at H
 unfold zDH
 refine aV (jh (n:=64) (m:=9) (cs:=(zE a1)) rfl eZ rfl rfl nZ (za eC (xQ (zF (fun t2:Unit=>(xG a1) t2=some r) (fun t2=>mk [(1,(.one (.ptr (.nm 64 0 0))))] [(64,(.vars 9 (zE a1)))] (lk [])) ?_ ?_))))
 ·intro t2 H
  unfold xG at H
  refine aV (zf (m:=5) eZ rfl (zl (q:=5) (c:=(.d (.sl 2 (List.map zA a1.Helds)))) eZ bZ rfl rfl ?_))
  obtain⟨v4,h5,H⟩:=zk H
  refine zD (u:=(.one (.d (.sl 1 (List.map zt v4))))) eC Cl.fn (zcw h5) (Ec eZ En) (Vc Vp Vn) rfl ?_
  obtain⟨v6,h7,H⟩:=zk H
  refine zD (u:=(oB v6)) eC Cl.fn (kV h7) (Ec eZ En) (Vc Vp Vn) rfl (za eZ (xQ (AW.ret ?_)))
  cases H
  exact eE rfl rfl
 ·refine aV (zf (m:=5) rfl rfl (zl (q:=5) (c:=(.d (.sl 2 (List.map zA a1.Helds)))) eZ bZ rfl rfl (zX eZ (n:=a1.Helds.length) lm (za eC (xQ (AW.block (AW.iter (fun s8:Int=>mk [(1,(.one (.ptr (.nm 64 0 0)))),(6,(.one (.d (.sl 2 (List.map zA a1.Helds))))),(7,(oI (a1.Helds.length:Int))),(8,(oI s8))] [(64,(.vars 9 (zE a1)))] (lk [])) H (zM [] (sR rfl rfl) (blR rfl) (bkR rfl rfl rfl) GK.nil) ?_)))))))
  intro kb9 s8 H
  unfold xI at H
  refine aV (qh rfl rfl (xQ (aS ?_)))
  rcases zC H with⟨h10,H⟩|⟨h10,H⟩
  ·refine zi eZ (dT h10) (AW.skip (TQ.qn (aS (AW.block (aS (zW (zw ?_)))))))
   obtain⟨v11,h12,H⟩:=zk H
   refine qy rfl rfl h12 (zm (zw (qf (es:=(jE v11)) eZ rfl (zm (zw (Zl (n:=256) (m:=2) rfl rfl (nR rfl) (zm (zw (zP (es:=(jE v11)) eZ rfl rfl rfl bZ rfl (zm (qc (xQ (zF (fun t13:Bool=>(Qk kb9 s8) t13=some r) (fun t13=>mk [(1,(.one (.ptr (.nm 64 0 0)))),(6,(.one (.d (.sl 2 (List.map zA a1.Helds))))),(7,(oI (a1.Helds.length:Int))),(8,(oI s8)),(21,(oB t13))] [(64,(.vars 9 (zE a1)))] (lk [])) ?_ ?_)))))))))))))
   ·intro t13 H
    unfold Qk at H
    rcases zC H with⟨h15,H⟩|⟨h15,H⟩
    ·refine zi rfl h15 (aV (za eC (xQ (AW.ret (BQ.qr (TQ.qr (TQ.qr (BQ.qr (TQ.qr ?_)))))))))
     cases H
     exact eE rfl rfl
    ·exact zh rfl (nt h15) (AW.skip (BQ.qn (TQ.qn (aR (qj rfl eC (za eZ (zm (TQ.qn ⟨(IntKind.wrap .i64 (s8+1)),H,(zM [] (sR rfl rfl) (blR rfl) (bkR rfl rfl rfl) GK.nil)⟩))))))))
   ·refine aR (zf (m:=1) eZ rfl (zl (q:=1) (c:=(.d (.sl 2 (List.map zj v11.Writes)))) eZ bZ rfl rfl ?_))
    obtain⟨v16,h17,H⟩:=zk H
    refine zD (u:=(oB v16)) eC Cl.fn (zar h17) (Ec eZ En) (Vc Vp Vn) rfl (qG eZ (za eZ ?_))
    rcases zC H with⟨h18,H⟩|⟨h18,H⟩
    ·refine gDo eZ (cN h18) (zf (m:=1) rfl rfl (gDo rfl (cN h18) (zl (q:=1) (c:=(.d (.sl 2 (List.map zj v11.Writes)))) eZ bZ rfl rfl (gDo rfl (cN h18) (zcj (ps:=[(.nm 64 0 0),(.nm 256 0 0)]) (Ec rfl (Ec rfl En)) (gDo rfl (cN h18) ?_))))))
     obtain⟨v19,h20,H⟩:=zk H
     exact zD (u:=(oB v19)) eC Cl.fn (Yc h20) (Ec rfl (Ec eZ En)) (Vc Vp (Vc (VD.fn (PDs.cons (QO (bR rfl) (CDs.plain (CDs.plain (CDs.plain (CDs.plain (CDs.plain (CDs.plain (CDs.plain (CDs.plain (CDs.plain CDs.nil)))))))))) (PDs.cons (QO bZ (CDs.plain (CDs.plain CDs.nil))) PDs.nil))) Vn)) rfl (zJ rfl (cN h18) eZ (zm (TQ.qn ⟨v19,H,(zM [256] (sR rfl rfl) (blR rfl) (bkR rfl rfl rfl) GK.nil)⟩)))
    ·exact zb eZ (cN (nt h18)) rfl (zb rfl (cN (nt h18)) rfl (zb rfl (cN (nt h18)) rfl (zb rfl (cN (nt h18)) rfl (zB rfl (cN (nt h18)) eC (zm (TQ.qn ⟨true,H,(zM [256] (sR rfl rfl) (blR rfl) (bkR rfl rfl rfl) GK.nil)⟩))))))
  ·exact zh eZ (dF h10) (AW.exit (TQ.qe (TQ.qe (BQ.qe (TQ.qn ⟨(),H,(zM [] (sR rfl rfl) (blR rfl) (bkR rfl rfl rfl) GK.nil)⟩)))))
theorem kf{a1:(List ze)}{a2:ze}{r:Bool}(H:yx a1 a2=some r):Fn Tryz.prog 93 (lent [(.sl 2 (List.map zd a1)),(.agg (zd a2))]) true [(.bool r)]:=by
 refine f93 (fle rfl) ?_
 rw[zx]
 refine AW.weaken (zg [] (kv 0 (.one (.d (.sl 2 (List.map zd a1)))) rfl rfl (kv 1 (.agg [(dI a2.Lo),(dI a2.Hi)]) rfl rfl SL.nil)) BL.nil BK.nil) ?_
 unfold yx at H
 unfold i93
 refine aV (jh (n:=192) (m:=2) (cs:=[(dI a2.Lo),(dI a2.Hi)]) rfl rfl rfl rfl nZ (za eC (xQ (aV (zf (m:=0) rfl rfl (zl (q:=0) (c:=(dI a2.Lo)) eZ bZ rfl rfl (za eZ (xQ (zF (fun t3:Int=>(xl a2) t3=some r) (fun t3=>mk [(3,(.one (.ptr (.nm 192 0 0)))),(5,(oI t3))] [(192,(.vars 2 [(dI a2.Lo),(dI a2.Hi)]))] noG) ?_ ?_)))))))))
 ·intro t3 H
  unfold xl at H
  refine aV (za rfl (zf (m:=1) rfl rfl (zl (q:=1) (c:=(dI a2.Hi)) eZ bZ rfl rfl (Xr rfl eZ (za eZ (xQ (AW.ret ?_)))))))
  cases H
  exact eE rfl rfl
 ·refine aV (za rfl (zX eZ (n:=a1.length) lm (za eC (xQ (AW.block (AW.iter (fun s5:(Int×Int)=>mk [(3,(.one (.ptr (.nm 192 0 0)))),(5,(oI s5.1)),(10,(.one (.d (.sl 2 (List.map zd a1))))),(11,(oI (a1.length:Int))),(12,(oI s5.2))] [(192,(.vars 2 [(dI a2.Lo),(dI a2.Hi)]))] noG) H (zg [] (sR rfl rfl) (blR rfl) (bkR rfl rfl rfl)) ?_))))))
  intro kb6 s5 H
  unfold xB at H
  refine aV (qh rfl rfl (xQ (aS ?_)))
  rcases zC H with⟨h7,H⟩|⟨h7,H⟩
  ·refine zi eZ (dT h7) (AW.skip (TQ.qn (aS (AW.block (aV ?_)))))
   obtain⟨v8,h9,H⟩:=zk H
   refine qy rfl rfl h9 (qf (es:=[(dI v8.Lo),(dI v8.Hi)]) eZ rfl (Zl (n:=448) (m:=2) rfl rfl (nR rfl) (zP (es:=[(dI v8.Lo),(dI v8.Hi)]) eZ rfl rfl rfl bZ rfl (xQ (zF (fun t10:Bool=>(Z8 kb6 v8 s5) t10=some r) (fun t10=>mk [(3,(.one (.ptr (.nm 192 0 0)))),(5,(oI s5.1)),(7,(.one (.ptr (.nm 448 0 0)))),(10,(.one (.d (.sl 2 (List.map zd a1))))),(11,(oI (a1.length:Int))),(12,(oI s5.2)),(25,(oB t10))] [(192,(.vars 2 [(dI a2.Lo),(dI a2.Hi)])),(448,(.vars 2 [(dI v8.Lo),(dI v8.Hi)]))] noG) ?_ ?_)))))
   ·intro t10 H
    unfold Z8 at H
    rcases zC H with⟨h12,H⟩|⟨h12,H⟩
    ·exact zi rfl h12 (aR (zf (m:=1) rfl rfl (zl (q:=1) (c:=(dI v8.Hi)) eZ (bR rfl) rfl rfl (za eZ (zm (BQ.qn (TQ.qn (aR (qj rfl eC (za eZ (zm (TQ.qn ⟨(v8.Hi,(IntKind.wrap .i64 (s5.2+1))),H,(zg [448] (sR rfl rfl) (blR rfl) (bkR rfl rfl rfl))⟩))))))))))))
    ·exact zh rfl (nt h12) (AW.skip (BQ.qn (TQ.qn (aR (qj rfl eC (za eZ (zm (TQ.qn ⟨(s5.1,(IntKind.wrap .i64 (s5.2+1))),H,(zg [448] (sR rfl rfl) (blR rfl) (bkR rfl rfl rfl))⟩))))))))
   ·refine aR (zf (m:=0) eZ rfl (zl (q:=0) (c:=(dI v8.Lo)) eZ bZ rfl rfl (za rfl (zay rfl eZ (za eZ ?_)))))
    rcases zC H with⟨h13,H⟩|⟨h13,H⟩
    ·exact gDo eZ (dT h13) (za rfl (gDo rfl (dT h13) (zf (m:=1) rfl rfl (gDo rfl (dT h13) (zl (q:=1) (c:=(dI v8.Hi)) eZ bZ rfl rfl (gDo rfl (dT h13) (qh rfl eZ (zB rfl (dT h13) eZ (zm (TQ.qn ⟨(decide (s5.1 < v8.Hi)),H,(zg [] (sR rfl rfl) (blR rfl) (bkR rfl rfl rfl))⟩))))))))))
    ·exact zb eZ (dF h13) rfl (zb rfl (dF h13) rfl (zb rfl (dF h13) rfl (zb rfl (dF h13) rfl (zJ rfl (dF h13) eC (zm (TQ.qn ⟨false,H,(zg [] (sR rfl rfl) (blR rfl) (bkR rfl rfl rfl))⟩))))))
  ·exact zh eZ (dF h7) (AW.exit (TQ.qe (TQ.qe (BQ.qe (TQ.qn ⟨s5.1,H,(zg [] (sR rfl rfl) (blR rfl) (bkR rfl rfl rfl))⟩)))))
theorem zc9{a1:ze}{a2:zn}{r:Bool}(H:ZX a1 a2=some r):Fn Tryz.prog 231 (lent [(.agg (zd a1)),(.ptr (zR a2))]) true [(.bool r)]:=by
 refine zFf (fle rfl) ?_
 rw[zx]
 refine AW.weaken (zg [] (kv 0 (.agg [(dI a1.Lo),(dI a1.Hi)]) rfl rfl (SL.cons (v:=(.one (.ptr (.bd (zR a2) 0)))) (eS rfl eZ) rfl (VWk.one CWk.ptr) SL.nil)) BL.nil BK.nil) ?_
 unfold ZX at H
 unfold zCz
 refine aV (jh (n:=128) (m:=2) (cs:=[(dI a1.Lo),(dI a1.Hi)]) rfl eZ rfl rfl nZ (za eC (xQ (aV (z6 (m:=1) rfl rfl (zY (e:=(.sl 2 (List.map zd a2.Own))) eZ rfl (zN (es:=[(dI a1.Lo),(dI a1.Hi)]) rfl bZ rfl ?_)))))))
 obtain⟨v3,h4,H⟩:=zk H
 refine zD (u:=(oB v3)) eC Cl.fn (kf h4) (Ec rfl (Ec eZ En)) (Vc Vp (Vc (VD.agg rfl) Vn)) rfl (qG eZ (za eZ (xQ (AW.ret ?_))))
 cases H
 exact eE rfl rfl
theorem xc{a1:(List ze)}{a2:zn}{r:Int}(H:jd a1 a2=some r):Fn Tryz.prog 284 (lent [(.sl 2 (List.map zd a1)),(.fn 231 [.ptr (zR a2)])]) true [(.int .i64 r)]:=by
 refine zp2 (fle rfl) ?_
 rw[zx]
 refine AW.weaken (zg [] (kv 0 (.one (.d (.sl 2 (List.map zd a1)))) rfl rfl (SL.cons (v:=(.one (.fn 231 [(.bd (zR a2) 0)]))) (eS rfl eZ) rfl (VWk.one (CWk.fn (css:=[zR a2]))) SL.nil)) BL.nil BK.nil) ?_
 unfold jd at H
 unfold zmn
 refine aV (za eC (xQ (zF (fun t3:Unit=>jL t3=some r) (fun t3=>mk [] [] noG) ?_ ?_)))
 ·intro t3 H
  unfold jL at H
  refine aV (za eC (xQ (AW.ret ?_)))
  cases H
  exact eE rfl rfl
 ·refine aV (za rfl (zX eZ (n:=a1.length) lm (za eC (xQ (AW.block (AW.iter (fun s5:Int=>mk [(0,(.one (.d (.sl 2 (List.map zd a1))))),(1,(.one (.fn 231 [(.bd (zR a2) 0)]))),(7,(oI (a1.length:Int))),(8,(oI s5))] [] noG) H (zg [] (sR rfl rfl) BL.nil BK.nil) ?_))))))
  intro kb6 s5 H
  unfold qT at H
  refine aV (qh rfl rfl (xQ (aS ?_)))
  rcases zC H with⟨h7,H⟩|⟨h7,H⟩
  ·refine zi eZ (dT h7) (AW.skip (TQ.qn (aS (AW.block (aV (za rfl (za eZ (xQ (aV (za rfl (za rfl (za rfl ?_))))))))))))
   obtain⟨v8,h9,H⟩:=zk H
   refine qy rfl eZ h9 (qf (es:=[(dI v8.Lo),(dI v8.Hi)]) eZ rfl ?_)
   obtain⟨v10,h11,H⟩:=zk H
   refine zD (u:=(oB v10)) rfl Cl.fn (zc9 h11) (Ec eZ En) (Vc (VD.agg rfl) (Vc jG Vn)) rfl (xQ ?_)
   rcases zC H with⟨h12,H⟩|⟨h12,H⟩
   ·refine zi eZ h12 (aV (za rfl (za eZ (xQ (AW.ret (BQ.qr (TQ.qr (TQ.qr (BQ.qr (TQ.qr ?_))))))))))
    cases H
    exact eE rfl rfl
   ·exact zh eZ (nt h12) (AW.skip (BQ.qn (TQ.qn (aR (qj rfl eC (za eZ (zm (TQ.qn ⟨(IntKind.wrap .i64 (s5+1)),H,(zg [] (sR rfl rfl) BL.nil BK.nil)⟩))))))))
  ·exact zh eZ (dF h7) (AW.exit (TQ.qe (TQ.qe (BQ.qe (TQ.qn ⟨(),H,(zg [] SL.nil BL.nil BK.nil)⟩)))))
theorem JB{a1:(List ze)}{a2:zn}{r:Bool}(H:qp a1 a2=some r):Fn Tryz.prog 201 (lent [(.sl 2 (List.map zd a1)),(.fn 231 [.ptr (zR a2)])]) true [(.bool r)]:=by
 refine zmY (fle rfl) ?_
 rw[zx]
 refine AW.weaken (zg [] (kv 0 (.one (.d (.sl 2 (List.map zd a1)))) rfl rfl (SL.cons (v:=(.one (.fn 231 [(.bd (zR a2) 0)]))) (eS rfl eZ) rfl (VWk.one (CWk.fn (css:=[zR a2]))) SL.nil)) BL.nil BK.nil) ?_
 unfold qp at H
 unfold zk6
 refine aV (za eC (xQ (aV (za rfl (za rfl ?_)))))
 obtain⟨v3,h4,H⟩:=zk H
 refine zD (u:=(oI v3)) eC Cl.fn (xc h4) (Ec rfl (Ec eZ En)) (Vc Vp (Vc (VD.fn (PDs.cons jG PDs.nil)) Vn)) rfl (Xr eZ eC (za eZ (xQ (AW.ret ?_))))
 cases H
 exact eE rfl rfl
theorem zc8{a1:zu}{a2:zn}{r:Bool}(H:Z6 a1 a2=some r):Fn Tryz.prog 233 (lent [(.agg (zj a1)),(.ptr (zR a2))]) true [(.bool r)]:=by
 refine zD4 (fle rfl) ?_
 rw[zx]
 refine AW.weaken (zg [] (kv 0 (.agg [(dI a1.Key),(dI a1.Value)]) rfl rfl (SL.cons (v:=(.one (.ptr (.bd (zR a2) 0)))) (eS rfl eZ) rfl (VWk.one CWk.ptr) SL.nil)) BL.nil BK.nil) ?_
 unfold Z6 at H
 unfold zyL
 refine aV (jh (n:=128) (m:=2) (cs:=[(dI a1.Key),(dI a1.Value)]) rfl eZ rfl rfl nZ (za eC (xQ (aS (AW.regd (z6 (m:=1) rfl rfl (zY (e:=(.sl 2 (List.map zd a2.Own))) eZ rfl (zf (m:=0) rfl rfl (zl (q:=0) (c:=(dI a1.Key)) eZ bZ rfl rfl ?_)))))))))
 obtain⟨v3,h4,H⟩:=zk H
 refine zD (u:=(.agg [(dI v3.Lo),(dI v3.Hi)])) eC Cl.fn (zeZ h4) (Ec eZ En) (Vc Vp Vn) rfl ?_
 obtain⟨v5,h6,H⟩:=zk H
 refine zD (u:=(oB v5)) eC Cl.fn (kf h6) (Ec rfl (Ec eZ En)) (Vc Vp (Vc (VD.agg rfl) Vn)) rfl (qG eZ (za eZ (xQ (AW.ret ?_))))
 cases H
 exact eE rfl rfl
theorem xO{a1:(List zu)}{a2:zn}{r:Int}(H:jl a1 a2=some r):Fn Tryz.prog 303 (lent [(.sl 2 (List.map zj a1)),(.fn 233 [.ptr (zR a2)])]) true [(.int .i64 r)]:=by
 refine zD9 (fle rfl) ?_
 rw[zx]
 refine AW.weaken (zg [] (kv 0 (.one (.d (.sl 2 (List.map zj a1)))) rfl rfl (SL.cons (v:=(.one (.fn 233 [(.bd (zR a2) 0)]))) (eS rfl eZ) rfl (VWk.one (CWk.fn (css:=[zR a2]))) SL.nil)) BL.nil BK.nil) ?_
 unfold jl at H
 unfold zz9
 refine aV (za eC (xQ (zF (fun t3:Unit=>jU t3=some r) (fun t3=>mk [] [] noG) ?_ ?_)))
 ·intro t3 H
  unfold jU at H
  refine aV (za eC (xQ (AW.ret ?_)))
  cases H
  exact eE rfl rfl
 ·refine aV (za rfl (zX eZ (n:=a1.length) lm (za eC (xQ (AW.block (AW.iter (fun s5:Int=>mk [(0,(.one (.d (.sl 2 (List.map zj a1))))),(1,(.one (.fn 233 [(.bd (zR a2) 0)]))),(7,(oI (a1.length:Int))),(8,(oI s5))] [] noG) H (zg [] (sR rfl rfl) BL.nil BK.nil) ?_))))))
  intro kb6 s5 H
  unfold jc at H
  refine aV (qh rfl rfl (xQ (aS ?_)))
  rcases zC H with⟨h7,H⟩|⟨h7,H⟩
  ·refine zi eZ (dT h7) (AW.skip (TQ.qn (aS (AW.block (aV (za rfl (za eZ (xQ (aV (za rfl (za rfl (za rfl ?_))))))))))))
   obtain⟨v8,h9,H⟩:=zk H
   refine qy rfl eZ h9 (qf (es:=[(dI v8.Key),(dI v8.Value)]) eZ rfl ?_)
   obtain⟨v10,h11,H⟩:=zk H
   refine zD (u:=(oB v10)) rfl Cl.fn (zc8 h11) (Ec eZ En) (Vc (VD.agg rfl) (Vc jG Vn)) rfl (xQ ?_)
   rcases zC H with⟨h12,H⟩|⟨h12,H⟩
   ·refine zi eZ h12 (aV (za rfl (za eZ (xQ (AW.ret (BQ.qr (TQ.qr (TQ.qr (BQ.qr (TQ.qr ?_))))))))))
    cases H
    exact eE rfl rfl
   ·exact zh eZ (nt h12) (AW.skip (BQ.qn (TQ.qn (aR (qj rfl eC (za eZ (zm (TQ.qn ⟨(IntKind.wrap .i64 (s5+1)),H,(zg [] (sR rfl rfl) BL.nil BK.nil)⟩))))))))
  ·exact zh eZ (dF h7) (AW.exit (TQ.qe (TQ.qe (BQ.qe (TQ.qn ⟨(),H,(zg [] SL.nil BL.nil BK.nil)⟩)))))
theorem Yw{a1:(List zu)}{a2:zn}{r:Bool}(H:qx a1 a2=some r):Fn Tryz.prog 232 (lent [(.sl 2 (List.map zj a1)),(.fn 233 [.ptr (zR a2)])]) true [(.bool r)]:=by
 refine zE9 (fle rfl) ?_
 rw[zx]
 refine AW.weaken (zg [] (kv 0 (.one (.d (.sl 2 (List.map zj a1)))) rfl rfl (SL.cons (v:=(.one (.fn 233 [(.bd (zR a2) 0)]))) (eS rfl eZ) rfl (VWk.one (CWk.fn (css:=[zR a2]))) SL.nil)) BL.nil BK.nil) ?_
 unfold qx at H
 unfold zCi
 refine aV (za eC (xQ (aV (za rfl (za rfl ?_)))))
 obtain⟨v3,h4,H⟩:=zk H
 refine zD (u:=(oI v3)) eC Cl.fn (xO h4) (Ec rfl (Ec eZ En)) (Vc Vp (Vc (VD.fn (PDs.cons jG PDs.nil)) Vn)) rfl (Xr eZ eC (za eZ (xQ (AW.ret ?_))))
 cases H
 exact eE rfl rfl
theorem zcM{a1 r:List Int}{a2:Int}(H:kt a1 a2=some r):Fn Tryz.prog 304 [⟨(.sl 1 []),.z⟩,⟨(.int .i64 a2),.b⟩] true [(.sl 1 (List.map zt r))]:=by
 obtain⟨⟨h1,h2⟩,H⟩:=qa H
 cases H
 obtain⟨n,rfl⟩:∃n:Nat,a2=(n:Int):=⟨Int.toNat a2,by omega⟩
 exact zmv zgM (by kernel_rfl) (by kernel_rfl) (by kernel_rfl) n (by omega)
theorem zbw{a1:(List (List Int))}{r:(List Int)}(H:yU a1=some r):Fn Tryz.prog 235 (lent [(.sl 1 (List.map ZM a1))]) true [(.sl 1 (List.map zt r))]:=by
 refine zER (fle rfl) ?_
 rw[zx]
 refine AW.weaken (t:=mk [(0,(.one (.d (.sl 1 (List.map ZM a1)))))] [] (lk [])) (zg [] (sR rfl rfl) BL.nil BK.nil) ?_
 unfold yU at H
 unfold zzu
 refine aV (za eC (xQ (aV (za eC (xQ (zF (fun t2:Int=>(ZB a1) t2=some r) (fun t2=>mk [(0,(.one (.d (.sl 1 (List.map ZM a1))))),(3,(oI t2))] [] (lk [])) ?_ ?_))))))
 ·intro t2 H
  unfold ZB at H
  refine aS (zW (zw (za rfl (zm ?_))))
  obtain⟨v4,h5,H⟩:=zk H
  refine zuy (ON:=[]) (ls:=[]) (G:=[]) (E:=[]) (MB:=[]) (u:=(.one (.sl 1536 0 v4.length))) (bs:=[(1536,(.data 1 (List.map zt v4) true none))]) eC Cl.fn (zcM h5) (Ec eC (Ec eZ En)) (AO.zs (AO.lent Vp rfl AO.nil)) rfl rfl rfl SZ.nil (erL.cons (v':=(oI t2)) rfl (erL.cons (v':=(.one (.d (.sl 1 (List.map ZM a1))))) rfl (erL.cons (v':=(oI t2)) rfl erL.nil))) erH.nil erL.nil (by simp[jr,jV,qF,jx,qK]) rfl (fC nZ rfl (fC nZ rfl fN)) (qc (za eZ (xQ (zF (fun t6:(List Int)=>ZE t6=some r) (fun t6=>mk [(6,(.one (.sl 320128 0 t6.length)))] [(320128,(.data 1 (List.map zt t6) true none))] (lk [])) ?_ ?_))))
  ·intro t6 H
   unfold ZE at H
   refine aV (za eZ (za eZ (xQ (AW.ret ?_))))
   obtain rfl:=(Option.some.inj H)
   exact qI (RL.cons (RV.tmp eZ) (VO.sl bZ lm (zy fun _=>rfl)) RL.nil) (by decide)
  ·refine aV (za rfl (zX eZ (n:=a1.length) lm (za eC (xQ (AW.block (AW.iter (fun s8:((List Int)×Int)=>mk [(6,(.one (.sl 320192 0 s8.1.length))),(25,(.one (.d (.sl 1 (List.map ZM a1))))),(26,(oI (a1.length:Int))),(27,(oI s8.2))] [(320192,(.data 1 (List.map zt s8.1) true none))] (lk [])) H ((zM [] (sR rfl rfl) (blR rfl) (bkR rfl rfl rfl) GK.nil).trans (zai 1536 320192 rfl rfl (nR rfl) GR.nil)) ?_))))))
   intro kb9 s8 H
   unfold ZJ at H
   refine aV (qh rfl rfl (xQ (aS ?_)))
   rcases zC H with⟨h10,H⟩|⟨h10,H⟩
   ·refine zi eZ (dT h10) (AW.skip (TQ.qn (aS (AW.block (aV ?_)))))
    obtain⟨v11,h12,H⟩:=zk H
    refine qy rfl rfl h12 (zY (e:=(.sl 1 (List.map zt v11))) eZ rfl (za eZ (xQ (aR (za rfl (za rfl ?_))))))
    obtain⟨h13,H⟩:=qa H
    exact zij (f:=zt) (xs:=s8.1) (ys:=v11) (q:=(s8.1++v11).length) rfl eZ bZ rfl (El.lent fun _ _=>rfl) rfl h13 (by decide) (by decide) (erL.cons (v':=(.one (.d (.sl 1 (List.map zt v11))))) rfl (erL.cons (v':=(.one .any)) rfl (erL.cons (v':=(.one (.d (.sl 1 (List.map zt v11))))) rfl (erL.cons (v':=(.one (.d (.sl 1 (List.map zt v11))))) rfl (erL.cons (v':=(.one (.ptr (.bd (ZM v11) 0)))) rfl (erL.cons (v':=(oB (decide (s8.2 < (a1.length:Int))))) rfl (erL.cons (v':=(.one .any)) rfl (erL.cons (v':=(.one (.d (.sl 1 (List.map ZM a1))))) rfl (erL.cons (v':=(oI (a1.length:Int))) rfl (erL.cons (v':=(oI s8.2)) rfl erL.nil)))))))))) (erH.drop rfl erH.nil) GK.nil (za eZ (zm (BQ.qn (TQ.qn (aR (qj rfl eC (za eZ (zm (TQ.qn ⟨((s8.1++v11),(IntKind.wrap .i64 (s8.2+1))),H,(zM [] (sR rfl rfl) (blR rfl) (bkR rfl rfl rfl) GK.nil)⟩)))))))))
   ·exact zh eZ (dF h10) (AW.exit (TQ.qe (TQ.qe (BQ.qe (TQ.qn ⟨s8.1,H,((zM [] (sR rfl rfl) (blR rfl) (bkR rfl rfl rfl) GK.nil).trans (zai 320192 320128 rfl rfl (nR rfl) GR.nil))⟩)))))
 ·refine aV (za rfl (zX eZ (n:=a1.length) lm (za eC (xQ (AW.block (AW.iter (fun s14:(Int×Int)=>mk [(0,(.one (.d (.sl 1 (List.map ZM a1))))),(3,(oI s14.1)),(9,(.one (.d (.sl 1 (List.map ZM a1))))),(10,(oI (a1.length:Int))),(11,(oI s14.2))] [] (lk [])) H (zM [] (sR rfl rfl) BL.nil BK.nil GK.nil) ?_))))))
  intro kb15 s14 H
  unfold Zs at H
  refine aV (qh rfl rfl (xQ (aS ?_)))
  rcases zC H with⟨h16,H⟩|⟨h16,H⟩
  ·refine zi eZ (dT h16) (AW.skip (TQ.qn (aS (AW.block (aV ?_)))))
   obtain⟨v17,h18,H⟩:=zk H
   refine qy rfl rfl h18 (zY (e:=(.sl 1 (List.map zt v17))) eZ rfl (za eZ (xQ (aV (za rfl (za rfl (zX eZ (n:=v17.length) lm (qj rfl eZ (za eZ (xQ (aV (za eZ (qh eZ eC (xQ (AW.weaken (zM [] (kr 20 rfl rfl (kr 3 rfl rfl (kr 0 rfl rfl (kr 9 rfl rfl (kr 10 rfl rfl (kr 11 rfl rfl SL.nil)))))) BL.nil BK.nil GK.nil) ?_)))))))))))))))
   rcases zC H with⟨h19,H⟩|⟨h19,H⟩
   ·refine zi eZ (dT h19) (aR ?_)
    cases H
   ·exact zh eZ (dF h19) (AW.skip (BQ.qn (TQ.qn (aR (qj rfl eC (za eZ (zm (TQ.qn ⟨((IntKind.wrap .i64 (s14.1+(v17.length:Int))),(IntKind.wrap .i64 (s14.2+1))),H,(zM [] (sR rfl rfl) BL.nil BK.nil GK.nil)⟩))))))))
  ·exact zh eZ (dF h16) (AW.exit (TQ.qe (TQ.qe (BQ.qe (TQ.qn ⟨s14.1,H,(zM [] (sR rfl rfl) BL.nil BK.nil GK.nil)⟩)))))
theorem zbT{a1:(List Int)}{a2:Int}{r:Int}(H:QB a1 a2=some r):Fn Tryz.prog 125 (lent [(.sl 1 (List.map zt a1)),(.int .i64 a2)]) true [(.int .i64 r)]:=by
 refine f125 (fle rfl) ?_
 rw[zx]
 refine AW.weaken (zg [] (kv 0 (.one (.d (.sl 1 (List.map zt a1)))) rfl rfl (kv 1 (oI a2) rfl rfl SL.nil)) BL.nil BK.nil) ?_
 unfold QB at H
 unfold zCQ
 refine aV (za eC (xQ (zF (fun t3:Unit=>YZ t3=some r) (fun t3=>mk [] [] noG) ?_ ?_)))
 ·intro t3 H
  unfold YZ at H
  refine aV (za eC (xQ (AW.ret ?_)))
  cases H
  exact eE rfl rfl
 ·refine aV (za rfl (zX eZ (n:=a1.length) lm (za eC (xQ (AW.block (AW.iter (fun s5:Int=>mk [(0,(.one (.d (.sl 1 (List.map zt a1))))),(1,(oI a2)),(7,(oI (a1.length:Int))),(8,(oI s5))] [] noG) H (zg [] (sR rfl rfl) BL.nil BK.nil) ?_))))))
  intro kb6 s5 H
  unfold ZS at H
  refine aV (qh rfl rfl (xQ (aS ?_)))
  rcases zC H with⟨h7,H⟩|⟨h7,H⟩
  ·refine zi eZ (dT h7) (AW.skip (TQ.qn (aS (AW.block (aV (za rfl (za eZ (xQ (aV (za rfl (za rfl (za rfl ?_))))))))))))
   obtain⟨v8,h9,H⟩:=zk H
   refine qy rfl eZ h9 (zY (e:=(.int .i64 v8)) eZ rfl (Kl rfl eZ (xQ ?_)))
   rcases zC H with⟨h10,H⟩|⟨h10,H⟩
   ·refine zi eZ (dT h10) (aV (za rfl (za eZ (xQ (AW.ret (BQ.qr (TQ.qr (TQ.qr (BQ.qr (TQ.qr ?_))))))))))
    cases H
    exact eE rfl rfl
   ·exact zh eZ (dF h10) (AW.skip (BQ.qn (TQ.qn (aR (qj rfl eC (za eZ (zm (TQ.qn ⟨(IntKind.wrap .i64 (s5+1)),H,(zg [] (sR rfl rfl) BL.nil BK.nil)⟩))))))))
  ·exact zh eZ (dF h7) (AW.exit (TQ.qe (TQ.qe (BQ.qe (TQ.qn ⟨(),H,(zg [] SL.nil BL.nil BK.nil)⟩)))))
theorem zaz{a1:(List Int)}{a2:Int}{r:Bool}(H:yl a1 a2=some r):Fn Tryz.prog 124 (lent [(.sl 1 (List.map zt a1)),(.int .i64 a2)]) true [(.bool r)]:=by
 refine zFl (fle rfl) ?_
 rw[zx]
 refine AW.weaken (zg [] (kv 0 (.one (.d (.sl 1 (List.map zt a1)))) rfl rfl (kv 1 (oI a2) rfl rfl SL.nil)) BL.nil BK.nil) ?_
 unfold yl at H
 unfold zzW
 refine aV (za eC (xQ (aV (za rfl (za rfl ?_)))))
 obtain⟨v3,h4,H⟩:=zk H
 refine zD (u:=(oI v3)) eC Cl.fn (zbT h4) (Ec rfl (Ec eZ En)) (Vc Vp (Vc Vp Vn)) rfl (Xr eZ eC (za eZ (xQ (AW.ret ?_))))
 cases H
 exact eE rfl rfl
theorem zdw{a1:zK}{a2:zn}{a3:(List Int)}{r:Bool}(H:Qp a1 a2 a3=some r):Fn Tryz.prog 236 (lent [(.agg (zp a1)),(.ptr (zR a2)),(.ptr (ZM a3))]) true [(.bool r)]:=by
 refine zEc (fle rfl) ?_
 rw[zx]
 refine AW.weaken (zg [] (kv 0 (.agg (qo a1)) rfl rfl (SL.cons (v:=(.one (.ptr (.bd (zR a2) 0)))) (eS rfl eZ) rfl (VWk.one CWk.ptr) (SL.cons (v:=(.one (.ptr (.bd (ZM a3) 0)))) (eS rfl (eS rfl eZ)) rfl (VWk.one CWk.ptr) SL.nil))) BL.nil BK.nil) ?_
 unfold Qp at H
 unfold zxs
 refine aV (jh (n:=192) (m:=4) (cs:=(qo a1)) rfl eZ rfl rfl nZ (za eC (xQ (aS (AW.regd (z6 (m:=1) rfl rfl (zY (e:=(.sl 2 (List.map zd a2.Own))) eZ rfl (zN (es:=(qo a1)) rfl bZ rfl ?_))))))))
 obtain⟨v4,h5,H⟩:=zk H
 refine zD (u:=(.agg [(dI v4.Lo),(dI v4.Hi)])) eC Cl.fn (y6 h5) (Ec eZ En) (Vc (VD.agg rfl) Vn) rfl ?_
 obtain⟨v6,h7,H⟩:=zk H
 refine zD (u:=(oB v6)) eC Cl.fn (kf h7) (Ec rfl (Ec eZ En)) (Vc Vp (Vc (VD.agg rfl) Vn)) rfl (qG eZ (za eZ ?_))
 rcases zC H with⟨h8,H⟩|⟨h8,H⟩
 ·refine gDo eZ (cN h8) (zY (e:=(.sl 1 (List.map zt a3))) rfl rfl (gDo rfl (cN h8) (zf (m:=0) rfl rfl (gDo rfl (cN h8) (zl (q:=0) (c:=(dI a1.Tx)) eZ bZ rfl rfl (gDo rfl (cN h8) ?_))))))
  obtain⟨v9,h10,H⟩:=zk H
  refine zD (u:=(oB v9)) eC Cl.fn (zaz h10) (Ec rfl (Ec eZ En)) (Vc Vp (Vc Vp Vn)) rfl (zJ rfl (cN h8) eZ (za eZ (xQ (AW.weaken (zg [192] (kr 4 rfl rfl SL.nil) (blR rfl) BK.nil) (AW.ret ?_)))))
  cases H
  exact eE rfl rfl
 ·refine zb eZ (cN (nt h8)) rfl (zb rfl (cN (nt h8)) rfl (zb rfl (cN (nt h8)) rfl (zb rfl (cN (nt h8)) rfl (zB rfl (cN (nt h8)) eC (za eZ (xQ (AW.weaken (zg [192] (kr 4 rfl rfl SL.nil) (blR rfl) BK.nil) (AW.ret ?_))))))))
  cases H
  exact eE rfl rfl
theorem xM{a1:(List zK)}{a2:zn}{a3:(List Int)}{r:Int}(H:jm a1 a2 a3=some r):Fn Tryz.prog 216 (lent [(.sl 4 (List.map zp a1)),(.fn 236 [.ptr (zR a2),.ptr (ZM a3)])]) true [(.int .i64 r)]:=by
 refine f216 (fle rfl) ?_
 rw[zx]
 refine AW.weaken (zg [] (kv 0 (.one (.d (.sl 4 (List.map zp a1)))) rfl rfl (SL.cons (v:=(.one (.fn 236 [(.bd (zR a2) 0),(.bd (ZM a3) 0)]))) (eS rfl eZ) rfl (VWk.one (CWk.fn (css:=[zR a2,ZM a3]))) SL.nil)) BL.nil BK.nil) ?_
 unfold jm at H
 unfold zmu
 refine aV (za eC (xQ (zF (fun t4:Unit=>jX t4=some r) (fun t4=>mk [] [] noG) ?_ ?_)))
 ·intro t4 H
  unfold jX at H
  refine aV (za eC (xQ (AW.ret ?_)))
  cases H
  exact eE rfl rfl
 ·refine aV (za rfl (zX eZ (n:=a1.length) lm (za eC (xQ (AW.block (AW.iter (fun s6:Int=>mk [(0,(.one (.d (.sl 4 (List.map zp a1))))),(1,(.one (.fn 236 [(.bd (zR a2) 0),(.bd (ZM a3) 0)]))),(7,(oI (a1.length:Int))),(8,(oI s6))] [] noG) H (zg [] (sR rfl rfl) BL.nil BK.nil) ?_))))))
  intro kb7 s6 H
  unfold jb at H
  refine aV (qh rfl rfl (xQ (aS ?_)))
  rcases zC H with⟨h8,H⟩|⟨h8,H⟩
  ·refine zi eZ (dT h8) (AW.skip (TQ.qn (aS (AW.block (aV (za rfl (za eZ (xQ (aV (za rfl (za rfl (za rfl ?_))))))))))))
   obtain⟨v9,h10,H⟩:=zk H
   refine qy rfl eZ h10 (qf (es:=(qo v9)) eZ rfl ?_)
   obtain⟨v11,h12,H⟩:=zk H
   refine zD (u:=(oB v11)) rfl Cl.fn (zdw h12) (Ec eZ En) (Vc (VD.agg rfl) (Vc jG (Vc jG Vn))) rfl (xQ ?_)
   rcases zC H with⟨h13,H⟩|⟨h13,H⟩
   ·refine zi eZ h13 (aV (za rfl (za eZ (xQ (AW.ret (BQ.qr (TQ.qr (TQ.qr (BQ.qr (TQ.qr ?_))))))))))
    cases H
    exact eE rfl rfl
   ·exact zh eZ (nt h13) (AW.skip (BQ.qn (TQ.qn (aR (qj rfl eC (za eZ (zm (TQ.qn ⟨(IntKind.wrap .i64 (s6+1)),H,(zg [] (sR rfl rfl) BL.nil BK.nil)⟩))))))))
  ·exact zh eZ (dF h8) (AW.exit (TQ.qe (TQ.qe (BQ.qe (TQ.qn ⟨(),H,(zg [] SL.nil BL.nil BK.nil)⟩)))))
theorem YD{a1:(List zK)}{a2:zn}{a3:(List Int)}{r:Bool}(H:qu a1 a2 a3=some r):Fn Tryz.prog 110 (lent [(.sl 4 (List.map zp a1)),(.fn 236 [.ptr (zR a2),.ptr (ZM a3)])]) true [(.bool r)]:=by
 refine zw0 (fle rfl) ?_
 rw[zx]
 refine AW.weaken (zg [] (kv 0 (.one (.d (.sl 4 (List.map zp a1)))) rfl rfl (SL.cons (v:=(.one (.fn 236 [(.bd (zR a2) 0),(.bd (ZM a3) 0)]))) (eS rfl eZ) rfl (VWk.one (CWk.fn (css:=[zR a2,ZM a3]))) SL.nil)) BL.nil BK.nil) ?_
 unfold qu at H
 unfold zld
 refine aV (za eC (xQ (aV (za rfl (za rfl ?_)))))
 obtain⟨v4,h5,H⟩:=zk H
 refine zD (u:=(oI v4)) eC Cl.fn (xM h5) (Ec rfl (Ec eZ En)) (Vc Vp (Vc (VD.fn (PDs.cons jG (PDs.cons jG PDs.nil))) Vn)) rfl (Xr eZ eC (za eZ (xQ (AW.ret ?_))))
 cases H
 exact eE rfl rfl
theorem zcQ{a1 r:List Int}(H:ka a1=some r):Fn Tryz.prog 237 [⟨(.sl 1 (List.map zt a1)),.m (.sl 1 (List.map zt r))⟩] true []:=by
 obtain⟨h,H⟩:=qa H
 cases H
 exact zly zgL (by kernel_rfl) (by kernel_rfl) a1 (by omega)
theorem xP{a1:(List Int)}{r:(List Int)}(H:j3 a1=some r):Fn Tryz.prog 206 (lent [(.sl 1 (List.map zt a1))]) true [(.sl 1 (List.map zt r))]:=by
 refine zFF (fle rfl) ?_
 rw[zx]
 refine AW.weaken (zg [] (kv 0 (.one (.d (.sl 1 (List.map zt a1)))) rfl rfl SL.nil) BL.nil BK.nil) ?_
 unfold j3 at H
 unfold zxd
 refine aV (za eC (xQ (zF (fun t2:Unit=>(yf a1) t2=some r) (fun t2=>mk [(0,(.one (.d (.sl 1 (List.map zt a1)))))] [] noG) ?_ ?_)))
 ·intro t2 H
  unfold yf at H
  refine aV (yw (m:=320) rfl nZ (za rfl ?_))
  obtain⟨h4,H⟩:=qa H
  refine zau (f:=zt) (m:=448) (own:=true) (ys:=a1) (q:=a1.length) rfl rfl rfl eZ (El.lent fun _ _=>rfl) rfl h4 (by decide) nZ (za eZ (xQ (AW.ret ?_)))
  obtain rfl:=(Option.some.inj H)
  exact qI (RL.cons (RV.tmp eZ) (VO.sl bZ lm (zy fun _=>rfl)) RL.nil) (by decide)
 ·refine aV (za rfl ?_)
  rcases zC H with⟨h5,H⟩|⟨h5,H⟩
  ·refine zfn eZ h5 (xQ (AW.condU eZ ?_ ?_))
   ·have H:(some ([]:(List Int)))=some r:=by rw[←H];simp[List.eq_nil_of_length_eq_zero h5,yf]
    refine aV (za eC (xQ (AW.ret (TQ.qr ?_))))
    cases H
    exact qI (RL.cons (RV.tmp eZ) VO.zs RL.nil) List.nodup_nil
   ·exact AW.skip (TQ.qn ⟨(),H,(zg [] (sR rfl rfl) BL.nil BK.nil)⟩)
  ·exact zgS eZ h5 (xQ (zh eZ rfl (AW.skip (TQ.qn ⟨(),H,(zg [] (sR rfl rfl) BL.nil BK.nil)⟩))))
theorem zbh{a1 r:List Int}(H:JE a1=some r):Fn Tryz.prog 238 [⟨(.sl 1 (List.map zt a1)),.g⟩] true [(.sl 1 (List.map zt r))]:=by
 obtain⟨h,H⟩:=qa H
 cases H
 exact zh2 zfr (by kernel_rfl) (by kernel_rfl) a1 (by omega)
theorem KZ{a1:zu}{a2:Int}{r:Int}(H:Zj a1 a2=some r):Fn Tryz.prog 390 (lent [(.agg (zj a1)),(.int .i64 a2)]) true [(.int .i64 r)]:=by
 refine zEA (fle rfl) ?_
 rw[zx]
 refine AW.weaken (zg [] (kv 0 (.agg [(dI a1.Key),(dI a1.Value)]) rfl rfl (kv 1 (oI a2) rfl rfl SL.nil)) BL.nil BK.nil) ?_
 unfold Zj at H
 unfold zB1
 refine aV (jh (n:=128) (m:=2) (cs:=[(dI a1.Key),(dI a1.Value)]) rfl eZ rfl rfl nZ (za eC (xQ (aV (zf (m:=0) rfl rfl (zl (q:=0) (c:=(dI a1.Key)) eZ bZ rfl rfl (za rfl (zac rfl eZ (za eZ (xQ (AW.ret ?_)))))))))))
 cases H
 exact eE rfl rfl
theorem ZP{a1:(List zu)}{a2:Int}{r:(Int×Bool)}(H:qt a1 a2=some r):Fn Tryz.prog 389 (lent [(.sl 2 (List.map zj a1)),(.int .i64 a2),(.fn 390 [])]) true [(.int .i64 r.1),(.bool r.2)]:=by
 refine zE6 (fle rfl) ?_
 rw[zx]
 refine AW.weaken (zg [] (kv 0 (.one (.d (.sl 2 (List.map zj a1)))) rfl rfl (kv 1 (oI a2) rfl rfl (SL.cons (v:=(.one (.fn 390 []))) (eS rfl (eS rfl eZ)) rfl (VWk.one (CWk.fn (css:=[]))) SL.nil))) BL.nil BK.nil) ?_
 unfold qt at H
 unfold zyS
 refine aV (za eC (za eC (xQ (aV (za rfl (zX eZ (n:=a1.length) lm (za eZ (xQ (aV (za eZ (za eC (za rfl (xQ (zF (fun t3:Int=>(zV a1 a2) t3=some r) (fun t3=>mk [(0,(.one (.d (.sl 2 (List.map zj a1))))),(1,(oI a2)),(2,(.one (.fn 390 []))),(8,(oI (a1.length:Int))),(9,(oI t3))] [] noG) ?_ ?_))))))))))))))
 ·intro t3 H
  unfold zV at H
  refine aV (za rfl (za rfl (za rfl (qh rfl eZ (za eZ ?_)))))
  rcases zC H with⟨h5,H⟩|⟨h5,H⟩
  ·refine gDo eZ (dT h5) (za rfl (gDo rfl (dT h5) (za rfl (gDo rfl (dT h5) (za rfl (gDo rfl (dT h5) ?_))))))
   obtain⟨v6,h7,H⟩:=zk H
   refine qy rfl eZ h7 (gDo rfl (dT h5) (qf (es:=[(dI v6.Key),(dI v6.Value)]) eZ rfl (gDo rfl (dT h5) (za rfl (gDo rfl (dT h5) ?_)))))
   obtain⟨v8,h9,H⟩:=zk H
   refine zD (u:=(oI v8)) rfl Cl.fn (KZ h9) (Ec rfl (Ec eZ En)) (Vc (VD.agg rfl) (Vc Vp Vn)) rfl (gDo rfl (dT h5) (Kl eZ eC (zB rfl (dT h5) eZ (za rfl (za rfl (xQ (AW.weaken (zg [] (kr 7 rfl rfl (kr 6 rfl rfl SL.nil)) BL.nil BK.nil) (AW.ret ?_))))))))
   cases H
   exact qI (RL.cons (RV.tmp rfl) (VO.flat rfl) (RL.cons (RV.tmp eZ) (VO.flat rfl) RL.nil)) List.nodup_nil
  ·refine zb eZ (dF h5) rfl (zb rfl (dF h5) rfl (zb rfl (dF h5) rfl (zb rfl (dF h5) rfl (zb rfl (dF h5) rfl (zb rfl (dF h5) rfl (zb rfl (dF h5) rfl (zb rfl (dF h5) rfl (zJ rfl (dF h5) eC (za rfl (za rfl (xQ (AW.weaken (zg [] (kr 7 rfl rfl (kr 6 rfl rfl SL.nil)) BL.nil BK.nil) (AW.ret ?_)))))))))))))
   cases H
   exact qI (RL.cons (RV.tmp rfl) (VO.flat rfl) (RL.cons (RV.tmp eZ) (VO.flat rfl) RL.nil)) List.nodup_nil
 ·refine AW.block (AW.iter (fun s10:(Int×Int)=>mk [(0,(.one (.d (.sl 2 (List.map zj a1))))),(1,(oI a2)),(2,(.one (.fn 390 []))),(8,(oI (a1.length:Int))),(9,(oI s10.1)),(10,(oI s10.2))] [] noG) H (zg [] (sR rfl rfl) BL.nil BK.nil) ?_)
  intro kb11 s10 H
  unfold zZ at H
  refine aS (aV (za rfl (za rfl (qh rfl eZ (xQ ?_)))))
  rcases zC H with⟨h12,H⟩|⟨h12,H⟩
  ·refine zi eZ (dT h12) (AW.skip (TQ.qn (AW.block (aV (za rfl (za rfl (qj rfl eZ (zmB eZ (zEP eZ eC (by decide) (zmB eZ (za eZ (xQ (AW.weaken (zg [] (kr 11 rfl rfl (kr 0 rfl rfl (kr 1 rfl rfl (kr 2 rfl rfl (kr 8 rfl rfl (kr 9 rfl rfl (kr 10 rfl rfl SL.nil))))))) BL.nil BK.nil) (aV (za rfl (za rfl (za rfl ?_)))))))))))))))))
   obtain⟨v13,h14,H⟩:=zk H
   refine qy rfl eZ h14 (qf (es:=[(dI v13.Key),(dI v13.Value)]) eZ rfl (za rfl ?_))
   obtain⟨v15,h16,H⟩:=zk H
   refine zD (u:=(oI v15)) rfl Cl.fn (KZ h16) (Ec rfl (Ec eZ En)) (Vc (VD.agg rfl) (Vc Vp Vn)) rfl (qh eZ eC (xQ ?_))
   rcases zC H with⟨h17,H⟩|⟨h17,H⟩
   ·exact zi eZ (dT h17) (aR (za rfl (qj eZ eC (za eZ (zm (BQ.qn (TQ.qn ⟨((IntKind.wrap .i64 ((IntKind.wrap .i64 (Int.fdiv (IntKind.wrap .u64 (IntKind.wrap .i64 (s10.1+s10.2))) (2 ^ (min (Int.toNat 1) (IntKind.bits .u64)))))+1)),s10.2),H,(zg [] (sR rfl rfl) BL.nil BK.nil)⟩)))))))
   ·exact zh eZ (dF h17) (aR (za rfl (za eZ (zm (BQ.qn (TQ.qn ⟨(s10.1,(IntKind.wrap .i64 (Int.fdiv (IntKind.wrap .u64 (IntKind.wrap .i64 (s10.1+s10.2))) (2 ^ (min (Int.toNat 1) (IntKind.bits .u64)))))),H,(zg [] (sR rfl rfl) BL.nil BK.nil)⟩))))))
  ·exact zh eZ (dF h12) (AW.exit (TQ.qe (TQ.qe (BQ.qe (TQ.qn ⟨s10.1,H,(zg [] (sR rfl rfl) BL.nil BK.nil)⟩)))))
theorem zeH{a1:(List zu)}{a2:Int}{r:(Int×Bool)}(H:JC a1 a2=some r):Fn Tryz.prog 360 (lent [(.sl 2 (List.map zj a1)),(.int .i64 a2)]) true [(.int .i64 r.1),(.bool r.2)]:=by
 refine zFe (fle rfl) ?_
 rw[zx]
 refine AW.weaken (zg [] (kv 0 (.one (.d (.sl 2 (List.map zj a1)))) rfl rfl (kv 1 (oI a2) rfl rfl SL.nil)) BL.nil BK.nil) ?_
 unfold JC at H
 unfold zA7
 refine aV (za eC (za eC (xQ (aV (za rfl (za rfl ?_))))))
 obtain⟨v3,h4,H⟩:=zk H
 refine zD (u:=(.tup [(oI v3.1),(oB v3.2)])) eC Cl.fn (ZP h4) (Ec rfl (Ec eZ (Ec eC En))) (Vc Vp (Vc Vp (Vc (VD.fn PDs.nil) Vn))) rfl (XO (v:=(oI v3.1)) eZ rfl (XO (v:=(oB v3.2)) rfl rfl (za rfl (za rfl (xQ (AW.ret ?_))))))
 cases H
 exact qI (RL.cons (RV.tmp rfl) (VO.flat rfl) (RL.cons (RV.tmp eZ) (VO.flat rfl) RL.nil)) List.nodup_nil
theorem zeS{a1:(List zu)}{a2:Int}{r:Int}(H:JN a1 a2=some r):Fn Tryz.prog 359 (lent [(.sl 2 (List.map zj a1)),(.int .i64 a2)]) true [(.int .i64 r)]:=by
 refine zEO (fle rfl) ?_
 rw[zx]
 refine AW.weaken (zg [] (kv 0 (.one (.d (.sl 2 (List.map zj a1)))) rfl rfl (kv 1 (oI a2) rfl rfl SL.nil)) BL.nil BK.nil) ?_
 unfold JN at H
 unfold zDT
 refine aV (za eC (xQ (aV (za rfl (za rfl ?_)))))
 obtain⟨v3,h4,H⟩:=zk H
 refine zD (u:=(.tup [(oI v3.1),(oB v3.2)])) eC Cl.fn (zeH h4) (Ec rfl (Ec eZ En)) (Vc Vp (Vc Vp Vn)) rfl (za eZ (XO (v:=(oI v3.1)) eZ rfl (XO (v:=(oB v3.2)) rfl rfl (za rfl (za rfl (xQ (aS (aV (za eZ (qG eZ (xQ ?_)))))))))))
 rcases zC H with⟨h5,H⟩|⟨h5,H⟩
 ·refine zh eZ (cN h5) (AW.skip (TQ.qn (aV (za rfl (za rfl ?_)))))
  obtain⟨v6,h7,H⟩:=zk H
  refine qy rfl eZ h7 (z6 (m:=1) eZ rfl (zY (e:=(.int .i64 v6.Value)) eZ rfl (za eZ (xQ (AW.weaken (zg [] (kr 4 rfl rfl SL.nil) BL.nil BK.nil) (AW.ret ?_))))))
  cases H
  exact eE rfl rfl
 ·refine zi eZ (cN (nt h5)) (aV (za eC (xQ (AW.ret (TQ.qr ?_)))))
  cases H
  exact eE rfl rfl
theorem zdP{a1:(List zu)}{a2:(List zu)}{r:Int}(H:QZ a1 a2=some r):Fn Tryz.prog 307 (lent [(.sl 2 (List.map zj a1)),(.sl 2 (List.map zj a2))]) true [(.int .i64 r)]:=by
 refine zET (fle rfl) ?_
 rw[zx]
 refine AW.weaken (zg [] (kv 0 (.one (.d (.sl 2 (List.map zj a1)))) rfl rfl (kv 1 (.one (.d (.sl 2 (List.map zj a2)))) rfl rfl SL.nil)) BL.nil BK.nil) ?_
 unfold QZ at H
 unfold zD0
 refine aV (za eC (xQ (aS (zF (fun t3:Bool=>(Z5 a2 a1) t3=some r) (fun t3=>mk [(0,(.one (.d (.sl 2 (List.map zj a1))))),(1,(.one (.d (.sl 2 (List.map zj a2))))),(15,(oB t3))] [] noG) ?_ ?_))))
 ·intro t3 H
  unfold Z5 at H
  rcases zC H with⟨h5,H⟩|⟨h5,H⟩
  ·refine zi rfl h5 (aV (za eC (xQ (AW.ret (TQ.qr ?_)))))
   cases H
   exact eE rfl rfl
  ·refine zh rfl (nt h5) (AW.skip (TQ.qn (aV (za eC (xQ (zF (fun t6:Int=>Yh t6=some r) (fun t6=>mk [(5,(oI t6))] [] noG) ?_ ?_))))))
   ·intro t6 H
    unfold Yh at H
    refine aV (za eZ (za eZ (xQ (AW.ret ?_))))
    cases H
    exact eE rfl rfl
   ·refine aV (za rfl (zX eZ (n:=a2.length) lm (za eC (xQ (AW.block (AW.iter (fun s8:(Int×Int)=>mk [(0,(.one (.d (.sl 2 (List.map zj a1))))),(5,(oI s8.1)),(16,(.one (.d (.sl 2 (List.map zj a2))))),(17,(oI (a2.length:Int))),(18,(oI s8.2))] [] noG) H (zg [] (sR rfl rfl) BL.nil BK.nil) ?_))))))
    intro kb9 s8 H
    unfold YM at H
    refine aV (qh rfl rfl (xQ (aS ?_)))
    rcases zC H with⟨h10,H⟩|⟨h10,H⟩
    ·refine zi eZ (dT h10) (AW.skip (TQ.qn (aS (AW.block (aV ?_)))))
     obtain⟨v11,h12,H⟩:=zk H
     refine qy rfl rfl h12 (qf (es:=[(dI v11.Key),(dI v11.Value)]) eZ rfl (Zl (n:=448) (m:=2) rfl rfl nZ (zP (es:=[(dI v11.Key),(dI v11.Value)]) eZ rfl rfl rfl bZ rfl (xQ (zF (fun t13:Bool=>(ZF kb9 s8) t13=some r) (fun t13=>mk [(0,(.one (.d (.sl 2 (List.map zj a1))))),(5,(oI s8.1)),(16,(.one (.d (.sl 2 (List.map zj a2))))),(17,(oI (a2.length:Int))),(18,(oI s8.2)),(31,(oB t13))] [] noG) ?_ ?_)))))
     ·intro t13 H
      unfold ZF at H
      rcases zC H with⟨h15,H⟩|⟨h15,H⟩
      ·exact zi rfl h15 (aR (za rfl (qj eZ eC (za eZ (zm (BQ.qn (TQ.qn (aR (qj rfl eC (za eZ (zm (TQ.qn ⟨((IntKind.wrap .i64 (s8.1+1)),(IntKind.wrap .i64 (s8.2+1))),H,(zg [] (sR rfl rfl) BL.nil BK.nil)⟩))))))))))))
      ·exact zh rfl (nt h15) (AW.skip (BQ.qn (TQ.qn (aR (qj rfl eC (za eZ (zm (TQ.qn ⟨(s8.1,(IntKind.wrap .i64 (s8.2+1))),H,(zg [] (sR rfl rfl) BL.nil BK.nil)⟩))))))))
     ·refine aR (zf (m:=1) eZ rfl (zl (q:=1) (c:=(dI v11.Value)) eZ bZ rfl rfl (ZO eZ eC (za eZ ?_))))
      rcases zC H with⟨h16,H⟩|⟨h16,H⟩
      ·refine gDo eZ (dT h16) (za rfl (gDo rfl (dT h16) (zf (m:=0) rfl rfl (gDo rfl (dT h16) (zl (q:=0) (c:=(dI v11.Key)) eZ bZ rfl rfl (gDo rfl (dT h16) ?_))))))
       obtain⟨v17,h18,H⟩:=zk H
       exact zD (u:=(oI v17)) eC Cl.fn (zeS h18) (Ec rfl (Ec eZ En)) (Vc Vp (Vc Vp Vn)) rfl (gDo rfl (dT h16) (qh eZ eC (zB rfl (dT h16) eZ (zm (TQ.qn ⟨(decide (v17 < 0)),H,(zg [448] (sR rfl rfl) (blR rfl) BK.nil)⟩)))))
      ·exact zb eZ (dF h16) rfl (zb rfl (dF h16) rfl (zb rfl (dF h16) rfl (zb rfl (dF h16) rfl (zb rfl (dF h16) rfl (zJ rfl (dF h16) eC (zm (TQ.qn ⟨false,H,(zg [448] (sR rfl rfl) (blR rfl) BK.nil)⟩)))))))
    ·exact zh eZ (dF h10) (AW.exit (TQ.qe (TQ.qe (BQ.qe (TQ.qn ⟨s8.1,H,(zg [] (sR rfl rfl) BL.nil BK.nil)⟩)))))
 ·refine aR (za rfl ?_)
  obtain⟨v19,h20,H⟩:=zk H
  refine zD (u:=(oB v19)) eC Cl.fn (za0 h20) (Ec eZ En) (Vc Vp Vn) rfl (qG eZ (za eZ ?_))
  rcases zC H with⟨h21,H⟩|⟨h21,H⟩
  ·refine gDo eZ (cN h21) (za rfl (gDo rfl (cN h21) ?_))
   obtain⟨v22,h23,H⟩:=zk H
   exact zD (u:=(oB v22)) eC Cl.fn (zar h23) (Ec eZ En) (Vc Vp Vn) rfl (gDo rfl (cN h21) (qG eZ (zJ rfl (cN h21) eZ (zm (TQ.qn ⟨(!v22),H,(zg [] (sR rfl rfl) BL.nil BK.nil)⟩)))))
  ·exact zb eZ (cN (nt h21)) rfl (zb rfl (cN (nt h21)) rfl (zb rfl (cN (nt h21)) rfl (zB rfl (cN (nt h21)) eC (zm (TQ.qn ⟨true,H,(zg [] (sR rfl rfl) BL.nil BK.nil)⟩)))))
theorem zhD{a1:zn}{r:Int}(H:Xs a1=some r):Fn Tryz.prog 239 (lent [(.agg (zR a1))]) true [(.int .i64 r)]:=by
 refine zEn (fle rfl) ?_
 rw[zx]
 refine AW.weaken (t:=mk [(0,(.agg (zE a1)))] [] (lk [])) (zg [] (sR rfl rfl) BL.nil BK.nil) ?_
 unfold Xs at H
 unfold zCo
 refine aV (jh (n:=64) (m:=9) (cs:=(zE a1)) rfl eZ rfl rfl nZ (za eC (xQ (aV (zf (m:=3) rfl rfl (zl (q:=3) (c:=(.d (.sl 2 (List.map zj a1.Cells)))) eZ bZ rfl rfl (zX eZ (n:=a1.Cells.length) lm (za eZ (xQ (zF (fun t2:Int=>XQ t2=some r) (fun t2=>mk [(3,(oI t2))] [] (lk [])) ?_ ?_))))))))))
 ·intro t2 H
  unfold XQ at H
  refine aV (za eZ (za eZ (xQ (AW.ret ?_))))
  cases H
  exact eE rfl rfl
 ·refine aV (zf (m:=5) rfl rfl (zl (q:=5) (c:=(.d (.sl 2 (List.map zA a1.Helds)))) eZ bZ rfl rfl (zX eZ (n:=a1.Helds.length) lm (za eC (xQ (AW.block (AW.iter (fun s4:(Int×Int)=>mk [(1,(.one (.ptr (.nm 64 0 0)))),(3,(oI s4.1)),(10,(.one (.d (.sl 2 (List.map zA a1.Helds))))),(11,(oI (a1.Helds.length:Int))),(12,(oI s4.2))] [(64,(.vars 9 (zE a1)))] (lk [])) H (zM [] (sR rfl rfl) (blR rfl) (bkR rfl rfl rfl) GK.nil) ?_)))))))
  intro kb5 s4 H
  unfold XP at H
  refine aV (qh rfl rfl (xQ (aS ?_)))
  rcases zC H with⟨h6,H⟩|⟨h6,H⟩
  ·refine zi eZ (dT h6) (AW.skip (TQ.qn (aS (AW.block (aS (zW (zw ?_)))))))
   obtain⟨v7,h8,H⟩:=zk H
   refine qy rfl rfl h8 (zm (zw (qf (es:=(jE v7)) eZ rfl (zm (zw (Zl (n:=320) (m:=2) rfl rfl (nR rfl) (zm (zw (zP (es:=(jE v7)) eZ rfl rfl rfl bZ rfl (zm (qc (xQ (aR (za rfl (zf (m:=3) rfl rfl (zl (q:=3) (c:=(.d (.sl 2 (List.map zj a1.Cells)))) eZ (bR rfl) rfl rfl (zf (m:=1) rfl rfl (zl (q:=1) (c:=(.d (.sl 2 (List.map zj v7.Writes)))) eZ bZ rfl rfl ?_))))))))))))))))))
   obtain⟨v9,h10,H⟩:=zk H
   exact zD (u:=(oI v9)) eC Cl.fn (zdP h10) (Ec rfl (Ec eZ En)) (Vc Vp (Vc Vp Vn)) rfl (qj rfl eZ (za eZ (zm (BQ.qn (TQ.qn (AW.weaken (zM [320] (kr 3 rfl rfl (kr 1 rfl rfl (kr 10 rfl rfl (kr 11 rfl rfl (kr 12 rfl rfl SL.nil))))) (blR rfl) (BK.cons (n:=64) rfl (bR rfl) rfl rfl BK.nil) GK.nil) (aR (qj rfl eC (za eZ (zm (TQ.qn ⟨((IntKind.wrap .i64 (s4.1+v9)),(IntKind.wrap .i64 (s4.2+1))),H,(zM [] (sR rfl rfl) (blR rfl) (bkR rfl rfl rfl) GK.nil)⟩)))))))))))
  ·exact zh eZ (dF h6) (AW.exit (TQ.qe (TQ.qe (BQ.qe (TQ.qn ⟨s4.1,H,(zM [64] (sR rfl rfl) (blR rfl) BK.nil GK.nil)⟩)))))
theorem zeq{a1:zn}{r:Bool}(H:ZU a1=some r):Fn Tryz.prog 122 (lent [(.agg (zR a1))]) true [(.bool r)]:=by
 refine zEW (fle rfl) ?_
 rw[zx]
 refine AW.weaken (t:=mk [(0,(.agg (zE a1)))] [] (lk [])) (zg [] (sR rfl rfl) BL.nil BK.nil) ?_
 unfold ZU at H
 unfold zDJ
 refine aV (jh (n:=64) (m:=9) (cs:=(zE a1)) rfl eZ rfl rfl nZ (za eC (xQ (aS (zF (fun t2:Bool=>(qC a1) t2=some r) (fun t2=>mk [(1,(.one (.ptr (.nm 64 0 0)))),(55,(oB t2))] [(64,(.vars 9 (zE a1)))] (lk [])) ?_ ?_)))))
 ·intro t2 H
  unfold qC at H
  rcases zC H with⟨h4,H⟩|⟨h4,H⟩
  ·refine zi rfl h4 (aV (za eC (xQ (AW.ret (TQ.qr ?_)))))
   cases H
   exact eE rfl rfl
  ·refine zh rfl (nt h4) (AW.skip (TQ.qn (aS (zF (fun t5:Bool=>(yO a1) t5=some r) (fun t5=>mk [(1,(.one (.ptr (.nm 64 0 0)))),(65,(oB t5))] [(64,(.vars 9 (zE a1)))] (lk [])) ?_ ?_))))
   ·intro t5 H
    unfold yO at H
    rcases zC H with⟨h7,H⟩|⟨h7,H⟩
    ·refine zi rfl h7 (aV (za eC (xQ (AW.ret (TQ.qr ?_)))))
     cases H
     exact eE rfl rfl
    ·refine zh rfl (nt h7) (AW.skip (TQ.qn (aS (zW (zw (zf (m:=6) eZ rfl (zm (zw (zl (q:=6) (c:=(.d (.sl 1 (List.map zt a1.Wounded)))) eZ bZ rfl rfl (zm (zw (zf (m:=7) rfl rfl (zm (zw (zl (q:=7) (c:=(.d (.sl 1 (List.map zt a1.Ended)))) eZ bZ rfl rfl (zm (zw (zbt (m:=4480) (q:=2) (cs:=[(.d (.sl 1 (List.map zt a1.Wounded))),(.d (.sl 1 (List.map zt a1.Ended)))]) rfl (jO rfl (jO eZ kF)) rfl (List.cons_ne_nil _ _) (by simp) (nR rfl) (zm (zw ?_))))))))))))))))))))
     obtain⟨v8,h9,H⟩:=zk H
     refine zD (u:=(.one (.d (.sl 1 (List.map zt v8))))) eC Cl.fn (zbw h9) (Ec eZ En) (Vc (VD.vars [(.sl 1 (List.map zt a1.Wounded)),(.sl 1 (List.map zt a1.Ended))] bZ rfl rfl) Vn) rfl (zm (zw (Zl (n:=192) (m:=1) rfl rfl (nR rfl) (zm (zw (zP (es:=[(.d (.sl 1 (List.map zt v8)))]) eZ rfl rfl rfl bZ rfl (zm (qc (xQ (aS (aV (zf (m:=4) rfl rfl (zl (q:=4) (c:=(.d (.sl 4 (List.map zp a1.Locks)))) eZ (bR rfl) rfl rfl (zcj (ps:=[(.nm 64 0 0),(.nm 192 0 0)]) (Ec rfl (Ec rfl En)) ?_))))))))))))))
     obtain⟨v10,h11,H⟩:=zk H
     refine zD (u:=(oB v10)) eC Cl.fn (YD h11) (Ec rfl (Ec eZ En)) (Vc Vp (Vc (VD.fn (PDs.cons (QO (bR rfl) (CDs.plain (CDs.plain (CDs.plain (CDs.plain (CDs.plain (CDs.plain (CDs.plain (CDs.plain (CDs.plain CDs.nil)))))))))) (PDs.cons (QO bZ (CDs.plain CDs.nil)) PDs.nil))) Vn)) rfl (xQ ?_)
     rcases zC H with⟨h12,H⟩|⟨h12,H⟩
     ·refine zi eZ h12 (aV (za eC (xQ (AW.ret (TQ.qr ?_)))))
      cases H
      exact eE rfl rfl
     ·refine zh eZ (nt h12) (AW.skip (TQ.qn (aS (AW.regd (zf (m:=5) rfl rfl (zl (q:=5) (c:=(.d (.sl 2 (List.map zA a1.Helds)))) eZ (bR rfl) rfl rfl ?_))))))
      obtain⟨v13,h14,H⟩:=zk H
      refine jK (u:=(.one (.sl 4992 0 v13.length))) (bs:=[(4992,(.data 1 (List.map zt v13) true none))]) eC Cl.fn (zcw h14) (Ec eZ En) (Vc Vp Vn) (by simp[jr,jV,qF,jx,qK]) rfl (fC (nR rfl) rfl (fC (nR rfl) rfl fN)) (zl (q:=0) (c:=(.d (.sl 1 (List.map zt v8)))) rfl (hB rfl (bR rfl)) rfl rfl ?_)
      obtain⟨h15,H⟩:=qa H
      refine zij (f:=zt) (xs:=v13) (ys:=v8) (q:=(v13++v8).length) rfl eZ bZ rfl (El.lent fun _ _=>rfl) rfl h15 (by decide) (by decide) (erL.cons (v':=(.one (.d (.sl 1 (List.map zt v8))))) rfl (erL.cons (v':=(.one .any)) rfl (erL.cons (v':=(.one (.d (.sl 2 (List.map zA a1.Helds))))) rfl (erL.cons (v':=(.one (.ptr (.nm 64 0 5)))) rfl (erL.cons (v':=(oB v10)) rfl (erL.cons (v':=(.one (.fn 236 [(.nm 64 0 0),(.nm 192 0 0)]))) rfl (erL.cons (v':=(.one (.d (.sl 4 (List.map zp a1.Locks))))) rfl (erL.cons (v':=(.one (.ptr (.nm 64 0 4)))) rfl (erL.cons (v':=(.one (.ptr (.nm 192 0 0)))) rfl (erL.cons (v':=(.one (.d (.sl 1 (List.map zt v8))))) rfl (erL.cons (v':=(.one (.sl 4480 0 2))) rfl (erL.cons (v':=(.one (.d (.sl 1 (List.map zt a1.Ended))))) rfl (erL.cons (v':=(.one (.ptr (.nm 64 0 7)))) rfl (erL.cons (v':=(.one (.d (.sl 1 (List.map zt a1.Wounded))))) rfl (erL.cons (v':=(.one (.ptr (.nm 64 0 6)))) rfl (erL.cons (v':=(.one (.ptr (.nm 64 0 0)))) rfl (erL.cons (v':=(oB t5)) rfl erL.nil))))))))))))))))) (erH.drop rfl (erH.cons (v':=(.vars 1 [(.d (.sl 1 (List.map zt v8)))])) rfl rfl (erH.cons (v':=(.vars 1 [.zs])) rfl rfl (erH.cons (v':=(.vars 1 [(.d (.sl 1 (List.map zt a1.Wounded))),(.d (.sl 1 (List.map zt a1.Ended)))])) rfl rfl (erH.cons (v':=(.vars 9 (zE a1))) rfl rfl erH.nil))))) GK.nil (za eZ (xQ (AW.weaken (zM [192,4480] (kr 4 rfl rfl (kr 1 rfl rfl SL.nil)) (blR rfl) (BK.cons (n:=4992) rfl bZ rfl rfl (BK.cons (n:=64) rfl (bR rfl) rfl rfl BK.nil)) GK.nil) (aS (zW (zw (za eZ (zm ?_))))))))
      obtain⟨v16,h17,H⟩:=zk H
      obtain⟨h18,H⟩:=qa H
      refine xW (ON:=[4992]) (ls:=[]) (G:=[]) (E:=[qg 4992]) (MB:=[(4992,(.data 1 (List.map zt v16) true none))]) (u:=(.tup [])) eC Cl.fn (zcQ h17) (Ec eZ En) (AO.mut (VO.sl bZ lm (zy fun _=>rfl)) AO.nil) rfl rfl rfl (SZ.cons bZ SZ.nil) (erL.cons (v':=(.one (.sl 4992 0 ((v13++v8).length)))) rfl (erL.cons (v':=(.one (.sl 4992 0 ((v13++v8).length)))) rfl (erL.cons (v':=(.one (.ptr (.nm 64 0 0)))) rfl erL.nil))) (erH.cons (v':=(.data 1 (List.map zt (v13++v8)) true none)) rfl rfl (erH.cons (v':=(.vars 9 (zE a1))) rfl rfl erH.nil)) erL.nil rfl rfl (qc (xQ (aS (zW (zw (za rfl (zm (zw ?_))))))))
      obtain⟨v19,h20,H⟩:=zk H
      refine jK (u:=(.one (.sl 5376 0 v19.length))) (bs:=[(5376,(.data 1 (List.map zt v19) true none))]) eC Cl.fn (xP h20) (Ec eZ En) (Vc (VD.sl bZ (by first|(simp;done)|(simp;omega)|omega|(simp only[List.length_map];omega))) Vn) (by simp[jr,jV,qF,jx,qK]) rfl (fC (nR rfl) rfl (fC (nR rfl) rfl fN)) (zm ?_)
      obtain⟨v21,h22,H⟩:=zk H
      refine xW (ON:=[5376]) (ls:=[]) (G:=[5376]) (E:=[5376]) (MB:=[]) (u:=(.one (.d (.sl 1 (List.map zt v21))))) eC Cl.fn (zbh h22) (Ec eZ En) (AO.give (VO.sl bZ lm (zy fun _=>rfl)) AO.nil) rfl rfl rfl SZ.nil (erL.cons (v':=(.one .any)) rfl (erL.cons (v':=(.one (.sl 4992 0 ((v13++v8).length)))) rfl (erL.cons (v':=(.tup [])) rfl (erL.cons (v':=(.one (.sl 4992 0 ((v13++v8).length)))) rfl (erL.cons (v':=(.one (.sl 4992 0 ((v13++v8).length)))) rfl (erL.cons (v':=(.one (.ptr (.nm 64 0 0)))) rfl erL.nil)))))) (erH.drop rfl (erH.cons (v':=(.data 1 (List.map zt v16) true none)) rfl rfl (erH.cons (v':=(.data 1 (List.map zt (v13++v8)) true none)) rfl rfl (erH.cons (v':=(.vars 9 (zE a1))) rfl rfl erH.nil)))) erL.nil rfl rfl (qc (zX eZ (n:=v21.length) lm (za rfl (zbL eZ (Kl rfl eZ (za eZ ?_))))))
      rcases zC H with⟨h23,H⟩|⟨h23,H⟩
      ·refine gDo eZ (dT h23) (zN (es:=(zE a1)) rfl (bR rfl) rfl (gDo rfl (dT h23) ?_))
       obtain⟨v24,h25,H⟩:=zk H
       refine zD (u:=(oI v24)) eC Cl.fn (zhD h25) (Ec eZ En) (Vc (VD.agg rfl) Vn) rfl (gDo rfl (dT h23) (zay eZ eC (zB rfl (dT h23) eZ (za eZ (xQ (AW.weaken (zM [4992,64] (kr 2 rfl rfl SL.nil) (blR rfl) BK.nil GK.nil) (AW.ret ?_)))))))
       cases H
       exact eE rfl rfl
      ·refine zb eZ (dF h23) rfl (zb rfl (dF h23) rfl (zb rfl (dF h23) rfl (zJ rfl (dF h23) eC (za eZ (xQ (AW.weaken (zM [4992,64] (kr 2 rfl rfl SL.nil) (blR rfl) BK.nil GK.nil) (AW.ret ?_)))))))
       cases H
       exact eE rfl rfl
   ·refine aR (zf (m:=2) eZ rfl (zl (q:=2) (c:=(.d (.sl 2 (List.map zd a1.Frozen)))) eZ bZ rfl rfl (zcj (ps:=[(.nm 64 0 0)]) (Ec rfl En) ?_)))
    obtain⟨v26,h27,H⟩:=zk H
    refine zD (u:=(oB v26)) eC Cl.fn (JB h27) (Ec rfl (Ec eZ En)) (Vc Vp (Vc (VD.fn (PDs.cons (QO bZ (CDs.plain (CDs.plain (CDs.plain (CDs.plain (CDs.plain (CDs.plain (CDs.plain (CDs.plain (CDs.plain CDs.nil)))))))))) PDs.nil)) Vn)) rfl (za eZ ?_)
    rcases zC H with⟨h28,H⟩|⟨h28,H⟩
    ·exact zb eZ h28 rfl (zb rfl h28 rfl (zb rfl h28 rfl (zb rfl h28 rfl (zB rfl h28 eC (zm (TQ.qn ⟨true,H,(zM [] (sR rfl rfl) (blR rfl) (bkR rfl rfl rfl) GK.nil)⟩))))))
    ·refine gDo eZ (nt h28) (zf (m:=3) rfl rfl (gDo rfl (nt h28) (zl (q:=3) (c:=(.d (.sl 2 (List.map zj a1.Cells)))) eZ bZ rfl rfl (gDo rfl (nt h28) (zcj (ps:=[(.nm 64 0 0)]) (Ec rfl En) (gDo rfl (nt h28) ?_))))))
     obtain⟨v29,h30,H⟩:=zk H
     exact zD (u:=(oB v29)) eC Cl.fn (Yw h30) (Ec rfl (Ec eZ En)) (Vc Vp (Vc (VD.fn (PDs.cons (QO bZ (CDs.plain (CDs.plain (CDs.plain (CDs.plain (CDs.plain (CDs.plain (CDs.plain (CDs.plain (CDs.plain CDs.nil)))))))))) PDs.nil)) Vn)) rfl (zJ rfl (nt h28) eZ (zm (TQ.qn ⟨v29,H,(zM [] (sR rfl rfl) (blR rfl) (bkR rfl rfl rfl) GK.nil)⟩)))
 ·refine aR (zf (m:=0) rfl rfl (zl (q:=0) (c:=(dI a1.Me)) eZ bZ rfl rfl ?_))
  obtain⟨v31,h32,H⟩:=zk H
  refine zD (u:=(oB v31)) eC Cl.fn (zea h32) (Ec eZ En) (Vc Vp Vn) rfl (qG eZ (za eZ ?_))
  rcases zC H with⟨h33,H⟩|⟨h33,H⟩
  ·refine gDo eZ (cN h33) (zf (m:=1) rfl rfl (gDo rfl (cN h33) (zl (q:=1) (c:=(.d (.sl 2 (List.map zd a1.Own)))) eZ bZ rfl rfl (gDo rfl (cN h33) ?_))))
   obtain⟨v34,h35,H⟩:=zk H
   refine zD (u:=(oB v34)) eC Cl.fn (XG h35) (Ec eZ En) (Vc Vp Vn) rfl (gDo rfl (cN h33) (qG eZ (zJ rfl (cN h33) eZ (za eZ ?_))))
   rcases zC H with⟨h36,H⟩|⟨h36,H⟩
   ·refine gDo eZ (cN h36) (zf (m:=2) rfl rfl (gDo rfl (cN h36) (zl (q:=2) (c:=(.d (.sl 2 (List.map zd a1.Frozen)))) eZ bZ rfl rfl (gDo rfl (cN h36) ?_))))
    obtain⟨v37,h38,H⟩:=zk H
    refine zD (u:=(oB v37)) eC Cl.fn (XG h38) (Ec eZ En) (Vc Vp Vn) rfl (gDo rfl (cN h36) (qG eZ (zJ rfl (cN h36) eZ (za eZ ?_))))
    rcases zC H with⟨h39,H⟩|⟨h39,H⟩
    ·refine gDo eZ (cN h39) (zf (m:=3) rfl rfl (gDo rfl (cN h39) (zl (q:=3) (c:=(.d (.sl 2 (List.map zj a1.Cells)))) eZ bZ rfl rfl (gDo rfl (cN h39) ?_))))
     obtain⟨v40,h41,H⟩:=zk H
     refine zD (u:=(oB v40)) eC Cl.fn (za0 h41) (Ec eZ En) (Vc Vp Vn) rfl (gDo rfl (cN h39) (qG eZ (zJ rfl (cN h39) eZ (za eZ ?_))))
     rcases zC H with⟨h42,H⟩|⟨h42,H⟩
     ·refine gDo eZ (cN h42) (zf (m:=4) rfl rfl (gDo rfl (cN h42) (zl (q:=4) (c:=(.d (.sl 4 (List.map zp a1.Locks)))) eZ bZ rfl rfl (gDo rfl (cN h42) ?_))))
      obtain⟨v43,h44,H⟩:=zk H
      refine zD (u:=(oB v43)) eC Cl.fn (zbb h44) (Ec eZ En) (Vc Vp Vn) rfl (gDo rfl (cN h42) (qG eZ (zJ rfl (cN h42) eZ (za eZ ?_))))
      rcases zC H with⟨h45,H⟩|⟨h45,H⟩
      ·refine gDo eZ (cN h45) (zN (es:=(zE a1)) rfl bZ rfl (gDo rfl (cN h45) ?_))
       obtain⟨v46,h47,H⟩:=zk H
       refine zD (u:=(oB v46)) eC Cl.fn (zfc h47) (Ec eZ En) (Vc (VD.agg rfl) Vn) rfl (gDo rfl (cN h45) (qG eZ (zJ rfl (cN h45) eZ (za eZ ?_))))
       rcases zC H with⟨h48,H⟩|⟨h48,H⟩
       ·refine gDo eZ (cN h48) (zf (m:=6) rfl rfl (gDo rfl (cN h48) (zl (q:=6) (c:=(.d (.sl 1 (List.map zt a1.Wounded)))) eZ bZ rfl rfl (gDo rfl (cN h48) ?_))))
        obtain⟨v49,h50,H⟩:=zk H
        refine zD (u:=(oB v49)) eC Cl.fn (kV h50) (Ec eZ En) (Vc Vp Vn) rfl (gDo rfl (cN h48) (qG eZ (zJ rfl (cN h48) eZ (za eZ ?_))))
        rcases zC H with⟨h51,H⟩|⟨h51,H⟩
        ·refine gDo eZ (cN h51) (zf (m:=7) rfl rfl (gDo rfl (cN h51) (zl (q:=7) (c:=(.d (.sl 1 (List.map zt a1.Ended)))) eZ bZ rfl rfl (gDo rfl (cN h51) ?_))))
         obtain⟨v52,h53,H⟩:=zk H
         refine zD (u:=(oB v52)) eC Cl.fn (kV h53) (Ec eZ En) (Vc Vp Vn) rfl (gDo rfl (cN h51) (qG eZ (zJ rfl (cN h51) eZ (za eZ ?_))))
         rcases zC H with⟨h54,H⟩|⟨h54,H⟩
         ·refine gDo eZ (cN h54) (zf (m:=8) rfl rfl (gDo rfl (cN h54) (zl (q:=8) (c:=(dI a1.Rank)) eZ bZ rfl rfl (gDo rfl (cN h54) ?_))))
          obtain⟨v55,h56,H⟩:=zk H
          exact zD (u:=(oB v55)) eC Cl.fn (Qs h56) (Ec eZ (Ec eC (Ec eC En))) (Vc Vp (Vc Vp (Vc Vp Vn))) rfl (gDo rfl (cN h54) (qG eZ (zJ rfl (cN h54) eZ (zm (TQ.qn ⟨(!v55),H,(zM [] (sR rfl rfl) (blR rfl) (bkR rfl rfl rfl) GK.nil)⟩)))))
         ·exact zb eZ (cN (nt h54)) rfl (zb rfl (cN (nt h54)) rfl (zb rfl (cN (nt h54)) rfl (zb rfl (cN (nt h54)) rfl (zB rfl (cN (nt h54)) eC (zm (TQ.qn ⟨true,H,(zM [] (sR rfl rfl) (blR rfl) (bkR rfl rfl rfl) GK.nil)⟩))))))
        ·exact zb eZ (cN (nt h51)) rfl (zb rfl (cN (nt h51)) rfl (zb rfl (cN (nt h51)) rfl (zb rfl (cN (nt h51)) rfl (zB rfl (cN (nt h51)) eC (za eZ (zb eZ rfl rfl (zb rfl rfl rfl (zb rfl rfl rfl (zb rfl rfl rfl (zB rfl rfl eC (zm (TQ.qn ⟨true,H,(zM [] (sR rfl rfl) (blR rfl) (bkR rfl rfl rfl) GK.nil)⟩))))))))))))
       ·exact zb eZ (cN (nt h48)) rfl (zb rfl (cN (nt h48)) rfl (zb rfl (cN (nt h48)) rfl (zb rfl (cN (nt h48)) rfl (zB rfl (cN (nt h48)) eC (za eZ (zb eZ rfl rfl (zb rfl rfl rfl (zb rfl rfl rfl (zb rfl rfl rfl (zB rfl rfl eC (za eZ (zb eZ rfl rfl (zb rfl rfl rfl (zb rfl rfl rfl (zb rfl rfl rfl (zB rfl rfl eC (zm (TQ.qn ⟨true,H,(zM [] (sR rfl rfl) (blR rfl) (bkR rfl rfl rfl) GK.nil)⟩))))))))))))))))))
      ·exact zb eZ (cN (nt h45)) rfl (zb rfl (cN (nt h45)) rfl (zb rfl (cN (nt h45)) rfl (zB rfl (cN (nt h45)) eC (za eZ (zb eZ rfl rfl (zb rfl rfl rfl (zb rfl rfl rfl (zb rfl rfl rfl (zB rfl rfl eC (za eZ (zb eZ rfl rfl (zb rfl rfl rfl (zb rfl rfl rfl (zb rfl rfl rfl (zB rfl rfl eC (za eZ (zb eZ rfl rfl (zb rfl rfl rfl (zb rfl rfl rfl (zb rfl rfl rfl (zB rfl rfl eC (zm (TQ.qn ⟨true,H,(zM [] (sR rfl rfl) (blR rfl) (bkR rfl rfl rfl) GK.nil)⟩)))))))))))))))))))))))
     ·exact zb eZ (cN (nt h42)) rfl (zb rfl (cN (nt h42)) rfl (zb rfl (cN (nt h42)) rfl (zb rfl (cN (nt h42)) rfl (zB rfl (cN (nt h42)) eC (za eZ (zb eZ rfl rfl (zb rfl rfl rfl (zb rfl rfl rfl (zB rfl rfl eC (za eZ (zb eZ rfl rfl (zb rfl rfl rfl (zb rfl rfl rfl (zb rfl rfl rfl (zB rfl rfl eC (za eZ (zb eZ rfl rfl (zb rfl rfl rfl (zb rfl rfl rfl (zb rfl rfl rfl (zB rfl rfl eC (za eZ (zb eZ rfl rfl (zb rfl rfl rfl (zb rfl rfl rfl (zb rfl rfl rfl (zB rfl rfl eC (zm (TQ.qn ⟨true,H,(zM [] (sR rfl rfl) (blR rfl) (bkR rfl rfl rfl) GK.nil)⟩)))))))))))))))))))))))))))))
    ·exact zb eZ (cN (nt h39)) rfl (zb rfl (cN (nt h39)) rfl (zb rfl (cN (nt h39)) rfl (zb rfl (cN (nt h39)) rfl (zB rfl (cN (nt h39)) eC (za eZ (zb eZ rfl rfl (zb rfl rfl rfl (zb rfl rfl rfl (zb rfl rfl rfl (zB rfl rfl eC (za eZ (zb eZ rfl rfl (zb rfl rfl rfl (zb rfl rfl rfl (zB rfl rfl eC (za eZ (zb eZ rfl rfl (zb rfl rfl rfl (zb rfl rfl rfl (zb rfl rfl rfl (zB rfl rfl eC (za eZ (zb eZ rfl rfl (zb rfl rfl rfl (zb rfl rfl rfl (zb rfl rfl rfl (zB rfl rfl eC (za eZ (zb eZ rfl rfl (zb rfl rfl rfl (zb rfl rfl rfl (zb rfl rfl rfl (zB rfl rfl eC (zm (TQ.qn ⟨true,H,(zM [] (sR rfl rfl) (blR rfl) (bkR rfl rfl rfl) GK.nil)⟩)))))))))))))))))))))))))))))))))))
   ·refine zb eZ (cN (nt h36)) rfl (zb rfl (cN (nt h36)) rfl (zb rfl (cN (nt h36)) rfl (zb rfl (cN (nt h36)) rfl (zB rfl (cN (nt h36)) eC (za eZ (zb eZ rfl rfl (zb rfl rfl rfl (zb rfl rfl rfl (zb rfl rfl rfl (zB rfl rfl eC (za eZ (zb eZ rfl rfl (zb rfl rfl rfl (zb rfl rfl rfl (zb rfl rfl rfl (zB rfl rfl eC (za eZ (zb eZ rfl rfl (zb rfl rfl rfl (zb rfl rfl rfl (zB rfl rfl eC (za eZ (zb eZ rfl rfl (zb rfl rfl rfl (zb rfl rfl rfl (zb rfl rfl rfl (zB rfl rfl eC (za eZ (zb eZ rfl rfl (zb rfl rfl rfl (zb rfl rfl rfl (zb rfl rfl rfl (zB rfl rfl eC (za eZ (zb eZ rfl rfl (zb rfl rfl rfl (zb rfl rfl rfl (zb rfl rfl rfl (zB rfl rfl eC ?_)))))))))))))))))))))))))))))))))))))))
    exact zm (TQ.qn ⟨true,H,(zM [] (sR rfl rfl) (blR rfl) (bkR rfl rfl rfl) GK.nil)⟩)
  ·refine zb eZ (cN (nt h33)) rfl (zb rfl (cN (nt h33)) rfl (zb rfl (cN (nt h33)) rfl (zb rfl (cN (nt h33)) rfl (zB rfl (cN (nt h33)) eC (za eZ (zb eZ rfl rfl (zb rfl rfl rfl (zb rfl rfl rfl (zb rfl rfl rfl (zB rfl rfl eC (za eZ (zb eZ rfl rfl (zb rfl rfl rfl (zb rfl rfl rfl (zb rfl rfl rfl (zB rfl rfl eC (za eZ (zb eZ rfl rfl (zb rfl rfl rfl (zb rfl rfl rfl (zb rfl rfl rfl (zB rfl rfl eC (za eZ (zb eZ rfl rfl (zb rfl rfl rfl (zb rfl rfl rfl (zB rfl rfl eC (za eZ (zb eZ rfl rfl (zb rfl rfl rfl (zb rfl rfl rfl (zb rfl rfl rfl (zB rfl rfl eC (za eZ (zb eZ rfl rfl (zb rfl rfl rfl (zb rfl rfl rfl (zb rfl rfl rfl (zB rfl rfl eC ?_)))))))))))))))))))))))))))))))))))))))
   exact za eZ (zb eZ rfl rfl (zb rfl rfl rfl (zb rfl rfl rfl (zb rfl rfl rfl (zB rfl rfl eC (zm (TQ.qn ⟨true,H,(zM [] (sR rfl rfl) (blR rfl) (bkR rfl rfl rfl) GK.nil)⟩)))))))
theorem zec{a1:zn}{a2:Int}{a3:ze}{r:Int}(H:Jz a1 a2 a3=some r):Fn Tryz.prog 89 (lent [(.agg (zR a1)),(.int .i64 a2),(.agg (zd a3))]) true [(.int .i64 r)]:=by
 refine f89 (fle rfl) ?_
 rw[zx]
 refine AW.weaken (zg [] (kv 0 (.agg (zE a1)) rfl rfl (kv 1 (oI a2) rfl rfl (kv 2 (.agg [(dI a3.Lo),(dI a3.Hi)]) rfl rfl SL.nil))) BL.nil BK.nil) ?_
 unfold Jz at H
 unfold i89
 refine aV (jh (n:=192) (m:=9) (cs:=(zE a1)) rfl eZ rfl rfl nZ (jh (n:=320) (m:=2) (cs:=[(dI a3.Lo),(dI a3.Hi)]) rfl rfl rfl rfl (nR rfl) (za eC (xQ (aS (AW.block (zF (fun t4:Bool=>(Zy a2 a1) t4=some r) (fun t4=>mk [(1,(oI a2)),(3,(.one (.ptr (.nm 192 0 0)))),(7,(oB t4))] [(192,(.vars 9 (zE a1)))] noG) ?_ ?_)))))))
 ·intro t4 H
  unfold Zy at H
  rcases zC H with⟨h6,H⟩|⟨h6,H⟩
  ·refine zi rfl h6 (aV (za eC (xQ (AW.ret (BQ.qr (TQ.qr ?_))))))
   cases H
   exact eE rfl rfl
  ·refine zh rfl (nt h6) (aV (za eZ (zf (m:=8) rfl rfl (zl (q:=8) (c:=(dI a1.Rank)) eZ bZ rfl rfl (qh rfl eZ (za eZ (xQ ?_)))))))
   rcases zC H with⟨h7,H⟩|⟨h7,H⟩
   ·refine zi eZ (dT h7) (aV (za eC (xQ (AW.ret (BQ.qr (TQ.qr ?_))))))
    cases H
    exact eE rfl rfl
   ·refine zh eZ (dF h7) (AW.skip (BQ.qn (TQ.qn (aV (za eC (xQ (AW.ret ?_)))))))
    cases H
    exact eE rfl rfl
 ·refine aR (zN (es:=(zE a1)) rfl (bR rfl) rfl ?_)
  obtain⟨v8,h9,H⟩:=zk H
  refine zD (u:=(oB v8)) eC Cl.fn (zeq h9) (Ec eZ En) (Vc (VD.agg rfl) Vn) rfl (qG eZ (za eZ ?_))
  rcases zC H with⟨h10,H⟩|⟨h10,H⟩
  ·refine gDo eZ (cN h10) (za rfl (gDo rfl (cN h10) ?_))
   obtain⟨v11,h12,H⟩:=zk H
   refine zD (u:=(oB v11)) eC Cl.fn (Qs h12) (Ec eZ (Ec eC (Ec eC En))) (Vc Vp (Vc Vp (Vc Vp Vn))) rfl (gDo rfl (cN h10) (qG eZ (zJ rfl (cN h10) eZ (za eZ ?_))))
   rcases zC H with⟨h13,H⟩|⟨h13,H⟩
   ·refine gDo eZ (cN h13) (zN (es:=[(dI a3.Lo),(dI a3.Hi)]) rfl bZ rfl (gDo rfl (cN h13) ?_))
    obtain⟨v14,h15,H⟩:=zk H
    exact zD (u:=(oB v14)) eC Cl.fn (J6 h15) (Ec eZ En) (Vc (VD.agg rfl) Vn) rfl (gDo rfl (cN h13) (qG eZ (zJ rfl (cN h13) eZ (za eZ (zm (TQ.qn ⟨(!v14),H,(zg [320] (sR rfl rfl) (blR rfl) (bkR rfl rfl rfl))⟩))))))
   ·exact zb eZ (cN (nt h13)) rfl (zb rfl (cN (nt h13)) rfl (zb rfl (cN (nt h13)) rfl (zB rfl (cN (nt h13)) eC (za eZ (zm (TQ.qn ⟨true,H,(zg [320] (sR rfl rfl) (blR rfl) (bkR rfl rfl rfl))⟩))))))
  ·exact zb eZ (cN (nt h10)) rfl (zb rfl (cN (nt h10)) rfl (zb rfl (cN (nt h10)) rfl (zB rfl (cN (nt h10)) eC (za eZ (zb eZ rfl rfl (zb rfl rfl rfl (zb rfl rfl rfl (zB rfl rfl eC (za eZ (zm (TQ.qn ⟨true,H,(zg [320] (sR rfl rfl) (blR rfl) (bkR rfl rfl rfl))⟩)))))))))))
theorem Xv{a1:(List ze)}{r:(List ze)}(H:j8 a1=some r):Fn Tryz.prog 203 (lent [(.sl 2 (List.map zd a1))]) true [(.sl 2 (List.map zd r))]:=by
 refine zFC (fle rfl) ?_
 rw[zx]
 refine AW.weaken (zg [] (kv 0 (.one (.d (.sl 2 (List.map zd a1)))) rfl rfl SL.nil) BL.nil BK.nil) ?_
 unfold j8 at H
 unfold zyO
 refine aV (za eC (xQ (zF (fun t2:Unit=>(jR a1) t2=some r) (fun t2=>mk [(0,(.one (.d (.sl 2 (List.map zd a1)))))] [] noG) ?_ ?_)))
 ·intro t2 H
  unfold jR at H
  refine aV (yw (m:=320) rfl nZ (za rfl ?_))
  obtain⟨h4,H⟩:=qa H
  refine zau (f:=zd) (m:=448) (own:=true) (ys:=a1) (q:=a1.length) rfl rfl rfl eZ (El.lent fun _ _=>rfl) rfl h4 (by decide) nZ (za eZ (xQ (AW.ret ?_)))
  obtain rfl:=(Option.some.inj H)
  exact qI (RL.cons (RV.tmp eZ) (VO.sl bZ lm (zy fun _=>rfl)) RL.nil) (by decide)
 ·refine aV (za rfl ?_)
  rcases zC H with⟨h5,H⟩|⟨h5,H⟩
  ·refine zfn eZ h5 (xQ (AW.condU eZ ?_ ?_))
   ·have H:(some ([]:(List ze)))=some r:=by rw[←H];simp[List.eq_nil_of_length_eq_zero h5,jR]
    refine aV (za eC (xQ (AW.ret (TQ.qr ?_))))
    cases H
    exact qI (RL.cons (RV.tmp eZ) VO.zs RL.nil) List.nodup_nil
   ·exact AW.skip (TQ.qn ⟨(),H,(zg [] (sR rfl rfl) BL.nil BK.nil)⟩)
  ·exact zgS eZ h5 (xQ (zh eZ rfl (AW.skip (TQ.qn ⟨(),H,(zg [] (sR rfl rfl) BL.nil BK.nil)⟩))))
theorem zby{a1:(List zu)}{r:(List zu)}(H:yW a1=some r):Fn Tryz.prog 204 (lent [(.sl 2 (List.map zj a1))]) true [(.sl 2 (List.map zj r))]:=by
 refine zEV (fle rfl) ?_
 rw[zx]
 refine AW.weaken (zg [] (kv 0 (.one (.d (.sl 2 (List.map zj a1)))) rfl rfl SL.nil) BL.nil BK.nil) ?_
 unfold yW at H
 unfold zyt
 refine aV (za eC (xQ (zF (fun t2:Unit=>(j6 a1) t2=some r) (fun t2=>mk [(0,(.one (.d (.sl 2 (List.map zj a1)))))] [] noG) ?_ ?_)))
 ·intro t2 H
  unfold j6 at H
  refine aV (yw (m:=320) rfl nZ (za rfl ?_))
  obtain⟨h4,H⟩:=qa H
  refine zau (f:=zj) (m:=448) (own:=true) (ys:=a1) (q:=a1.length) rfl rfl rfl eZ (El.lent fun _ _=>rfl) rfl h4 (by decide) nZ (za eZ (xQ (AW.ret ?_)))
  obtain rfl:=(Option.some.inj H)
  exact qI (RL.cons (RV.tmp eZ) (VO.sl bZ lm (zy fun _=>rfl)) RL.nil) (by decide)
 ·refine aV (za rfl ?_)
  rcases zC H with⟨h5,H⟩|⟨h5,H⟩
  ·refine zfn eZ h5 (xQ (AW.condU eZ ?_ ?_))
   ·have H:(some ([]:(List zu)))=some r:=by rw[←H];simp[List.eq_nil_of_length_eq_zero h5,j6]
    refine aV (za eC (xQ (AW.ret (TQ.qr ?_))))
    cases H
    exact qI (RL.cons (RV.tmp eZ) VO.zs RL.nil) List.nodup_nil
   ·exact AW.skip (TQ.qn ⟨(),H,(zg [] (sR rfl rfl) BL.nil BK.nil)⟩)
  ·exact zgS eZ h5 (xQ (zh eZ rfl (AW.skip (TQ.qn ⟨(),H,(zg [] (sR rfl rfl) BL.nil BK.nil)⟩))))
theorem zbx{a1:(List zK)}{r:(List zK)}(H:yT a1=some r):Fn Tryz.prog 205 (lent [(.sl 4 (List.map zp a1))]) true [(.sl 4 (List.map zp r))]:=by
 refine zE3 (fle rfl) ?_
 rw[zx]
 refine AW.weaken (zg [] (kv 0 (.one (.d (.sl 4 (List.map zp a1)))) rfl rfl SL.nil) BL.nil BK.nil) ?_
 unfold yT at H
 unfold zyR
 refine aV (za eC (xQ (zF (fun t2:Unit=>(j7 a1) t2=some r) (fun t2=>mk [(0,(.one (.d (.sl 4 (List.map zp a1)))))] [] noG) ?_ ?_)))
 ·intro t2 H
  unfold j7 at H
  refine aV (yw (m:=320) rfl nZ (za rfl ?_))
  obtain⟨h4,H⟩:=qa H
  refine zau (f:=zp) (m:=448) (own:=true) (ys:=a1) (q:=a1.length) rfl rfl rfl eZ (El.lent fun _ _=>rfl) rfl h4 (by decide) nZ (za eZ (xQ (AW.ret ?_)))
  obtain rfl:=(Option.some.inj H)
  exact qI (RL.cons (RV.tmp eZ) (VO.sl bZ lm (zy fun _=>rfl)) RL.nil) (by decide)
 ·refine aV (za rfl ?_)
  rcases zC H with⟨h5,H⟩|⟨h5,H⟩
  ·refine zfn eZ h5 (xQ (AW.condU eZ ?_ ?_))
   ·have H:(some ([]:(List zK)))=some r:=by rw[←H];simp[List.eq_nil_of_length_eq_zero h5,j7]
    refine aV (za eC (xQ (AW.ret (TQ.qr ?_))))
    cases H
    exact qI (RL.cons (RV.tmp eZ) VO.zs RL.nil) List.nodup_nil
   ·exact AW.skip (TQ.qn ⟨(),H,(zg [] (sR rfl rfl) BL.nil BK.nil)⟩)
  ·exact zgS eZ h5 (xQ (zh eZ rfl (AW.skip (TQ.qn ⟨(),H,(zg [] (sR rfl rfl) BL.nil BK.nil)⟩))))
theorem za2{a1:(List zu)}{r:(List zu)}(H:yr a1=some r):Fn Tryz.prog 207 (lent [(.sl 2 (List.map zj a1))]) true [(.sl 2 (List.map zj r))]:=by
 refine zFp (fle rfl) ?_
 rw[zx]
 refine AW.weaken (zg [] (kv 0 (.one (.d (.sl 2 (List.map zj a1)))) rfl rfl SL.nil) BL.nil BK.nil) ?_
 unfold yr at H
 unfold zCF
 refine aV (za eC (xQ (zF (fun t2:Unit=>(jS a1) t2=some r) (fun t2=>mk [(0,(.one (.d (.sl 2 (List.map zj a1)))))] [] noG) ?_ ?_)))
 ·intro t2 H
  unfold jS at H
  refine aV (yw (m:=320) rfl nZ (za rfl ?_))
  obtain⟨h4,H⟩:=qa H
  refine zau (f:=zj) (m:=448) (own:=true) (ys:=a1) (q:=a1.length) rfl rfl rfl eZ (El.lent fun _ _=>rfl) rfl h4 (by decide) nZ (za eZ (xQ (AW.ret ?_)))
  obtain rfl:=(Option.some.inj H)
  exact qI (RL.cons (RV.tmp eZ) (VO.sl bZ lm (zy fun _=>rfl)) RL.nil) (by decide)
 ·refine aV (za rfl ?_)
  rcases zC H with⟨h5,H⟩|⟨h5,H⟩
  ·refine zfn eZ h5 (xQ (AW.condU eZ ?_ ?_))
   ·have H:(some ([]:(List zu)))=some r:=by rw[←H];simp[List.eq_nil_of_length_eq_zero h5,jS]
    refine aV (za eC (xQ (AW.ret (TQ.qr ?_))))
    cases H
    exact qI (RL.cons (RV.tmp eZ) VO.zs RL.nil) List.nodup_nil
   ·exact AW.skip (TQ.qn ⟨(),H,(zg [] (sR rfl rfl) BL.nil BK.nil)⟩)
  ·exact zgS eZ h5 (xQ (zh eZ rfl (AW.skip (TQ.qn ⟨(),H,(zg [] (sR rfl rfl) BL.nil BK.nil)⟩))))
theorem Yj{a1:zn}{r:zn}(H:j9 a1=some r):Fn Tryz.prog 92 (lent [(.agg (zR a1))]) true [(.agg (zR r))]:=by
 refine f92 (fle rfl) ?_
 rw[zx]
 refine AW.weaken (t:=mk [(0,(.agg (zE a1)))] [] (lk [])) (zg [] (sR rfl rfl) BL.nil BK.nil) ?_
 unfold j9 at H
 unfold i92
 refine aV (jh (n:=64) (m:=9) (cs:=(zE a1)) rfl eZ rfl rfl nZ (Zl (n:=128) (m:=9) rfl rfl (nR rfl) (xQ (aS (AW.regd (zf (m:=0) rfl rfl (zl (q:=0) (c:=(dI a1.Me)) eZ (hB rfl (bR rfl)) rfl rfl (zf (m:=1) rfl rfl (zl (q:=1) (c:=(.d (.sl 2 (List.map zd a1.Own)))) eZ (hB rfl (bR rfl)) rfl rfl ?_)))))))))
 obtain⟨v2,h3,H⟩:=zk H
 refine jK (u:=(.one (.sl 640 0 v2.length))) (bs:=[(640,(.data 2 (List.map zd v2) true none))]) eC Cl.fn (Xv h3) (Ec eZ En) (Vc Vp Vn) (by simp[jr,jV,qF,jx,qK]) rfl (fC (hN (nR rfl)) rfl (fC (hN (nR rfl)) rfl fN)) (zf (m:=2) rfl rfl (zl (q:=2) (c:=(.d (.sl 2 (List.map zd a1.Frozen)))) eZ (hB rfl (bR rfl)) rfl rfl ?_))
 obtain⟨v4,h5,H⟩:=zk H
 refine jK (u:=(.one (.sl 832 0 v4.length))) (bs:=[(832,(.data 2 (List.map zd v4) true none))]) eC Cl.fn (Xv h5) (Ec eZ En) (Vc Vp Vn) (by simp[jr,jV,qF,jx,qK]) rfl (fC (hN (nR rfl)) rfl (fC (hN (nR rfl)) rfl fN)) (zf (m:=3) rfl rfl (zl (q:=3) (c:=(.d (.sl 2 (List.map zj a1.Cells)))) eZ (hB rfl (bR rfl)) rfl rfl ?_))
 obtain⟨v6,h7,H⟩:=zk H
 refine jK (u:=(.one (.sl 1024 0 v6.length))) (bs:=[(1024,(.data 2 (List.map zj v6) true none))]) eC Cl.fn (zby h7) (Ec eZ En) (Vc Vp Vn) (by simp[jr,jV,qF,jx,qK]) rfl (fC (hN (nR rfl)) rfl (fC (hN (nR rfl)) rfl fN)) (zf (m:=4) rfl rfl (zl (q:=4) (c:=(.d (.sl 4 (List.map zp a1.Locks)))) eZ (hB rfl (bR rfl)) rfl rfl ?_))
 obtain⟨v8,h9,H⟩:=zk H
 refine jK (u:=(.one (.sl 1216 0 v8.length))) (bs:=[(1216,(.data 4 (List.map zp v8) true none))]) eC Cl.fn (zbx h9) (Ec eZ En) (Vc Vp Vn) (by simp[jr,jV,qF,jx,qK]) rfl (fC (hN (nR rfl)) rfl (fC (hN (nR rfl)) rfl fN)) (zf (m:=6) rfl rfl (zl (q:=6) (c:=(.d (.sl 1 (List.map zt a1.Wounded)))) eZ (hB rfl (bR rfl)) rfl rfl ?_))
 obtain⟨v10,h11,H⟩:=zk H
 refine jK (u:=(.one (.sl 1408 0 v10.length))) (bs:=[(1408,(.data 1 (List.map zt v10) true none))]) eC Cl.fn (xP h11) (Ec eZ En) (Vc Vp Vn) (by simp[jr,jV,qF,jx,qK]) rfl (fC (hN (nR rfl)) rfl (fC (hN (nR rfl)) rfl fN)) (zf (m:=7) rfl rfl (zl (q:=7) (c:=(.d (.sl 1 (List.map zt a1.Ended)))) eZ (hB rfl (bR rfl)) rfl rfl ?_))
 obtain⟨v12,h13,H⟩:=zk H
 refine jK (u:=(.one (.sl 1600 0 v12.length))) (bs:=[(1600,(.data 1 (List.map zt v12) true none))]) eC Cl.fn (xP h13) (Ec eZ En) (Vc Vp Vn) (by simp[jr,jV,qF,jx,qK]) rfl (fC (hN (nR rfl)) rfl (fC (hN (nR rfl)) rfl fN)) (zf (m:=8) rfl rfl (zl (q:=8) (c:=(dI a1.Rank)) eZ (hB rfl (bR rfl)) rfl rfl (Xa (cs:=[(dI a1.Me),(.sl 640 0 v2.length),(.sl 832 0 v4.length),(.sl 1024 0 v6.length),(.sl 1216 0 v8.length),.zs,(.sl 1408 0 v10.length),(.sl 1600 0 v12.length),(dI a1.Rank)]) (jO rfl (jO rfl (jO rfl (jO rfl (jO rfl (jO rfl (jO rfl (jO eZ kF)))))))) (by kernel_rfl) (Zl (n:=192) (m:=9) rfl rfl (hN (nR rfl)) (zP (es:=[(dI a1.Me),(.sl 640 0 v2.length),(.sl 832 0 v4.length),(.sl 1024 0 v6.length),(.sl 1216 0 v8.length),.zs,(.sl 1408 0 v10.length),(.sl 1600 0 v12.length),(dI a1.Rank)]) eZ rfl rfl rfl bZ rfl (xQ (AW.weaken (zM [] (kr 3 rfl rfl (kr 2 rfl rfl (kr 1 rfl rfl SL.nil))) (blR rfl) (BK.cons (n:=192) rfl bZ rfl rfl (BK.cons (n:=1600) rfl (bR rfl) rfl rfl (BK.cons (n:=1408) rfl (bR rfl) rfl rfl (BK.cons (n:=1216) rfl (bR rfl) rfl rfl (BK.cons (n:=1024) rfl (bR rfl) rfl rfl (BK.cons (n:=832) rfl (bR rfl) rfl rfl (BK.cons (n:=640) rfl (bR rfl) rfl rfl (BK.cons (n:=128) rfl (bR rfl) rfl rfl (BK.cons (n:=64) rfl (bR rfl) rfl rfl BK.nil))))))))) GK.nil) (zF (fun t14:(List zL)=>(QF a1 v2 v4 v6 v8 v10 v12) t14=some r) (fun t14=>mk [(2,(.one (.ptr (.nm 128 0 0)))),(3,(.one (.ptr (.nm 192 0 0))))] [(128,(.vars 9 [(dI 0),.zs,.zs,.zs,.zs,.zs,.zs,.zs,(dI 0)])),(320128,(.data 2 (List.map zA t14) true none)),(192,(.vars 9 [(dI a1.Me),(.sl 640 0 v2.length),(.sl 832 0 v4.length),(.sl 1024 0 v6.length),(.sl 1216 0 v8.length),(.sl 320128 0 t14.length),(.sl 1408 0 v10.length),(.sl 1600 0 v12.length),(dI a1.Rank)])),(640,(.data 2 (List.map zd v2) true none)),(832,(.data 2 (List.map zd v4) true none)),(1024,(.data 2 (List.map zj v6) true none)),(1216,(.data 4 (List.map zp v8) true none)),(1408,(.data 1 (List.map zt v10) true none)),(1600,(.data 1 (List.map zt v12) true none))] (lk [])) ?_ ?_))))))))
 ·intro t14 H
  unfold QF at H
  refine aS (zW (zw (zN (es:=[(dI a1.Me),(.sl 640 0 v2.length),(.sl 832 0 v4.length),(.sl 1024 0 v6.length),(.sl 1216 0 v8.length),(.sl 320128 0 t14.length),(.sl 1408 0 v10.length),(.sl 1600 0 v12.length),(dI a1.Rank)]) rfl (bR rfl) rfl (zm (zw (zP (es:=[(dI a1.Me),(.sl 640 0 v2.length),(.sl 832 0 v4.length),(.sl 1024 0 v6.length),(.sl 1216 0 v8.length),(.sl 320128 0 t14.length),(.sl 1408 0 v10.length),(.sl 1600 0 v12.length),(dI a1.Rank)]) rfl eZ rfl rfl bZ rfl (zm (qc (xQ (AW.ret ?_))))))))))
  cases H
  exact qI (RL.cons (qS (es:=[(dI a1.Me),(.sl 640 0 v2.length),(.sl 832 0 v4.length),(.sl 1024 0 v6.length),(.sl 1216 0 v8.length),(.sl 320128 0 t14.length),(.sl 1408 0 v10.length),(.sl 1600 0 v12.length),(dI a1.Rank)]) rfl bZ rfl) (VO.aggs (VOs.cons (VO.flat rfl) (VOs.cons (VO.sl (bR rfl) lm (zy fun _=>rfl)) (VOs.cons (VO.sl (bR rfl) lm (zy fun _=>rfl)) (VOs.cons (VO.sl (bR rfl) lm (zy fun _=>rfl)) (VOs.cons (VO.sl (bR rfl) lm (zy fun _=>rfl)) (VOs.cons (ZN (bR rfl) lm rfl) (VOs.cons (VO.sl (bR rfl) lm (zy fun _=>rfl)) (VOs.cons (VO.sl (bR rfl) lm (zy fun _=>rfl)) (VOs.cons (VO.flat rfl) VOs.nil)))))))))) RL.nil) (by decide)
 ·refine aV (zf (m:=5) rfl rfl (zl (q:=5) (c:=(.d (.sl 2 (List.map zA a1.Helds)))) eZ (bR rfl) rfl rfl (zX eZ (n:=a1.Helds.length) lm (za eC (xQ (AW.block (AW.iter (fun s16:(Int×(List zL))=>mk [(2,(.one (.ptr (.nm 128 0 0)))),(3,(.one (.ptr (.nm 192 0 0)))),(30,(.one (.d (.sl 2 (List.map zA a1.Helds))))),(31,(oI (a1.Helds.length:Int))),(32,(oI s16.1))] [(128,(.vars 9 [(dI 0),.zs,.zs,.zs,.zs,.zs,.zs,.zs,(dI 0)])),(320192,(.data 2 (List.map zA s16.2) true none)),(192,(.vars 9 [(dI a1.Me),(.sl 640 0 v2.length),(.sl 832 0 v4.length),(.sl 1024 0 v6.length),(.sl 1216 0 v8.length),(.sl 320192 0 s16.2.length),(.sl 1408 0 v10.length),(.sl 1600 0 v12.length),(dI a1.Rank)])),(640,(.data 2 (List.map zd v2) true none)),(832,(.data 2 (List.map zd v4) true none)),(1024,(.data 2 (List.map zj v6) true none)),(1216,(.data 4 (List.map zp v8) true none)),(1408,(.data 1 (List.map zt v10) true none)),(1600,(.data 1 (List.map zt v12) true none))] (lk [])) H ((zM [64] (sR rfl rfl) (blR rfl) (BK.cons rfl (bR rfl) rfl rfl (BK.cons rfl (bR rfl) rfl rfl (BK.cons rfl bZ rfl (by first|rfl|simp) (bkR rfl rfl rfl)))) GK.nil).trans (zkB 320192 2 192 5 true bZ rfl (nR rfl))) ?_)))))))
  intro kb17 s16 H
  unfold QD at H
  refine aV (qh rfl rfl (xQ (aS ?_)))
  rcases zC H with⟨h18,H⟩|⟨h18,H⟩
  ·refine zi eZ (dT h18) (AW.skip (TQ.qn (aS (AW.block (aS (zW (zw ?_)))))))
   obtain⟨v19,h20,H⟩:=zk H
   refine qy rfl rfl h20 (zm (zw (qf (es:=(jE v19)) eZ rfl (zm (zw (Zl (n:=320) (m:=2) rfl rfl (nR rfl) (zm (zw (zP (es:=(jE v19)) eZ rfl rfl rfl bZ rfl (zm (qc (xQ (AW.regt (zf (m:=5) rfl rfl (zl (q:=5) (c:=(.sl 320192 0 s16.2.length)) eZ (hB rfl (bR rfl)) rfl rfl (zf (m:=0) rfl rfl (zl (q:=0) (c:=(dI v19.Tx)) eZ (hB rfl bZ) rfl rfl (zf (m:=1) rfl rfl (zl (q:=1) (c:=(.d (.sl 2 (List.map zj v19.Writes)))) eZ bZ rfl rfl ?_)))))))))))))))))))
   obtain⟨v21,h22,H⟩:=zk H
   refine jK (u:=(.one (.sl 2688 0 v21.length))) (bs:=[(2688,(.data 2 (List.map zj v21) true none))]) eC Cl.fn (za2 h22) (Ec eZ En) (Vc Vp Vn) (by simp[jr,jV,qF,jx,qK]) rfl (fC (nR rfl) rfl (fC (nR rfl) rfl fN)) (Xa (cs:=[(dI v19.Tx),(.sl 2688 0 v21.length)]) (jO rfl (jO eZ kF)) rfl (zbt (m:=2816) (q:=1) (cs:=[(dI v19.Tx),(.sl 2688 0 v21.length)]) rfl (jO eZ kF) rfl (List.cons_ne_nil _ _) (by simp) (nR rfl) (zm ?_)))
   obtain⟨h23,H⟩:=qa H
   refine zg3 (f:=zA) (xs:=s16.2) (t:=(zL.mk v19.Tx v21)) (q:=(s16.2++[(zL.mk v19.Tx v21)]).length) (ds:=[(.int .i64 v19.Tx),(.sl 2 (List.map zj v21))]) (ns:=[2688]) rfl eZ (bR rfl) rfl bZ rfl (VOs.cons (VO.flat rfl) (VOs.cons (VO.sl (bR rfl) lm (zy fun _=>rfl)) VOs.nil)) rfl rfl rfl rfl h23 (by decide) (erL.cons (v':=(.one (.sl 2816 0 1))) rfl (erL.cons (v':=(.agg [(dI v19.Tx),.any])) rfl (erL.cons (v':=(.one .any)) rfl (erL.cons (v':=(.one (.d (.sl 2 (List.map zj v19.Writes))))) rfl (erL.cons (v':=(.one (.ptr (.nm 320 0 1)))) rfl (erL.cons (v':=(oI v19.Tx)) rfl (erL.cons (v':=(.one (.ptr (.nm 320 0 0)))) rfl (erL.cons (v':=(.one (.sl 320192 0 s16.2.length))) rfl (erL.cons (v':=(.one (.ptr (.nm 192 0 5)))) rfl (erL.cons (v':=(.one (.ptr (.nm 320 0 0)))) rfl (erL.cons (v':=(.agg (jE v19))) rfl (erL.cons (v':=(.one (.ptr (.bd (zA v19) 0)))) rfl (erL.cons (v':=(oB (decide (s16.1 < (a1.Helds.length:Int))))) rfl (erL.cons (v':=(.one (.ptr (.nm 128 0 0)))) rfl (erL.cons (v':=(.one (.ptr (.nm 192 0 0)))) rfl (erL.cons (v':=(.one (.d (.sl 2 (List.map zA a1.Helds))))) rfl (erL.cons (v':=(oI (a1.Helds.length:Int))) rfl (erL.cons (v':=(oI s16.1)) rfl erL.nil)))))))))))))))))) (erH.cons (v':=(.vars 2 [(dI v19.Tx),.any])) rfl rfl (erH.drop rfl (erH.cons (v':=(.vars 2 (jE v19))) rfl rfl (erH.cons (v':=(.vars 2 [(dI 0),.zs])) rfl rfl (erH.cons (v':=(.vars 9 [(dI 0),.zs,.zs,.zs,.zs,.zs,.zs,.zs,(dI 0)])) rfl rfl (erH.cons (v':=(.data 2 (List.map zA s16.2) true none)) rfl rfl (erH.cons (v':=(.vars 9 [(dI a1.Me),(.sl 640 0 v2.length),(.sl 832 0 v4.length),(.sl 1024 0 v6.length),(.sl 1216 0 v8.length),(.sl 320192 0 s16.2.length),(.sl 1408 0 v10.length),(.sl 1600 0 v12.length),(dI a1.Rank)])) rfl rfl (erH.cons (v':=(.data 2 (List.map zd v2) true none)) rfl rfl (erH.cons (v':=(.data 2 (List.map zd v4) true none)) rfl rfl (erH.cons (v':=(.data 2 (List.map zj v6) true none)) rfl rfl (erH.cons (v':=(.data 4 (List.map zp v8) true none)) rfl rfl (erH.cons (v':=(.data 1 (List.map zt v10) true none)) rfl rfl (erH.cons (v':=(.data 1 (List.map zt v12) true none)) rfl rfl erH.nil))))))))))))) erL.nil (erL.cons (v':=(.one (.sl 2816 0 1))) rfl (erL.cons (v':=(.agg [(dI v19.Tx),.any])) rfl (erL.cons (v':=(.one .any)) rfl (erL.cons (v':=(.one (.d (.sl 2 (List.map zj v19.Writes))))) rfl (erL.cons (v':=(.one (.ptr (.nm 320 0 1)))) rfl (erL.cons (v':=(oI v19.Tx)) rfl (erL.cons (v':=(.one (.ptr (.nm 320 0 0)))) rfl (erL.cons (v':=(.one .any)) rfl (erL.cons (v':=(.one (.ptr (.nm 192 0 5)))) rfl (erL.cons (v':=(.one (.ptr (.nm 320 0 0)))) rfl (erL.cons (v':=(.agg (jE v19))) rfl (erL.cons (v':=(.one (.ptr (.bd (zA v19) 0)))) rfl (erL.cons (v':=(oB (decide (s16.1 < (a1.Helds.length:Int))))) rfl (erL.cons (v':=(.one (.ptr (.nm 128 0 0)))) rfl (erL.cons (v':=(.one (.ptr (.nm 192 0 0)))) rfl (erL.cons (v':=(.one (.d (.sl 2 (List.map zA a1.Helds))))) rfl (erL.cons (v':=(oI (a1.Helds.length:Int))) rfl (erL.cons (v':=(oI s16.1)) rfl erL.nil)))))))))))))))))) (erH.cons (v':=(.vars 2 [(dI v19.Tx),.any])) rfl rfl (erH.cons (v':=(.vars 2 (jE v19))) rfl rfl (erH.cons (v':=(.vars 2 [(dI 0),.zs])) rfl rfl (erH.cons (v':=(.vars 9 [(dI 0),.zs,.zs,.zs,.zs,.zs,.zs,.zs,(dI 0)])) rfl rfl (erH.drop rfl (erH.cons (v':=(.vars 9 [(dI a1.Me),(.sl 640 0 v2.length),(.sl 832 0 v4.length),(.sl 1024 0 v6.length),(.sl 1216 0 v8.length),.any,(.sl 1408 0 v10.length),(.sl 1600 0 v12.length),(dI a1.Rank)])) rfl rfl (erH.cons (v':=(.data 2 (List.map zd v2) true none)) rfl rfl (erH.cons (v':=(.data 2 (List.map zd v4) true none)) rfl rfl (erH.cons (v':=(.data 2 (List.map zj v6) true none)) rfl rfl (erH.cons (v':=(.data 4 (List.map zp v8) true none)) rfl rfl (erH.cons (v':=(.data 1 (List.map zt v10) true none)) rfl rfl (erH.cons (v':=(.data 1 (List.map zt v12) true none)) rfl rfl erH.nil)))))))))))) erL.nil (zw (zf (m:=5) rfl rfl (zm (zw (zP (es:=[(dI a1.Me),(.sl 640 0 v2.length),(.sl 832 0 v4.length),(.sl 1024 0 v6.length),(.sl 1216 0 v8.length),(.sl 320192 0 ((s16.2++[(zL.mk v19.Tx v21)]).length)),(.sl 1408 0 v10.length),(.sl 1600 0 v12.length),(dI a1.Rank)]) eZ rfl rfl rfl (bR rfl) rfl (zm (qc (zm (BQ.qn (TQ.qn (AW.weaken (zM [2816,320] (kr 2 rfl rfl (kr 3 rfl rfl (kr 30 rfl rfl (kr 31 rfl rfl (kr 32 rfl rfl SL.nil))))) (blR rfl) (BK.cons (n:=192) rfl bZ rfl rfl (BK.cons (n:=320192) rfl (bR rfl) rfl rfl (BK.cons (n:=128) rfl (bR rfl) rfl rfl (BK.cons (n:=640) rfl (bR rfl) rfl rfl (BK.cons (n:=832) rfl (bR rfl) rfl rfl (BK.cons (n:=1024) rfl (bR rfl) rfl rfl (BK.cons (n:=1216) rfl (bR rfl) rfl rfl (BK.cons (n:=1408) rfl (bR rfl) rfl rfl (BK.cons (n:=1600) rfl (bR rfl) rfl rfl BK.nil))))))))) GK.nil) ?_)))))))))))
   exact aR (qj rfl eC (za eZ (zm (TQ.qn ⟨((IntKind.wrap .i64 (s16.1+1)),(s16.2++[(zL.mk v19.Tx v21)])),H,(zM [] (sR rfl rfl) (blR rfl) (BK.cons rfl (bR rfl) rfl rfl (BK.cons rfl (bR rfl) rfl rfl (BK.cons rfl bZ rfl (by first|rfl|simp) (bkR rfl rfl rfl)))) GK.nil)⟩))))
  ·exact zh eZ (dF h18) (AW.exit (TQ.qe (TQ.qe (BQ.qe (TQ.qn ⟨s16.2,H,((zM [] (sR rfl rfl) (blR rfl) (BK.cons rfl bZ rfl rfl (BK.cons rfl (bR rfl) rfl rfl (BK.cons rfl (bR rfl) rfl (by first|rfl|simp) (bkR rfl rfl rfl)))) GK.nil).trans (zai 320192 320128 rfl rfl (nR rfl) GR.nil))⟩)))))
theorem zfo{a1:zn}{a2:Int}{r:(zn×Int)}(H:JD a1 a2=some r):Fn Tryz.prog 90 (lent [(.agg (zR a1)),(.int .i64 a2)]) true [(.agg (zR r.1)),(.int .i64 r.2)]:=by
 refine f90 (fle rfl) ?_
 rw[zx]
 refine AW.weaken (t:=mk [(0,(.agg (zE a1))),(1,(oI a2))] [] (lk [])) (zg [] (sR rfl rfl) BL.nil BK.nil) ?_
 unfold JD at H
 unfold i90
 refine aV (jh (n:=128) (m:=9) (cs:=(zE a1)) rfl eZ rfl rfl nZ (Zl (n:=256) (m:=9) rfl rfl (nR rfl) (za eC (xQ (aS (aV (za rfl (Kl eZ eC (xQ ?_)))))))))
 rcases zC H with⟨h3,H⟩|⟨h3,H⟩
 ·refine zi eZ (dT h3) (aS (zW (zw (Xa (cs:=[(dI 0),.zs,.zs,.zs,.zs,.zs,.zs,.zs,(dI 0)]) kF rfl (zm (zw (zP (es:=[(dI 0),.zs,.zs,.zs,.zs,.zs,.zs,.zs,(dI 0)]) rfl eZ rfl rfl bZ rfl (zm (qc (za eC (xQ (AW.ret (TQ.qr ?_)))))))))))))
  cases H
  exact qI (RL.cons (qS (es:=[(dI 0),.zs,.zs,.zs,.zs,.zs,.zs,.zs,(dI 0)]) rfl bZ rfl) (VO.aggs (VOs.cons (VO.flat rfl) (VOs.cons VO.zs (VOs.cons VO.zs (VOs.cons VO.zs (VOs.cons VO.zs (VOs.cons VO.zs (VOs.cons VO.zs (VOs.cons VO.zs (VOs.cons (VO.flat rfl) VOs.nil)))))))))) (RL.cons (RV.tmp eZ) (VO.flat rfl) RL.nil)) List.nodup_nil
 ·refine zh eZ (dF h3) (AW.skip (TQ.qn (aS (zW (zw (zN (es:=(zE a1)) rfl (bR rfl) rfl (zm (zw ?_))))))))
  obtain⟨v4,h5,H⟩:=zk H
  refine jK (u:=(.agg [(dI v4.Me),(.sl 641 0 v4.Own.length),(.sl 642 0 v4.Frozen.length),(.sl 643 0 v4.Cells.length),(.sl 644 0 v4.Locks.length),(.sl 645 0 v4.Helds.length),(.sl 646 0 v4.Wounded.length),(.sl 647 0 v4.Ended.length),(dI v4.Rank)])) (bs:=[(641,(.data 2 (List.map zd v4.Own) true none)),(642,(.data 2 (List.map zd v4.Frozen) true none)),(643,(.data 2 (List.map zj v4.Cells) true none)),(644,(.data 4 (List.map zp v4.Locks) true none)),(645,(.data 2 (List.map zA v4.Helds) true none)),(646,(.data 1 (List.map zt v4.Wounded) true none)),(647,(.data 1 (List.map zt v4.Ended) true none))]) eC Cl.fn (Yj h5) (Ec eZ En) (Vc (VD.agg rfl) Vn) (by simp[jr,jV,qF,jx,qK]) rfl (fC (nR rfl) rfl (fC (nR rfl) rfl (fC (nR rfl) rfl (fC (nR rfl) rfl (fC (nR rfl) rfl (fC (nR rfl) rfl (fC (nR rfl) rfl (fC (nR rfl) rfl fN)))))))) (zm (zw (za rfl (zm (zw (zP (es:=[(dI v4.Me),(.sl 641 0 v4.Own.length),(.sl 642 0 v4.Frozen.length),(.sl 643 0 v4.Cells.length),(.sl 644 0 v4.Locks.length),(.sl 645 0 v4.Helds.length),(.sl 646 0 v4.Wounded.length),(.sl 647 0 v4.Ended.length),(dI v4.Rank)]) rfl rfl rfl rfl (bR rfl) rfl (zm (qc (za eZ (xQ (AW.ret ?_)))))))))))
  cases H
  exact qI (RL.cons (qS (es:=[(dI v4.Me),(.sl 641 0 v4.Own.length),(.sl 642 0 v4.Frozen.length),(.sl 643 0 v4.Cells.length),(.sl 644 0 v4.Locks.length),(.sl 645 0 v4.Helds.length),(.sl 646 0 v4.Wounded.length),(.sl 647 0 v4.Ended.length),(dI v4.Rank)]) rfl bZ rfl) (VO.aggs (VOs.cons (VO.flat rfl) (VOs.cons (VO.sl (bR rfl) lm (zy fun _=>rfl)) (VOs.cons (VO.sl (bR rfl) lm (zy fun _=>rfl)) (VOs.cons (VO.sl (bR rfl) lm (zy fun _=>rfl)) (VOs.cons (VO.sl (bR rfl) lm (zy fun _=>rfl)) (VOs.cons (ZN (bR rfl) lm rfl) (VOs.cons (VO.sl (bR rfl) lm (zy fun _=>rfl)) (VOs.cons (VO.sl (bR rfl) lm (zy fun _=>rfl)) (VOs.cons (VO.flat rfl) VOs.nil)))))))))) (RL.cons (RV.tmp eZ) (VO.flat rfl) RL.nil)) (by decide)
theorem zds{a1:ze}{a2:ze}{r:Bool}(H:Yt a1 a2=some r):Fn Tryz.prog 202 (lent [(.agg (zd a1)),(.ptr (zd a2))]) true [(.bool r)]:=by
 refine zFg (fle rfl) ?_
 rw[zx]
 refine AW.weaken (zg [] (kv 0 (.agg [(dI a1.Lo),(dI a1.Hi)]) rfl rfl (SL.cons (v:=(.one (.ptr (.bd (zd a2) 0)))) (eS rfl eZ) rfl (VWk.one CWk.ptr) SL.nil)) BL.nil BK.nil) ?_
 unfold Yt at H
 unfold zzj
 refine aV (jh (n:=128) (m:=2) (cs:=[(dI a1.Lo),(dI a1.Hi)]) rfl eZ rfl rfl nZ (za eC (xQ (aV (qf (es:=[(dI a2.Lo),(dI a2.Hi)]) rfl rfl (zN (es:=[(dI a1.Lo),(dI a1.Hi)]) rfl bZ rfl ?_))))))
 obtain⟨v3,h4,H⟩:=zk H
 refine zD (u:=(oB v3)) eC Cl.fn (zaa h4) (Ec rfl (Ec eZ En)) (Vc (VD.agg rfl) (Vc (VD.agg rfl) Vn)) rfl (za eZ (xQ (AW.ret ?_)))
 cases H
 exact eE rfl rfl
theorem Y8{a1:(List ze)}{a2:ze}{r:Int}(H:jg a1 a2=some r):Fn Tryz.prog 284 (lent [(.sl 2 (List.map zd a1)),(.fn 202 [.ptr (zd a2)])]) true [(.int .i64 r)]:=by
 refine zp2 (fle rfl) ?_
 rw[zx]
 refine AW.weaken (zg [] (kv 0 (.one (.d (.sl 2 (List.map zd a1)))) rfl rfl (SL.cons (v:=(.one (.fn 202 [(.bd (zd a2) 0)]))) (eS rfl eZ) rfl (VWk.one (CWk.fn (css:=[zd a2]))) SL.nil)) BL.nil BK.nil) ?_
 unfold jg at H
 unfold zmn
 refine aV (za eC (xQ (zF (fun t3:Unit=>jM t3=some r) (fun t3=>mk [] [] noG) ?_ ?_)))
 ·intro t3 H
  unfold jM at H
  refine aV (za eC (xQ (AW.ret ?_)))
  cases H
  exact eE rfl rfl
 ·refine aV (za rfl (zX eZ (n:=a1.length) lm (za eC (xQ (AW.block (AW.iter (fun s5:Int=>mk [(0,(.one (.d (.sl 2 (List.map zd a1))))),(1,(.one (.fn 202 [(.bd (zd a2) 0)]))),(7,(oI (a1.length:Int))),(8,(oI s5))] [] noG) H (zg [] (sR rfl rfl) BL.nil BK.nil) ?_))))))
  intro kb6 s5 H
  unfold qU at H
  refine aV (qh rfl rfl (xQ (aS ?_)))
  rcases zC H with⟨h7,H⟩|⟨h7,H⟩
  ·refine zi eZ (dT h7) (AW.skip (TQ.qn (aS (AW.block (aV (za rfl (za eZ (xQ (aV (za rfl (za rfl (za rfl ?_))))))))))))
   obtain⟨v8,h9,H⟩:=zk H
   refine qy rfl eZ h9 (qf (es:=[(dI v8.Lo),(dI v8.Hi)]) eZ rfl ?_)
   obtain⟨v10,h11,H⟩:=zk H
   refine zD (u:=(oB v10)) rfl Cl.fn (zds h11) (Ec eZ En) (Vc (VD.agg rfl) (Vc jG Vn)) rfl (xQ ?_)
   rcases zC H with⟨h12,H⟩|⟨h12,H⟩
   ·refine zi eZ h12 (aV (za rfl (za eZ (xQ (AW.ret (BQ.qr (TQ.qr (TQ.qr (BQ.qr (TQ.qr ?_))))))))))
    cases H
    exact eE rfl rfl
   ·exact zh eZ (nt h12) (AW.skip (BQ.qn (TQ.qn (aR (qj rfl eC (za eZ (zm (TQ.qn ⟨(IntKind.wrap .i64 (s5+1)),H,(zg [] (sR rfl rfl) BL.nil BK.nil)⟩))))))))
  ·exact zh eZ (dF h7) (AW.exit (TQ.qe (TQ.qe (BQ.qe (TQ.qn ⟨(),H,(zg [] SL.nil BL.nil BK.nil)⟩)))))
theorem JM{a1:(List ze)}{a2:ze}{r:Bool}(H:qM a1 a2=some r):Fn Tryz.prog 201 (lent [(.sl 2 (List.map zd a1)),(.fn 202 [.ptr (zd a2)])]) true [(.bool r)]:=by
 refine zmY (fle rfl) ?_
 rw[zx]
 refine AW.weaken (zg [] (kv 0 (.one (.d (.sl 2 (List.map zd a1)))) rfl rfl (SL.cons (v:=(.one (.fn 202 [(.bd (zd a2) 0)]))) (eS rfl eZ) rfl (VWk.one (CWk.fn (css:=[zd a2]))) SL.nil)) BL.nil BK.nil) ?_
 unfold qM at H
 unfold zk6
 refine aV (za eC (xQ (aV (za rfl (za rfl ?_)))))
 obtain⟨v3,h4,H⟩:=zk H
 refine zD (u:=(oI v3)) eC Cl.fn (Y8 h4) (Ec rfl (Ec eZ En)) (Vc Vp (Vc (VD.fn (PDs.cons jG PDs.nil)) Vn)) rfl (Xr eZ eC (za eZ (xQ (AW.ret ?_))))
 cases H
 exact eE rfl rfl
theorem zfk{a1:(List ze)}{a2:ze}{r:Bool}(H:JS a1 a2=some r):Fn Tryz.prog 91 (lent [(.sl 2 (List.map zd a1)),(.agg (zd a2))]) true [(.bool r)]:=by
 refine f91 (fle rfl) ?_
 rw[zx]
 refine AW.weaken (zg [] (kv 0 (.one (.d (.sl 2 (List.map zd a1)))) rfl rfl (kv 1 (.agg [(dI a2.Lo),(dI a2.Hi)]) rfl rfl SL.nil)) BL.nil BK.nil) ?_
 unfold JS at H
 unfold i91
 refine aV (jh (n:=192) (m:=2) (cs:=[(dI a2.Lo),(dI a2.Hi)]) rfl rfl rfl rfl nZ (za eC (xQ (aV (za rfl (zcj (ps:=[(.nm 192 0 0)]) (Ec rfl En) ?_))))))
 obtain⟨v3,h4,H⟩:=zk H
 refine zD (u:=(oB v3)) eC Cl.fn (JM h4) (Ec rfl (Ec eZ En)) (Vc Vp (Vc (VD.fn (PDs.cons (QO bZ (CDs.plain (CDs.plain CDs.nil))) PDs.nil)) Vn)) rfl (za eZ (xQ (AW.ret ?_)))
 cases H
 exact eE rfl rfl
theorem KP{a1:ze}{a2:Int}{r:Bool}(H:Zb a1 a2=some r):Fn Tryz.prog 287 (lent [(.agg (zd a1)),(.int .i64 a2)]) true [(.bool r)]:=by
 refine zEa (fle rfl) ?_
 rw[zx]
 refine AW.weaken (zg [] (kv 0 (.agg [(dI a1.Lo),(dI a1.Hi)]) rfl rfl (kv 1 (oI a2) rfl rfl SL.nil)) BL.nil BK.nil) ?_
 unfold Zb at H
 unfold zCE
 refine aV (jh (n:=128) (m:=2) (cs:=[(dI a1.Lo),(dI a1.Hi)]) rfl eZ rfl rfl nZ (za eC (xQ (aV (za rfl (zf (m:=0) rfl rfl (zl (q:=0) (c:=(dI a1.Lo)) eZ bZ rfl rfl (zf (m:=1) rfl rfl (zl (q:=1) (c:=(dI a1.Hi)) eZ bZ rfl rfl (zac eZ eC ?_))))))))))
 obtain⟨v3,h4,H⟩:=zk H
 refine zD (u:=(oB v3)) eC Cl.fn (Qs h4) (Ec rfl (Ec rfl (Ec eZ En))) (Vc Vp (Vc Vp (Vc Vp Vn))) rfl (za eZ (xQ (AW.ret ?_)))
 cases H
 exact eE rfl rfl
theorem zbZ{a1:ze}{a2:Int}{r:Bool}(H:QC a1 a2=some r):Fn Tryz.prog 288 (lent [(.agg (zd a1)),(.ptr (zt a2))]) true [(.bool r)]:=by
 refine zEu (fle rfl) ?_
 rw[zx]
 refine AW.weaken (zg [] (kv 0 (.agg [(dI a1.Lo),(dI a1.Hi)]) rfl rfl (SL.cons (v:=(.one (.ptr (.bd (zt a2) 0)))) (eS rfl eZ) rfl (VWk.one CWk.ptr) SL.nil)) BL.nil BK.nil) ?_
 unfold QC at H
 unfold zDV
 refine aV (jh (n:=128) (m:=2) (cs:=[(dI a1.Lo),(dI a1.Hi)]) rfl eZ rfl rfl nZ (za eC (xQ (aV (zN (es:=[(dI a1.Lo),(dI a1.Hi)]) rfl bZ rfl (zY (e:=(.int .i64 a2)) rfl rfl ?_))))))
 obtain⟨v3,h4,H⟩:=zk H
 refine zD (u:=(oB v3)) eC Cl.fn (KP h4) (Ec rfl (Ec eZ En)) (Vc (VD.agg rfl) (Vc Vp Vn)) rfl (za eZ (xQ (AW.ret ?_)))
 cases H
 exact eE rfl rfl
theorem YU{a1:(List ze)}{a2:Int}{r:Int}(H:qP a1 a2=some r):Fn Tryz.prog 284 (lent [(.sl 2 (List.map zd a1)),(.fn 288 [.ptr (zt a2)])]) true [(.int .i64 r)]:=by
 refine zp2 (fle rfl) ?_
 rw[zx]
 refine AW.weaken (zg [] (kv 0 (.one (.d (.sl 2 (List.map zd a1)))) rfl rfl (SL.cons (v:=(.one (.fn 288 [(.bd (zt a2) 0)]))) (eS rfl eZ) rfl (VWk.one (CWk.fn (css:=[zt a2]))) SL.nil)) BL.nil BK.nil) ?_
 unfold qP at H
 unfold zmn
 refine aV (za eC (xQ (zF (fun t3:Unit=>jv t3=some r) (fun t3=>mk [] [] noG) ?_ ?_)))
 ·intro t3 H
  unfold jv at H
  refine aV (za eC (xQ (AW.ret ?_)))
  cases H
  exact eE rfl rfl
 ·refine aV (za rfl (zX eZ (n:=a1.length) lm (za eC (xQ (AW.block (AW.iter (fun s5:Int=>mk [(0,(.one (.d (.sl 2 (List.map zd a1))))),(1,(.one (.fn 288 [(.bd (zt a2) 0)]))),(7,(oI (a1.length:Int))),(8,(oI s5))] [] noG) H (zg [] (sR rfl rfl) BL.nil BK.nil) ?_))))))
  intro kb6 s5 H
  unfold qH at H
  refine aV (qh rfl rfl (xQ (aS ?_)))
  rcases zC H with⟨h7,H⟩|⟨h7,H⟩
  ·refine zi eZ (dT h7) (AW.skip (TQ.qn (aS (AW.block (aV (za rfl (za eZ (xQ (aV (za rfl (za rfl (za rfl ?_))))))))))))
   obtain⟨v8,h9,H⟩:=zk H
   refine qy rfl eZ h9 (qf (es:=[(dI v8.Lo),(dI v8.Hi)]) eZ rfl ?_)
   obtain⟨v10,h11,H⟩:=zk H
   refine zD (u:=(oB v10)) rfl Cl.fn (zbZ h11) (Ec eZ En) (Vc (VD.agg rfl) (Vc jG Vn)) rfl (xQ ?_)
   rcases zC H with⟨h12,H⟩|⟨h12,H⟩
   ·refine zi eZ h12 (aV (za rfl (za eZ (xQ (AW.ret (BQ.qr (TQ.qr (TQ.qr (BQ.qr (TQ.qr ?_))))))))))
    cases H
    exact eE rfl rfl
   ·exact zh eZ (nt h12) (AW.skip (BQ.qn (TQ.qn (aR (qj rfl eC (za eZ (zm (TQ.qn ⟨(IntKind.wrap .i64 (s5+1)),H,(zg [] (sR rfl rfl) BL.nil BK.nil)⟩))))))))
  ·exact zh eZ (dF h7) (AW.exit (TQ.qe (TQ.qe (BQ.qe (TQ.qn ⟨(),H,(zg [] SL.nil BL.nil BK.nil)⟩)))))
theorem Ja{a1:(List ze)}{a2:Int}{r:Bool}(H:qk a1 a2=some r):Fn Tryz.prog 201 (lent [(.sl 2 (List.map zd a1)),(.fn 288 [.ptr (zt a2)])]) true [(.bool r)]:=by
 refine zmY (fle rfl) ?_
 rw[zx]
 refine AW.weaken (zg [] (kv 0 (.one (.d (.sl 2 (List.map zd a1)))) rfl rfl (SL.cons (v:=(.one (.fn 288 [(.bd (zt a2) 0)]))) (eS rfl eZ) rfl (VWk.one (CWk.fn (css:=[zt a2]))) SL.nil)) BL.nil BK.nil) ?_
 unfold qk at H
 unfold zk6
 refine aV (za eC (xQ (aV (za rfl (za rfl ?_)))))
 obtain⟨v3,h4,H⟩:=zk H
 refine zD (u:=(oI v3)) eC Cl.fn (YU h4) (Ec rfl (Ec eZ En)) (Vc Vp (Vc (VD.fn (PDs.cons jG PDs.nil)) Vn)) rfl (Xr eZ eC (za eZ (xQ (AW.ret ?_))))
 cases H
 exact eE rfl rfl
theorem zdc{a1:Int}{a2:ze}{a3:Bool}{a4:(List ze)}{r:Bool}(H:Z3 a1 a2 a3 a4=some r):Fn Tryz.prog 286 (lent [(.int .i64 a1),(.ptr (zd a2)),(.ptr (Qf a3)),(.ptr (Qc a4))]) true [(.bool r)]:=by
 refine zEp (fle rfl) ?_
 rw[zx]
 refine AW.weaken (zg [] (kv 0 (oI a1) rfl rfl (SL.cons (v:=(.one (.ptr (.bd (zd a2) 0)))) (eS rfl eZ) rfl (VWk.one CWk.ptr) (SL.cons (v:=(.one (.ptr (.bd (Qf a3) 0)))) (eS rfl (eS rfl eZ)) rfl (VWk.one CWk.ptr) (SL.cons (v:=(.one (.ptr (.bd (Qc a4) 0)))) (eS rfl (eS rfl (eS rfl eZ))) rfl (VWk.one CWk.ptr) SL.nil)))) BL.nil BK.nil) ?_
 unfold Z3 at H
 unfold zDj
 refine aV (jh (n:=256) (m:=1) (cs:=[(dI a1)]) rfl eZ rfl rfl nZ (za eC (xQ (aS (aV (qf (es:=[(dI a2.Lo),(dI a2.Hi)]) rfl rfl (zl (q:=0) (c:=(dI a1)) rfl bZ rfl rfl ?_)))))))
 obtain⟨v5,h6,H⟩:=zk H
 refine zD (u:=(oB v5)) eC Cl.fn (KP h6) (Ec rfl (Ec eZ En)) (Vc (VD.agg rfl) (Vc Vp Vn)) rfl (xQ ?_)
 rcases zC H with⟨h7,H⟩|⟨h7,H⟩
 ·refine zi eZ h7 (aV (zY (e:=(.bool a3)) rfl rfl (za eZ (xQ (AW.ret (TQ.qr ?_))))))
  cases H
  exact eE rfl rfl
 ·refine zh eZ (nt h7) (AW.skip (TQ.qn (aV (zY (e:=(.sl 2 (List.map zd a4))) rfl rfl (zcj (ps:=[(.nm 256 0 0)]) (Ec rfl En) ?_)))))
  obtain⟨v8,h9,H⟩:=zk H
  refine zD (u:=(oB v8)) eC Cl.fn (Ja h9) (Ec rfl (Ec eZ En)) (Vc Vp (Vc (VD.fn (PDs.cons (QO bZ (CDs.plain CDs.nil)) PDs.nil)) Vn)) rfl (za eZ (xQ (AW.ret ?_)))
  cases H
  exact eE rfl rfl
theorem Kh{a1:ze}{a2:Bool}{a3:(List ze)}{r:(List ze)}(H:jw a1 a2 a3=some r):Fn Tryz.prog 285 (lent [(.fn 286 [.ptr (zd a1),.ptr (Qf a2),.ptr (Qc a3)])]) true [(.sl 2 (List.map zd r))]:=by
 refine zFk (fle rfl) ?_
 rw[zx]
 refine AW.weaken (zg [] (SL.cons (v:=(.one (.fn 286 [(.bd (zd a1) 0),(.bd (Qf a2) 0),(.bd (Qc a3) 0)]))) eZ rfl (VWk.one (CWk.fn (css:=[zd a1,Qf a2,Qc a3]))) SL.nil) BL.nil BK.nil) ?_
 unfold jw at H
 unfold zx6
 refine aV (za eC (xQ (aV (yw (m:=384) rfl nZ (za eZ (xQ (zF (fun t4:(List ze)=>yc t4=some r) (fun t4=>mk [(3,(.one (.sl 320128 0 t4.length)))] [(320128,(.data 2 (List.map zd t4) true none))] noG) ?_ ?_)))))))
 ·intro t4 H
  unfold yc at H
  refine aV (za eZ (za eZ (xQ (AW.ret ?_))))
  obtain rfl:=(Option.some.inj H)
  exact qI (RL.cons (RV.tmp eZ) (VO.sl bZ lm (zy fun _=>rfl)) RL.nil) (by decide)
 ·refine aV (za eC (xQ (AW.block (AW.iter (fun s6:((List ze)×Int)=>mk [(0,(.one (.fn 286 [(.bd (zd a1) 0),(.bd (Qf a2) 0),(.bd (Qc a3) 0)]))),(3,(.one (.sl 320192 0 s6.1.length))),(7,(oI s6.2))] [(320192,(.data 2 (List.map zd s6.1) true none))] noG) H ((zg [] (kR rfl rfl (SL.cons eZ rfl (VWk.one (CWk.len (by first|(simp;done)|(simp;omega)|omega|(simp only[List.length_map];omega)))) (sR rfl rfl))) (blR rfl) (bkR rfl rfl rfl)).trans (zmI 320192 2 3 true rfl nZ)) ?_))))
  intro kb7 s6 H
  unfold yb at H
  refine aV (qh rfl eC (xQ (aS ?_)))
  rcases zC H with⟨h8,H⟩|⟨h8,H⟩
  ·refine zi eZ (dT h8) (AW.skip (TQ.qn (aS (AW.block (aV (za rfl (za eZ (xQ (aV (za rfl (zbL eZ (za eZ (xQ (AW.block (aV (za rfl (za rfl ?_)))))))))))))))))
   obtain⟨v9,h10,H⟩:=zk H
   refine zD (u:=(oB v9)) rfl Cl.fn (zdc h10) (Ec eZ En) (Vc Vp (Vc jG (Vc jG (Vc jG Vn)))) rfl (qG eZ (za eZ (xQ ?_)))
   rcases zC H with⟨h11,H⟩|⟨h11,H⟩
   ·refine zh eZ (cN h11) (zF (fun t12:Bool=>(jq s6 kb7) t12=some r) (fun t12=>mk [(0,(.one (.fn 286 [(.bd (zd a1) 0),(.bd (Qf a2) 0),(.bd (Qc a3) 0)]))),(3,(.one (.sl 320192 0 s6.1.length))),(4,(oI s6.2)),(5,(oI ((s6.1.length:Nat):Int))),(7,(oI s6.2)),(24,(oB t12))] [(320192,(.data 2 (List.map zd s6.1) true none))] noG) ?_ ?_)
    ·intro t12 H
     unfold jq at H
     rcases zC H with⟨h14,H⟩|⟨h14,H⟩
     ·refine zi rfl h14 (aR (za rfl (za rfl (zac eZ eC ?_))))
      obtain⟨v15,h16,H⟩:=zk H
      refine Xt rfl eZ bZ rfl h16 (zf (m:=1) eZ rfl (zgF (t:=v15) (e:=(.int .i64 v15.Hi)) eZ bZ (yu h16) rfl rfl (qj eZ eC ?_)))
      obtain⟨v17,h18,H⟩:=zk H
      exact Xt rfl rfl bZ rfl h18 (zf (m:=1) eZ rfl (yF (t:=v17) (t':=(ze.mk v17.Lo (IntKind.wrap .i64 (v15.Hi+1)))) (es:=[(.int .i64 (IntKind.wrap .i64 (v15.Hi+1)))]) eZ rfl rfl rfl bZ (yu h18) rfl rfl (zm (BQ.qn (BQ.qn (TQ.qn (aR (qj rfl eC (za eZ (zm (TQ.qn ⟨(s6.1.set (Int.toNat (IntKind.wrap .i64 (((s6.1.length:Nat):Int) - 1))) (ze.mk v17.Lo (IntKind.wrap .i64 (v15.Hi+1))),(IntKind.wrap .i64 (s6.2+1))),H,(zg [] (kR rfl rfl (SL.cons (eR rfl) rfl (VWk.one (CWk.len (by first|(simp;done)|(simp;omega)|omega|(simp only[List.length_map];omega)))) (sR rfl rfl))) (blR rfl) (bkR rfl rfl rfl))⟩)))))))))))
     ·refine zh rfl (nt h14) (aR (za rfl (za rfl (za rfl (qj eZ eC (Xa (cs:=[(dI s6.2),(dI (IntKind.wrap .i64 (s6.2+1)))]) (jO rfl (jO eZ kF)) rfl (zbt (m:=1088) (q:=1) (cs:=[(dI s6.2),(dI (IntKind.wrap .i64 (s6.2+1)))]) rfl (jO eZ kF) rfl (List.cons_ne_nil _ _) (by simp) (nR rfl) ?_)))))))
      obtain⟨h19,H⟩:=qa H
      exact zmA (f:=zd) (xs:=s6.1) (ys:=[(ze.mk s6.2 (IntKind.wrap .i64 (s6.2+1)))]) (q:=(s6.1++([(ze.mk s6.2 (IntKind.wrap .i64 (s6.2+1)))])).length) rfl eZ (bR rfl) rfl (El.one (f:=zd) (t:=(ze.mk s6.2 (IntKind.wrap .i64 (s6.2+1)))) (es:=[(.int .i64 s6.2),(.int .i64 (IntKind.wrap .i64 (s6.2+1)))]) bZ rfl rfl rfl) rfl h19 (by decide) (by decide) (erL.cons (v':=(.one (.sl 1088 0 1))) rfl (erL.cons (v':=(.agg [(dI s6.2),(dI (IntKind.wrap .i64 (s6.2+1)))])) rfl (erL.cons (v':=(oI (IntKind.wrap .i64 (s6.2+1)))) rfl (erL.cons (v':=(oI s6.2)) rfl (erL.cons (v':=(oI s6.2)) rfl (erL.cons (v':=(.one .any)) rfl (erL.cons (v':=(.one (.fn 286 [(.bd (zd a1) 0),(.bd (Qf a2) 0),(.bd (Qc a3) 0)]))) rfl (erL.cons (v':=(.one .any)) rfl (erL.cons (v':=(oI s6.2)) rfl (erL.cons (v':=(oI ((s6.1.length:Nat):Int))) rfl (erL.cons (v':=(oI s6.2)) rfl (erL.cons (v':=(oB t12)) rfl erL.nil)))))))))))) (erH.cons (v':=(.vars 2 [(dI s6.2),(dI (IntKind.wrap .i64 (s6.2+1)))])) rfl rfl (erH.drop rfl erH.nil)) (za eZ (zm (BQ.qn (BQ.qn (TQ.qn (aR (qj rfl eC (za eZ (zm (TQ.qn ⟨((s6.1++([(ze.mk s6.2 (IntKind.wrap .i64 (s6.2+1)))])),(IntKind.wrap .i64 (s6.2+1))),H,(zg [1088] (sR rfl rfl) (blR rfl) (bkR rfl rfl rfl))⟩))))))))))
    ·refine aR (za rfl (KN eZ eC (za eZ ?_)))
     rcases zC H with⟨h20,H⟩|⟨h20,H⟩
     ·refine gDo eZ (dT h20) (za rfl (gDo rfl (dT h20) (za rfl (gDo rfl (dT h20) (zac eZ eC (gDo rfl (dT h20) ?_))))))
      obtain⟨v21,h22,H⟩:=zk H
      exact Xt rfl eZ bZ rfl h22 (gDo rfl (dT h20) (zf (m:=1) eZ rfl (gDo rfl (dT h20) (zgF (t:=v21) (e:=(.int .i64 v21.Hi)) eZ bZ (yu h22) rfl rfl (gDo rfl (dT h20) (za rfl (gDo rfl (dT h20) (Kl rfl eZ (zB rfl (dT h20) eZ (za eZ (zm (TQ.qn ⟨(decide (v21.Hi=s6.2)),H,(zg [] (sR rfl rfl) (blR rfl) (bkR rfl rfl rfl))⟩))))))))))))
     ·exact zb eZ (dF h20) rfl (zb rfl (dF h20) rfl (zb rfl (dF h20) rfl (zb rfl (dF h20) rfl (zb rfl (dF h20) rfl (zb rfl (dF h20) rfl (zb rfl (dF h20) rfl (zb rfl (dF h20) rfl (zJ rfl (dF h20) eC (za eZ (zm (TQ.qn ⟨false,H,(zg [] (sR rfl rfl) (blR rfl) (bkR rfl rfl rfl))⟩)))))))))))
   ·exact zi eZ (cN (nt h11)) (AW.skip (BQ.qn (BQ.qn (TQ.qn (aR (qj rfl eC (za eZ (zm (TQ.qn ⟨(s6.1,(IntKind.wrap .i64 (s6.2+1))),H,(zg [] (sR rfl rfl) (blR rfl) (bkR rfl rfl rfl))⟩)))))))))
  ·exact zh eZ (dF h8) (AW.exit (TQ.qe (TQ.qe (BQ.qe (TQ.qn ⟨s6.1,H,((zg [] (sR rfl rfl) (blR rfl) (bkR rfl rfl rfl)).trans (Qv 320192 320128 rfl rfl (nR rfl)))⟩)))))
theorem zeW{a1:(List ze)}{a2:ze}{a3:Bool}{r:((List ze)×Bool)}(H:JU a1 a2 a3=some r):Fn Tryz.prog 208 (lent [(.sl 2 (List.map zd a1)),(.agg (zd a2)),(.bool a3)]) true [(.sl 2 (List.map zd r.1)),(.bool r.2)]:=by
 refine zEk (fle rfl) ?_
 rw[zx]
 refine AW.weaken (zg [] (kv 0 (.one (.d (.sl 2 (List.map zd a1)))) rfl rfl (kv 1 (.agg [(dI a2.Lo),(dI a2.Hi)]) rfl rfl (kv 2 (oB a3) rfl rfl SL.nil))) BL.nil BK.nil) ?_
 unfold JU at H
 unfold zyp
 refine aV (jh (n:=192) (m:=1) (cs:=[(.d (.sl 2 (List.map zd a1)))]) rfl eZ rfl rfl nZ (jh (n:=256) (m:=2) (cs:=[(dI a2.Lo),(dI a2.Hi)]) rfl rfl rfl rfl (nR rfl) (jh (n:=320) (m:=1) (cs:=[(.d (.bool a3))]) rfl rfl rfl rfl (nR rfl) (za eC (za eC (xQ (aS (zF (fun t4:Bool=>(QQ a2 a3 a1) t4=some r) (fun t4=>mk [(3,(.one (.ptr (.nm 192 0 0)))),(4,(.one (.ptr (.nm 256 0 0)))),(5,(.one (.ptr (.nm 320 0 0)))),(16,(oB t4))] [(192,(.vars 1 [(.d (.sl 2 (List.map zd a1)))])),(256,(.vars 2 [(dI a2.Lo),(dI a2.Hi)])),(320,(.vars 1 [(.d (.bool a3))]))] noG) ?_ ?_))))))))
 ·intro t4 H
  unfold QQ at H
  rcases zC H with⟨h6,H⟩|⟨h6,H⟩
  ·refine zi rfl h6 (aV (za eC (za eC (xQ (AW.ret (TQ.qr ?_))))))
   cases H
   exact qI (RL.cons (RV.tmp rfl) VO.zs (RL.cons (RV.tmp eZ) (VO.flat rfl) RL.nil)) List.nodup_nil
  ·refine zh rfl (nt h6) (AW.skip (TQ.qn (aV (zcj (ps:=[(.nm 256 0 0),(.nm 320 0 0),(.nm 192 0 0)]) (Ec rfl (Ec rfl (Ec eZ En))) ?_))))
   obtain⟨v7,h8,H⟩:=zk H
   refine jK (u:=(.one (.sl 1152 0 v7.length))) (bs:=[(1152,(.data 2 (List.map zd v7) true none))]) eC Cl.fn (Kh h8) (Ec eZ En) (Vc (VD.fn (PDs.cons (QO (bR rfl) (CDs.plain (CDs.plain CDs.nil))) (PDs.cons (QO (bR rfl) (CDs.plain CDs.nil)) (PDs.cons (QO bZ (CDs.plain CDs.nil)) PDs.nil)))) Vn) (by simp[jr,jV,qF,jx,qK]) rfl (fC (nR rfl) rfl (fC (nR rfl) rfl fN)) (za eZ (xQ (aS (aV (za eZ (zbL eZ (KN eZ eC (xQ ?_))))))))
   rcases zC H with⟨h9,H⟩|⟨h9,H⟩
   ·refine zi eZ (dT h9) (aV (za eC (za eC (xQ (AW.ret (TQ.qr ?_))))))
    cases H
    exact qI (RL.cons (RV.tmp rfl) VO.zs (RL.cons (RV.tmp eZ) (VO.flat rfl) RL.nil)) List.nodup_nil
   ·refine zh eZ (dF h9) (AW.skip (TQ.qn (aV (za rfl (za eZ (za eC (xQ (AW.ret ?_))))))))
    cases H
    exact qI (RL.cons (RV.tmp rfl) (VO.sl bZ lm (zy fun _=>rfl)) (RL.cons (RV.tmp eZ) (VO.flat rfl) RL.nil)) (by decide)
 ·refine aR (zl (q:=0) (c:=(.d (.sl 2 (List.map zd a1)))) rfl (bR rfl) rfl rfl ?_)
  obtain⟨v10,h11,H⟩:=zk H
  refine zD (u:=(oB v10)) eC Cl.fn (XG h11) (Ec eZ En) (Vc Vp Vn) rfl (qG eZ (za eZ ?_))
  rcases zC H with⟨h12,H⟩|⟨h12,H⟩
  ·refine gDo eZ (cN h12) (zN (es:=[(dI a2.Lo),(dI a2.Hi)]) rfl (bR rfl) rfl (gDo rfl (cN h12) ?_))
   obtain⟨v13,h14,H⟩:=zk H
   exact zD (u:=(oB v13)) eC Cl.fn (J6 h14) (Ec eZ En) (Vc (VD.agg rfl) Vn) rfl (gDo rfl (cN h12) (qG eZ (zJ rfl (cN h12) eZ (zm (TQ.qn ⟨(!v13),H,(zg [] (sR rfl rfl) (blR rfl) (bkR rfl rfl rfl))⟩)))))
  ·exact zb eZ (cN (nt h12)) rfl (zb rfl (cN (nt h12)) rfl (zb rfl (cN (nt h12)) rfl (zB rfl (cN (nt h12)) eC (zm (TQ.qn ⟨true,H,(zg [] (sR rfl rfl) (blR rfl) (bkR rfl rfl rfl))⟩)))))
theorem zcW{a1:(List ze)}{a2:ze}{r:((List ze)×Bool)}(H:ZG a1 a2=some r):Fn Tryz.prog 94 (lent [(.sl 2 (List.map zd a1)),(.agg (zd a2))]) true [(.sl 2 (List.map zd r.1)),(.bool r.2)]:=by
 refine f94 (fle rfl) ?_
 rw[zx]
 refine AW.weaken (zg [] (kv 0 (.one (.d (.sl 2 (List.map zd a1)))) rfl rfl (kv 1 (.agg [(dI a2.Lo),(dI a2.Hi)]) rfl rfl SL.nil)) BL.nil BK.nil) ?_
 unfold ZG at H
 unfold i94
 refine aV (jh (n:=192) (m:=2) (cs:=[(dI a2.Lo),(dI a2.Hi)]) rfl rfl rfl rfl nZ (za eC (za eC (xQ (aV (za rfl (zN (es:=[(dI a2.Lo),(dI a2.Hi)]) rfl bZ rfl ?_)))))))
 obtain⟨v3,h4,H⟩:=zk H
 refine jK (u:=(.tup [(.one (.sl 512 0 v3.1.length)),(oB v3.2)])) (bs:=[(512,(.data 2 (List.map zd v3.1) true none))]) eC Cl.fn (zeW h4) (Ec rfl (Ec eZ (Ec eC En))) (Vc Vp (Vc (VD.agg rfl) (Vc Vp Vn))) (by simp[jr,jV,qF,jx,qK]) rfl (fC (nR rfl) rfl (fC (nR rfl) rfl fN)) (XO (v:=(.one (.sl 512 0 v3.1.length))) eZ rfl (XO (v:=(oB v3.2)) rfl rfl (za rfl (za rfl (xQ (AW.ret ?_))))))
 cases H
 exact qI (RL.cons (RV.tmp rfl) (VO.sl bZ lm (zy fun _=>rfl)) (RL.cons (RV.tmp eZ) (VO.flat rfl) RL.nil)) (by decide)
end Go.AW
