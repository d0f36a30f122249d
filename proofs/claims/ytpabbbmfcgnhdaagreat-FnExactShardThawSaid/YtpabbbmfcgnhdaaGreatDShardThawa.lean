/- That functions of the program compute what the plain functions say. Conditions: each theorem's own. -/
import Derived.Test.YtpabbbmfcgnhdaaGreatMShardThaw
import Derived.Test.YtpabbbmfcgnhdaaGreatGShardThaw
import Derived.Test.YtpabbbmfcgnhdaaGreatSShardThaw
import Derived.Test.YtpabbbmfcgnhdaaGreatYt
import Derived.KernelRfl
set_option linter.unusedVariables false
set_option linter.unusedSimpArgs false
set_option maxRecDepth 100000
namespace Go.AW
open Go.Proofs
theorem zam{a1:(List ze)}{a2:Int}{r:Int}(H:Zv a1 a2=some r):Fn Tryz.prog 73 (lent [(.sl 2 (List.map zd a1)),(.int .i64 a2)]) true [(.int .i64 r)]:=by
 refine f73 (fle rfl) ?_
 rw[zx]
 refine AW.weaken (zg [] (kv 0 (.one (.d (.sl 2 (List.map zd a1)))) rfl rfl (kv 1 (oI a2) rfl rfl SL.nil)) BL.nil BK.nil) ?_
 unfold Zv at H
 unfold i73
 refine aV (za eC (xQ (aV (za rfl (za rfl (zX eZ (n:=a1.length) lm (zac rfl eZ (za eZ (xQ (aS (aV (za eZ (qh eZ eC (xQ ?_))))))))))))))
 rcases zC H with⟨h3,H⟩|⟨h3,H⟩
 ·refine zi eZ (dT h3) (aV (za eC (xQ (AW.ret (TQ.qr ?_)))))
  cases H
  exact eE rfl rfl
 ·refine zh eZ (dF h3) (AW.skip (TQ.qn (aV (za rfl (za eZ (xQ (AW.ret ?_)))))))
  cases H
  exact eE rfl rfl
theorem zfd{a1:(List zu)}{a2:Int}{r:Int}(H:JQ a1 a2=some r):Fn Tryz.prog 74 (lent [(.sl 2 (List.map zj a1)),(.int .i64 a2)]) true [(.int .i64 r)]:=by
 refine f74 (fle rfl) ?_
 rw[zx]
 refine AW.weaken (zg [] (kv 0 (.one (.d (.sl 2 (List.map zj a1)))) rfl rfl (kv 1 (oI a2) rfl rfl SL.nil)) BL.nil BK.nil) ?_
 unfold JQ at H
 unfold i74
 refine aV (za eC (xQ (aV (za rfl (za rfl (zX eZ (n:=a1.length) lm (zac rfl eZ (za eZ (xQ (aS (aV (za eZ (qh eZ eC (xQ ?_))))))))))))))
 rcases zC H with⟨h3,H⟩|⟨h3,H⟩
 ·refine zi eZ (dT h3) (aV (za eC (xQ (AW.ret (TQ.qr ?_)))))
  cases H
  exact eE rfl rfl
 ·refine zh eZ (dF h3) (AW.skip (TQ.qn (aV (za rfl (za eZ (xQ (AW.ret ?_)))))))
  cases H
  exact eE rfl rfl
theorem zeJ{a1:(List zK)}{a2:Int}{r:Int}(H:Yb a1 a2=some r):Fn Tryz.prog 75 (lent [(.sl 4 (List.map zp a1)),(.int .i64 a2)]) true [(.int .i64 r)]:=by
 refine f75 (fle rfl) ?_
 rw[zx]
 refine AW.weaken (zg [] (kv 0 (.one (.d (.sl 4 (List.map zp a1)))) rfl rfl (kv 1 (oI a2) rfl rfl SL.nil)) BL.nil BK.nil) ?_
 unfold Yb at H
 unfold i75
 refine aV (za eC (xQ (aV (za rfl (za rfl (zX eZ (n:=a1.length) lm (zac rfl eZ (za eZ (xQ (aS (aV (za eZ (qh eZ eC (xQ ?_))))))))))))))
 rcases zC H with⟨h3,H⟩|⟨h3,H⟩
 ·refine zi eZ (dT h3) (aV (za eC (xQ (AW.ret (TQ.qr ?_)))))
  cases H
  exact eE rfl rfl
 ·refine zh eZ (dF h3) (AW.skip (TQ.qn (aV (za rfl (za eZ (xQ (AW.ret ?_)))))))
  cases H
  exact eE rfl rfl
theorem zdT{a1:(List zu)}{a2:Int}{r:Int}(H:QW a1 a2=some r):Fn Tryz.prog 282 (lent [(.sl 2 (List.map zj a1)),(.int .i64 a2)]) true [(.int .i64 r)]:=by
 refine zEg (fle rfl) ?_
 rw[zx]
 refine AW.weaken (zg [] (kv 0 (.one (.d (.sl 2 (List.map zj a1)))) rfl rfl (kv 1 (oI a2) rfl rfl SL.nil)) BL.nil BK.nil) ?_
 unfold QW at H
 unfold zCb
 refine aV (za eC (xQ (aV (za rfl (za rfl (zX eZ (n:=a1.length) lm (zac rfl eZ (za eZ (xQ (aS (aV (za eZ (qh eZ eC (xQ ?_))))))))))))))
 rcases zC H with⟨h3,H⟩|⟨h3,H⟩
 ·refine zi eZ (dT h3) (aV (za eC (xQ (AW.ret (TQ.qr ?_)))))
  cases H
  exact eE rfl rfl
 ·refine zh eZ (dF h3) (AW.skip (TQ.qn (aV (za rfl (za eZ (xQ (AW.ret ?_)))))))
  cases H
  exact eE rfl rfl
theorem zft{a1:zL}{a2:Int}{r:Int}(H:xf a1 a2=some r):Fn Tryz.prog 195 (lent [(.agg (zA a1)),(.int .i64 a2)]) true [(.int .i64 r)]:=by
 refine zFc (fle rfl) ?_
 rw[zx]
 refine AW.weaken (zg [] (kv 0 (.agg (jE a1)) rfl rfl (kv 1 (oI a2) rfl rfl SL.nil)) BL.nil BK.nil) ?_
 unfold xf at H
 unfold zzA
 refine aV (jh (n:=128) (m:=2) (cs:=(jE a1)) rfl eZ rfl rfl nZ (za eC (xQ (aV (zf (m:=1) rfl rfl (zl (q:=1) (c:=(.d (.sl 2 (List.map zj a1.Writes)))) eZ bZ rfl rfl (za rfl ?_)))))))
 obtain⟨v3,h4,H⟩:=zk H
 refine zD (u:=(oI v3)) eC Cl.fn (zdT h4) (Ec rfl (Ec eZ En)) (Vc Vp (Vc Vp Vn)) rfl (za eZ (xQ (aS (aV (za eZ (qh eZ eC (xQ ?_)))))))
 rcases zC H with⟨h5,H⟩|⟨h5,H⟩
 ·refine zi eZ (dT h5) (aV (za eC (xQ (AW.ret (TQ.qr ?_)))))
  cases H
  exact eE rfl rfl
 ·refine zh eZ (dF h5) (AW.skip (TQ.qn (aV (za rfl (za eZ (xQ (AW.ret ?_)))))))
  cases H
  exact eE rfl rfl
theorem zfe{a1:(List zL)}{a2:Int}{r:Int}(H:J0 a1 a2=some r):Fn Tryz.prog 76 (lent [(.sl 2 (List.map zA a1)),(.int .i64 a2)]) true [(.int .i64 r)]:=by
 refine f76 (fle rfl) ?_
 rw[zx]
 refine AW.weaken (zg [] (kv 0 (.one (.d (.sl 2 (List.map zA a1)))) rfl rfl (kv 1 (oI a2) rfl rfl SL.nil)) BL.nil BK.nil) ?_
 unfold J0 at H
 unfold i76
 refine aV (za eC (xQ (aV (za rfl (za rfl (zX eZ (n:=a1.length) lm (zac rfl eZ (za eZ (xQ (aS (aV (za eZ (qh eZ eC (xQ ?_))))))))))))))
 rcases zC H with⟨h3,H⟩|⟨h3,H⟩
 ·refine zi eZ (dT h3) (aV (za eC (xQ (AW.ret (TQ.qr ?_)))))
  cases H
  exact eE rfl rfl
 ·refine zh eZ (dF h3) (AW.skip (TQ.qn (zF (fun t4:Int=>xx t4=some r) (fun t4=>mk [(1,(oI t4))] [] noG) ?_ ?_)))
  ·intro t4 H
   unfold xx at H
   refine aV (za eZ (za eZ (xQ (AW.ret ?_))))
   cases H
   exact eE rfl rfl
  ·refine aV (za eC (xQ (AW.block (AW.iter (fun s6:(Int×Int)=>mk [(0,(.one (.d (.sl 2 (List.map zA a1))))),(1,(oI s6.1)),(5,(oI s6.2))] [] noG) H (zg [] (sR rfl rfl) BL.nil BK.nil) ?_))))
   intro kb7 s6 H
   unfold xp at H
   refine aS (aV (za rfl (za rfl (zX eZ (n:=a1.length) lm (qh rfl eZ (xQ ?_))))))
   rcases zC H with⟨h8,H⟩|⟨h8,H⟩
   ·refine zi eZ (dT h8) (AW.skip (TQ.qn (aS (AW.block (aV (za rfl (za rfl ?_)))))))
    obtain⟨v9,h10,H⟩:=zk H
    refine qy rfl eZ h10 (qf (es:=(jE v9)) eZ rfl (za rfl ?_))
    obtain⟨v11,h12,H⟩:=zk H
    refine zD (u:=(oI v11)) eC Cl.fn (zft h12) (Ec rfl (Ec eZ En)) (Vc (VD.agg rfl) (Vc Vp Vn)) rfl (za eZ (xQ (aV (za eZ (qh eZ eC (xQ (AW.weaken (zg [] (kr 25 rfl rfl (kr 1 rfl rfl (kr 0 rfl rfl (kr 5 rfl rfl SL.nil)))) BL.nil BK.nil) ?_)))))))
    rcases zC H with⟨h13,H⟩|⟨h13,H⟩
    ·refine zi eZ (dT h13) (aV (za eC (xQ (AW.ret (BQ.qr (TQ.qr (TQ.qr (BQ.qr (TQ.qr ?_)))))))))
     cases H
     exact eE rfl rfl
    ·exact zh eZ (dF h13) (AW.skip (BQ.qn (TQ.qn (aR (za rfl (qj eZ eC (za eZ (zm (TQ.qn ⟨(v11,(IntKind.wrap .i64 (s6.2+1))),H,(zg [] (sR rfl rfl) BL.nil BK.nil)⟩)))))))))
   ·exact zh eZ (dF h8) (AW.exit (TQ.qe (TQ.qe (BQ.qe (TQ.qn ⟨s6.1,H,(zg [] (sR rfl rfl) BL.nil BK.nil)⟩)))))
theorem zbJ{a1:(List Int)}{a2:Int}{r:Int}(H:Q8 a1 a2=some r):Fn Tryz.prog 77 (lent [(.sl 1 (List.map zt a1)),(.int .i64 a2)]) true [(.int .i64 r)]:=by
 refine f77 (fle rfl) ?_
 rw[zx]
 refine AW.weaken (zg [] (kv 0 (.one (.d (.sl 1 (List.map zt a1)))) rfl rfl (kv 1 (oI a2) rfl rfl SL.nil)) BL.nil BK.nil) ?_
 unfold Q8 at H
 unfold i77
 refine aV (za eC (xQ (aV (za rfl (za rfl (zX eZ (n:=a1.length) lm (zac rfl eZ (za eZ (xQ (aS (aV (za eZ (qh eZ eC (xQ ?_))))))))))))))
 rcases zC H with⟨h3,H⟩|⟨h3,H⟩
 ·refine zi eZ (dT h3) (aV (za eC (xQ (AW.ret (TQ.qr ?_)))))
  cases H
  exact eE rfl rfl
 ·refine zh eZ (dF h3) (AW.skip (TQ.qn (aV (za rfl (za eZ (xQ (AW.ret ?_)))))))
  cases H
  exact eE rfl rfl
theorem zeh{a1:zn}{a2:Int}{r:Int}(H:Js a1 a2=some r):Fn Tryz.prog 18 (lent [(.agg (zR a1)),(.int .i64 a2)]) true [(.int .i64 r)]:=by
 refine f18 (fle rfl) ?_
 rw[zx]
 refine AW.weaken (zg [] (kv 0 (.agg (zE a1)) rfl rfl (kv 1 (oI a2) rfl rfl SL.nil)) BL.nil BK.nil) ?_
 unfold Js at H
 unfold i18
 refine aV (jh (n:=128) (m:=9) (cs:=(zE a1)) rfl eZ rfl rfl nZ (za eC (xQ (aV (zf (m:=1) rfl rfl (zl (q:=1) (c:=(.d (.sl 2 (List.map zd a1.Own)))) eZ bZ rfl rfl (za rfl ?_)))))))
 obtain⟨v3,h4,H⟩:=zk H
 refine zD (u:=(oI v3)) eC Cl.fn (zam h4) (Ec rfl (Ec eZ En)) (Vc Vp (Vc Vp Vn)) rfl (za eZ (xQ (aS (aV (za eZ (qh eZ eC (xQ ?_)))))))
 rcases zC H with⟨h5,H⟩|⟨h5,H⟩
 ·refine zi eZ (dT h5) (aV (za eC (xQ (AW.ret (TQ.qr ?_)))))
  cases H
  exact eE rfl rfl
 ·refine zh eZ (dF h5) (AW.skip (TQ.qn (aV (zf (m:=2) rfl rfl (zl (q:=2) (c:=(.d (.sl 2 (List.map zd a1.Frozen)))) eZ bZ rfl rfl (za rfl ?_))))))
  obtain⟨v6,h7,H⟩:=zk H
  refine zD (u:=(oI v6)) eC Cl.fn (zam h7) (Ec rfl (Ec eZ En)) (Vc Vp (Vc Vp Vn)) rfl (za eZ (xQ (AW.weaken (zg [] (kr 1 rfl rfl (kr 2 rfl rfl SL.nil)) (blR rfl) (BK.cons (n:=128) rfl bZ rfl rfl BK.nil)) (aS (aV (za eZ (qh eZ eC (xQ ?_))))))))
  rcases zC H with⟨h8,H⟩|⟨h8,H⟩
  ·refine zi eZ (dT h8) (aV (za eC (xQ (AW.ret (TQ.qr ?_)))))
   cases H
   exact eE rfl rfl
  ·refine zh eZ (dF h8) (AW.skip (TQ.qn (aV (zf (m:=3) rfl rfl (zl (q:=3) (c:=(.d (.sl 2 (List.map zj a1.Cells)))) eZ bZ rfl rfl (za rfl ?_))))))
   obtain⟨v9,h10,H⟩:=zk H
   refine zD (u:=(oI v9)) eC Cl.fn (zfd h10) (Ec rfl (Ec eZ En)) (Vc Vp (Vc Vp Vn)) rfl (za eZ (xQ (aS (aV (za eZ (qh eZ eC (xQ ?_)))))))
   rcases zC H with⟨h11,H⟩|⟨h11,H⟩
   ·refine zi eZ (dT h11) (aV (za eC (xQ (AW.ret (TQ.qr ?_)))))
    cases H
    exact eE rfl rfl
   ·refine zh eZ (dF h11) (AW.skip (TQ.qn (aV (zf (m:=4) rfl rfl (zl (q:=4) (c:=(.d (.sl 4 (List.map zp a1.Locks)))) eZ bZ rfl rfl (za rfl ?_))))))
    obtain⟨v12,h13,H⟩:=zk H
    refine zD (u:=(oI v12)) eC Cl.fn (zeJ h13) (Ec rfl (Ec eZ En)) (Vc Vp (Vc Vp Vn)) rfl (za eZ (xQ (AW.weaken (zg [] (kr 1 rfl rfl (kr 2 rfl rfl SL.nil)) (blR rfl) (BK.cons (n:=128) rfl bZ rfl rfl BK.nil)) (aS (aV (za eZ (qh eZ eC (xQ ?_))))))))
    rcases zC H with⟨h14,H⟩|⟨h14,H⟩
    ·refine zi eZ (dT h14) (aV (za eC (xQ (AW.ret (TQ.qr ?_)))))
     cases H
     exact eE rfl rfl
    ·refine zh eZ (dF h14) (AW.skip (TQ.qn (aV (zf (m:=5) rfl rfl (zl (q:=5) (c:=(.d (.sl 2 (List.map zA a1.Helds)))) eZ bZ rfl rfl (za rfl ?_))))))
     obtain⟨v15,h16,H⟩:=zk H
     refine zD (u:=(oI v15)) eC Cl.fn (zfe h16) (Ec rfl (Ec eZ En)) (Vc Vp (Vc Vp Vn)) rfl (za eZ (xQ (aS (aV (za eZ (qh eZ eC (xQ ?_)))))))
     rcases zC H with⟨h17,H⟩|⟨h17,H⟩
     ·refine zi eZ (dT h17) (aV (za eC (xQ (AW.ret (TQ.qr ?_)))))
      cases H
      exact eE rfl rfl
     ·refine zh eZ (dF h17) (AW.skip (TQ.qn (aV (zf (m:=6) rfl rfl (zl (q:=6) (c:=(.d (.sl 1 (List.map zt a1.Wounded)))) eZ bZ rfl rfl (za rfl ?_))))))
      obtain⟨v18,h19,H⟩:=zk H
      refine zD (u:=(oI v18)) eC Cl.fn (zbJ h19) (Ec rfl (Ec eZ En)) (Vc Vp (Vc Vp Vn)) rfl (za eZ (xQ (AW.weaken (zg [] (kr 1 rfl rfl (kr 2 rfl rfl SL.nil)) (blR rfl) (BK.cons (n:=128) rfl bZ rfl rfl BK.nil)) (aS (aV (za eZ (qh eZ eC (xQ ?_))))))))
      rcases zC H with⟨h20,H⟩|⟨h20,H⟩
      ·refine zi eZ (dT h20) (aV (za eC (xQ (AW.ret (TQ.qr ?_)))))
       cases H
       exact eE rfl rfl
      ·refine zh eZ (dF h20) (AW.skip (TQ.qn (aV (zf (m:=7) rfl rfl (zl (q:=7) (c:=(.d (.sl 1 (List.map zt a1.Ended)))) eZ bZ rfl rfl (za rfl ?_))))))
       obtain⟨v21,h22,H⟩:=zk H
       refine zD (u:=(oI v21)) eC Cl.fn (zbJ h22) (Ec rfl (Ec eZ En)) (Vc Vp (Vc Vp Vn)) rfl (za eZ (xQ (aS (aV (za eZ (qh eZ eC (xQ ?_)))))))
       rcases zC H with⟨h23,H⟩|⟨h23,H⟩
       ·refine zi eZ (dT h23) (aV (za eC (xQ (AW.ret (TQ.qr ?_)))))
        cases H
        exact eE rfl rfl
       ·refine zh eZ (dF h23) (AW.skip (TQ.qn (aV (za rfl (za eZ (xQ (AW.ret ?_)))))))
        cases H
        exact eE rfl rfl
theorem kl{a1:ze}{r:ze}(H:yB a1=some r):Fn Tryz.prog 21 (lent [(.agg (zd a1))]) true [(.agg (zd r))]:=by
 refine f21 (fle rfl) ?_
 rw[zx]
 refine AW.weaken (zg [] (kv 0 (.agg [(dI a1.Lo),(dI a1.Hi)]) rfl rfl SL.nil) BL.nil BK.nil) ?_
 unfold yB at H
 unfold i21
 refine aV (jh (n:=64) (m:=2) (cs:=[(dI a1.Lo),(dI a1.Hi)]) rfl eZ rfl rfl nZ (Zl (n:=128) (m:=2) rfl rfl (nR rfl) (xQ (aV (Zl (n:=192) (m:=2) rfl rfl (nR rfl) (xQ (aV (zf (m:=0) rfl rfl (zl (q:=0) (c:=(dI a1.Lo)) eZ (bR rfl) rfl rfl (zf (m:=0) rfl rfl (zP (es:=[(dI a1.Lo),(dI 0)]) eZ rfl rfl rfl bZ rfl (xQ (aV (zf (m:=1) rfl rfl (zl (q:=1) (c:=(dI a1.Hi)) eZ (bR rfl) rfl rfl (zf (m:=1) rfl rfl (zP (es:=[(dI a1.Lo),(dI a1.Hi)]) eZ rfl rfl rfl bZ rfl (xQ (aV (zN (es:=[(dI a1.Lo),(dI a1.Hi)]) rfl bZ rfl (zP (es:=[(dI a1.Lo),(dI a1.Hi)]) rfl eZ rfl rfl (bR rfl) rfl (xQ (AW.ret ?_)))))))))))))))))))))))
 cases H
 exact qI (RL.cons (qS (es:=[(dI a1.Lo),(dI a1.Hi)]) rfl bZ rfl) (VO.agg (ds:=[(.int .i64 a1.Lo),(.int .i64 a1.Hi)]) rfl rfl) RL.nil) List.nodup_nil
theorem zap{a1:(List ze)}{r:(List ze)}(H:Zw a1=some r):Fn Tryz.prog 84 (lent [(.sl 2 (List.map zd a1))]) true [(.sl 2 (List.map zd r))]:=by
 refine f84 (fle rfl) ?_
 rw[zx]
 refine AW.weaken (zg [] (kv 0 (.one (.d (.sl 2 (List.map zd a1)))) rfl rfl SL.nil) BL.nil BK.nil) ?_
 unfold Zw at H
 unfold i84
 refine aV (za eC (xQ (aV (za rfl (zX eZ (n:=a1.length) lm ?_)))))
 obtain⟨h2,H⟩:=qa H
 refine zfY (f:=zd) (zv:=(ze.mk 0 0)) (own:=true) (m:=448) (q:=(Int.toNat (a1.length:Int))) rfl rfl eZ eZ h2.1 h2.2 rfl (by decide) rfl nZ (za eZ (xQ (zF (fun t3:(List ze)=>Yy t3=some r) (fun t3=>mk [(3,(.one (.sl 320128 0 t3.length)))] [(320128,(.data 2 (List.map zd t3) true none))] noG) ?_ ?_)))
 ·intro t3 H
  unfold Yy at H
  refine aV (za eZ (za eZ (xQ (AW.ret ?_))))
  obtain rfl:=(Option.some.inj H)
  exact qI (RL.cons (RV.tmp eZ) (VO.sl bZ lm (zy fun _=>rfl)) RL.nil) (by decide)
 ·refine aV (za eC (xQ (AW.block (AW.iter (fun s5:((List ze)×Int)=>mk [(0,(.one (.d (.sl 2 (List.map zd a1))))),(3,(.one (.sl 320192 0 s5.1.length))),(4,(oI s5.2))] [(320192,(.data 2 (List.map zd s5.1) true none))] noG) H ((zg [] (kR rfl rfl (SL.cons (eR rfl) rfl (VWk.one (CWk.len (by first|(simp;done)|(simp;omega)|omega|(simp only[List.length_map];omega)))) (sR rfl rfl))) (blR rfl) (bkR rfl rfl rfl)).trans (Qv 448 320192 rfl rfl (nR rfl))) ?_))))
  intro kb6 s5 H
  unfold YB at H
  refine aS (aV (za rfl (za rfl (zX eZ (n:=a1.length) lm (qh rfl eZ (xQ ?_))))))
  rcases zC H with⟨h7,H⟩|⟨h7,H⟩
  ·refine zi eZ (dT h7) (AW.skip (TQ.qn (aS (AW.block (aR (za rfl (za rfl (za rfl (za rfl ?_)))))))))
   obtain⟨v8,h9,H⟩:=zk H
   refine qy rfl eZ h9 (qf (es:=[(dI v8.Lo),(dI v8.Hi)]) eZ rfl ?_)
   obtain⟨v10,h11,H⟩:=zk H
   refine zD (u:=(.agg [(dI v10.Lo),(dI v10.Hi)])) eC Cl.fn (kl h11) (Ec eZ En) (Vc (VD.agg rfl) Vn) rfl ?_
   obtain⟨v12,h13,H⟩:=zk H
   exact Xt rfl rfl bZ rfl h13 (yF (t:=v12) (t':=v10) (es:=[(.int .i64 v10.Lo),(.int .i64 v10.Hi)]) eZ rfl rfl rfl bZ (yu h13) rfl rfl (zm (BQ.qn (TQ.qn (aR (za rfl (qj eZ eC (za eZ (zm (TQ.qn ⟨(s5.1.set (Int.toNat s5.2) v10,(IntKind.wrap .i64 (s5.2+1))),H,(zg [] (kR rfl rfl (SL.cons (eR rfl) rfl (VWk.one (CWk.len (by first|(simp;done)|(simp;omega)|omega|(simp only[List.length_map];omega)))) (sR rfl rfl))) (blR rfl) (bkR rfl rfl rfl))⟩))))))))))
  ·exact zh eZ (dF h7) (AW.exit (TQ.qe (TQ.qe (BQ.qe (TQ.qn ⟨s5.1,H,((zg [] (sR rfl rfl) (blR rfl) (bkR rfl rfl rfl)).trans (Qv 320192 320128 rfl rfl (nR rfl)))⟩)))))
theorem zfz{a1:zu}{r:zu}(H:Xi a1=some r):Fn Tryz.prog 198 (lent [(.agg (zj a1))]) true [(.agg (zj r))]:=by
 refine zEq (fle rfl) ?_
 rw[zx]
 refine AW.weaken (zg [] (kv 0 (.agg [(dI a1.Key),(dI a1.Value)]) rfl rfl SL.nil) BL.nil BK.nil) ?_
 unfold Xi at H
 unfold zy4
 refine aV (jh (n:=64) (m:=2) (cs:=[(dI a1.Key),(dI a1.Value)]) rfl eZ rfl rfl nZ (Zl (n:=128) (m:=2) rfl rfl (nR rfl) (xQ (aV (Zl (n:=192) (m:=2) rfl rfl (nR rfl) (xQ (aV (zf (m:=0) rfl rfl (zl (q:=0) (c:=(dI a1.Key)) eZ (bR rfl) rfl rfl (zf (m:=0) rfl rfl (zP (es:=[(dI a1.Key),(dI 0)]) eZ rfl rfl rfl bZ rfl (xQ (aV (zf (m:=1) rfl rfl (zl (q:=1) (c:=(dI a1.Value)) eZ (bR rfl) rfl rfl (zf (m:=1) rfl rfl (zP (es:=[(dI a1.Key),(dI a1.Value)]) eZ rfl rfl rfl bZ rfl (xQ (aV (zN (es:=[(dI a1.Key),(dI a1.Value)]) rfl bZ rfl (zP (es:=[(dI a1.Key),(dI a1.Value)]) rfl eZ rfl rfl (bR rfl) rfl (xQ (AW.ret ?_)))))))))))))))))))))))
 cases H
 exact qI (RL.cons (qS (es:=[(dI a1.Key),(dI a1.Value)]) rfl bZ rfl) (VO.agg (ds:=[(.int .i64 a1.Key),(.int .i64 a1.Value)]) rfl rfl) RL.nil) List.nodup_nil
theorem zed{a1:(List zu)}{r:(List zu)}(H:JW a1=some r):Fn Tryz.prog 85 (lent [(.sl 2 (List.map zj a1))]) true [(.sl 2 (List.map zj r))]:=by
 refine f85 (fle rfl) ?_
 rw[zx]
 refine AW.weaken (zg [] (kv 0 (.one (.d (.sl 2 (List.map zj a1)))) rfl rfl SL.nil) BL.nil BK.nil) ?_
 unfold JW at H
 unfold i85
 refine aV (za eC (xQ (aV (za rfl (zX eZ (n:=a1.length) lm ?_)))))
 obtain⟨h2,H⟩:=qa H
 refine zfY (f:=zj) (zv:=(zu.mk 0 0)) (own:=true) (m:=448) (q:=(Int.toNat (a1.length:Int))) rfl rfl eZ eZ h2.1 h2.2 rfl (by decide) rfl nZ (za eZ (xQ (zF (fun t3:(List zu)=>xC t3=some r) (fun t3=>mk [(3,(.one (.sl 320128 0 t3.length)))] [(320128,(.data 2 (List.map zj t3) true none))] noG) ?_ ?_)))
 ·intro t3 H
  unfold xC at H
  refine aV (za eZ (za eZ (xQ (AW.ret ?_))))
  obtain rfl:=(Option.some.inj H)
  exact qI (RL.cons (RV.tmp eZ) (VO.sl bZ lm (zy fun _=>rfl)) RL.nil) (by decide)
 ·refine aV (za eC (xQ (AW.block (AW.iter (fun s5:((List zu)×Int)=>mk [(0,(.one (.d (.sl 2 (List.map zj a1))))),(3,(.one (.sl 320192 0 s5.1.length))),(4,(oI s5.2))] [(320192,(.data 2 (List.map zj s5.1) true none))] noG) H ((zg [] (kR rfl rfl (SL.cons (eR rfl) rfl (VWk.one (CWk.len (by first|(simp;done)|(simp;omega)|omega|(simp only[List.length_map];omega)))) (sR rfl rfl))) (blR rfl) (bkR rfl rfl rfl)).trans (Qv 448 320192 rfl rfl (nR rfl))) ?_))))
  intro kb6 s5 H
  unfold xm at H
  refine aS (aV (za rfl (za rfl (zX eZ (n:=a1.length) lm (qh rfl eZ (xQ ?_))))))
  rcases zC H with⟨h7,H⟩|⟨h7,H⟩
  ·refine zi eZ (dT h7) (AW.skip (TQ.qn (aS (AW.block (aR (za rfl (za rfl (za rfl (za rfl ?_)))))))))
   obtain⟨v8,h9,H⟩:=zk H
   refine qy rfl eZ h9 (qf (es:=[(dI v8.Key),(dI v8.Value)]) eZ rfl ?_)
   obtain⟨v10,h11,H⟩:=zk H
   refine zD (u:=(.agg [(dI v10.Key),(dI v10.Value)])) eC Cl.fn (zfz h11) (Ec eZ En) (Vc (VD.agg rfl) Vn) rfl ?_
   obtain⟨v12,h13,H⟩:=zk H
   exact Xt rfl rfl bZ rfl h13 (yF (t:=v12) (t':=v10) (es:=[(.int .i64 v10.Key),(.int .i64 v10.Value)]) eZ rfl rfl rfl bZ (yu h13) rfl rfl (zm (BQ.qn (TQ.qn (aR (za rfl (qj eZ eC (za eZ (zm (TQ.qn ⟨(s5.1.set (Int.toNat s5.2) v10,(IntKind.wrap .i64 (s5.2+1))),H,(zg [] (kR rfl rfl (SL.cons (eR rfl) rfl (VWk.one (CWk.len (by first|(simp;done)|(simp;omega)|omega|(simp only[List.length_map];omega)))) (sR rfl rfl))) (blR rfl) (bkR rfl rfl rfl))⟩))))))))))
  ·exact zh eZ (dF h7) (AW.exit (TQ.qe (TQ.qe (BQ.qe (TQ.qn ⟨s5.1,H,((zg [] (sR rfl rfl) (blR rfl) (bkR rfl rfl rfl)).trans (Qv 320192 320128 rfl rfl (nR rfl)))⟩)))))
theorem zfI{a1:zK}{r:zK}(H:Xo a1=some r):Fn Tryz.prog 199 (lent [(.agg (zp a1))]) true [(.agg (zp r))]:=by
 refine zFt (fle rfl) ?_
 rw[zx]
 refine AW.weaken (zg [] (kv 0 (.agg (qo a1)) rfl rfl SL.nil) BL.nil BK.nil) ?_
 unfold Xo at H
 unfold zCv
 refine aV (jh (n:=64) (m:=4) (cs:=(qo a1)) rfl eZ rfl rfl nZ (Zl (n:=128) (m:=4) rfl rfl (nR rfl) (xQ (aV (Zl (n:=192) (m:=4) rfl rfl (nR rfl) (xQ (aV (zf (m:=0) rfl rfl (zl (q:=0) (c:=(dI a1.Tx)) eZ (bR rfl) rfl rfl (zf (m:=0) rfl rfl (zP (es:=[(dI a1.Tx),(dI 0),(dI 0),(dI 0)]) eZ rfl rfl rfl bZ rfl (xQ (aV (zf (m:=1) rfl rfl (zl (q:=1) (c:=(dI a1.Lo)) eZ (bR rfl) rfl rfl (zf (m:=1) rfl rfl (zP (es:=[(dI a1.Tx),(dI a1.Lo),(dI 0),(dI 0)]) eZ rfl rfl rfl bZ rfl (xQ (aV (zf (m:=2) rfl rfl (zl (q:=2) (c:=(dI a1.Hi)) eZ (bR rfl) rfl rfl (zf (m:=2) rfl rfl (zP (es:=[(dI a1.Tx),(dI a1.Lo),(dI a1.Hi),(dI 0)]) eZ rfl rfl rfl bZ rfl (xQ (aV (zf (m:=3) rfl rfl (zl (q:=3) (c:=(dI a1.Mode)) eZ (bR rfl) rfl rfl (zf (m:=3) rfl rfl ?_))))))))))))))))))))))))))))
 refine zP (es:=(qo a1)) eZ rfl rfl rfl bZ rfl (xQ (AW.weaken (zg [64] (kr 3 rfl rfl (kr 2 rfl rfl SL.nil)) (blR rfl) (BK.cons (n:=192) rfl bZ rfl rfl (BK.cons (n:=128) rfl (bR rfl) rfl rfl BK.nil))) (aV (zN (es:=(qo a1)) eZ bZ rfl (zP (es:=(qo a1)) rfl eZ rfl rfl (bR rfl) rfl (xQ (AW.ret ?_)))))))
 cases H
 exact qI (RL.cons (qS (es:=(qo a1)) rfl bZ rfl) (VO.agg (ds:=[(.int .i64 a1.Tx),(.int .i64 a1.Lo),(.int .i64 a1.Hi),(.int .i64 a1.Mode)]) rfl rfl) RL.nil) List.nodup_nil
theorem zeU{a1:(List zK)}{r:(List zK)}(H:JI a1=some r):Fn Tryz.prog 86 (lent [(.sl 4 (List.map zp a1))]) true [(.sl 4 (List.map zp r))]:=by
 refine f86 (fle rfl) ?_
 rw[zx]
 refine AW.weaken (zg [] (kv 0 (.one (.d (.sl 4 (List.map zp a1)))) rfl rfl SL.nil) BL.nil BK.nil) ?_
 unfold JI at H
 unfold i86
 refine aV (za eC (xQ (aV (za rfl (zX eZ (n:=a1.length) lm ?_)))))
 obtain⟨h2,H⟩:=qa H
 refine zfY (f:=zp) (zv:=(zK.mk 0 0 0 0)) (own:=true) (m:=448) (q:=(Int.toNat (a1.length:Int))) rfl rfl eZ eZ h2.1 h2.2 rfl (by decide) rfl nZ (za eZ (xQ (zF (fun t3:(List zK)=>xw t3=some r) (fun t3=>mk [(3,(.one (.sl 320128 0 t3.length)))] [(320128,(.data 4 (List.map zp t3) true none))] noG) ?_ ?_)))
 ·intro t3 H
  unfold xw at H
  refine aV (za eZ (za eZ (xQ (AW.ret ?_))))
  obtain rfl:=(Option.some.inj H)
  exact qI (RL.cons (RV.tmp eZ) (VO.sl bZ lm (zy fun _=>rfl)) RL.nil) (by decide)
 ·refine aV (za eC (xQ (AW.block (AW.iter (fun s5:((List zK)×Int)=>mk [(0,(.one (.d (.sl 4 (List.map zp a1))))),(3,(.one (.sl 320192 0 s5.1.length))),(4,(oI s5.2))] [(320192,(.data 4 (List.map zp s5.1) true none))] noG) H ((zg [] (kR rfl rfl (SL.cons (eR rfl) rfl (VWk.one (CWk.len (by first|(simp;done)|(simp;omega)|omega|(simp only[List.length_map];omega)))) (sR rfl rfl))) (blR rfl) (bkR rfl rfl rfl)).trans (Qv 448 320192 rfl rfl (nR rfl))) ?_))))
  intro kb6 s5 H
  unfold xu at H
  refine aS (aV (za rfl (za rfl (zX eZ (n:=a1.length) lm (qh rfl eZ (xQ ?_))))))
  rcases zC H with⟨h7,H⟩|⟨h7,H⟩
  ·refine zi eZ (dT h7) (AW.skip (TQ.qn (aS (AW.block (aR (za rfl (za rfl (za rfl (za rfl ?_)))))))))
   obtain⟨v8,h9,H⟩:=zk H
   refine qy rfl eZ h9 (qf (es:=(qo v8)) eZ rfl ?_)
   obtain⟨v10,h11,H⟩:=zk H
   refine zD (u:=(.agg (qo v10))) eC Cl.fn (zfI h11) (Ec eZ En) (Vc (VD.agg rfl) Vn) rfl ?_
   obtain⟨v12,h13,H⟩:=zk H
   exact Xt rfl rfl bZ rfl h13 (yF (t:=v12) (t':=v10) (es:=[(.int .i64 v10.Tx),(.int .i64 v10.Lo),(.int .i64 v10.Hi),(.int .i64 v10.Mode)]) eZ rfl rfl rfl bZ (yu h13) rfl rfl (zm (BQ.qn (TQ.qn (aR (za rfl (qj eZ eC (za eZ (zm (TQ.qn ⟨(s5.1.set (Int.toNat s5.2) v10,(IntKind.wrap .i64 (s5.2+1))),H,(zg [] (kR rfl rfl (SL.cons (eR rfl) rfl (VWk.one (CWk.len (by first|(simp;done)|(simp;omega)|omega|(simp only[List.length_map];omega)))) (sR rfl rfl))) (blR rfl) (bkR rfl rfl rfl))⟩))))))))))
  ·exact zh eZ (dF h7) (AW.exit (TQ.qe (TQ.qe (BQ.qe (TQ.qn ⟨s5.1,H,((zg [] (sR rfl rfl) (blR rfl) (bkR rfl rfl rfl)).trans (Qv 320192 320128 rfl rfl (nR rfl)))⟩)))))
theorem zez{a1:zu}{r:zu}(H:xY a1=some r):Fn Tryz.prog 344 (lent [(.agg (zj a1))]) true [(.agg (zj r))]:=by
 refine zEX (fle rfl) ?_
 rw[zx]
 refine AW.weaken (zg [] (kv 0 (.agg [(dI a1.Key),(dI a1.Value)]) rfl rfl SL.nil) BL.nil BK.nil) ?_
 unfold xY at H
 unfold zzK
 refine aV (jh (n:=64) (m:=2) (cs:=[(dI a1.Key),(dI a1.Value)]) rfl eZ rfl rfl nZ (Zl (n:=128) (m:=2) rfl rfl (nR rfl) (xQ (aV (Zl (n:=192) (m:=2) rfl rfl (nR rfl) (xQ (aV (zf (m:=0) rfl rfl (zl (q:=0) (c:=(dI a1.Key)) eZ (bR rfl) rfl rfl (zf (m:=0) rfl rfl (zP (es:=[(dI a1.Key),(dI 0)]) eZ rfl rfl rfl bZ rfl (xQ (aV (zf (m:=1) rfl rfl (zl (q:=1) (c:=(dI a1.Value)) eZ (bR rfl) rfl rfl (zf (m:=1) rfl rfl (zP (es:=[(dI a1.Key),(dI a1.Value)]) eZ rfl rfl rfl bZ rfl (xQ (aV (zN (es:=[(dI a1.Key),(dI a1.Value)]) rfl bZ rfl (zP (es:=[(dI a1.Key),(dI a1.Value)]) rfl eZ rfl rfl (bR rfl) rfl (xQ (AW.ret ?_)))))))))))))))))))))))
 cases H
 exact qI (RL.cons (qS (es:=[(dI a1.Key),(dI a1.Value)]) rfl bZ rfl) (VO.agg (ds:=[(.int .i64 a1.Key),(.int .i64 a1.Value)]) rfl rfl) RL.nil) List.nodup_nil
theorem zd1{a1:(List zu)}{r:(List zu)}(H:QU a1=some r):Fn Tryz.prog 283 (lent [(.sl 2 (List.map zj a1))]) true [(.sl 2 (List.map zj r))]:=by
 refine zFa (fle rfl) ?_
 rw[zx]
 refine AW.weaken (zg [] (kv 0 (.one (.d (.sl 2 (List.map zj a1)))) rfl rfl SL.nil) BL.nil BK.nil) ?_
 unfold QU at H
 unfold zzV
 refine aV (za eC (xQ (aV (za rfl (zX eZ (n:=a1.length) lm ?_)))))
 obtain⟨h2,H⟩:=qa H
 refine zfY (f:=zj) (zv:=(zu.mk 0 0)) (own:=true) (m:=448) (q:=(Int.toNat (a1.length:Int))) rfl rfl eZ eZ h2.1 h2.2 rfl (by decide) rfl nZ (za eZ (xQ (zF (fun t3:(List zu)=>Yu t3=some r) (fun t3=>mk [(3,(.one (.sl 320128 0 t3.length)))] [(320128,(.data 2 (List.map zj t3) true none))] noG) ?_ ?_)))
 ·intro t3 H
  unfold Yu at H
  refine aV (za eZ (za eZ (xQ (AW.ret ?_))))
  obtain rfl:=(Option.some.inj H)
  exact qI (RL.cons (RV.tmp eZ) (VO.sl bZ lm (zy fun _=>rfl)) RL.nil) (by decide)
 ·refine aV (za eC (xQ (AW.block (AW.iter (fun s5:((List zu)×Int)=>mk [(0,(.one (.d (.sl 2 (List.map zj a1))))),(3,(.one (.sl 320192 0 s5.1.length))),(4,(oI s5.2))] [(320192,(.data 2 (List.map zj s5.1) true none))] noG) H ((zg [] (kR rfl rfl (SL.cons (eR rfl) rfl (VWk.one (CWk.len (by first|(simp;done)|(simp;omega)|omega|(simp only[List.length_map];omega)))) (sR rfl rfl))) (blR rfl) (bkR rfl rfl rfl)).trans (Qv 448 320192 rfl rfl (nR rfl))) ?_))))
  intro kb6 s5 H
  unfold YE at H
  refine aS (aV (za rfl (za rfl (zX eZ (n:=a1.length) lm (qh rfl eZ (xQ ?_))))))
  rcases zC H with⟨h7,H⟩|⟨h7,H⟩
  ·refine zi eZ (dT h7) (AW.skip (TQ.qn (aS (AW.block (aR (za rfl (za rfl (za rfl (za rfl ?_)))))))))
   obtain⟨v8,h9,H⟩:=zk H
   refine qy rfl eZ h9 (qf (es:=[(dI v8.Key),(dI v8.Value)]) eZ rfl ?_)
   obtain⟨v10,h11,H⟩:=zk H
   refine zD (u:=(.agg [(dI v10.Key),(dI v10.Value)])) eC Cl.fn (zez h11) (Ec eZ En) (Vc (VD.agg rfl) Vn) rfl ?_
   obtain⟨v12,h13,H⟩:=zk H
   exact Xt rfl rfl bZ rfl h13 (yF (t:=v12) (t':=v10) (es:=[(.int .i64 v10.Key),(.int .i64 v10.Value)]) eZ rfl rfl rfl bZ (yu h13) rfl rfl (zm (BQ.qn (TQ.qn (aR (za rfl (qj eZ eC (za eZ (zm (TQ.qn ⟨(s5.1.set (Int.toNat s5.2) v10,(IntKind.wrap .i64 (s5.2+1))),H,(zg [] (kR rfl rfl (SL.cons (eR rfl) rfl (VWk.one (CWk.len (by first|(simp;done)|(simp;omega)|omega|(simp only[List.length_map];omega)))) (sR rfl rfl))) (blR rfl) (bkR rfl rfl rfl))⟩))))))))))
  ·exact zh eZ (dF h7) (AW.exit (TQ.qe (TQ.qe (BQ.qe (TQ.qn ⟨s5.1,H,((zg [] (sR rfl rfl) (blR rfl) (bkR rfl rfl rfl)).trans (Qv 320192 320128 rfl rfl (nR rfl)))⟩)))))
theorem zfE{a1:zL}{r:zL}(H:xb a1=some r):Fn Tryz.prog 200 (lent [(.agg (zA a1))]) true [(.agg (zA r))]:=by
 refine zEv (fle rfl) ?_
 rw[zx]
 refine AW.weaken (t:=mk [(0,(.agg (jE a1)))] [] (lk [])) (zg [] (sR rfl rfl) BL.nil BK.nil) ?_
 unfold xb at H
 unfold zxD
 refine aV (jh (n:=64) (m:=2) (cs:=(jE a1)) rfl eZ rfl rfl nZ (Zl (n:=128) (m:=2) rfl rfl (nR rfl) (xQ (aV (Zl (n:=192) (m:=2) rfl rfl (nR rfl) (xQ (aV (zf (m:=0) rfl rfl (zl (q:=0) (c:=(dI a1.Tx)) eZ (bR rfl) rfl rfl (zf (m:=0) rfl rfl (zP (es:=[(dI a1.Tx),.zs]) eZ rfl rfl rfl bZ rfl (xQ (aS (zW (zw (zf (m:=1) rfl rfl (zm (zw (zl (q:=1) (c:=(.d (.sl 2 (List.map zj a1.Writes)))) eZ (bR rfl) rfl rfl (zm (zw ?_)))))))))))))))))))))
 obtain⟨v2,h3,H⟩:=zk H
 refine jK (u:=(.one (.sl 576 0 v2.length))) (bs:=[(576,(.data 2 (List.map zj v2) true none))]) eC Cl.fn (zd1 h3) (Ec eZ En) (Vc Vp Vn) (by simp[jr,jV,qF,jx,qK]) rfl (fC (nR rfl) rfl (fC (nR rfl) rfl fN)) (zm (zw (zf (m:=1) rfl rfl (zm (zw (zP (es:=[(dI a1.Tx),(.sl 576 0 v2.length)]) eZ rfl rfl rfl (bR rfl) rfl (zm (qc (xQ (aS (zW (zw (zN (es:=[(dI a1.Tx),(.sl 576 0 v2.length)]) rfl bZ rfl (zm (zw (zP (es:=[(dI a1.Tx),(.sl 576 0 v2.length)]) rfl eZ rfl rfl (bR rfl) rfl (zm (qc (xQ (AW.ret ?_))))))))))))))))))))
 cases H
 exact qI (RL.cons (qS (es:=[(dI a1.Tx),(.sl 576 0 v2.length)]) rfl bZ rfl) (VO.aggs (VOs.cons (VO.flat rfl) (VOs.cons (VO.sl (bR rfl) lm (zy fun _=>rfl)) VOs.nil))) RL.nil) (by decide)
theorem zfa{a1:(List zL)}{r:(List zL)}(H:J3 a1=some r):Fn Tryz.prog 87 (lent [(.sl 2 (List.map zA a1))]) true [(.sl 2 (List.map zA r))]:=by
 refine f87 (fle rfl) ?_
 rw[zx]
 refine AW.weaken (t:=mk [(0,(.one (.d (.sl 2 (List.map zA a1)))))] [] (lk [])) (zg [] (sR rfl rfl) BL.nil BK.nil) ?_
 unfold J3 at H
 unfold i87
 refine aV (za eC (xQ (aS (zW (zw (za rfl (zm (zw (zX eZ (n:=a1.length) lm (zm ?_))))))))))
 obtain⟨h2,H⟩:=qa H
 refine zrj (f:=zA) (zv:=(zL.mk 0 ([]:(List zu)))) (m:=448) (q:=(Int.toNat (a1.length:Int))) rfl eZ eZ h2.1 h2.2 rfl (by decide) rfl nZ (qc (za eZ (xQ (zF (fun t3:(List zL)=>xv t3=some r) (fun t3=>mk [(3,(.one (.sl 320128 0 t3.length)))] [(320128,(.data 2 (List.map zA t3) true none))] (lk [])) ?_ ?_))))
 ·intro t3 H
  unfold xv at H
  refine aV (za eZ (za eZ (xQ (AW.ret ?_))))
  obtain rfl:=(Option.some.inj H)
  exact qI (RL.cons (RV.tmp eZ) (ZN bZ lm rfl) RL.nil) (by decide)
 ·refine aV (za eC (xQ (AW.block (AW.iter (fun s5:((List zL)×Int)=>mk [(0,(.one (.d (.sl 2 (List.map zA a1))))),(3,(.one (.sl 320192 0 s5.1.length))),(4,(oI s5.2))] [(320192,(.data 2 (List.map zA s5.1) true none))] (lk [])) H ((zM [] (kR rfl rfl (SL.cons (eR rfl) rfl (VWk.one (CWk.len (by first|(simp;done)|(simp;omega)|omega|(simp only[List.length_map];omega)))) (sR rfl rfl))) (blR rfl) (bkR rfl rfl rfl) GK.nil).trans (zai 448 320192 rfl rfl (nR rfl) GR.nil)) ?_))))
  intro kb6 s5 H
  unfold xh at H
  refine aS (aV (za rfl (za rfl (zX eZ (n:=a1.length) lm (qh rfl eZ (xQ ?_))))))
  rcases zC H with⟨h7,H⟩|⟨h7,H⟩
  ·refine zi eZ (dT h7) (AW.skip (TQ.qn (aS (AW.block (zW (zw (za rfl (zm (zw (za rfl (zm (zw (za rfl (zm (zw (za rfl (zm (zw ?_))))))))))))))))))
   obtain⟨v8,h9,H⟩:=zk H
   refine qy rfl eZ h9 (zm (zw (qf (es:=(jE v8)) eZ rfl (zm (zw ?_)))))
   obtain⟨v10,h11,H⟩:=zk H
   refine jK (u:=(.agg [(dI v10.Tx),(.sl 1281 0 v10.Writes.length)])) (bs:=[(1281,(.data 2 (List.map zj v10.Writes) true none))]) eC Cl.fn (zfE h11) (Ec eZ En) (Vc (VD.agg rfl) Vn) (by simp[jr,jV,qF,jx,qK]) rfl (fC (nR rfl) rfl (fC (nR rfl) rfl fN)) (zm (zw ?_))
   obtain⟨v12,h13,H⟩:=zk H
   exact Xt rfl rfl (bR rfl) rfl h13 (zm (zil (f:=zA) (t:=v12) (t':=v10) (ds:=[(.int .i64 v10.Tx),(.sl 2 (List.map zj v10.Writes))]) (ns:=[1281]) eZ rfl rfl rfl (bR rfl) (yu h13) (VOs.cons (VO.flat rfl) (VOs.cons (VO.sl bZ lm (zy fun _=>rfl)) VOs.nil)) rfl rfl (erL.cons (v':=(.one (.ptr (.nm 320192 (Int.toNat s5.2) 0)))) rfl (erL.cons (v':=(.agg [(dI v10.Tx),.any])) rfl (erL.cons (v':=(.agg (jE v8))) rfl (erL.cons (v':=(.one (.ptr (.bd (zA v8) 0)))) rfl (erL.cons (v':=(oI s5.2)) rfl (erL.cons (v':=(.one (.d (.sl 2 (List.map zA a1))))) rfl (erL.cons (v':=(oI s5.2)) rfl (erL.cons (v':=(.one (.sl 320192 0 s5.1.length))) rfl (erL.cons (v':=(oB (decide (s5.2 < (a1.length:Int))))) rfl (erL.cons (v':=(oI (a1.length:Int))) rfl (erL.cons (v':=(.one (.d (.sl 2 (List.map zA a1))))) rfl (erL.cons (v':=(oI s5.2)) rfl (erL.cons (v':=(.one (.d (.sl 2 (List.map zA a1))))) rfl (erL.cons (v':=(.one (.sl 320192 0 s5.1.length))) rfl (erL.cons (v':=(oI s5.2)) rfl erL.nil))))))))))))))) (erH.drop rfl (erH.cons (v':=(.data 2 (List.map zA s5.1) true none)) rfl rfl erH.nil)) erL.nil (qc (zm (BQ.qn (TQ.qn (aR (za rfl (qj eZ eC (za eZ (zm (TQ.qn ⟨(s5.1.set (Int.toNat s5.2) v10,(IntKind.wrap .i64 (s5.2+1))),H,(zM [] (kR rfl rfl (SL.cons (eR rfl) rfl (VWk.one (CWk.len (by first|(simp;done)|(simp;omega)|omega|(simp only[List.length_map];omega)))) (sR rfl rfl))) (blR rfl) (bkR rfl rfl rfl) GK.nil)⟩))))))))))))
  ·exact zh eZ (dF h7) (AW.exit (TQ.qe (TQ.qe (BQ.qe (TQ.qn ⟨s5.1,H,((zM [] (sR rfl rfl) (blR rfl) (bkR rfl rfl rfl) GK.nil).trans (zai 320192 320128 rfl rfl (nR rfl) GR.nil))⟩)))))
theorem zbI{a1:(List Int)}{r:(List Int)}(H:Q7 a1=some r):Fn Tryz.prog 88 (lent [(.sl 1 (List.map zt a1))]) true [(.sl 1 (List.map zt r))]:=by
 refine f88 (fle rfl) ?_
 rw[zx]
 refine AW.weaken (zg [] (kv 0 (.one (.d (.sl 1 (List.map zt a1)))) rfl rfl SL.nil) BL.nil BK.nil) ?_
 unfold Q7 at H
 unfold i88
 refine aV (za eC (xQ (aV (za rfl (zX eZ (n:=a1.length) lm ?_)))))
 obtain⟨h2,H⟩:=qa H
 refine zfY (f:=zt) (zv:=0) (own:=true) (m:=448) (q:=(Int.toNat (a1.length:Int))) rfl rfl eZ eZ h2.1 h2.2 rfl (by decide) rfl nZ (za eZ (xQ (zF (fun t3:(List Int)=>ku t3=some r) (fun t3=>mk [(3,(.one (.sl 320128 0 t3.length)))] [(320128,(.data 1 (List.map zt t3) true none))] noG) ?_ ?_)))
 ·intro t3 H
  unfold ku at H
  refine aV (za eZ (za eZ (xQ (AW.ret ?_))))
  obtain rfl:=(Option.some.inj H)
  exact qI (RL.cons (RV.tmp eZ) (VO.sl bZ lm (zy fun _=>rfl)) RL.nil) (by decide)
 ·refine aV (za eC (xQ (AW.block (AW.iter (fun s5:((List Int)×Int)=>mk [(0,(.one (.d (.sl 1 (List.map zt a1))))),(3,(.one (.sl 320192 0 s5.1.length))),(4,(oI s5.2))] [(320192,(.data 1 (List.map zt s5.1) true none))] noG) H ((zg [] (kR rfl rfl (SL.cons (eR rfl) rfl (VWk.one (CWk.len (by first|(simp;done)|(simp;omega)|omega|(simp only[List.length_map];omega)))) (sR rfl rfl))) (blR rfl) (bkR rfl rfl rfl)).trans (Qv 448 320192 rfl rfl (nR rfl))) ?_))))
  intro kb6 s5 H
  unfold ki at H
  refine aS (aV (za rfl (za rfl (zX eZ (n:=a1.length) lm (qh rfl eZ (xQ ?_))))))
  rcases zC H with⟨h7,H⟩|⟨h7,H⟩
  ·refine zi eZ (dT h7) (AW.skip (TQ.qn (aS (AW.block (aR (za rfl (za rfl (za rfl (za rfl ?_)))))))))
   obtain⟨v8,h9,H⟩:=zk H
   refine qy rfl eZ h9 (zY (e:=(.int .i64 v8)) eZ rfl ?_)
   obtain⟨v10,h11,H⟩:=zk H
   exact Xt rfl rfl bZ rfl h11 (yF (t:=v10) (t':=v8) (es:=[(.int .i64 v8)]) eZ rfl rfl rfl bZ (yu h11) rfl rfl (zm (BQ.qn (TQ.qn (aR (za rfl (qj eZ eC (za eZ (zm (TQ.qn ⟨(s5.1.set (Int.toNat s5.2) v8,(IntKind.wrap .i64 (s5.2+1))),H,(zg [] (kR rfl rfl (SL.cons (eR rfl) rfl (VWk.one (CWk.len (by first|(simp;done)|(simp;omega)|omega|(simp only[List.length_map];omega)))) (sR rfl rfl))) (blR rfl) (bkR rfl rfl rfl))⟩))))))))))
  ·exact zh eZ (dF h7) (AW.exit (TQ.qe (TQ.qe (BQ.qe (TQ.qn ⟨s5.1,H,((zg [] (sR rfl rfl) (blR rfl) (bkR rfl rfl rfl)).trans (Qv 320192 320128 rfl rfl (nR rfl)))⟩)))))
theorem kH{a1:zn}{r:zn}(H:yt a1=some r):Fn Tryz.prog 20 (lent [(.agg (zR a1))]) true [(.agg (zR r))]:=by
 refine f20 (fle rfl) ?_
 rw[zx]
 refine AW.weaken (t:=mk [(0,(.agg (zE a1)))] [] (lk [])) (zg [] (sR rfl rfl) BL.nil BK.nil) ?_
 unfold yt at H
 unfold i20
 refine aV (jh (n:=64) (m:=9) (cs:=(zE a1)) rfl eZ rfl rfl nZ (Zl (n:=128) (m:=9) rfl rfl (nR rfl) (xQ (aV (Zl (n:=192) (m:=9) rfl rfl (nR rfl) (xQ (aV (zf (m:=0) rfl rfl (zl (q:=0) (c:=(dI a1.Me)) eZ (bR rfl) rfl rfl (zf (m:=0) rfl rfl (zP (es:=[(dI a1.Me),.zs,.zs,.zs,.zs,.zs,.zs,.zs,(dI 0)]) eZ rfl rfl rfl bZ rfl (xQ (aS (zW (zw (zf (m:=1) rfl rfl (zm (zw (zl (q:=1) (c:=(.d (.sl 2 (List.map zd a1.Own)))) eZ (bR rfl) rfl rfl (zm (zw ?_)))))))))))))))))))))
 obtain⟨v2,h3,H⟩:=zk H
 refine jK (u:=(.one (.sl 576 0 v2.length))) (bs:=[(576,(.data 2 (List.map zd v2) true none))]) eC Cl.fn (zap h3) (Ec eZ En) (Vc Vp Vn) (by simp[jr,jV,qF,jx,qK]) rfl (fC (nR rfl) rfl (fC (nR rfl) rfl fN)) (zm (zw (zf (m:=1) rfl rfl (zm (zw (zP (es:=[(dI a1.Me),(.sl 576 0 v2.length),.zs,.zs,.zs,.zs,.zs,.zs,(dI 0)]) eZ rfl rfl rfl (bR rfl) rfl (zm (qc (xQ (aS (zW (zw (zf (m:=2) rfl rfl (zm (zw (zl (q:=2) (c:=(.d (.sl 2 (List.map zd a1.Frozen)))) eZ (bR rfl) rfl rfl (zm (zw ?_))))))))))))))))))
 obtain⟨v4,h5,H⟩:=zk H
 refine jK (u:=(.one (.sl 832 0 v4.length))) (bs:=[(832,(.data 2 (List.map zd v4) true none))]) eC Cl.fn (zap h5) (Ec eZ En) (Vc Vp Vn) (by simp[jr,jV,qF,jx,qK]) rfl (fC (nR rfl) rfl (fC (nR rfl) rfl fN)) (zm (zw (zf (m:=2) rfl rfl (zm (zw (zP (es:=[(dI a1.Me),(.sl 576 0 v2.length),(.sl 832 0 v4.length),.zs,.zs,.zs,.zs,.zs,(dI 0)]) eZ rfl rfl rfl (bR rfl) rfl (zm (qc (xQ (aS (zW (zw (zf (m:=3) rfl rfl (zm (zw (zl (q:=3) (c:=(.d (.sl 2 (List.map zj a1.Cells)))) eZ (bR rfl) rfl rfl (zm (zw ?_))))))))))))))))))
 obtain⟨v6,h7,H⟩:=zk H
 refine jK (u:=(.one (.sl 1088 0 v6.length))) (bs:=[(1088,(.data 2 (List.map zj v6) true none))]) eC Cl.fn (zed h7) (Ec eZ En) (Vc Vp Vn) (by simp[jr,jV,qF,jx,qK]) rfl (fC (nR rfl) rfl (fC (nR rfl) rfl fN)) (zm (zw (zf (m:=3) rfl rfl (zm (zw (zP (es:=[(dI a1.Me),(.sl 576 0 v2.length),(.sl 832 0 v4.length),(.sl 1088 0 v6.length),.zs,.zs,.zs,.zs,(dI 0)]) eZ rfl rfl rfl (bR rfl) rfl (zm (qc (xQ (AW.weaken (zM [] (kr 3 rfl rfl (kr 2 rfl rfl (kr 1 rfl rfl SL.nil))) (blR rfl) (BK.cons (n:=192) rfl bZ rfl rfl (BK.cons (n:=1088) rfl (bR rfl) rfl rfl (BK.cons (n:=832) rfl (bR rfl) rfl rfl (BK.cons (n:=576) rfl (bR rfl) rfl rfl (BK.cons (n:=128) rfl (bR rfl) rfl rfl (BK.cons (n:=64) rfl (bR rfl) rfl rfl BK.nil)))))) GK.nil) (aS (zW (zw (zf (m:=4) rfl rfl (zm (zw (zl (q:=4) (c:=(.d (.sl 4 (List.map zp a1.Locks)))) eZ (bR rfl) rfl rfl (zm (zw ?_)))))))))))))))))))
 obtain⟨v8,h9,H⟩:=zk H
 refine jK (u:=(.one (.sl 1344 0 v8.length))) (bs:=[(1344,(.data 4 (List.map zp v8) true none))]) eC Cl.fn (zeU h9) (Ec eZ En) (Vc Vp Vn) (by simp[jr,jV,qF,jx,qK]) rfl (fC (nR rfl) rfl (fC (nR rfl) rfl fN)) (zm (zw (zf (m:=4) rfl rfl (zm (zw (zP (es:=[(dI a1.Me),(.sl 576 0 v2.length),(.sl 832 0 v4.length),(.sl 1088 0 v6.length),(.sl 1344 0 v8.length),.zs,.zs,.zs,(dI 0)]) eZ rfl rfl rfl (bR rfl) rfl (zm (qc (xQ (aS (zW (zw (zf (m:=5) rfl rfl (zm (zw (zl (q:=5) (c:=(.d (.sl 2 (List.map zA a1.Helds)))) eZ (bR rfl) rfl rfl (zm (zw ?_))))))))))))))))))
 obtain⟨v10,h11,H⟩:=zk H
 refine jK (u:=(.one (.sl 1600 0 v10.length))) (bs:=[(1600,(.data 2 (List.map zA v10) true none))]) eC Cl.fn (zfa h11) (Ec eZ En) (Vc Vp Vn) (by simp[jr,jV,qF,jx,qK]) rfl (fC (nR rfl) rfl (fC (nR rfl) rfl fN)) (zm (zw (zf (m:=5) rfl rfl (zm (zw (zP (es:=[(dI a1.Me),(.sl 576 0 v2.length),(.sl 832 0 v4.length),(.sl 1088 0 v6.length),(.sl 1344 0 v8.length),(.sl 1600 0 v10.length),.zs,.zs,(dI 0)]) eZ rfl rfl rfl (bR rfl) rfl (zm (qc (xQ (aS (zW (zw (zf (m:=6) rfl rfl (zm (zw (zl (q:=6) (c:=(.d (.sl 1 (List.map zt a1.Wounded)))) eZ (bR rfl) rfl rfl (zm (zw ?_))))))))))))))))))
 obtain⟨v12,h13,H⟩:=zk H
 refine jK (u:=(.one (.sl 1856 0 v12.length))) (bs:=[(1856,(.data 1 (List.map zt v12) true none))]) eC Cl.fn (zbI h13) (Ec eZ En) (Vc Vp Vn) (by simp[jr,jV,qF,jx,qK]) rfl (fC (nR rfl) rfl (fC (nR rfl) rfl fN)) (zm (zw (zf (m:=6) rfl rfl (zm (zw (zP (es:=[(dI a1.Me),(.sl 576 0 v2.length),(.sl 832 0 v4.length),(.sl 1088 0 v6.length),(.sl 1344 0 v8.length),(.sl 1600 0 v10.length),(.sl 1856 0 v12.length),.zs,(dI 0)]) eZ rfl rfl rfl (bR rfl) rfl (zm (qc (xQ (aS (zW (zw (zf (m:=7) rfl rfl (zm (zw (zl (q:=7) (c:=(.d (.sl 1 (List.map zt a1.Ended)))) eZ (bR rfl) rfl rfl (zm (zw ?_))))))))))))))))))
 obtain⟨v14,h15,H⟩:=zk H
 refine jK (u:=(.one (.sl 2112 0 v14.length))) (bs:=[(2112,(.data 1 (List.map zt v14) true none))]) eC Cl.fn (zbI h15) (Ec eZ En) (Vc Vp Vn) (by simp[jr,jV,qF,jx,qK]) rfl (fC (nR rfl) rfl (fC (nR rfl) rfl fN)) (zm (zw (zf (m:=7) rfl rfl (zm (zw (zP (es:=[(dI a1.Me),(.sl 576 0 v2.length),(.sl 832 0 v4.length),(.sl 1088 0 v6.length),(.sl 1344 0 v8.length),(.sl 1600 0 v10.length),(.sl 1856 0 v12.length),(.sl 2112 0 v14.length),(dI 0)]) eZ rfl rfl rfl (bR rfl) rfl (zm (qc (xQ (AW.weaken (zM [] (kr 3 rfl rfl (kr 2 rfl rfl (kr 1 rfl rfl SL.nil))) (blR rfl) (BK.cons (n:=192) rfl bZ rfl rfl (BK.cons (n:=2112) rfl (bR rfl) rfl rfl (BK.cons (n:=1856) rfl (bR rfl) rfl rfl (BK.cons (n:=1600) rfl (bR rfl) rfl rfl (BK.cons (n:=1344) rfl (bR rfl) rfl rfl (BK.cons (n:=1088) rfl (bR rfl) rfl rfl (BK.cons (n:=832) rfl (bR rfl) rfl rfl (BK.cons (n:=576) rfl (bR rfl) rfl rfl (BK.cons (n:=128) rfl (bR rfl) rfl rfl (BK.cons (n:=64) rfl (bR rfl) rfl rfl BK.nil)))))))))) GK.nil) (aV (zf (m:=8) rfl rfl (zl (q:=8) (c:=(dI a1.Rank)) eZ (bR rfl) rfl rfl (zf (m:=8) rfl rfl (zP (es:=[(dI a1.Me),(.sl 576 0 v2.length),(.sl 832 0 v4.length),(.sl 1088 0 v6.length),(.sl 1344 0 v8.length),(.sl 1600 0 v10.length),(.sl 1856 0 v12.length),(.sl 2112 0 v14.length),(dI a1.Rank)]) eZ rfl rfl rfl bZ rfl (xQ (aS (zW (zw (zN (es:=[(dI a1.Me),(.sl 576 0 v2.length),(.sl 832 0 v4.length),(.sl 1088 0 v6.length),(.sl 1344 0 v8.length),(.sl 1600 0 v10.length),(.sl 1856 0 v12.length),(.sl 2112 0 v14.length),(dI a1.Rank)]) rfl bZ rfl (zm (zw (zP (es:=[(dI a1.Me),(.sl 576 0 v2.length),(.sl 832 0 v4.length),(.sl 1088 0 v6.length),(.sl 1344 0 v8.length),(.sl 1600 0 v10.length),(.sl 1856 0 v12.length),(.sl 2112 0 v14.length),(dI a1.Rank)]) rfl eZ rfl rfl (bR rfl) rfl (zm (qc (xQ (AW.ret ?_)))))))))))))))))))))))))))
 cases H
 exact qI (RL.cons (qS (es:=[(dI a1.Me),(.sl 576 0 v2.length),(.sl 832 0 v4.length),(.sl 1088 0 v6.length),(.sl 1344 0 v8.length),(.sl 1600 0 v10.length),(.sl 1856 0 v12.length),(.sl 2112 0 v14.length),(dI a1.Rank)]) rfl bZ rfl) (VO.aggs (VOs.cons (VO.flat rfl) (VOs.cons (VO.sl (bR rfl) lm (zy fun _=>rfl)) (VOs.cons (VO.sl (bR rfl) lm (zy fun _=>rfl)) (VOs.cons (VO.sl (bR rfl) lm (zy fun _=>rfl)) (VOs.cons (VO.sl (bR rfl) lm (zy fun _=>rfl)) (VOs.cons (ZN (bR rfl) lm rfl) (VOs.cons (VO.sl (bR rfl) lm (zy fun _=>rfl)) (VOs.cons (VO.sl (bR rfl) lm (zy fun _=>rfl)) (VOs.cons (VO.flat rfl) VOs.nil)))))))))) RL.nil) (by decide)
theorem JT{a1:Int}{a2:Int}{a3:Int}{r:Bool}(H:yy a1 a2 a3=some r):Fn Tryz.prog 168 (lent [(.int .i64 a1),(.int .i64 a2),(.int .i64 a3)]) true [(.bool r)]:=by
 refine zFx (fle rfl) ?_
 rw[zx]
 refine AW.weaken (zg [] (kv 0 (oI a1) rfl rfl (kv 1 (oI a2) rfl rfl (kv 2 (oI a3) rfl rfl SL.nil))) BL.nil BK.nil) ?_
 unfold yy at H
 unfold zDF
 refine aV (za eC (xQ (aV (za rfl (za rfl (Xr rfl eZ (za eZ ?_)))))))
 rcases zC H with⟨h4,H⟩|⟨h4,H⟩
 ·refine gDo eZ (dT h4) (za rfl (gDo rfl (dT h4) (za rfl (gDo rfl (dT h4) (zay rfl eZ (zB rfl (dT h4) eZ (za eZ (xQ (AW.ret ?_)))))))))
  cases H
  exact eE rfl rfl
 ·refine zb eZ (dF h4) rfl (zb rfl (dF h4) rfl (zb rfl (dF h4) rfl (zJ rfl (dF h4) eC (za eZ (xQ (AW.ret ?_))))))
  cases H
  exact eE rfl rfl
theorem jT{a1:ze}{r:Bool}(H:qJ a1=some r):Fn Tryz.prog 133 (lent [(.agg (zd a1))]) true [(.bool r)]:=by
 refine zEU (fle rfl) ?_
 rw[zx]
 refine AW.weaken (zg [] (kv 0 (.agg [(dI a1.Lo),(dI a1.Hi)]) rfl rfl SL.nil) BL.nil BK.nil) ?_
 unfold qJ at H
 unfold zzq
 refine aV (jh (n:=64) (m:=2) (cs:=[(dI a1.Lo),(dI a1.Hi)]) rfl eZ rfl rfl nZ (za eC (xQ (aV (zf (m:=0) rfl rfl (zl (q:=0) (c:=(dI a1.Lo)) eZ bZ rfl rfl (Xr eZ eC (za eZ ?_))))))))
 rcases zC H with⟨h2,H⟩|⟨h2,H⟩
 ·refine gDo eZ (dT h2) (zf (m:=0) rfl rfl (gDo rfl (dT h2) (zl (q:=0) (c:=(dI a1.Lo)) eZ bZ rfl rfl (gDo rfl (dT h2) (zf (m:=1) rfl rfl (gDo rfl (dT h2) (zl (q:=1) (c:=(dI a1.Hi)) eZ bZ rfl rfl (gDo rfl (dT h2) (qh rfl eZ (zB rfl (dT h2) eZ (za eZ ?_)))))))))))
  rcases zC H with⟨h3,H⟩|⟨h3,H⟩
  ·refine gDo eZ (dT h3) (zf (m:=1) rfl rfl (gDo rfl (dT h3) (zl (q:=1) (c:=(dI a1.Hi)) eZ bZ rfl rfl (gDo rfl (dT h3) (zay eZ eC (zB rfl (dT h3) eZ (za eZ (xQ (AW.weaken (zg [64] (kr 2 rfl rfl SL.nil) (blR rfl) BK.nil) (AW.ret ?_))))))))))
   cases H
   exact eE rfl rfl
  ·refine zb eZ (dF h3) rfl (zb rfl (dF h3) rfl (zb rfl (dF h3) rfl (zJ rfl (dF h3) eC (za eZ (xQ (AW.weaken (zg [64] (kr 2 rfl rfl SL.nil) (blR rfl) BK.nil) (AW.ret ?_)))))))
   cases H
   exact eE rfl rfl
 ·refine zb eZ (dF h2) rfl (zb rfl (dF h2) rfl (zb rfl (dF h2) rfl (zb rfl (dF h2) rfl (zb rfl (dF h2) rfl (zJ rfl (dF h2) eC (za eZ (zb eZ rfl rfl (zb rfl rfl rfl (zb rfl rfl rfl (zJ rfl rfl eC (za eZ (xQ (AW.weaken (zg [64] (kr 2 rfl rfl SL.nil) (blR rfl) BK.nil) (AW.ret ?_))))))))))))))
  cases H
  exact eE rfl rfl
theorem xD{a1:(List ze)}{r:Bool}(H:yk a1=some r):Fn Tryz.prog 196 (lent [(.sl 2 (List.map zd a1))]) true [(.bool r)]:=by
 refine zEt (fle rfl) ?_
 rw[zx]
 refine AW.weaken (zg [] (kv 0 (.one (.d (.sl 2 (List.map zd a1)))) rfl rfl SL.nil) BL.nil BK.nil) ?_
 unfold yk at H
 unfold zBr
 refine aV (za eC (xQ (aS (aV (za rfl (zX eZ (n:=a1.length) lm (KN eZ eC (xQ ?_))))))))
 rcases zC H with⟨h2,H⟩|⟨h2,H⟩
 ·refine zi eZ (dT h2) (aV (za eC (xQ (AW.ret (TQ.qr ?_)))))
  cases H
  exact eE rfl rfl
 ·refine zh eZ (dF h2) (AW.skip (TQ.qn (zF (fun t3:Unit=>kW t3=some r) (fun t3=>mk [] [] noG) ?_ ?_)))
  ·intro t3 H
   unfold kW at H
   refine aV (za eC (xQ (AW.ret ?_)))
   cases H
   exact eE rfl rfl
  ·refine aV (za eC (xQ (AW.block (AW.iter (fun s5:Int=>mk [(0,(.one (.d (.sl 2 (List.map zd a1))))),(3,(oI s5))] [] noG) H (zg [] (sR rfl rfl) BL.nil BK.nil) ?_))))
   intro kb6 s5 H
   unfold YR at H
   refine aS (aV (za rfl (za rfl (zX eZ (n:=a1.length) lm (qh rfl eZ (xQ ?_))))))
   rcases zC H with⟨h7,H⟩|⟨h7,H⟩
   ·refine zi eZ (dT h7) (AW.skip (TQ.qn (aS (AW.block (zF (fun t8:Bool=>(y7 kb6 s5) t8=some r) (fun t8=>mk [(0,(.one (.d (.sl 2 (List.map zd a1))))),(3,(oI s5)),(36,(oB t8))] [] noG) ?_ ?_)))))
    ·intro t8 H
     unfold y7 at H
     rcases zC H with⟨h10,H⟩|⟨h10,H⟩
     ·refine zi rfl h10 (aV (za eC (xQ (AW.ret (BQ.qr (TQ.qr (TQ.qr (BQ.qr (TQ.qr ?_)))))))))
      cases H
      exact eE rfl rfl
     ·exact zh rfl (nt h10) (AW.skip (BQ.qn (TQ.qn (aR (za rfl (qj eZ eC (za eZ (zm (TQ.qn ⟨(IntKind.wrap .i64 (s5+1)),H,(zg [] (sR rfl rfl) BL.nil BK.nil)⟩)))))))))
    ·refine AW.regd (za rfl (za rfl ?_))
     obtain⟨v11,h12,H⟩:=zk H
     refine qy rfl eZ h12 (qf (es:=[(dI v11.Lo),(dI v11.Hi)]) eZ rfl ?_)
     obtain⟨v13,h14,H⟩:=zk H
     refine zD (u:=(oB v13)) eC Cl.fn (jT h14) (Ec eZ En) (Vc (VD.agg rfl) Vn) rfl (qG eZ (za eZ ?_))
     rcases zC H with⟨h15,H⟩|⟨h15,H⟩
     ·refine gDo eZ (cN h15) (za rfl (gDo rfl (cN h15) (KN eZ eC (gDo rfl (cN h15) (za eZ ?_)))))
      rcases zC H with⟨h16,H⟩|⟨h16,H⟩
      ·refine gDo eZ (dT h16) (za rfl (gDo rfl (dT h16) (za rfl (gDo rfl (dT h16) ?_))))
       obtain⟨v17,h18,H⟩:=zk H
       refine qy rfl eZ h18 (gDo rfl (dT h16) (z6 (m:=0) eZ rfl (gDo rfl (dT h16) (zY (e:=(.int .i64 v17.Lo)) eZ rfl (gDo rfl (dT h16) (za rfl (gDo rfl (dT h16) (za rfl (gDo rfl (dT h16) (zac eZ eC (gDo rfl (dT h16) ?_)))))))))))
       obtain⟨v19,h20,H⟩:=zk H
       exact qy rfl eZ h20 (gDo rfl (dT h16) (z6 (m:=1) eZ rfl (gDo rfl (dT h16) (zY (e:=(.int .i64 v19.Hi)) eZ rfl (gDo rfl (dT h16) (qh rfl eZ (gDo rfl (cN h15) (zB rfl (dT h16) eZ (zJ rfl (cN h15) eZ (zm (TQ.qn ⟨(decide (v17.Lo < v19.Hi)),H,(zg [] (sR rfl rfl) BL.nil BK.nil)⟩)))))))))))
      ·exact zb eZ (dF h16) rfl (zb rfl (dF h16) rfl (zb rfl (dF h16) rfl (zb rfl (dF h16) rfl (zb rfl (dF h16) rfl (zb rfl (dF h16) rfl (zb rfl (dF h16) rfl (zb rfl (dF h16) rfl (zb rfl (dF h16) rfl (zb rfl (dF h16) rfl (zb rfl (dF h16) rfl (zb rfl (dF h16) rfl (gDo rfl (cN h15) (zJ rfl (dF h16) eC (zJ rfl (cN h15) eZ (zm (TQ.qn ⟨false,H,(zg [] (sR rfl rfl) BL.nil BK.nil)⟩))))))))))))))))
     ·exact zb eZ (cN (nt h15)) rfl (zb rfl (cN (nt h15)) rfl (zb rfl (cN (nt h15)) rfl (zG eZ rfl (zG rfl rfl (zG rfl rfl (zG rfl rfl (zG rfl rfl (zG rfl rfl (zG rfl rfl (zG rfl rfl (zG rfl rfl (zG rfl rfl (zG rfl rfl (zG rfl rfl (zb rfl (cN (nt h15)) rfl (zB rfl (cN (nt h15)) eC (zm (TQ.qn ⟨true,H,(zg [] (sR rfl rfl) BL.nil BK.nil)⟩))))))))))))))))))
   ·exact zh eZ (dF h7) (AW.exit (TQ.qe (TQ.qe (BQ.qe (TQ.qn ⟨(),H,(zg [] SL.nil BL.nil BK.nil)⟩)))))
theorem zbF{a1:Int}{r:Bool}(H:Q9 a1=some r):Fn Tryz.prog 292 (lent [(.int .i64 a1)]) true [(.bool r)]:=by
 refine zE0 (fle rfl) ?_
 rw[zx]
 refine AW.weaken (zg [] (kv 0 (oI a1) rfl rfl SL.nil) BL.nil BK.nil) ?_
 unfold Q9 at H
 unfold zxK
 refine aV (za eC (xQ (aV (za rfl ?_))))
 obtain⟨v2,h3,H⟩:=zk H
 refine zD (u:=(oB v2)) eC Cl.fn (JT h3) (Ec eZ (Ec eC (Ec eC En))) (Vc Vp (Vc Vp (Vc Vp Vn))) rfl (za eZ (xQ (AW.ret ?_)))
 cases H
 exact eE rfl rfl
theorem ze8{a1:Int}{r:Bool}(H:JO a1=some r):Fn Tryz.prog 169 (lent [(.int .i64 a1)]) true [(.bool r)]:=by
 refine zEL (fle rfl) ?_
 rw[zx]
 refine AW.weaken (zg [] (kv 0 (oI a1) rfl rfl SL.nil) BL.nil BK.nil) ?_
 unfold JO at H
 unfold zxC
 refine aV (za eC (xQ (aV (za rfl ?_))))
 obtain⟨v2,h3,H⟩:=zk H
 refine zD (u:=(oB v2)) eC Cl.fn (JT h3) (Ec eZ (Ec eC (Ec eC En))) (Vc Vp (Vc Vp (Vc Vp Vn))) rfl (za eZ (xQ (AW.ret ?_)))
 cases H
 exact eE rfl rfl
theorem zaS{a1:(List zu)}{r:Bool}(H:Qj a1=some r):Fn Tryz.prog 218 (lent [(.sl 2 (List.map zj a1))]) true [(.bool r)]:=by
 refine zEy (fle rfl) ?_
 rw[zx]
 refine AW.weaken (zg [] (kv 0 (.one (.d (.sl 2 (List.map zj a1)))) rfl rfl SL.nil) BL.nil BK.nil) ?_
 unfold Qj at H
 unfold zyE
 refine aV (za eC (xQ (aS (aV (za rfl (zX eZ (n:=a1.length) lm (KN eZ eC (xQ ?_))))))))
 rcases zC H with⟨h2,H⟩|⟨h2,H⟩
 ·refine zi eZ (dT h2) (aV (za eC (xQ (AW.ret (TQ.qr ?_)))))
  cases H
  exact eE rfl rfl
 ·refine zh eZ (dF h2) (AW.skip (TQ.qn (zF (fun t3:Unit=>Xz t3=some r) (fun t3=>mk [] [] noG) ?_ ?_)))
  ·intro t3 H
   unfold Xz at H
   refine aV (za eC (xQ (AW.ret ?_)))
   cases H
   exact eE rfl rfl
  ·refine aV (za eC (xQ (AW.block (AW.iter (fun s5:Int=>mk [(0,(.one (.d (.sl 2 (List.map zj a1))))),(3,(oI s5))] [] noG) H (zg [] (sR rfl rfl) BL.nil BK.nil) ?_))))
   intro kb6 s5 H
   unfold xj at H
   refine aS (aV (za rfl (za rfl (zX eZ (n:=a1.length) lm (qh rfl eZ (xQ ?_))))))
   rcases zC H with⟨h7,H⟩|⟨h7,H⟩
   ·refine zi eZ (dT h7) (AW.skip (TQ.qn (aS (AW.block (zF (fun t8:Bool=>(yK kb6 s5) t8=some r) (fun t8=>mk [(0,(.one (.d (.sl 2 (List.map zj a1))))),(3,(oI s5)),(46,(oB t8))] [] noG) ?_ ?_)))))
    ·intro t8 H
     unfold yK at H
     rcases zC H with⟨h10,H⟩|⟨h10,H⟩
     ·refine zi rfl h10 (aV (za eC (xQ (AW.ret (BQ.qr (TQ.qr (TQ.qr (BQ.qr (TQ.qr ?_)))))))))
      cases H
      exact eE rfl rfl
     ·exact zh rfl (nt h10) (AW.skip (BQ.qn (TQ.qn (aR (za rfl (qj eZ eC (za eZ (zm (TQ.qn ⟨(IntKind.wrap .i64 (s5+1)),H,(zg [] (sR rfl rfl) BL.nil BK.nil)⟩)))))))))
    ·refine AW.regd (za rfl (za rfl ?_))
     obtain⟨v11,h12,H⟩:=zk H
     refine qy rfl eZ h12 (z6 (m:=0) eZ rfl (zY (e:=(.int .i64 v11.Key)) eZ rfl ?_))
     obtain⟨v13,h14,H⟩:=zk H
     refine zD (u:=(oB v13)) eC Cl.fn (zbF h14) (Ec eZ En) (Vc Vp Vn) rfl (qG eZ (za eZ ?_))
     rcases zC H with⟨h15,H⟩|⟨h15,H⟩
     ·refine gDo eZ (cN h15) (za rfl (gDo rfl (cN h15) (za rfl (gDo rfl (cN h15) ?_))))
      obtain⟨v16,h17,H⟩:=zk H
      refine qy rfl eZ h17 (gDo rfl (cN h15) (z6 (m:=1) eZ rfl (gDo rfl (cN h15) (zY (e:=(.int .i64 v16.Value)) eZ rfl (gDo rfl (cN h15) ?_)))))
      obtain⟨v18,h19,H⟩:=zk H
      refine zD (u:=(oB v18)) eC Cl.fn (ze8 h19) (Ec eZ En) (Vc Vp Vn) rfl (gDo rfl (cN h15) (qG eZ (zJ rfl (cN h15) eZ (za eZ ?_))))
      rcases zC H with⟨h20,H⟩|⟨h20,H⟩
      ·refine gDo eZ (cN h20) (za rfl (gDo rfl (cN h20) (KN eZ eC (gDo rfl (cN h20) (za eZ ?_)))))
       rcases zC H with⟨h21,H⟩|⟨h21,H⟩
       ·refine gDo eZ (dT h21) (za rfl (gDo rfl (dT h21) (za rfl (gDo rfl (dT h21) (zac eZ eC (gDo rfl (dT h21) ?_))))))
        obtain⟨v22,h23,H⟩:=zk H
        refine qy rfl eZ h23 (gDo rfl (dT h21) (z6 (m:=0) eZ rfl (gDo rfl (dT h21) (zY (e:=(.int .i64 v22.Key)) eZ rfl (gDo rfl (dT h21) (za rfl (gDo rfl (dT h21) (za rfl (gDo rfl (dT h21) ?_)))))))))
        obtain⟨v24,h25,H⟩:=zk H
        exact qy rfl eZ h25 (gDo rfl (dT h21) (z6 (m:=0) eZ rfl (gDo rfl (dT h21) (zY (e:=(.int .i64 v24.Key)) eZ rfl (gDo rfl (dT h21) (Xr rfl eZ (gDo rfl (cN h20) (zB rfl (dT h21) eZ (zJ rfl (cN h20) eZ (zm (TQ.qn ⟨(decide (v24.Key≤v22.Key)),H,(zg [] (sR rfl rfl) BL.nil BK.nil)⟩)))))))))))
       ·exact zb eZ (dF h21) rfl (zb rfl (dF h21) rfl (zb rfl (dF h21) rfl (zb rfl (dF h21) rfl (zb rfl (dF h21) rfl (zb rfl (dF h21) rfl (zb rfl (dF h21) rfl (zb rfl (dF h21) rfl (zb rfl (dF h21) rfl (zb rfl (dF h21) rfl (zb rfl (dF h21) rfl (zb rfl (dF h21) rfl (gDo rfl (cN h20) (zJ rfl (dF h21) eC (zJ rfl (cN h20) eZ (zm (TQ.qn ⟨false,H,(zg [] (sR rfl rfl) BL.nil BK.nil)⟩))))))))))))))))
      ·exact zb eZ (cN (nt h20)) rfl (zb rfl (cN (nt h20)) rfl (zb rfl (cN (nt h20)) rfl (zG eZ rfl (zG rfl rfl (zG rfl rfl (zG rfl rfl (zG rfl rfl (zG rfl rfl (zG rfl rfl (zG rfl rfl (zG rfl rfl (zG rfl rfl (zG rfl rfl (zG rfl rfl (zb rfl (cN (nt h20)) rfl (zB rfl (cN (nt h20)) eC (zm (TQ.qn ⟨true,H,(zg [] (sR rfl rfl) BL.nil BK.nil)⟩))))))))))))))))))
     ·exact zb eZ (cN (nt h15)) rfl (zb rfl (cN (nt h15)) rfl (zb rfl (cN (nt h15)) rfl (zb rfl (cN (nt h15)) rfl (zb rfl (cN (nt h15)) rfl (zb rfl (cN (nt h15)) rfl (zb rfl (cN (nt h15)) rfl (zB rfl (cN (nt h15)) eC (za eZ (zb eZ rfl rfl (zb rfl rfl rfl (zb rfl rfl rfl (zG eZ rfl (zG rfl rfl (zG rfl rfl (zG rfl rfl (zG rfl rfl (zG rfl rfl (zG rfl rfl (zG rfl rfl (zG rfl rfl (zG rfl rfl (zG rfl rfl (zG rfl rfl (zb rfl rfl rfl (zB rfl rfl eC (zm (TQ.qn ⟨true,H,(zg [] (sR rfl rfl) BL.nil BK.nil)⟩)))))))))))))))))))))))))))
   ·exact zh eZ (dF h7) (AW.exit (TQ.qe (TQ.qe (BQ.qe (TQ.qn ⟨(),H,(zg [] SL.nil BL.nil BK.nil)⟩)))))
theorem zal{a1:Int}{r:Bool}(H:QE a1=some r):Fn Tryz.prog 116 (lent [(.int .i64 a1)]) true [(.bool r)]:=by
 refine zEh (fle rfl) ?_
 rw[zx]
 refine AW.weaken (zg [] (kv 0 (oI a1) rfl rfl SL.nil) BL.nil BK.nil) ?_
 unfold QE at H
 unfold zDy
 refine aV (za eC (xQ (aV (za rfl ?_))))
 obtain⟨v2,h3,H⟩:=zk H
 refine zD (u:=(oB v2)) eC Cl.fn (JT h3) (Ec eZ (Ec eC (Ec eC En))) (Vc Vp (Vc Vp (Vc Vp Vn))) rfl (za eZ (xQ (AW.ret ?_)))
 cases H
 exact eE rfl rfl
theorem QY{a1:zK}{r:ze}(H:jo a1=some r):Fn Tryz.prog 108 (lent [(.agg (zp a1))]) true [(.agg (zd r))]:=by
 refine zEz (fle rfl) ?_
 rw[zx]
 refine AW.weaken (zg [] (kv 0 (.agg (qo a1)) rfl rfl SL.nil) BL.nil BK.nil) ?_
 unfold jo at H
 unfold zC8
 refine aV (jh (n:=64) (m:=4) (cs:=(qo a1)) rfl eZ rfl rfl nZ (Zl (n:=128) (m:=2) rfl rfl (nR rfl) (xQ (aV (zf (m:=1) rfl rfl (zl (q:=1) (c:=(dI a1.Lo)) eZ (bR rfl) rfl rfl (zf (m:=2) rfl rfl (zl (q:=2) (c:=(dI a1.Hi)) eZ (bR rfl) rfl rfl (Xa (cs:=[(dI a1.Lo),(dI a1.Hi)]) (jO rfl (jO eZ kF)) rfl (zP (es:=[(dI a1.Lo),(dI a1.Hi)]) rfl eZ rfl rfl bZ rfl (xQ (AW.ret ?_))))))))))))
 cases H
 exact qI (RL.cons (qS (es:=[(dI a1.Lo),(dI a1.Hi)]) rfl bZ rfl) (VO.agg (ds:=[(.int .i64 a1.Lo),(.int .i64 a1.Hi)]) rfl rfl) RL.nil) List.nodup_nil
theorem zfh{a1:Int}{r:Bool}(H:JG a1=some r):Fn Tryz.prog 293 (lent [(.int .i64 a1)]) true [(.bool r)]:=by
 refine zEf (fle rfl) ?_
 rw[zx]
 refine AW.weaken (zg [] (kv 0 (oI a1) rfl rfl SL.nil) BL.nil BK.nil) ?_
 unfold JG at H
 unfold zyH
 refine aV (za eC (xQ (aV (za rfl (Kl eZ eC (za eZ ?_))))))
 rcases zC H with⟨h2,H⟩|⟨h2,H⟩
 ·refine zb eZ (dT h2) rfl (zb rfl (dT h2) rfl (zB rfl (dT h2) eC (za eZ (xQ (AW.ret ?_)))))
  cases H
  exact eE rfl rfl
 ·refine gDo eZ (dF h2) (za rfl (gDo rfl (dF h2) (Kl eZ eC (zJ rfl (dF h2) eZ (za eZ (xQ (AW.ret ?_)))))))
  cases H
  exact eE rfl rfl
theorem zgp{a1:Int}{a2:Int}{r:Int}(H:kg a1 a2=some r):Fn Tryz.prog 159 (lent [(.int .i64 a1),(.int .i64 a2)]) true [(.int .i64 r)]:=by
 refine zE5 (fle rfl) ?_
 rw[zx]
 refine AW.weaken (zg [] (kv 0 (oI a1) rfl rfl (kv 1 (oI a2) rfl rfl SL.nil)) BL.nil BK.nil) ?_
 unfold kg at H
 unfold zA3
 refine aV (za eC (xQ (aS (aV (za rfl (za rfl (KN rfl eZ (xQ ?_))))))))
 rcases zC H with⟨h3,H⟩|⟨h3,H⟩
 ·refine zi eZ (dT h3) (aV (za rfl (za eZ (xQ (AW.ret (TQ.qr ?_))))))
  cases H
  exact eE rfl rfl
 ·refine zh eZ (dF h3) (AW.skip (TQ.qn (aV (za rfl (za eZ (xQ (AW.ret ?_)))))))
  cases H
  exact eE rfl rfl
theorem zgo{a1:Int}{a2:Int}{r:Int}(H:ke a1 a2=some r):Fn Tryz.prog 214 (lent [(.int .i64 a1),(.int .i64 a2)]) true [(.int .i64 r)]:=by
 refine zEZ (fle rfl) ?_
 rw[zx]
 refine AW.weaken (zg [] (kv 0 (oI a1) rfl rfl (kv 1 (oI a2) rfl rfl SL.nil)) BL.nil BK.nil) ?_
 unfold ke at H
 unfold zAp
 refine aV (za eC (xQ (aS (aV (za rfl (za rfl (qh rfl eZ (xQ ?_))))))))
 rcases zC H with⟨h3,H⟩|⟨h3,H⟩
 ·refine zi eZ (dT h3) (aV (za rfl (za eZ (xQ (AW.ret (TQ.qr ?_))))))
  cases H
  exact eE rfl rfl
 ·refine zh eZ (dF h3) (AW.skip (TQ.qn (aV (za rfl (za eZ (xQ (AW.ret ?_)))))))
  cases H
  exact eE rfl rfl
theorem KY{a1:ze}{a2:ze}{r:(ze×Bool)}(H:Zd a1 a2=some r):Fn Tryz.prog 107 (lent [(.agg (zd a1)),(.agg (zd a2))]) true [(.agg (zd r.1)),(.bool r.2)]:=by
 refine zEI (fle rfl) ?_
 rw[zx]
 refine AW.weaken (zg [] (kv 0 (.agg [(dI a1.Lo),(dI a1.Hi)]) rfl rfl (kv 1 (.agg [(dI a2.Lo),(dI a2.Hi)]) rfl rfl SL.nil)) BL.nil BK.nil) ?_
 unfold Zd at H
 unfold zDQ
 refine aV (jh (n:=128) (m:=2) (cs:=[(dI a1.Lo),(dI a1.Hi)]) rfl eZ rfl rfl nZ (jh (n:=192) (m:=2) (cs:=[(dI a2.Lo),(dI a2.Hi)]) rfl rfl rfl rfl (nR rfl) (Zl (n:=256) (m:=2) rfl rfl (nR rfl) (za eC (xQ (aS (AW.regd (zf (m:=0) rfl rfl (zl (q:=0) (c:=(dI a1.Lo)) eZ (hB rfl (bR rfl)) rfl rfl (zf (m:=0) rfl rfl (zl (q:=0) (c:=(dI a2.Lo)) eZ (hB rfl (bR rfl)) rfl rfl ?_)))))))))))
 obtain⟨v3,h4,H⟩:=zk H
 refine zD (u:=(oI v3)) eC Cl.fn (zgp h4) (Ec rfl (Ec eZ En)) (Vc Vp (Vc Vp Vn)) rfl (zf (m:=1) rfl rfl (zl (q:=1) (c:=(dI a1.Hi)) eZ (hB rfl (bR rfl)) rfl rfl (zf (m:=1) rfl rfl (zl (q:=1) (c:=(dI a2.Hi)) eZ (hB rfl (bR rfl)) rfl rfl ?_))))
 obtain⟨v5,h6,H⟩:=zk H
 refine zD (u:=(oI v5)) eC Cl.fn (zgo h6) (Ec rfl (Ec eZ En)) (Vc Vp (Vc Vp Vn)) rfl (Xa (cs:=[(dI v3),(dI v5)]) (jO rfl (jO eZ kF)) rfl (Zl (n:=384) (m:=2) rfl rfl (hN (nR rfl)) (zP (es:=[(dI v3),(dI v5)]) eZ rfl rfl rfl bZ rfl (xQ (AW.weaken (zg [] (kr 6 rfl rfl (kr 4 rfl rfl (kr 3 rfl rfl (kr 2 rfl rfl SL.nil)))) (blR rfl) (BK.cons (n:=384) rfl bZ rfl rfl (BK.cons (n:=256) rfl (bR rfl) rfl rfl (BK.cons (n:=192) rfl (bR rfl) rfl rfl (BK.cons (n:=128) rfl (bR rfl) rfl rfl BK.nil))))) (aS (zF (fun t7:Bool=>(yG v3 v5) t7=some r) (fun t7=>mk [(4,(.one (.ptr (.nm 256 0 0)))),(6,(.one (.ptr (.nm 384 0 0)))),(30,(oB t7))] [(256,(.vars 2 [(dI 0),(dI 0)])),(384,(.vars 2 [(dI v3),(dI v5)]))] noG) ?_ ?_)))))))
 ·intro t7 H
  unfold yG at H
  rcases zC H with⟨h9,H⟩|⟨h9,H⟩
  ·refine zi rfl h9 (aV (Xa (cs:=[(dI 0),(dI 0)]) kF rfl (zP (es:=[(dI 0),(dI 0)]) rfl eZ rfl rfl bZ rfl (za eC (xQ (AW.ret (TQ.qr ?_)))))))
   cases H
   exact qI (RL.cons (qS (es:=[(dI 0),(dI 0)]) rfl bZ rfl) (VO.agg (ds:=[(.int .i64 0),(.int .i64 0)]) rfl rfl) (RL.cons (RV.tmp eZ) (VO.flat rfl) RL.nil)) List.nodup_nil
  ·refine zh rfl (nt h9) (AW.skip (TQ.qn (aV (zN (es:=[(dI v3),(dI v5)]) rfl (bR rfl) rfl (zP (es:=[(dI v3),(dI v5)]) rfl eZ rfl rfl bZ rfl (za eC (xQ (AW.ret ?_))))))))
   cases H
   exact qI (RL.cons (qS (es:=[(dI v3),(dI v5)]) rfl bZ rfl) (VO.agg (ds:=[(.int .i64 v3),(.int .i64 v5)]) rfl rfl) (RL.cons (RV.tmp eZ) (VO.flat rfl) RL.nil)) List.nodup_nil
 ·refine aR (zN (es:=[(dI a1.Lo),(dI a1.Hi)]) rfl (bR rfl) rfl ?_)
  obtain⟨v10,h11,H⟩:=zk H
  refine zD (u:=(oB v10)) eC Cl.fn (jT h11) (Ec eZ En) (Vc (VD.agg rfl) Vn) rfl (qG eZ (za eZ ?_))
  rcases zC H with⟨h12,H⟩|⟨h12,H⟩
  ·refine gDo eZ (cN h12) (zN (es:=[(dI a2.Lo),(dI a2.Hi)]) rfl (bR rfl) rfl (gDo rfl (cN h12) ?_))
   obtain⟨v13,h14,H⟩:=zk H
   refine zD (u:=(oB v13)) eC Cl.fn (jT h14) (Ec eZ En) (Vc (VD.agg rfl) Vn) rfl (gDo rfl (cN h12) (qG eZ (zJ rfl (cN h12) eZ (za eZ ?_))))
   rcases zC H with⟨h15,H⟩|⟨h15,H⟩
   ·refine gDo eZ (cN h15) (zN (es:=[(dI v3),(dI v5)]) rfl bZ rfl (gDo rfl (cN h15) ?_))
    obtain⟨v16,h17,H⟩:=zk H
    exact zD (u:=(oB v16)) eC Cl.fn (jT h17) (Ec eZ En) (Vc (VD.agg rfl) Vn) rfl (gDo rfl (cN h15) (qG eZ (zJ rfl (cN h15) eZ (zm (TQ.qn ⟨(!v16),H,(zg [192,128] (sR rfl rfl) (blR rfl) (bkR rfl rfl rfl))⟩)))))
   ·exact zb eZ (cN (nt h15)) rfl (zb rfl (cN (nt h15)) rfl (zb rfl (cN (nt h15)) rfl (zB rfl (cN (nt h15)) eC (zm (TQ.qn ⟨true,H,(zg [192,128] (sR rfl rfl) (blR rfl) (bkR rfl rfl rfl))⟩)))))
  ·exact zb eZ (cN (nt h12)) rfl (zb rfl (cN (nt h12)) rfl (zb rfl (cN (nt h12)) rfl (zB rfl (cN (nt h12)) eC (za eZ (zb eZ rfl rfl (zb rfl rfl rfl (zb rfl rfl rfl (zB rfl rfl eC (zm (TQ.qn ⟨true,H,(zg [192,128] (sR rfl rfl) (blR rfl) (bkR rfl rfl rfl))⟩))))))))))
theorem zd7{a1:zK}{a2:zK}{r:Bool}(H:QR a1 a2=some r):Fn Tryz.prog 294 (lent [(.agg (zp a1)),(.agg (zp a2))]) true [(.bool r)]:=by
 refine f294 (fle rfl) ?_
 rw[zx]
 refine AW.weaken (zg [] (kv 0 (.agg (qo a1)) rfl rfl (kv 1 (.agg (qo a2)) rfl rfl SL.nil)) BL.nil BK.nil) ?_
 unfold QR at H
 unfold zz5
 refine aV (jh (n:=128) (m:=4) (cs:=(qo a1)) rfl eZ rfl rfl nZ (jh (n:=192) (m:=4) (cs:=(qo a2)) rfl rfl rfl rfl (nR rfl) (za eC (xQ (aS (AW.regd (zN (es:=(qo a1)) rfl (hB rfl (bR rfl)) rfl ?_)))))))
 obtain⟨v3,h4,H⟩:=zk H
 refine zD (u:=(.agg [(dI v3.Lo),(dI v3.Hi)])) eC Cl.fn (QY h4) (Ec eZ En) (Vc (VD.agg rfl) Vn) rfl (zN (es:=(qo a2)) rfl (hB rfl bZ) rfl ?_)
 obtain⟨v5,h6,H⟩:=zk H
 refine zD (u:=(.agg [(dI v5.Lo),(dI v5.Hi)])) eC Cl.fn (QY h6) (Ec eZ En) (Vc (VD.agg rfl) Vn) rfl ?_
 obtain⟨v7,h8,H⟩:=zk H
 refine zD (u:=(.tup [(.agg [(dI v7.1.Lo),(dI v7.1.Hi)]),(oB v7.2)])) eC Cl.fn (KY h8) (Ec rfl (Ec eZ En)) (Vc (VD.agg rfl) (Vc (VD.agg rfl) Vn)) rfl (za eZ (XO (v:=(.agg [(dI v7.1.Lo),(dI v7.1.Hi)])) eZ rfl (XO (v:=(oB v7.2)) rfl rfl (Zl (n:=320) (m:=2) rfl rfl (hN (nR rfl)) (zP (es:=[(dI v7.1.Lo),(dI v7.1.Hi)]) eZ rfl rfl rfl bZ rfl (za rfl (xQ (aV (za eZ (za eZ ?_))))))))))
 rcases zC H with⟨h9,H⟩|⟨h9,H⟩
 ·refine gDo eZ h9 (zf (m:=0) rfl rfl (gDo rfl h9 (zl (q:=0) (c:=(dI a1.Tx)) eZ (bR rfl) rfl rfl (gDo rfl h9 (zf (m:=0) rfl rfl (gDo rfl h9 (zl (q:=0) (c:=(dI a2.Tx)) eZ (bR rfl) rfl rfl (gDo rfl h9 (ZO rfl eZ (zB rfl h9 eZ (za eZ ?_)))))))))))
  rcases zC H with⟨h10,H⟩|⟨h10,H⟩
  ·refine gDo eZ (dT h10) (zf (m:=3) rfl rfl (gDo rfl (dT h10) (zl (q:=3) (c:=(dI a1.Mode)) eZ (bR rfl) rfl rfl (gDo rfl (dT h10) (Kl eZ eC (gDo rfl (dT h10) (za eZ ?_)))))))
   rcases zC H with⟨h11,H⟩|⟨h11,H⟩
   ·refine zb eZ (dT h11) rfl (zb rfl (dT h11) rfl (zb rfl (dT h11) rfl (gDo rfl (dT h10) (zB rfl (dT h11) eC (zB rfl (dT h10) eZ (za eZ (xQ (AW.weaken (zg [320,192,128] (kr 4 rfl rfl SL.nil) (blR rfl) BK.nil) (AW.ret ?_)))))))))
    cases H
    exact eE rfl rfl
   ·refine gDo eZ (dF h11) (zf (m:=3) rfl rfl (gDo rfl (dF h11) (zl (q:=3) (c:=(dI a2.Mode)) eZ (bR rfl) rfl rfl (gDo rfl (dF h11) (Kl eZ eC (gDo rfl (dT h10) (zJ rfl (dF h11) eZ (zB rfl (dT h10) eZ (za eZ (xQ (AW.weaken (zg [320,192,128] (kr 4 rfl rfl SL.nil) (blR rfl) BK.nil) (AW.ret ?_))))))))))))
    cases H
    exact eE rfl rfl
  ·refine zb eZ (dF h10) rfl (zb rfl (dF h10) rfl (zb rfl (dF h10) rfl (zb rfl (dF h10) rfl (zG eZ rfl (zG rfl rfl (zG rfl rfl (zb rfl (dF h10) rfl (zJ rfl (dF h10) eC (za eZ (xQ (AW.weaken (zg [320,192,128] (kr 4 rfl rfl SL.nil) (blR rfl) BK.nil) (AW.ret ?_))))))))))))
   cases H
   exact eE rfl rfl
 ·refine zb eZ (nt h9) rfl (zb rfl (nt h9) rfl (zb rfl (nt h9) rfl (zb rfl (nt h9) rfl (zb rfl (nt h9) rfl (zJ rfl (nt h9) eC (za eZ (zb eZ rfl rfl (zb rfl rfl rfl (zb rfl rfl rfl (zb rfl rfl rfl (zG eZ rfl (zG rfl rfl (zG rfl rfl (zb rfl rfl rfl (zJ rfl rfl eC (za eZ (xQ (AW.weaken (zg [320,192,128] (kr 4 rfl rfl SL.nil) (blR rfl) BK.nil) (AW.ret ?_)))))))))))))))))))
  cases H
  exact eE rfl rfl
theorem zfi{a1:(List zK)}{r:Bool}(H:JH a1=some r):Fn Tryz.prog 219 (lent [(.sl 4 (List.map zp a1))]) true [(.bool r)]:=by
 refine zEw (fle rfl) ?_
 rw[zx]
 refine AW.weaken (zg [] (kv 0 (.one (.d (.sl 4 (List.map zp a1)))) rfl rfl SL.nil) BL.nil BK.nil) ?_
 unfold JH at H
 unfold zBZ
 refine aV (za eC (xQ (aS (aV (za rfl (zX eZ (n:=a1.length) lm (KN eZ eC (xQ ?_))))))))
 rcases zC H with⟨h2,H⟩|⟨h2,H⟩
 ·refine zi eZ (dT h2) (aV (za eC (xQ (AW.ret (TQ.qr ?_)))))
  cases H
  exact eE rfl rfl
 ·refine zh eZ (dF h2) (AW.skip (TQ.qn (zF (fun t3:Unit=>XE t3=some r) (fun t3=>mk [] [] noG) ?_ ?_)))
  ·intro t3 H
   unfold XE at H
   refine aV (za eC (xQ (AW.ret ?_)))
   cases H
   exact eE rfl rfl
  ·refine aV (za eC (xQ (AW.block (AW.iter (fun s5:Int=>mk [(0,(.one (.d (.sl 4 (List.map zp a1))))),(3,(oI s5))] [] noG) H (zg [] (sR rfl rfl) BL.nil BK.nil) ?_))))
   intro kb6 s5 H
   unfold xi at H
   refine aS (aV (za rfl (za rfl (zX eZ (n:=a1.length) lm (qh rfl eZ (xQ ?_))))))
   rcases zC H with⟨h7,H⟩|⟨h7,H⟩
   ·refine zi eZ (dT h7) (AW.skip (TQ.qn (zF (fun t8:Unit=>(yN kb6 s5) t8=some r) (fun t8=>mk [(0,(.one (.d (.sl 4 (List.map zp a1))))),(3,(oI s5))] [] noG) ?_ ?_)))
    ·intro t8 H
     unfold yN at H
     exact aR (za rfl (qj eZ eC (za eZ (zm (TQ.qn ⟨(IntKind.wrap .i64 (s5+1)),H,(zg [] (sR rfl rfl) BL.nil BK.nil)⟩)))))
    ·refine AW.block (aS (zF (fun t10:Bool=>(Zk s5 a1 (yN kb6 s5)) t10=some r) (fun t10=>mk [(0,(.one (.d (.sl 4 (List.map zp a1))))),(3,(oI s5)),(38,(oB t10))] [] noG) ?_ ?_))
     ·intro t10 H
      unfold Zk at H
      rcases zC H with⟨h12,H⟩|⟨h12,H⟩
      ·refine zi rfl h12 (aV (za eC (xQ (AW.ret (TQ.qr (BQ.qr (TQ.qr (TQ.qr (BQ.qr (TQ.qr ?_))))))))))
       cases H
       exact eE rfl rfl
      ·refine zh rfl (nt h12) (AW.skip (TQ.qn (aV (za eC (xQ (AW.block (AW.iter (fun s13:Int=>mk [(0,(.one (.d (.sl 4 (List.map zp a1))))),(3,(oI s5)),(4,(oI s13))] [] noG) H (zg [] (sR rfl rfl) BL.nil BK.nil) ?_)))))))
       intro kb14 s13 H
       unfold Yf at H
       refine aS (aV (za rfl (za rfl (qh rfl eZ (xQ ?_)))))
       rcases zC H with⟨h15,H⟩|⟨h15,H⟩
       ·refine zi eZ (dT h15) (AW.skip (TQ.qn (aS (AW.block (aS (AW.regd (za rfl (za rfl ?_))))))))
        obtain⟨v16,h17,H⟩:=zk H
        refine qy rfl eZ h17 (qf (es:=(qo v16)) eZ rfl (za rfl (za rfl ?_)))
        obtain⟨v18,h19,H⟩:=zk H
        refine qy rfl eZ h19 (qf (es:=(qo v18)) eZ rfl ?_)
        obtain⟨v20,h21,H⟩:=zk H
        refine zD (u:=(oB v20)) eC Cl.fn (zd7 h21) (Ec rfl (Ec eZ En)) (Vc (VD.agg rfl) (Vc (VD.agg rfl) Vn)) rfl (xQ ?_)
        rcases zC H with⟨h22,H⟩|⟨h22,H⟩
        ·refine zi eZ h22 (aV (za eC (xQ (AW.weaken (zg [] (kr 2 rfl rfl SL.nil) BL.nil BK.nil) (AW.ret (BQ.qr (TQ.qr (TQ.qr (BQ.qr (BQ.qr (TQ.qr (TQ.qr (BQ.qr (TQ.qr ?_))))))))))))))
         cases H
         exact eE rfl rfl
        ·exact zh eZ (nt h22) (AW.skip (BQ.qn (TQ.qn (aR (za rfl (qj eZ eC (za eZ (zm (TQ.qn ⟨(IntKind.wrap .i64 (s13+1)),H,(zg [] (sR rfl rfl) BL.nil BK.nil)⟩)))))))))
       ·exact zh eZ (dF h15) (AW.exit (TQ.qe (TQ.qe (BQ.qe (BQ.qn (TQ.qn ⟨(),H,(zg [] (sR rfl rfl) BL.nil BK.nil)⟩))))))
     ·refine aR (za rfl (za rfl ?_))
      obtain⟨v23,h24,H⟩:=zk H
      refine qy rfl eZ h24 (z6 (m:=0) eZ rfl (zY (e:=(.int .i64 v23.Tx)) eZ rfl ?_))
      obtain⟨v25,h26,H⟩:=zk H
      refine zD (u:=(oB v25)) eC Cl.fn (zal h26) (Ec eZ En) (Vc Vp Vn) rfl (qG eZ (za eZ ?_))
      rcases zC H with⟨h27,H⟩|⟨h27,H⟩
      ·refine gDo eZ (cN h27) (za rfl (gDo rfl (cN h27) (za rfl (gDo rfl (cN h27) ?_))))
       obtain⟨v28,h29,H⟩:=zk H
       refine qy rfl eZ h29 (gDo rfl (cN h27) (qf (es:=(qo v28)) eZ rfl (gDo rfl (cN h27) ?_)))
       obtain⟨v30,h31,H⟩:=zk H
       refine zD (u:=(.agg [(dI v30.Lo),(dI v30.Hi)])) eC Cl.fn (QY h31) (Ec eZ En) (Vc (VD.agg rfl) Vn) rfl (gDo rfl (cN h27) ?_)
       obtain⟨v32,h33,H⟩:=zk H
       refine zD (u:=(oB v32)) eC Cl.fn (jT h33) (Ec eZ En) (Vc (VD.agg rfl) Vn) rfl (gDo rfl (cN h27) (qG eZ (zJ rfl (cN h27) eZ (za eZ ?_))))
       rcases zC H with⟨h34,H⟩|⟨h34,H⟩
       ·refine gDo eZ (cN h34) (za rfl (gDo rfl (cN h34) (za rfl (gDo rfl (cN h34) ?_))))
        obtain⟨v35,h36,H⟩:=zk H
        refine qy rfl eZ h36 (gDo rfl (cN h34) (z6 (m:=3) eZ rfl (gDo rfl (cN h34) (zY (e:=(.int .i64 v35.Mode)) eZ rfl (gDo rfl (cN h34) ?_)))))
        obtain⟨v37,h38,H⟩:=zk H
        exact zD (u:=(oB v37)) eC Cl.fn (zfh h38) (Ec eZ En) (Vc Vp Vn) rfl (gDo rfl (cN h34) (qG eZ (zJ rfl (cN h34) eZ (zm (TQ.qn ⟨(!v37),H,(zg [] (sR rfl rfl) BL.nil BK.nil)⟩)))))
       ·exact zb eZ (cN (nt h34)) rfl (zb rfl (cN (nt h34)) rfl (zb rfl (cN (nt h34)) rfl (zb rfl (cN (nt h34)) rfl (zb rfl (cN (nt h34)) rfl (zb rfl (cN (nt h34)) rfl (zb rfl (cN (nt h34)) rfl (zB rfl (cN (nt h34)) eC (zm (TQ.qn ⟨true,H,(zg [] (sR rfl rfl) BL.nil BK.nil)⟩)))))))))
      ·exact zb eZ (cN (nt h27)) rfl (zb rfl (cN (nt h27)) rfl (zb rfl (cN (nt h27)) rfl (zb rfl (cN (nt h27)) rfl (zb rfl (cN (nt h27)) rfl (zb rfl (cN (nt h27)) rfl (zb rfl (cN (nt h27)) rfl (zB rfl (cN (nt h27)) eC (za eZ (zb eZ rfl rfl (zb rfl rfl rfl (zb rfl rfl rfl (zb rfl rfl rfl (zb rfl rfl rfl (zb rfl rfl rfl (zb rfl rfl rfl (zB rfl rfl eC (zm (TQ.qn ⟨true,H,(zg [] (sR rfl rfl) BL.nil BK.nil)⟩))))))))))))))))))
   ·exact zh eZ (dF h7) (AW.exit (TQ.qe (TQ.qe (BQ.qe (TQ.qn ⟨(),H,(zg [] SL.nil BL.nil BK.nil)⟩)))))
theorem zbD{a1:(List Int)}{r:Bool}(H:Q4 a1=some r):Fn Tryz.prog 220 (lent [(.sl 1 (List.map zt a1))]) true [(.bool r)]:=by
 refine zEH (fle rfl) ?_
 rw[zx]
 refine AW.weaken (zg [] (kv 0 (.one (.d (.sl 1 (List.map zt a1)))) rfl rfl SL.nil) BL.nil BK.nil) ?_
 unfold Q4 at H
 unfold zBP
 refine aV (za eC (xQ (zF (fun t2:Unit=>Kc t2=some r) (fun t2=>mk [] [] noG) ?_ ?_)))
 ·intro t2 H
  unfold Kc at H
  refine aV (za eC (xQ (AW.ret ?_)))
  cases H
  exact eE rfl rfl
 ·refine aV (za eC (xQ (AW.block (AW.iter (fun s4:Int=>mk [(0,(.one (.d (.sl 1 (List.map zt a1))))),(3,(oI s4))] [] noG) H (zg [] (sR rfl rfl) BL.nil BK.nil) ?_))))
  intro kb5 s4 H
  unfold ks at H
  refine aS (aV (za rfl (za rfl (zX eZ (n:=a1.length) lm (qh rfl eZ (xQ ?_))))))
  rcases zC H with⟨h6,H⟩|⟨h6,H⟩
  ·refine zi eZ (dT h6) (AW.skip (TQ.qn (aS (AW.block (zF (fun t7:Bool=>(Z1 kb5 s4) t7=some r) (fun t7=>mk [(0,(.one (.d (.sl 1 (List.map zt a1))))),(3,(oI s4)),(31,(oB t7))] [] noG) ?_ ?_)))))
   ·intro t7 H
    unfold Z1 at H
    rcases zC H with⟨h9,H⟩|⟨h9,H⟩
    ·refine zi rfl h9 (aV (za eC (xQ (AW.ret (BQ.qr (TQ.qr (TQ.qr (BQ.qr (TQ.qr ?_)))))))))
     cases H
     exact eE rfl rfl
    ·exact zh rfl (nt h9) (AW.skip (BQ.qn (TQ.qn (aR (za rfl (qj eZ eC (za eZ (zm (TQ.qn ⟨(IntKind.wrap .i64 (s4+1)),H,(zg [] (sR rfl rfl) BL.nil BK.nil)⟩)))))))))
   ·refine AW.regd (za rfl (za rfl ?_))
    obtain⟨v10,h11,H⟩:=zk H
    refine qy rfl eZ h11 (zY (e:=(.int .i64 v10)) eZ rfl ?_)
    obtain⟨v12,h13,H⟩:=zk H
    refine zD (u:=(oB v12)) eC Cl.fn (zal h13) (Ec eZ En) (Vc Vp Vn) rfl (qG eZ (za eZ ?_))
    rcases zC H with⟨h14,H⟩|⟨h14,H⟩
    ·refine gDo eZ (cN h14) (za rfl (gDo rfl (cN h14) (KN eZ eC (gDo rfl (cN h14) (za eZ ?_)))))
     rcases zC H with⟨h15,H⟩|⟨h15,H⟩
     ·refine gDo eZ (dT h15) (za rfl (gDo rfl (dT h15) (za rfl (gDo rfl (dT h15) (zac eZ eC (gDo rfl (dT h15) ?_))))))
      obtain⟨v16,h17,H⟩:=zk H
      refine qy rfl eZ h17 (gDo rfl (dT h15) (zY (e:=(.int .i64 v16)) eZ rfl (gDo rfl (dT h15) (za rfl (gDo rfl (dT h15) (za rfl (gDo rfl (dT h15) ?_)))))))
      obtain⟨v18,h19,H⟩:=zk H
      exact qy rfl eZ h19 (gDo rfl (dT h15) (zY (e:=(.int .i64 v18)) eZ rfl (gDo rfl (dT h15) (Xr rfl eZ (gDo rfl (cN h14) (zB rfl (dT h15) eZ (zJ rfl (cN h14) eZ (zm (TQ.qn ⟨(decide (v18≤v16)),H,(zg [] (sR rfl rfl) BL.nil BK.nil)⟩)))))))))
     ·exact zb eZ (dF h15) rfl (zb rfl (dF h15) rfl (zb rfl (dF h15) rfl (zb rfl (dF h15) rfl (zb rfl (dF h15) rfl (zb rfl (dF h15) rfl (zb rfl (dF h15) rfl (zb rfl (dF h15) rfl (zb rfl (dF h15) rfl (zb rfl (dF h15) rfl (gDo rfl (cN h14) (zJ rfl (dF h15) eC (zJ rfl (cN h14) eZ (zm (TQ.qn ⟨false,H,(zg [] (sR rfl rfl) BL.nil BK.nil)⟩))))))))))))))
    ·exact zb eZ (cN (nt h14)) rfl (zb rfl (cN (nt h14)) rfl (zb rfl (cN (nt h14)) rfl (zG eZ rfl (zG rfl rfl (zG rfl rfl (zG rfl rfl (zG rfl rfl (zG rfl rfl (zG rfl rfl (zG rfl rfl (zG rfl rfl (zG rfl rfl (zb rfl (cN (nt h14)) rfl (zB rfl (cN (nt h14)) eC (zm (TQ.qn ⟨true,H,(zg [] (sR rfl rfl) BL.nil BK.nil)⟩))))))))))))))))
  ·exact zh eZ (dF h6) (AW.exit (TQ.qe (TQ.qe (BQ.qe (TQ.qn ⟨(),H,(zg [] SL.nil BL.nil BK.nil)⟩)))))
theorem Jd{a1:(List ze)}{a2:ze}{r:Bool}(H:jt a1 a2=some r):Fn Tryz.prog 82 (lent [(.sl 2 (List.map zd a1)),(.agg (zd a2))]) true [(.bool r)]:=by
 refine f82 (fle rfl) ?_
 rw[zx]
 refine AW.weaken (zg [] (kv 0 (.one (.d (.sl 2 (List.map zd a1)))) rfl rfl (kv 1 (.agg [(dI a2.Lo),(dI a2.Hi)]) rfl rfl SL.nil)) BL.nil BK.nil) ?_
 unfold jt at H
 unfold i82
 refine aV (jh (n:=192) (m:=2) (cs:=[(dI a2.Lo),(dI a2.Hi)]) rfl rfl rfl rfl nZ (za eC (xQ (aS (zF (fun t3:Bool=>(j0 a1 a2) t3=some r) (fun t3=>mk [(0,(.one (.d (.sl 2 (List.map zd a1))))),(3,(.one (.ptr (.nm 192 0 0)))),(14,(oB t3))] [(192,(.vars 2 [(dI a2.Lo),(dI a2.Hi)]))] noG) ?_ ?_)))))
 ·intro t3 H
  unfold j0 at H
  rcases zC H with⟨h5,H⟩|⟨h5,H⟩
  ·refine zi rfl h5 (aV (za eC (xQ (AW.ret (TQ.qr ?_)))))
   cases H
   exact eE rfl rfl
  ·refine zh rfl (nt h5) (AW.skip (TQ.qn (aV (zf (m:=0) rfl rfl (zl (q:=0) (c:=(dI a2.Lo)) eZ bZ rfl rfl (za eZ (xQ (zF (fun t6:Int=>(Qz a2) t6=some r) (fun t6=>mk [(3,(.one (.ptr (.nm 192 0 0)))),(5,(oI t6))] [(192,(.vars 2 [(dI a2.Lo),(dI a2.Hi)]))] noG) ?_ ?_))))))))
   ·intro t6 H
    unfold Qz at H
    refine aV (za rfl (zf (m:=1) rfl rfl (zl (q:=1) (c:=(dI a2.Hi)) eZ bZ rfl rfl (Xr rfl eZ (za eZ (xQ (AW.ret ?_)))))))
    cases H
    exact eE rfl rfl
   ·refine aV (za eC (xQ (AW.block (AW.iter (fun s8:(Int×Int)=>mk [(0,(.one (.d (.sl 2 (List.map zd a1))))),(3,(.one (.ptr (.nm 192 0 0)))),(5,(oI s8.1)),(6,(oI s8.2))] [(192,(.vars 2 [(dI a2.Lo),(dI a2.Hi)]))] noG) H (zg [] (sR rfl rfl) (blR rfl) (bkR rfl rfl rfl)) ?_))))
    intro kb9 s8 H
    unfold QI at H
    refine aS (aV (za rfl (za rfl (zX eZ (n:=a1.length) lm (qh rfl eZ (xQ ?_))))))
    rcases zC H with⟨h10,H⟩|⟨h10,H⟩
    ·refine zi eZ (dT h10) (AW.skip (TQ.qn (aS (AW.block (zF (fun t11:Bool=>(yV a1 s8 kb9) t11=some r) (fun t11=>mk [(0,(.one (.d (.sl 2 (List.map zd a1))))),(3,(.one (.ptr (.nm 192 0 0)))),(5,(oI s8.1)),(6,(oI s8.2)),(38,(oB t11))] [(192,(.vars 2 [(dI a2.Lo),(dI a2.Hi)]))] noG) ?_ ?_)))))
     ·intro t11 H
      unfold yV at H
      rcases zC H with⟨h13,H⟩|⟨h13,H⟩
      ·refine zi rfl h13 (aR (za eZ (za rfl ?_)))
       obtain⟨v14,h15,H⟩:=zk H
       exact qy rfl eZ h15 (z6 (m:=1) eZ rfl (zY (e:=(.int .i64 v14.Hi)) eZ rfl (za eZ (zm (BQ.qn (TQ.qn (aR (za rfl (qj eZ eC (za eZ (zm (TQ.qn ⟨(v14.Hi,(IntKind.wrap .i64 (s8.2+1))),H,(zg [] (sR rfl rfl) (blR rfl) (bkR rfl rfl rfl))⟩))))))))))))
      ·exact zh rfl (nt h13) (AW.skip (BQ.qn (TQ.qn (aR (za rfl (qj eZ eC (za eZ (zm (TQ.qn ⟨(s8.1,(IntKind.wrap .i64 (s8.2+1))),H,(zg [] (sR rfl rfl) (blR rfl) (bkR rfl rfl rfl))⟩)))))))))
     ·refine aR (za rfl (za rfl ?_))
      obtain⟨v16,h17,H⟩:=zk H
      refine qy rfl eZ h17 (z6 (m:=0) eZ rfl (zY (e:=(.int .i64 v16.Lo)) eZ rfl (za rfl (zay rfl eZ (za eZ ?_)))))
      rcases zC H with⟨h18,H⟩|⟨h18,H⟩
      ·refine gDo eZ (dT h18) (za rfl (gDo rfl (dT h18) (za rfl (gDo rfl (dT h18) (za rfl (gDo rfl (dT h18) ?_))))))
       obtain⟨v19,h20,H⟩:=zk H
       exact qy rfl eZ h20 (gDo rfl (dT h18) (z6 (m:=1) eZ rfl (gDo rfl (dT h18) (zY (e:=(.int .i64 v19.Hi)) eZ rfl (gDo rfl (dT h18) (qh rfl eZ (zB rfl (dT h18) eZ (zm (TQ.qn ⟨(decide (s8.1 < v19.Hi)),H,(zg [] (sR rfl rfl) (blR rfl) (bkR rfl rfl rfl))⟩)))))))))
      ·exact zb eZ (dF h18) rfl (zb rfl (dF h18) rfl (zb rfl (dF h18) rfl (zb rfl (dF h18) rfl (zb rfl (dF h18) rfl (zb rfl (dF h18) rfl (zb rfl (dF h18) rfl (zJ rfl (dF h18) eC (zm (TQ.qn ⟨false,H,(zg [] (sR rfl rfl) (blR rfl) (bkR rfl rfl rfl))⟩)))))))))
    ·exact zh eZ (dF h10) (AW.exit (TQ.qe (TQ.qe (BQ.qe (TQ.qn ⟨s8.1,H,(zg [] (sR rfl rfl) (blR rfl) (bkR rfl rfl rfl))⟩)))))
 ·refine aR (za rfl ?_)
  obtain⟨v21,h22,H⟩:=zk H
  refine zD (u:=(oB v21)) eC Cl.fn (xD h22) (Ec eZ En) (Vc Vp Vn) rfl (qG eZ (za eZ ?_))
  rcases zC H with⟨h23,H⟩|⟨h23,H⟩
  ·refine gDo eZ (cN h23) (zN (es:=[(dI a2.Lo),(dI a2.Hi)]) rfl bZ rfl (gDo rfl (cN h23) ?_))
   obtain⟨v24,h25,H⟩:=zk H
   exact zD (u:=(oB v24)) eC Cl.fn (jT h25) (Ec eZ En) (Vc (VD.agg rfl) Vn) rfl (gDo rfl (cN h23) (qG eZ (zJ rfl (cN h23) eZ (zm (TQ.qn ⟨(!v24),H,(zg [] (sR rfl rfl) (blR rfl) (bkR rfl rfl rfl))⟩)))))
  ·exact zb eZ (cN (nt h23)) rfl (zb rfl (cN (nt h23)) rfl (zb rfl (cN (nt h23)) rfl (zB rfl (cN (nt h23)) eC (zm (TQ.qn ⟨true,H,(zg [] (sR rfl rfl) (blR rfl) (bkR rfl rfl rfl))⟩)))))
theorem zbH{a1:Int}{r:ze}(H:Y5 a1=some r):Fn Tryz.prog 221 (lent [(.int .i64 a1)]) true [(.agg (zd r))]:=by
 refine zEC (fle rfl) ?_
 rw[zx]
 refine AW.weaken (zg [] (kv 0 (oI a1) rfl rfl SL.nil) BL.nil BK.nil) ?_
 unfold Y5 at H
 unfold zCe
 refine aV (Zl (n:=128) (m:=2) rfl rfl nZ (xQ (aV (za rfl (za rfl (qj eZ eC (Xa (cs:=[(dI a1),(dI (IntKind.wrap .i64 (a1+1)))]) (jO rfl (jO eZ kF)) rfl (zP (es:=[(dI a1),(dI (IntKind.wrap .i64 (a1+1)))]) rfl eZ rfl rfl bZ rfl (xQ (AW.ret ?_))))))))))
 cases H
 exact qI (RL.cons (qS (es:=[(dI a1),(dI (IntKind.wrap .i64 (a1+1)))]) rfl bZ rfl) (VO.agg (ds:=[(.int .i64 a1),(.int .i64 (IntKind.wrap .i64 (a1+1)))]) rfl rfl) RL.nil) List.nodup_nil
theorem Y7{a1:(List Int)}{a2:Int}{r:Bool}(H:yq a1 a2=some r):Fn Tryz.prog 117 (lent [(.sl 1 (List.map zt a1)),(.int .i64 a2)]) true [(.bool r)]:=by
 refine zD2 (fle rfl) ?_
 rw[zx]
 refine AW.weaken (zg [] (kv 0 (.one (.d (.sl 1 (List.map zt a1)))) rfl rfl (kv 1 (oI a2) rfl rfl SL.nil)) BL.nil BK.nil) ?_
 unfold yq at H
 unfold zDX
 refine aV (za eC (xQ (zF (fun t3:Unit=>kC t3=some r) (fun t3=>mk [] [] noG) ?_ ?_)))
 ·intro t3 H
  unfold kC at H
  refine aV (za eC (xQ (AW.ret ?_)))
  cases H
  exact eE rfl rfl
 ·refine aV (za eC (xQ (AW.block (AW.iter (fun s5:Int=>mk [(0,(.one (.d (.sl 1 (List.map zt a1))))),(1,(oI a2)),(5,(oI s5))] [] noG) H (zg [] (sR rfl rfl) BL.nil BK.nil) ?_))))
  intro kb6 s5 H
  unfold kD at H
  refine aS (aV (za rfl (za rfl (zX eZ (n:=a1.length) lm (qh rfl eZ (xQ ?_))))))
  rcases zC H with⟨h7,H⟩|⟨h7,H⟩
  ·refine zi eZ (dT h7) (AW.skip (TQ.qn (aS (AW.block (aV (za rfl (za rfl ?_)))))))
   obtain⟨v8,h9,H⟩:=zk H
   refine qy rfl eZ h9 (zY (e:=(.int .i64 v8)) eZ rfl (za rfl (Kl rfl eZ (xQ ?_))))
   rcases zC H with⟨h10,H⟩|⟨h10,H⟩
   ·refine zi eZ (dT h10) (aV (za eC (xQ (AW.ret (BQ.qr (TQ.qr (TQ.qr (BQ.qr (TQ.qr ?_)))))))))
    cases H
    exact eE rfl rfl
   ·exact zh eZ (dF h10) (AW.skip (BQ.qn (TQ.qn (aR (za rfl (qj eZ eC (za eZ (zm (TQ.qn ⟨(IntKind.wrap .i64 (s5+1)),H,(zg [] (sR rfl rfl) BL.nil BK.nil)⟩)))))))))
  ·exact zh eZ (dF h7) (AW.exit (TQ.qe (TQ.qe (BQ.qe (TQ.qn ⟨(),H,(zg [] SL.nil BL.nil BK.nil)⟩)))))
theorem XI{a1:(List zu)}{r:Bool}(H:yR a1=some r):Fn Tryz.prog 224 (lent [(.sl 2 (List.map zj a1))]) true [(.bool r)]:=by
 refine zD3 (fle rfl) ?_
 rw[zx]
 refine AW.weaken (zg [] (kv 0 (.one (.d (.sl 2 (List.map zj a1)))) rfl rfl SL.nil) BL.nil BK.nil) ?_
 unfold yR at H
 unfold zBU
 refine aV (za eC (xQ (aS (aV (za rfl (zX eZ (n:=a1.length) lm (KN eZ eC (xQ ?_))))))))
 rcases zC H with⟨h2,H⟩|⟨h2,H⟩
 ·refine zi eZ (dT h2) (aV (za eC (xQ (AW.ret (TQ.qr ?_)))))
  cases H
  exact eE rfl rfl
 ·refine zh eZ (dF h2) (AW.skip (TQ.qn (zF (fun t3:Unit=>kO t3=some r) (fun t3=>mk [] [] noG) ?_ ?_)))
  ·intro t3 H
   unfold kO at H
   refine aV (za eC (xQ (AW.ret ?_)))
   cases H
   exact eE rfl rfl
  ·refine aV (za eC (xQ (AW.block (AW.iter (fun s5:Int=>mk [(0,(.one (.d (.sl 2 (List.map zj a1))))),(3,(oI s5))] [] noG) H (zg [] (sR rfl rfl) BL.nil BK.nil) ?_))))
   intro kb6 s5 H
   unfold Yl at H
   refine aS (aV (za rfl (za rfl (zX eZ (n:=a1.length) lm (qh rfl eZ (xQ ?_))))))
   rcases zC H with⟨h7,H⟩|⟨h7,H⟩
   ·refine zi eZ (dT h7) (AW.skip (TQ.qn (aS (AW.block (zF (fun t8:Bool=>(ym kb6 s5) t8=some r) (fun t8=>mk [(0,(.one (.d (.sl 2 (List.map zj a1))))),(3,(oI s5)),(46,(oB t8))] [] noG) ?_ ?_)))))
    ·intro t8 H
     unfold ym at H
     rcases zC H with⟨h10,H⟩|⟨h10,H⟩
     ·refine zi rfl h10 (aV (za eC (xQ (AW.ret (BQ.qr (TQ.qr (TQ.qr (BQ.qr (TQ.qr ?_)))))))))
      cases H
      exact eE rfl rfl
     ·exact zh rfl (nt h10) (AW.skip (BQ.qn (TQ.qn (aR (za rfl (qj eZ eC (za eZ (zm (TQ.qn ⟨(IntKind.wrap .i64 (s5+1)),H,(zg [] (sR rfl rfl) BL.nil BK.nil)⟩)))))))))
    ·refine AW.regd (za rfl (za rfl ?_))
     obtain⟨v11,h12,H⟩:=zk H
     refine qy rfl eZ h12 (z6 (m:=0) eZ rfl (zY (e:=(.int .i64 v11.Key)) eZ rfl ?_))
     obtain⟨v13,h14,H⟩:=zk H
     refine zD (u:=(oB v13)) eC Cl.fn (zbF h14) (Ec eZ En) (Vc Vp Vn) rfl (qG eZ (za eZ ?_))
     rcases zC H with⟨h15,H⟩|⟨h15,H⟩
     ·refine gDo eZ (cN h15) (za rfl (gDo rfl (cN h15) (za rfl (gDo rfl (cN h15) ?_))))
      obtain⟨v16,h17,H⟩:=zk H
      refine qy rfl eZ h17 (gDo rfl (cN h15) (z6 (m:=1) eZ rfl (gDo rfl (cN h15) (zY (e:=(.int .i64 v16.Value)) eZ rfl (gDo rfl (cN h15) ?_)))))
      obtain⟨v18,h19,H⟩:=zk H
      refine zD (u:=(oB v18)) eC Cl.fn (JT h19) (Ec eZ (Ec eC (Ec eC En))) (Vc Vp (Vc Vp (Vc Vp Vn))) rfl (gDo rfl (cN h15) (qG eZ (zJ rfl (cN h15) eZ (za eZ ?_))))
      rcases zC H with⟨h20,H⟩|⟨h20,H⟩
      ·refine gDo eZ (cN h20) (za rfl (gDo rfl (cN h20) (KN eZ eC (gDo rfl (cN h20) (za eZ ?_)))))
       rcases zC H with⟨h21,H⟩|⟨h21,H⟩
       ·refine gDo eZ (dT h21) (za rfl (gDo rfl (dT h21) (za rfl (gDo rfl (dT h21) (zac eZ eC (gDo rfl (dT h21) ?_))))))
        obtain⟨v22,h23,H⟩:=zk H
        refine qy rfl eZ h23 (gDo rfl (dT h21) (z6 (m:=0) eZ rfl (gDo rfl (dT h21) (zY (e:=(.int .i64 v22.Key)) eZ rfl (gDo rfl (dT h21) (za rfl (gDo rfl (dT h21) (za rfl (gDo rfl (dT h21) ?_)))))))))
        obtain⟨v24,h25,H⟩:=zk H
        exact qy rfl eZ h25 (gDo rfl (dT h21) (z6 (m:=0) eZ rfl (gDo rfl (dT h21) (zY (e:=(.int .i64 v24.Key)) eZ rfl (gDo rfl (dT h21) (Xr rfl eZ (gDo rfl (cN h20) (zB rfl (dT h21) eZ (zJ rfl (cN h20) eZ (zm (TQ.qn ⟨(decide (v24.Key≤v22.Key)),H,(zg [] (sR rfl rfl) BL.nil BK.nil)⟩)))))))))))
       ·exact zb eZ (dF h21) rfl (zb rfl (dF h21) rfl (zb rfl (dF h21) rfl (zb rfl (dF h21) rfl (zb rfl (dF h21) rfl (zb rfl (dF h21) rfl (zb rfl (dF h21) rfl (zb rfl (dF h21) rfl (zb rfl (dF h21) rfl (zb rfl (dF h21) rfl (zb rfl (dF h21) rfl (zb rfl (dF h21) rfl (gDo rfl (cN h20) (zJ rfl (dF h21) eC (zJ rfl (cN h20) eZ (zm (TQ.qn ⟨false,H,(zg [] (sR rfl rfl) BL.nil BK.nil)⟩))))))))))))))))
      ·exact zb eZ (cN (nt h20)) rfl (zb rfl (cN (nt h20)) rfl (zb rfl (cN (nt h20)) rfl (zG eZ rfl (zG rfl rfl (zG rfl rfl (zG rfl rfl (zG rfl rfl (zG rfl rfl (zG rfl rfl (zG rfl rfl (zG rfl rfl (zG rfl rfl (zG rfl rfl (zG rfl rfl (zb rfl (cN (nt h20)) rfl (zB rfl (cN (nt h20)) eC (zm (TQ.qn ⟨true,H,(zg [] (sR rfl rfl) BL.nil BK.nil)⟩))))))))))))))))))
     ·exact zb eZ (cN (nt h15)) rfl (zb rfl (cN (nt h15)) rfl (zb rfl (cN (nt h15)) rfl (zb rfl (cN (nt h15)) rfl (zb rfl (cN (nt h15)) rfl (zb rfl (cN (nt h15)) rfl (zb rfl (cN (nt h15)) rfl (zB rfl (cN (nt h15)) eC (za eZ (zb eZ rfl rfl (zb rfl rfl rfl (zb rfl rfl rfl (zG eZ rfl (zG rfl rfl (zG rfl rfl (zG rfl rfl (zG rfl rfl (zG rfl rfl (zG rfl rfl (zG rfl rfl (zG rfl rfl (zG rfl rfl (zG rfl rfl (zG rfl rfl (zb rfl rfl rfl (zB rfl rfl eC (zm (TQ.qn ⟨true,H,(zg [] (sR rfl rfl) BL.nil BK.nil)⟩)))))))))))))))))))))))))))
   ·exact zh eZ (dF h7) (AW.exit (TQ.qe (TQ.qe (BQ.qe (TQ.qn ⟨(),H,(zg [] SL.nil BL.nil BK.nil)⟩)))))
theorem zem{a1:ze}{a2:ze}{r:Bool}(H:JX a1 a2=some r):Fn Tryz.prog 313 (lent [(.agg (zd a1)),(.agg (zd a2))]) true [(.bool r)]:=by
 refine zEM (fle rfl) ?_
 rw[zx]
 refine AW.weaken (zg [] (kv 0 (.agg [(dI a1.Lo),(dI a1.Hi)]) rfl rfl (kv 1 (.agg [(dI a2.Lo),(dI a2.Hi)]) rfl rfl SL.nil)) BL.nil BK.nil) ?_
 unfold JX at H
 unfold zDm
 refine aV (jh (n:=128) (m:=2) (cs:=[(dI a1.Lo),(dI a1.Hi)]) rfl eZ rfl rfl nZ (jh (n:=192) (m:=2) (cs:=[(dI a2.Lo),(dI a2.Hi)]) rfl rfl rfl rfl (nR rfl) (za eC (xQ (aV (zN (es:=[(dI a1.Lo),(dI a1.Hi)]) rfl (bR rfl) rfl ?_))))))
 obtain⟨v3,h4,H⟩:=zk H
 refine zD (u:=(oB v3)) eC Cl.fn (jT h4) (Ec eZ En) (Vc (VD.agg rfl) Vn) rfl (za eZ ?_)
 rcases zC H with⟨h5,H⟩|⟨h5,H⟩
 ·refine gDo eZ h5 (zN (es:=[(dI a2.Lo),(dI a2.Hi)]) rfl bZ rfl (gDo rfl h5 ?_))
  obtain⟨v6,h7,H⟩:=zk H
  refine zD (u:=(oB v6)) eC Cl.fn (jT h7) (Ec eZ En) (Vc (VD.agg rfl) Vn) rfl (zB rfl h5 eZ (za eZ ?_))
  rcases zC H with⟨h8,H⟩|⟨h8,H⟩
  ·refine gDo eZ h8 (zf (m:=0) rfl rfl (gDo rfl h8 (zl (q:=0) (c:=(dI a1.Lo)) eZ (bR rfl) rfl rfl (gDo rfl h8 (zf (m:=0) rfl rfl (gDo rfl h8 (zl (q:=0) (c:=(dI a2.Lo)) eZ bZ rfl rfl (gDo rfl h8 (Xr rfl eZ (zB rfl h8 eZ (za eZ ?_)))))))))))
   rcases zC H with⟨h9,H⟩|⟨h9,H⟩
   ·refine gDo eZ (dT h9) (zf (m:=1) rfl rfl (gDo rfl (dT h9) (zl (q:=1) (c:=(dI a1.Hi)) eZ (bR rfl) rfl rfl (gDo rfl (dT h9) (zf (m:=1) rfl rfl (gDo rfl (dT h9) (zl (q:=1) (c:=(dI a2.Hi)) eZ bZ rfl rfl (gDo rfl (dT h9) (zay rfl eZ (zB rfl (dT h9) eZ (za eZ (xQ (AW.weaken (zg [192,128] (kr 4 rfl rfl SL.nil) (blR rfl) BK.nil) (AW.ret ?_))))))))))))))
    cases H
    exact eE rfl rfl
   ·refine zb eZ (dF h9) rfl (zb rfl (dF h9) rfl (zb rfl (dF h9) rfl (zb rfl (dF h9) rfl (zb rfl (dF h9) rfl (zJ rfl (dF h9) eC (za eZ (xQ (AW.weaken (zg [192,128] (kr 4 rfl rfl SL.nil) (blR rfl) BK.nil) (AW.ret ?_)))))))))
    cases H
    exact eE rfl rfl
  ·refine zb eZ (nt h8) rfl (zb rfl (nt h8) rfl (zb rfl (nt h8) rfl (zb rfl (nt h8) rfl (zb rfl (nt h8) rfl (zJ rfl (nt h8) eC (za eZ (zb eZ rfl rfl (zb rfl rfl rfl (zb rfl rfl rfl (zb rfl rfl rfl (zb rfl rfl rfl (zJ rfl rfl eC (za eZ (xQ (AW.weaken (zg [192,128] (kr 4 rfl rfl SL.nil) (blR rfl) BK.nil) (AW.ret ?_))))))))))))))))
   cases H
   exact eE rfl rfl
 ·refine zb eZ (nt h5) rfl (zb rfl (nt h5) rfl (zJ rfl (nt h5) eC (za eZ (zb eZ rfl rfl (zb rfl rfl rfl (zb rfl rfl rfl (zb rfl rfl rfl (zb rfl rfl rfl (zJ rfl rfl eC (za eZ (zb eZ rfl rfl (zb rfl rfl rfl (zb rfl rfl rfl (zb rfl rfl rfl (zb rfl rfl rfl (zJ rfl rfl eC (za eZ (xQ (AW.weaken (zg [192,128] (kr 4 rfl rfl SL.nil) (blR rfl) BK.nil) (AW.ret ?_))))))))))))))))))))
  cases H
  exact eE rfl rfl
theorem zdS{a1:(List zK)}{a2:Int}{a3:ze}{a4:Int}{r:Bool}(H:Q0 a1 a2 a3 a4=some r):Fn Tryz.prog 248 (lent [(.sl 4 (List.map zp a1)),(.int .i64 a2),(.agg (zd a3)),(.int .i64 a4)]) true [(.bool r)]:=by
 refine zEJ (fle rfl) ?_
 rw[zx]
 refine AW.weaken (zg [] (kv 0 (.one (.d (.sl 4 (List.map zp a1)))) rfl rfl (kv 1 (oI a2) rfl rfl (kv 2 (.agg [(dI a3.Lo),(dI a3.Hi)]) rfl rfl (kv 3 (oI a4) rfl rfl SL.nil)))) BL.nil BK.nil) ?_
 unfold Q0 at H
 unfold zxr
 refine aV (jh (n:=384) (m:=2) (cs:=[(dI a3.Lo),(dI a3.Hi)]) rfl rfl rfl rfl nZ (za eC (xQ (zF (fun t5:Unit=>kX t5=some r) (fun t5=>mk [] [] noG) ?_ ?_))))
 ·intro t5 H
  unfold kX at H
  refine aV (za eC (xQ (AW.ret ?_)))
  cases H
  exact eE rfl rfl
 ·refine aV (za eC (xQ (AW.block (AW.iter (fun s7:Int=>mk [(0,(.one (.d (.sl 4 (List.map zp a1))))),(1,(oI a2)),(3,(oI a4)),(6,(.one (.ptr (.nm 384 0 0)))),(9,(oI s7))] [(384,(.vars 2 [(dI a3.Lo),(dI a3.Hi)]))] noG) H (zg [] (sR rfl rfl) (blR rfl) (bkR rfl rfl rfl)) ?_))))
  intro kb8 s7 H
  unfold Yx at H
  refine aS (aV (za rfl (za rfl (zX eZ (n:=a1.length) lm (qh rfl eZ (xQ ?_))))))
  rcases zC H with⟨h9,H⟩|⟨h9,H⟩
  ·refine zi eZ (dT h9) (AW.skip (TQ.qn (aS (AW.block (zF (fun t10:Bool=>(yE kb8 s7) t10=some r) (fun t10=>mk [(0,(.one (.d (.sl 4 (List.map zp a1))))),(1,(oI a2)),(3,(oI a4)),(6,(.one (.ptr (.nm 384 0 0)))),(9,(oI s7)),(40,(oB t10))] [(384,(.vars 2 [(dI a3.Lo),(dI a3.Hi)]))] noG) ?_ ?_)))))
   ·intro t10 H
    unfold yE at H
    rcases zC H with⟨h12,H⟩|⟨h12,H⟩
    ·refine zi rfl h12 (aV (za eC (xQ (AW.ret (BQ.qr (TQ.qr (TQ.qr (BQ.qr (TQ.qr ?_)))))))))
     cases H
     exact eE rfl rfl
    ·exact zh rfl (nt h12) (AW.skip (BQ.qn (TQ.qn (aR (za rfl (qj eZ eC (za eZ (zm (TQ.qn ⟨(IntKind.wrap .i64 (s7+1)),H,(zg [] (sR rfl rfl) (blR rfl) (bkR rfl rfl rfl))⟩)))))))))
   ·refine AW.regd (za rfl (za rfl ?_))
    obtain⟨v13,h14,H⟩:=zk H
    refine qy rfl eZ h14 (z6 (m:=0) eZ rfl (zY (e:=(.int .i64 v13.Tx)) eZ rfl (za rfl (Kl rfl eZ (za eZ ?_)))))
    rcases zC H with⟨h15,H⟩|⟨h15,H⟩
    ·refine gDo eZ (dT h15) (zN (es:=[(dI a3.Lo),(dI a3.Hi)]) rfl (hB rfl bZ) rfl (gDo rfl (dT h15) (za rfl (gDo rfl (dT h15) (za rfl (gDo rfl (dT h15) ?_))))))
     obtain⟨v16,h17,H⟩:=zk H
     refine qy rfl eZ h17 (gDo rfl (dT h15) (qf (es:=(qo v16)) eZ rfl (gDo rfl (dT h15) ?_)))
     obtain⟨v18,h19,H⟩:=zk H
     refine zD (u:=(.agg [(dI v18.Lo),(dI v18.Hi)])) eC Cl.fn (QY h19) (Ec eZ En) (Vc (VD.agg rfl) Vn) rfl (gDo rfl (dT h15) ?_)
     obtain⟨v20,h21,H⟩:=zk H
     refine zD (u:=(oB v20)) eC Cl.fn (zem h21) (Ec rfl (Ec eZ En)) (Vc (VD.agg rfl) (Vc (VD.agg rfl) Vn)) rfl (zB rfl (dT h15) eZ (za eZ ?_))
     rcases zC H with⟨h22,H⟩|⟨h22,H⟩
     ·refine gDo eZ h22 (za rfl (gDo rfl h22 (za rfl (gDo rfl h22 ?_))))
      obtain⟨v23,h24,H⟩:=zk H
      exact qy rfl eZ h24 (gDo rfl h22 (z6 (m:=3) eZ rfl (gDo rfl h22 (zY (e:=(.int .i64 v23.Mode)) eZ rfl (gDo rfl h22 (za rfl (gDo rfl h22 (Xr rfl eZ (zB rfl h22 eZ (zm (TQ.qn ⟨(decide (a4≤v23.Mode)),H,(zg [] (sR rfl rfl) (blR rfl) (bkR rfl rfl rfl))⟩)))))))))))
     ·exact zb eZ (nt h22) rfl (zb rfl (nt h22) rfl (zb rfl (nt h22) rfl (zb rfl (nt h22) rfl (zb rfl (nt h22) rfl (zb rfl (nt h22) rfl (zb rfl (nt h22) rfl (zJ rfl (nt h22) eC (zm (TQ.qn ⟨false,H,(zg [] (sR rfl rfl) (blR rfl) (bkR rfl rfl rfl))⟩)))))))))
    ·exact zb eZ (dF h15) rfl (zb rfl (dF h15) rfl (zb rfl (dF h15) rfl (zb rfl (dF h15) rfl (zb rfl (dF h15) rfl (zb rfl (dF h15) rfl (zb rfl (dF h15) rfl (zJ rfl (dF h15) eC (za eZ (zb eZ rfl rfl (zb rfl rfl rfl (zb rfl rfl rfl (zb rfl rfl rfl (zb rfl rfl rfl (zb rfl rfl rfl (zb rfl rfl rfl (zJ rfl rfl eC (zm (TQ.qn ⟨false,H,(zg [] (sR rfl rfl) (blR rfl) (bkR rfl rfl rfl))⟩))))))))))))))))))
  ·exact zh eZ (dF h9) (AW.exit (TQ.qe (TQ.qe (BQ.qe (TQ.qn ⟨(),H,(zg [384] SL.nil (blR rfl) BK.nil)⟩)))))
theorem zcx{a1:zn}{r:Bool}(H:ZH a1=some r):Fn Tryz.prog 222 (lent [(.agg (zR a1))]) true [(.bool r)]:=by
 refine zE8 (fle rfl) ?_
 rw[zx]
 refine AW.weaken (t:=mk [(0,(.agg (zE a1)))] [] (lk [])) (zg [] (sR rfl rfl) BL.nil BK.nil) ?_
 unfold ZH at H
 unfold zB4
 refine aV (jh (n:=64) (m:=9) (cs:=(zE a1)) rfl eZ rfl rfl nZ (za eC (xQ (zF (fun t2:Unit=>xJ t2=some r) (fun t2=>mk [] [] (lk [])) ?_ ?_))))
 ·intro t2 H
  unfold xJ at H
  refine aV (za eC (xQ (AW.ret ?_)))
  cases H
  exact eE rfl rfl
 ·refine aV (za eC (xQ (AW.block (AW.iter (fun s4:Int=>mk [(1,(.one (.ptr (.nm 64 0 0)))),(3,(oI s4))] [(64,(.vars 9 (zE a1)))] (lk [])) H (zM [] (sR rfl rfl) (blR rfl) (bkR rfl rfl rfl) GK.nil) ?_))))
  intro kb5 s4 H
  unfold QL at H
  refine aS (aV (za rfl (zf (m:=5) rfl rfl (zl (q:=5) (c:=(.d (.sl 2 (List.map zA a1.Helds)))) eZ bZ rfl rfl (zX eZ (n:=a1.Helds.length) lm (qh rfl eZ (xQ ?_)))))))
  rcases zC H with⟨h6,H⟩|⟨h6,H⟩
  ·refine zi eZ (dT h6) (AW.skip (TQ.qn (zF (fun t7:Unit=>(qN kb5 s4) t7=some r) (fun t7=>mk [(1,(.one (.ptr (.nm 64 0 0)))),(3,(oI s4))] [(64,(.vars 9 (zE a1)))] (lk [])) ?_ ?_)))
   ·intro t7 H
    unfold qN at H
    exact aR (za rfl (qj eZ eC (za eZ (zm (TQ.qn ⟨(IntKind.wrap .i64 (s4+1)),H,(zM [] (sR rfl rfl) (blR rfl) (bkR rfl rfl rfl) GK.nil)⟩)))))
   ·refine AW.block (aS (zW (zw (zf (m:=5) rfl rfl (zm (zw (zl (q:=5) (c:=(.d (.sl 2 (List.map zA a1.Helds)))) eZ bZ rfl rfl (zm (zw (za rfl (zm (zw ?_))))))))))))
    obtain⟨v9,h10,H⟩:=zk H
    refine qy rfl eZ h10 (zm (zw (qf (es:=(jE v9)) eZ rfl (zm (zw (Zl (n:=256) (m:=2) rfl rfl (nR rfl) (zm (zw (zP (es:=(jE v9)) eZ rfl rfl rfl bZ rfl (zm (qc (xQ (aS (zF (fun t11:Bool=>(qV v9 a1 (qN kb5 s4)) t11=some r) (fun t11=>mk [(1,(.one (.ptr (.nm 64 0 0)))),(3,(oI s4)),(4,(.one (.ptr (.nm 256 0 0)))),(43,(oB t11))] [(64,(.vars 9 (zE a1))),(256,(.vars 2 (jE v9)))] (lk [])) ?_ ?_))))))))))))))
    ·intro t11 H
     unfold qV at H
     rcases zC H with⟨h13,H⟩|⟨h13,H⟩
     ·refine zi rfl h13 (aV (za eC (xQ (AW.ret (TQ.qr (BQ.qr (TQ.qr (TQ.qr (BQ.qr (TQ.qr ?_))))))))))
      cases H
      exact eE rfl rfl
     ·refine zh rfl (nt h13) (AW.skip (TQ.qn (zF (fun t14:Unit=>(ZR a1 v9 (qN kb5 s4)) t14=some r) (fun t14=>mk [(1,(.one (.ptr (.nm 64 0 0)))),(3,(oI s4)),(4,(.one (.ptr (.nm 256 0 0))))] [(64,(.vars 9 (zE a1))),(256,(.vars 2 (jE v9)))] (lk [])) ?_ ?_)))
      ·intro t14 H
       unfold ZR at H
       refine zF (fun t16:Bool=>(yS (qN kb5 s4)) t16=some r) (fun t16=>mk [(1,(.one (.ptr (.nm 64 0 0)))),(3,(oI s4)),(75,(oB t16))] [(64,(.vars 9 (zE a1)))] (lk [])) ?_ ?_
       ·intro t16 H
        unfold yS at H
        rcases zC H with⟨h18,H⟩|⟨h18,H⟩
        ·refine zi rfl h18 (aV (za eC (xQ (AW.ret (BQ.qr (TQ.qr (TQ.qr (BQ.qr (TQ.qr ?_)))))))))
         cases H
         exact eE rfl rfl
        ·exact zh rfl (nt h18) (AW.skip (BQ.qn (TQ.qn ⟨(),H,(zM [] (sR rfl rfl) (blR rfl) (bkR rfl rfl rfl) GK.nil)⟩)))
       ·refine aR (zf (m:=6) eZ rfl (zl (q:=6) (c:=(.d (.sl 1 (List.map zt a1.Wounded)))) eZ bZ rfl rfl (zf (m:=0) rfl rfl (zl (q:=0) (c:=(dI v9.Tx)) eZ (bR rfl) rfl rfl ?_))))
        obtain⟨v19,h20,H⟩:=zk H
        refine zD (u:=(oB v19)) eC Cl.fn (Y7 h20) (Ec rfl (Ec eZ En)) (Vc Vp (Vc Vp Vn)) rfl (za eZ ?_)
        rcases zC H with⟨h21,H⟩|⟨h21,H⟩
        ·exact zb eZ h21 rfl (zb rfl h21 rfl (zb rfl h21 rfl (zb rfl h21 rfl (zb rfl h21 rfl (zB rfl h21 eC (zm (TQ.qn ⟨true,H,(zM [256] (sR rfl rfl) (blR rfl) (bkR rfl rfl rfl) GK.nil)⟩)))))))
        ·refine gDo eZ (nt h21) (zf (m:=7) rfl rfl (gDo rfl (nt h21) (zl (q:=7) (c:=(.d (.sl 1 (List.map zt a1.Ended)))) eZ bZ rfl rfl (gDo rfl (nt h21) (zf (m:=0) rfl rfl (gDo rfl (nt h21) (zl (q:=0) (c:=(dI v9.Tx)) eZ (bR rfl) rfl rfl (gDo rfl (nt h21) ?_))))))))
         obtain⟨v22,h23,H⟩:=zk H
         exact zD (u:=(oB v22)) eC Cl.fn (Y7 h23) (Ec rfl (Ec eZ En)) (Vc Vp (Vc Vp Vn)) rfl (zJ rfl (nt h21) eZ (zm (TQ.qn ⟨v22,H,(zM [256] (sR rfl rfl) (blR rfl) (bkR rfl rfl rfl) GK.nil)⟩)))
      ·refine aV (za eC (xQ (AW.block (AW.iter (fun s24:Int=>mk [(1,(.one (.ptr (.nm 64 0 0)))),(3,(oI s4)),(4,(.one (.ptr (.nm 256 0 0)))),(5,(oI s24))] [(64,(.vars 9 (zE a1))),(256,(.vars 2 (jE v9)))] (lk [])) H (zM [] (sR rfl rfl) (blR rfl) (bkR rfl rfl rfl) GK.nil) ?_))))
       intro kb25 s24 H
       unfold ZQ at H
       refine aS (aV (za rfl (zf (m:=1) rfl rfl (zl (q:=1) (c:=(.d (.sl 2 (List.map zj v9.Writes)))) eZ (bR rfl) rfl rfl (zX eZ (n:=v9.Writes.length) lm (qh rfl eZ (xQ ?_)))))))
       rcases zC H with⟨h26,H⟩|⟨h26,H⟩
       ·refine zi eZ (dT h26) (AW.skip (TQ.qn (aS (AW.block (aS (AW.regd (zf (m:=4) rfl rfl (zl (q:=4) (c:=(.d (.sl 4 (List.map zp a1.Locks)))) eZ (hB rfl bZ) rfl rfl (zf (m:=0) rfl rfl (zl (q:=0) (c:=(dI v9.Tx)) eZ (hB rfl (bR rfl)) rfl rfl (zf (m:=1) rfl rfl (zl (q:=1) (c:=(.d (.sl 2 (List.map zj v9.Writes)))) eZ (bR rfl) rfl rfl (za rfl ?_)))))))))))))
        obtain⟨v27,h28,H⟩:=zk H
        refine qy rfl eZ h28 (z6 (m:=0) eZ rfl (zY (e:=(.int .i64 v27.Key)) eZ rfl ?_))
        obtain⟨v29,h30,H⟩:=zk H
        refine zD (u:=(.agg [(dI v29.Lo),(dI v29.Hi)])) eC Cl.fn (zbH h30) (Ec eZ En) (Vc Vp Vn) rfl ?_
        obtain⟨v31,h32,H⟩:=zk H
        refine zD (u:=(oB v31)) eC Cl.fn (zdS h32) (Ec rfl (Ec rfl (Ec eZ (Ec eC En)))) (Vc Vp (Vc Vp (Vc (VD.agg rfl) (Vc Vp Vn)))) rfl (qG eZ (xQ (AW.weaken (zM [] (kr 63 rfl rfl (kr 1 rfl rfl (kr 3 rfl rfl (kr 4 rfl rfl (kr 5 rfl rfl SL.nil))))) (blR rfl) (BK.cons (n:=64) rfl bZ rfl rfl (BK.cons (n:=256) rfl (bR rfl) rfl rfl BK.nil)) GK.nil) ?_)))
        rcases zC H with⟨h33,H⟩|⟨h33,H⟩
        ·exact zh eZ (cN h33) (AW.skip (BQ.qn (TQ.qn (aR (za rfl (qj eZ eC (za eZ (zm (TQ.qn ⟨(IntKind.wrap .i64 (s24+1)),H,(zM [] (sR rfl rfl) (blR rfl) (bkR rfl rfl rfl) GK.nil)⟩)))))))))
        ·refine zi eZ (cN (nt h33)) (aV (za eC (xQ (AW.ret (BQ.qr (TQ.qr (TQ.qr (BQ.qr (TQ.qr (BQ.qr (TQ.qr (TQ.qr (BQ.qr (TQ.qr ?_))))))))))))))
         cases H
         exact eE rfl rfl
       ·exact zh eZ (dF h26) (AW.exit (TQ.qe (TQ.qe (BQ.qe (TQ.qn ⟨(),H,(zM [] (sR rfl rfl) (blR rfl) (bkR rfl rfl rfl) GK.nil)⟩)))))
    ·refine AW.regd (zf (m:=0) eZ rfl (zl (q:=0) (c:=(dI v9.Tx)) eZ bZ rfl rfl ?_))
     obtain⟨v34,h35,H⟩:=zk H
     refine zD (u:=(oB v34)) eC Cl.fn (zal h35) (Ec eZ En) (Vc Vp Vn) rfl (qG eZ (za eZ ?_))
     rcases zC H with⟨h36,H⟩|⟨h36,H⟩
     ·refine gDo eZ (cN h36) (za rfl (gDo rfl (cN h36) (KN eZ eC (gDo rfl (cN h36) (za eZ ?_)))))
      rcases zC H with⟨h37,H⟩|⟨h37,H⟩
      ·refine gDo eZ (dT h37) (zf (m:=5) rfl rfl (gDo rfl (dT h37) (zl (q:=5) (c:=(.d (.sl 2 (List.map zA a1.Helds)))) eZ (bR rfl) rfl rfl (gDo rfl (dT h37) (za rfl (gDo rfl (dT h37) (zac eZ eC (gDo rfl (dT h37) ?_))))))))
       obtain⟨v38,h39,H⟩:=zk H
       refine qy rfl eZ h39 (gDo rfl (dT h37) (z6 (m:=0) eZ rfl (gDo rfl (dT h37) (zY (e:=(.int .i64 v38.Tx)) eZ rfl (gDo rfl (dT h37) (zf (m:=0) rfl rfl (gDo rfl (dT h37) (zl (q:=0) (c:=(dI v9.Tx)) eZ bZ rfl rfl (gDo rfl (dT h37) (Xr rfl eZ (gDo rfl (cN h36) (zB rfl (dT h37) eZ (zJ rfl (cN h36) eZ (za eZ ?_))))))))))))))
       rcases zC H with⟨h40,H⟩|⟨h40,H⟩
       ·exact zb eZ (dT h40) rfl (zb rfl (dT h40) rfl (zb rfl (dT h40) rfl (zb rfl (dT h40) rfl (zB rfl (dT h40) eC (zm (TQ.qn ⟨true,H,(zM [] (sR rfl rfl) (blR rfl) (bkR rfl rfl rfl) GK.nil)⟩))))))
       ·refine gDo eZ (dF h40) (zf (m:=1) rfl rfl (gDo rfl (dF h40) (zl (q:=1) (c:=(.d (.sl 2 (List.map zj v9.Writes)))) eZ bZ rfl rfl (gDo rfl (dF h40) ?_))))
        obtain⟨v41,h42,H⟩:=zk H
        exact zD (u:=(oB v41)) eC Cl.fn (XI h42) (Ec eZ En) (Vc Vp Vn) rfl (gDo rfl (dF h40) (qG eZ (zJ rfl (dF h40) eZ (zm (TQ.qn ⟨(!v41),H,(zM [] (sR rfl rfl) (blR rfl) (bkR rfl rfl rfl) GK.nil)⟩)))))
      ·refine zb eZ (dF h37) rfl (zb rfl (dF h37) rfl (zb rfl (dF h37) rfl (zb rfl (dF h37) rfl (zb rfl (dF h37) rfl (zb rfl (dF h37) rfl (zb rfl (dF h37) rfl (zb rfl (dF h37) rfl (zb rfl (dF h37) rfl (zb rfl (dF h37) rfl (gDo rfl (cN h36) (zJ rfl (dF h37) eC (zJ rfl (cN h36) eZ (za eZ (gDo eZ rfl (zf (m:=1) rfl rfl (gDo rfl rfl (zl (q:=1) (c:=(.d (.sl 2 (List.map zj v9.Writes)))) eZ bZ rfl rfl (gDo rfl rfl ?_))))))))))))))))))
       obtain⟨v43,h44,H⟩:=zk H
       exact zD (u:=(oB v43)) eC Cl.fn (XI h44) (Ec eZ En) (Vc Vp Vn) rfl (gDo rfl rfl (qG eZ (zJ rfl rfl eZ (zm (TQ.qn ⟨(!v43),H,(zM [] (sR rfl rfl) (blR rfl) (bkR rfl rfl rfl) GK.nil)⟩)))))
     ·exact zb eZ (cN (nt h36)) rfl (zb rfl (cN (nt h36)) rfl (zb rfl (cN (nt h36)) rfl (zG eZ rfl (zG rfl rfl (zG rfl rfl (zG rfl rfl (zG rfl rfl (zG rfl rfl (zG rfl rfl (zG rfl rfl (zG rfl rfl (zG rfl rfl (zb rfl (cN (nt h36)) rfl (zB rfl (cN (nt h36)) eC (za eZ (zb eZ rfl rfl (zb rfl rfl rfl (zb rfl rfl rfl (zb rfl rfl rfl (zB rfl rfl eC (zm (TQ.qn ⟨true,H,(zM [] (sR rfl rfl) (blR rfl) (bkR rfl rfl rfl) GK.nil)⟩))))))))))))))))))))))
  ·exact zh eZ (dF h6) (AW.exit (TQ.qe (TQ.qe (BQ.qe (TQ.qn ⟨(),H,(zM [64] SL.nil (blR rfl) BK.nil GK.nil)⟩)))))
theorem zfw{a1:(List zu)}{a2:Int}{r:Int}(H:Y2 a1 a2=some r):Fn Tryz.prog 346 (lent [(.sl 2 (List.map zj a1)),(.int .i64 a2)]) true [(.int .i64 r)]:=by
 refine zEo (fle rfl) ?_
 rw[zx]
 refine AW.weaken (zg [] (kv 0 (.one (.d (.sl 2 (List.map zj a1)))) rfl rfl (kv 1 (oI a2) rfl rfl SL.nil)) BL.nil BK.nil) ?_
 unfold Y2 at H
 unfold zy3
 refine aV (za eC (xQ (zF (fun t3:Unit=>Kg t3=some r) (fun t3=>mk [] [] noG) ?_ ?_)))
 ·intro t3 H
  unfold Kg at H
  refine aV (za eC (xQ (AW.ret ?_)))
  cases H
  exact eE rfl rfl
 ·refine aV (za eC (xQ (AW.block (AW.iter (fun s5:Int=>mk [(0,(.one (.d (.sl 2 (List.map zj a1))))),(1,(oI a2)),(5,(oI s5))] [] noG) H (zg [] (sR rfl rfl) BL.nil BK.nil) ?_))))
  intro kb6 s5 H
  unfold kE at H
  refine aS (aV (za rfl (za rfl (zX eZ (n:=a1.length) lm (qh rfl eZ (xQ ?_))))))
  rcases zC H with⟨h7,H⟩|⟨h7,H⟩
  ·refine zi eZ (dT h7) (AW.skip (TQ.qn (aS (AW.block (aV (za rfl (za rfl ?_)))))))
   obtain⟨v8,h9,H⟩:=zk H
   refine qy rfl eZ h9 (z6 (m:=0) eZ rfl (zY (e:=(.int .i64 v8.Key)) eZ rfl (za rfl (Kl rfl eZ (xQ ?_)))))
   rcases zC H with⟨h10,H⟩|⟨h10,H⟩
   ·refine zi eZ (dT h10) (aV (za rfl (za rfl ?_)))
    obtain⟨v11,h12,H⟩:=zk H
    refine qy rfl eZ h12 (z6 (m:=1) eZ rfl (zY (e:=(.int .i64 v11.Value)) eZ rfl (za eZ (xQ (AW.weaken (zg [] (kr 4 rfl rfl SL.nil) BL.nil BK.nil) (AW.ret (BQ.qr (TQ.qr (TQ.qr (BQ.qr (TQ.qr ?_)))))))))))
    cases H
    exact eE rfl rfl
   ·exact zh eZ (dF h10) (AW.skip (BQ.qn (TQ.qn (aR (za rfl (qj eZ eC (za eZ (zm (TQ.qn ⟨(IntKind.wrap .i64 (s5+1)),H,(zg [] (sR rfl rfl) BL.nil BK.nil)⟩)))))))))
  ·exact zh eZ (dF h7) (AW.exit (TQ.qe (TQ.qe (BQ.qe (TQ.qn ⟨(),H,(zg [] SL.nil BL.nil BK.nil)⟩)))))
theorem zdQ{a1:(List zu)}{a2:(List zu)}{r:Int}(H:QT a1 a2=some r):Fn Tryz.prog 295 (lent [(.sl 2 (List.map zj a1)),(.sl 2 (List.map zj a2))]) true [(.int .i64 r)]:=by
 refine f295 (fle rfl) ?_
 rw[zx]
 refine AW.weaken (zg [] (kv 0 (.one (.d (.sl 2 (List.map zj a1)))) rfl rfl (kv 1 (.one (.d (.sl 2 (List.map zj a2)))) rfl rfl SL.nil)) BL.nil BK.nil) ?_
 unfold QT at H
 unfold zDW
 refine aV (za eC (xQ (aS (zF (fun t3:Bool=>(Qn a2 a1) t3=some r) (fun t3=>mk [(0,(.one (.d (.sl 2 (List.map zj a1))))),(1,(.one (.d (.sl 2 (List.map zj a2))))),(14,(oB t3))] [] noG) ?_ ?_))))
 ·intro t3 H
  unfold Qn at H
  rcases zC H with⟨h5,H⟩|⟨h5,H⟩
  ·refine zi rfl h5 (aV (za eC (xQ (AW.ret (TQ.qr ?_)))))
   cases H
   exact eE rfl rfl
  ·refine zh rfl (nt h5) (AW.skip (TQ.qn (aV (za eC (xQ (zF (fun t6:Int=>Ys t6=some r) (fun t6=>mk [(5,(oI t6))] [] noG) ?_ ?_))))))
   ·intro t6 H
    unfold Ys at H
    refine aV (za eZ (za eZ (xQ (AW.ret ?_))))
    cases H
    exact eE rfl rfl
   ·refine aV (za eC (xQ (AW.block (AW.iter (fun s8:(Int×Int)=>mk [(0,(.one (.d (.sl 2 (List.map zj a1))))),(1,(.one (.d (.sl 2 (List.map zj a2))))),(5,(oI s8.1)),(6,(oI s8.2))] [] noG) H (zg [] (sR rfl rfl) BL.nil BK.nil) ?_))))
    intro kb9 s8 H
    unfold Ye at H
    refine aS (aV (za rfl (za rfl (zX eZ (n:=a2.length) lm (qh rfl eZ (xQ ?_))))))
    rcases zC H with⟨h10,H⟩|⟨h10,H⟩
    ·refine zi eZ (dT h10) (AW.skip (TQ.qn (aS (AW.block (zF (fun t11:Bool=>(Zz kb9 s8) t11=some r) (fun t11=>mk [(0,(.one (.d (.sl 2 (List.map zj a1))))),(1,(.one (.d (.sl 2 (List.map zj a2))))),(5,(oI s8.1)),(6,(oI s8.2)),(36,(oB t11))] [] noG) ?_ ?_)))))
     ·intro t11 H
      unfold Zz at H
      rcases zC H with⟨h13,H⟩|⟨h13,H⟩
      ·exact zi rfl h13 (aR (za rfl (qj eZ eC (za eZ (zm (BQ.qn (TQ.qn (aR (za rfl (qj eZ eC (za eZ (zm (TQ.qn ⟨((IntKind.wrap .i64 (s8.1+1)),(IntKind.wrap .i64 (s8.2+1))),H,(zg [] (sR rfl rfl) BL.nil BK.nil)⟩)))))))))))))
      ·exact zh rfl (nt h13) (AW.skip (BQ.qn (TQ.qn (aR (za rfl (qj eZ eC (za eZ (zm (TQ.qn ⟨(s8.1,(IntKind.wrap .i64 (s8.2+1))),H,(zg [] (sR rfl rfl) BL.nil BK.nil)⟩)))))))))
     ·refine aR (za rfl (za rfl ?_))
      obtain⟨v14,h15,H⟩:=zk H
      refine qy rfl eZ h15 (z6 (m:=1) eZ rfl (zY (e:=(.int .i64 v14.Value)) eZ rfl (Xr eZ eC (za eZ ?_))))
      rcases zC H with⟨h16,H⟩|⟨h16,H⟩
      ·refine gDo eZ (dT h16) (za rfl (gDo rfl (dT h16) (za rfl (gDo rfl (dT h16) (za rfl (gDo rfl (dT h16) ?_))))))
       obtain⟨v17,h18,H⟩:=zk H
       refine qy rfl eZ h18 (gDo rfl (dT h16) (z6 (m:=0) eZ rfl (gDo rfl (dT h16) (zY (e:=(.int .i64 v17.Key)) eZ rfl (gDo rfl (dT h16) ?_)))))
       obtain⟨v19,h20,H⟩:=zk H
       exact zD (u:=(oI v19)) eC Cl.fn (zfw h20) (Ec rfl (Ec eZ En)) (Vc Vp (Vc Vp Vn)) rfl (gDo rfl (dT h16) (qh eZ eC (zB rfl (dT h16) eZ (zm (TQ.qn ⟨(decide (v19 < 0)),H,(zg [] (sR rfl rfl) BL.nil BK.nil)⟩)))))
      ·exact zb eZ (dF h16) rfl (zb rfl (dF h16) rfl (zb rfl (dF h16) rfl (zb rfl (dF h16) rfl (zb rfl (dF h16) rfl (zb rfl (dF h16) rfl (zb rfl (dF h16) rfl (zb rfl (dF h16) rfl (zJ rfl (dF h16) eC (zm (TQ.qn ⟨false,H,(zg [] (sR rfl rfl) BL.nil BK.nil)⟩))))))))))
    ·exact zh eZ (dF h10) (AW.exit (TQ.qe (TQ.qe (BQ.qe (TQ.qn ⟨s8.1,H,(zg [] (sR rfl rfl) BL.nil BK.nil)⟩)))))
 ·refine aR (za rfl ?_)
  obtain⟨v21,h22,H⟩:=zk H
  refine zD (u:=(oB v21)) eC Cl.fn (zaS h22) (Ec eZ En) (Vc Vp Vn) rfl (qG eZ (za eZ ?_))
  rcases zC H with⟨h23,H⟩|⟨h23,H⟩
  ·refine gDo eZ (cN h23) (za rfl (gDo rfl (cN h23) ?_))
   obtain⟨v24,h25,H⟩:=zk H
   exact zD (u:=(oB v24)) eC Cl.fn (XI h25) (Ec eZ En) (Vc Vp Vn) rfl (gDo rfl (cN h23) (qG eZ (zJ rfl (cN h23) eZ (zm (TQ.qn ⟨(!v24),H,(zg [] (sR rfl rfl) BL.nil BK.nil)⟩)))))
  ·exact zb eZ (cN (nt h23)) rfl (zb rfl (cN (nt h23)) rfl (zb rfl (cN (nt h23)) rfl (zB rfl (cN (nt h23)) eC (zm (TQ.qn ⟨true,H,(zg [] (sR rfl rfl) BL.nil BK.nil)⟩)))))
theorem zfu{a1:zn}{r:Int}(H:Y0 a1=some r):Fn Tryz.prog 223 (lent [(.agg (zR a1))]) true [(.int .i64 r)]:=by
 refine zFD (fle rfl) ?_
 rw[zx]
 refine AW.weaken (zg [] (kv 0 (.agg (zE a1)) rfl rfl SL.nil) BL.nil BK.nil) ?_
 unfold Y0 at H
 unfold zzv
 refine aV (jh (n:=64) (m:=9) (cs:=(zE a1)) rfl eZ rfl rfl nZ (za eC (xQ (aV (za eC (xQ (zF (fun t2:Int=>kK t2=some r) (fun t2=>mk [(3,(oI t2))] [] noG) ?_ ?_)))))))
 ·intro t2 H
  unfold kK at H
  refine aV (za eZ (za eZ (xQ (AW.ret ?_))))
  cases H
  exact eE rfl rfl
 ·refine aV (za eC (xQ (AW.block (AW.iter (fun s4:(Int×Int)=>mk [(1,(.one (.ptr (.nm 64 0 0)))),(3,(oI s4.1)),(4,(oI s4.2))] [(64,(.vars 9 (zE a1)))] noG) H (zg [] (sR rfl rfl) (blR rfl) (bkR rfl rfl rfl)) ?_))))
  intro kb5 s4 H
  unfold kG at H
  refine aS (aV (za rfl (zf (m:=5) rfl rfl (zl (q:=5) (c:=(.d (.sl 2 (List.map zA a1.Helds)))) eZ bZ rfl rfl (zX eZ (n:=a1.Helds.length) lm (qh rfl eZ (xQ ?_)))))))
  rcases zC H with⟨h6,H⟩|⟨h6,H⟩
  ·refine zi eZ (dT h6) (AW.skip (TQ.qn (aS (AW.block (AW.regd (za rfl (zf (m:=3) rfl rfl (zl (q:=3) (c:=(.d (.sl 2 (List.map zj a1.Cells)))) eZ bZ rfl rfl (zf (m:=5) rfl rfl (zl (q:=5) (c:=(.d (.sl 2 (List.map zA a1.Helds)))) eZ bZ rfl rfl (za rfl ?_)))))))))))
   obtain⟨v7,h8,H⟩:=zk H
   refine qy rfl eZ h8 (z6 (m:=1) eZ rfl (zY (e:=(.sl 2 (List.map zj v7.Writes))) eZ rfl ?_))
   obtain⟨v9,h10,H⟩:=zk H
   exact zD (u:=(oI v9)) eC Cl.fn (zdQ h10) (Ec rfl (Ec eZ En)) (Vc Vp (Vc Vp Vn)) rfl (qj rfl eZ (za eZ (zm (BQ.qn (TQ.qn (AW.weaken (zg [] (kr 3 rfl rfl (kr 1 rfl rfl (kr 4 rfl rfl SL.nil))) (blR rfl) (BK.cons (n:=64) rfl bZ rfl rfl BK.nil)) (aR (za rfl (qj eZ eC (za eZ (zm (TQ.qn ⟨((IntKind.wrap .i64 (s4.1+v9)),(IntKind.wrap .i64 (s4.2+1))),H,(zg [] (sR rfl rfl) (blR rfl) (bkR rfl rfl rfl))⟩))))))))))))
  ·exact zh eZ (dF h6) (AW.exit (TQ.qe (TQ.qe (BQ.qe (TQ.qn ⟨s4.1,H,(zg [64] (sR rfl rfl) (blR rfl) BK.nil)⟩)))))
end Go.AW
