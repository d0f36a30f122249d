/- That functions of the program compute what the plain functions say. Conditions: each theorem's own. -/
import Derived.Test.YtpabbbmfcgnhdaaGreatMShardDrop
import Derived.Test.YtpabbbmfcgnhdaaGreatGShardDrop
import Derived.Test.YtpabbbmfcgnhdaaGreatSShardDrop
import Derived.Test.YtpabbbmfcgnhdaaGreatYt
import Derived.KernelRfl
set_option linter.unusedVariables false
set_option linter.unusedSimpArgs false
set_option maxRecDepth 100000
namespace Go.AW
open Go.Proofs
theorem zbc{a1:(List ze)}{a2:Int}{r:Int}(H:ZV a1 a2=some r):Fn Tryz.prog 73 (lent [(.sl 2 (List.map zd a1)),(.int .i64 a2)]) true [(.int .i64 r)]:=by
 refine f73 (fle rfl) ?_
 rw[zx]
 refine AW.weaken (zg [] (kv 0 (.one (.d (.sl 2 (List.map zd a1)))) rfl rfl (kv 1 (oI a2) rfl rfl SL.nil)) BL.nil BK.nil) ?_
 unfold ZV at H
 unfold i73
 refine aV (za eC (xQ (aV (za rfl (za rfl (zX eZ (n:=a1.length) lm (zaF rfl eZ (za eZ (xQ (aS (aV (za eZ (qi eZ eC (xQ ?_))))))))))))))
 rcases zA H with⟨h3,H⟩|⟨h3,H⟩
 ·refine zi eZ (dT h3) (aV (za eC (xQ (AW.ret (TQ.qr ?_)))))
  cases H
  exact eE rfl rfl
 ·refine zh eZ (dF h3) (AW.skip (TQ.qn (aV (za rfl (za eZ (xQ (AW.ret ?_)))))))
  cases H
  exact eE rfl rfl
theorem zfk{a1:(List zn)}{a2:Int}{r:Int}(H:Yz a1 a2=some r):Fn Tryz.prog 74 (lent [(.sl 2 (List.map zj a1)),(.int .i64 a2)]) true [(.int .i64 r)]:=by
 refine f74 (fle rfl) ?_
 rw[zx]
 refine AW.weaken (zg [] (kv 0 (.one (.d (.sl 2 (List.map zj a1)))) rfl rfl (kv 1 (oI a2) rfl rfl SL.nil)) BL.nil BK.nil) ?_
 unfold Yz at H
 unfold i74
 refine aV (za eC (xQ (aV (za rfl (za rfl (zX eZ (n:=a1.length) lm (zaF rfl eZ (za eZ (xQ (aS (aV (za eZ (qi eZ eC (xQ ?_))))))))))))))
 rcases zA H with⟨h3,H⟩|⟨h3,H⟩
 ·refine zi eZ (dT h3) (aV (za eC (xQ (AW.ret (TQ.qr ?_)))))
  cases H
  exact eE rfl rfl
 ·refine zh eZ (dF h3) (AW.skip (TQ.qn (aV (za rfl (za eZ (xQ (AW.ret ?_)))))))
  cases H
  exact eE rfl rfl
theorem zfq{a1:(List zL)}{a2:Int}{r:Int}(H:Ys a1 a2=some r):Fn Tryz.prog 75 (lent [(.sl 4 (List.map zp a1)),(.int .i64 a2)]) true [(.int .i64 r)]:=by
 refine f75 (fle rfl) ?_
 rw[zx]
 refine AW.weaken (zg [] (kv 0 (.one (.d (.sl 4 (List.map zp a1)))) rfl rfl (kv 1 (oI a2) rfl rfl SL.nil)) BL.nil BK.nil) ?_
 unfold Ys at H
 unfold i75
 refine aV (za eC (xQ (aV (za rfl (za rfl (zX eZ (n:=a1.length) lm (zaF rfl eZ (za eZ (xQ (aS (aV (za eZ (qi eZ eC (xQ ?_))))))))))))))
 rcases zA H with⟨h3,H⟩|⟨h3,H⟩
 ·refine zi eZ (dT h3) (aV (za eC (xQ (AW.ret (TQ.qr ?_)))))
  cases H
  exact eE rfl rfl
 ·refine zh eZ (dF h3) (AW.skip (TQ.qn (aV (za rfl (za eZ (xQ (AW.ret ?_)))))))
  cases H
  exact eE rfl rfl
theorem zeA{a1:(List zn)}{a2:Int}{r:Int}(H:Jo a1 a2=some r):Fn Tryz.prog 282 (lent [(.sl 2 (List.map zj a1)),(.int .i64 a2)]) true [(.int .i64 r)]:=by
 refine zGr (fle rfl) ?_
 rw[zx]
 refine AW.weaken (zg [] (kv 0 (.one (.d (.sl 2 (List.map zj a1)))) rfl rfl (kv 1 (oI a2) rfl rfl SL.nil)) BL.nil BK.nil) ?_
 unfold Jo at H
 unfold zzz
 refine aV (za eC (xQ (aV (za rfl (za rfl (zX eZ (n:=a1.length) lm (zaF rfl eZ (za eZ (xQ (aS (aV (za eZ (qi eZ eC (xQ ?_))))))))))))))
 rcases zA H with⟨h3,H⟩|⟨h3,H⟩
 ·refine zi eZ (dT h3) (aV (za eC (xQ (AW.ret (TQ.qr ?_)))))
  cases H
  exact eE rfl rfl
 ·refine zh eZ (dF h3) (AW.skip (TQ.qn (aV (za rfl (za eZ (xQ (AW.ret ?_)))))))
  cases H
  exact eE rfl rfl
theorem zgq{a1:zN}{a2:Int}{r:Int}(H:xB a1 a2=some r):Fn Tryz.prog 195 (lent [(.agg (zB a1)),(.int .i64 a2)]) true [(.int .i64 r)]:=by
 refine zFR (fle rfl) ?_
 rw[zx]
 refine AW.weaken (zg [] (kv 0 (.agg (jQ a1)) rfl rfl (kv 1 (oI a2) rfl rfl SL.nil)) BL.nil BK.nil) ?_
 unfold xB at H
 unfold zzs
 refine aV (qY (n:=128) (m:=2) (cs:=(jQ a1)) rfl eZ rfl rfl nZ (za eC (xQ (aV (zf (m:=1) rfl rfl (zl (q:=1) (c:=(.d (.sl 2 (List.map zj a1.Writes)))) eZ bZ rfl rfl (za rfl ?_)))))))
 obtain⟨v3,h4,H⟩:=zk H
 refine zD (u:=(oI v3)) eC Cl.fn (zeA h4) (Ec rfl (Ec eZ En)) (Vc Vp (Vc Vp Vn)) rfl (za eZ (xQ (aS (aV (za eZ (qi eZ eC (xQ ?_)))))))
 rcases zA H with⟨h5,H⟩|⟨h5,H⟩
 ·refine zi eZ (dT h5) (aV (za eC (xQ (AW.ret (TQ.qr ?_)))))
  cases H
  exact eE rfl rfl
 ·refine zh eZ (dF h5) (AW.skip (TQ.qn (aV (za rfl (za eZ (xQ (AW.ret ?_)))))))
  cases H
  exact eE rfl rfl
theorem zeU{a1:(List zN)}{a2:Int}{r:Int}(H:J1 a1 a2=some r):Fn Tryz.prog 76 (lent [(.sl 2 (List.map zB a1)),(.int .i64 a2)]) true [(.int .i64 r)]:=by
 refine f76 (fle rfl) ?_
 rw[zx]
 refine AW.weaken (zg [] (kv 0 (.one (.d (.sl 2 (List.map zB a1)))) rfl rfl (kv 1 (oI a2) rfl rfl SL.nil)) BL.nil BK.nil) ?_
 unfold J1 at H
 unfold i76
 refine aV (za eC (xQ (aV (za rfl (za rfl (zX eZ (n:=a1.length) lm (zaF rfl eZ (za eZ (xQ (aS (aV (za eZ (qi eZ eC (xQ ?_))))))))))))))
 rcases zA H with⟨h3,H⟩|⟨h3,H⟩
 ·refine zi eZ (dT h3) (aV (za eC (xQ (AW.ret (TQ.qr ?_)))))
  cases H
  exact eE rfl rfl
 ·refine zh eZ (dF h3) (AW.skip (TQ.qn (zE (fun t4:Int=>xS t4=some r) (fun t4=>mk [(1,(oI t4))] [] noG) ?_ ?_)))
  ·intro t4 H
   unfold xS at H
   refine aV (za eZ (za eZ (xQ (AW.ret ?_))))
   cases H
   exact eE rfl rfl
  ·refine aV (za eC (xQ (AW.block (AW.iter (fun s6:(Int×Int)=>mk [(0,(.one (.d (.sl 2 (List.map zB a1))))),(1,(oI s6.1)),(5,(oI s6.2))] [] noG) H (zg [] (sR rfl rfl) BL.nil BK.nil) ?_))))
   intro kb7 s6 H
   unfold xM at H
   refine aS (aV (za rfl (za rfl (zX eZ (n:=a1.length) lm (qi rfl eZ (xQ ?_))))))
   rcases zA H with⟨h8,H⟩|⟨h8,H⟩
   ·refine zi eZ (dT h8) (AW.skip (TQ.qn (aS (AW.block (aV (za rfl (za rfl ?_)))))))
    obtain⟨v9,h10,H⟩:=zk H
    refine qt rfl eZ h10 (zZ (es:=(jQ v9)) eZ rfl (za rfl ?_))
    obtain⟨v11,h12,H⟩:=zk H
    refine zD (u:=(oI v11)) eC Cl.fn (zgq h12) (Ec rfl (Ec eZ En)) (Vc (VD.agg rfl) (Vc Vp Vn)) rfl (za eZ (xQ (aV (za eZ (qi eZ eC (xQ (AW.weaken (zg [] (kr 25 rfl rfl (kr 1 rfl rfl (kr 0 rfl rfl (kr 5 rfl rfl SL.nil)))) BL.nil BK.nil) ?_)))))))
    rcases zA H with⟨h13,H⟩|⟨h13,H⟩
    ·refine zi eZ (dT h13) (aV (za eC (xQ (AW.ret (BQ.qr (TQ.qr (TQ.qr (BQ.qr (TQ.qr ?_)))))))))
     cases H
     exact eE rfl rfl
    ·exact zh eZ (dF h13) (AW.skip (BQ.qn (TQ.qn (aR (za rfl (qg eZ eC (za eZ (zm (TQ.qn ⟨(v11,(IntKind.wrap .i64 (s6.2+1))),H,(zg [] (sR rfl rfl) BL.nil BK.nil)⟩)))))))))
   ·exact zh eZ (dF h8) (AW.exit (TQ.qe (TQ.qe (BQ.qe (TQ.qn ⟨s6.1,H,(zg [] (sR rfl rfl) BL.nil BK.nil)⟩)))))
theorem zcr{a1:(List Int)}{a2:Int}{r:Int}(H:Jw a1 a2=some r):Fn Tryz.prog 77 (lent [(.sl 1 (List.map zt a1)),(.int .i64 a2)]) true [(.int .i64 r)]:=by
 refine f77 (fle rfl) ?_
 rw[zx]
 refine AW.weaken (zg [] (kv 0 (.one (.d (.sl 1 (List.map zt a1)))) rfl rfl (kv 1 (oI a2) rfl rfl SL.nil)) BL.nil BK.nil) ?_
 unfold Jw at H
 unfold i77
 refine aV (za eC (xQ (aV (za rfl (za rfl (zX eZ (n:=a1.length) lm (zaF rfl eZ (za eZ (xQ (aS (aV (za eZ (qi eZ eC (xQ ?_))))))))))))))
 rcases zA H with⟨h3,H⟩|⟨h3,H⟩
 ·refine zi eZ (dT h3) (aV (za eC (xQ (AW.ret (TQ.qr ?_)))))
  cases H
  exact eE rfl rfl
 ·refine zh eZ (dF h3) (AW.skip (TQ.qn (aV (za rfl (za eZ (xQ (AW.ret ?_)))))))
  cases H
  exact eE rfl rfl
theorem zfi{a1:zo}{a2:Int}{r:Int}(H:J9 a1 a2=some r):Fn Tryz.prog 18 (lent [(.agg (zR a1)),(.int .i64 a2)]) true [(.int .i64 r)]:=by
 refine f18 (fle rfl) ?_
 rw[zx]
 refine AW.weaken (zg [] (kv 0 (.agg (zF a1)) rfl rfl (kv 1 (oI a2) rfl rfl SL.nil)) BL.nil BK.nil) ?_
 unfold J9 at H
 unfold i18
 refine aV (qY (n:=128) (m:=9) (cs:=(zF a1)) rfl eZ rfl rfl nZ (za eC (xQ (aV (zf (m:=1) rfl rfl (zl (q:=1) (c:=(.d (.sl 2 (List.map zd a1.Own)))) eZ bZ rfl rfl (za rfl ?_)))))))
 obtain⟨v3,h4,H⟩:=zk H
 refine zD (u:=(oI v3)) eC Cl.fn (zbc h4) (Ec rfl (Ec eZ En)) (Vc Vp (Vc Vp Vn)) rfl (za eZ (xQ (aS (aV (za eZ (qi eZ eC (xQ ?_)))))))
 rcases zA H with⟨h5,H⟩|⟨h5,H⟩
 ·refine zi eZ (dT h5) (aV (za eC (xQ (AW.ret (TQ.qr ?_)))))
  cases H
  exact eE rfl rfl
 ·refine zh eZ (dF h5) (AW.skip (TQ.qn (aV (zf (m:=2) rfl rfl (zl (q:=2) (c:=(.d (.sl 2 (List.map zd a1.Frozen)))) eZ bZ rfl rfl (za rfl ?_))))))
  obtain⟨v6,h7,H⟩:=zk H
  refine zD (u:=(oI v6)) eC Cl.fn (zbc h7) (Ec rfl (Ec eZ En)) (Vc Vp (Vc Vp Vn)) rfl (za eZ (xQ (AW.weaken (zg [] (kr 1 rfl rfl (kr 2 rfl rfl SL.nil)) (blR rfl) (BK.cons (n:=128) rfl bZ rfl rfl BK.nil)) (aS (aV (za eZ (qi eZ eC (xQ ?_))))))))
  rcases zA H with⟨h8,H⟩|⟨h8,H⟩
  ·refine zi eZ (dT h8) (aV (za eC (xQ (AW.ret (TQ.qr ?_)))))
   cases H
   exact eE rfl rfl
  ·refine zh eZ (dF h8) (AW.skip (TQ.qn (aV (zf (m:=3) rfl rfl (zl (q:=3) (c:=(.d (.sl 2 (List.map zj a1.Cells)))) eZ bZ rfl rfl (za rfl ?_))))))
   obtain⟨v9,h10,H⟩:=zk H
   refine zD (u:=(oI v9)) eC Cl.fn (zfk h10) (Ec rfl (Ec eZ En)) (Vc Vp (Vc Vp Vn)) rfl (za eZ (xQ (aS (aV (za eZ (qi eZ eC (xQ ?_)))))))
   rcases zA H with⟨h11,H⟩|⟨h11,H⟩
   ·refine zi eZ (dT h11) (aV (za eC (xQ (AW.ret (TQ.qr ?_)))))
    cases H
    exact eE rfl rfl
   ·refine zh eZ (dF h11) (AW.skip (TQ.qn (aV (zf (m:=4) rfl rfl (zl (q:=4) (c:=(.d (.sl 4 (List.map zp a1.Locks)))) eZ bZ rfl rfl (za rfl ?_))))))
    obtain⟨v12,h13,H⟩:=zk H
    refine zD (u:=(oI v12)) eC Cl.fn (zfq h13) (Ec rfl (Ec eZ En)) (Vc Vp (Vc Vp Vn)) rfl (za eZ (xQ (AW.weaken (zg [] (kr 1 rfl rfl (kr 2 rfl rfl SL.nil)) (blR rfl) (BK.cons (n:=128) rfl bZ rfl rfl BK.nil)) (aS (aV (za eZ (qi eZ eC (xQ ?_))))))))
    rcases zA H with⟨h14,H⟩|⟨h14,H⟩
    ·refine zi eZ (dT h14) (aV (za eC (xQ (AW.ret (TQ.qr ?_)))))
     cases H
     exact eE rfl rfl
    ·refine zh eZ (dF h14) (AW.skip (TQ.qn (aV (zf (m:=5) rfl rfl (zl (q:=5) (c:=(.d (.sl 2 (List.map zB a1.Helds)))) eZ bZ rfl rfl (za rfl ?_))))))
     obtain⟨v15,h16,H⟩:=zk H
     refine zD (u:=(oI v15)) eC Cl.fn (zeU h16) (Ec rfl (Ec eZ En)) (Vc Vp (Vc Vp Vn)) rfl (za eZ (xQ (aS (aV (za eZ (qi eZ eC (xQ ?_)))))))
     rcases zA H with⟨h17,H⟩|⟨h17,H⟩
     ·refine zi eZ (dT h17) (aV (za eC (xQ (AW.ret (TQ.qr ?_)))))
      cases H
      exact eE rfl rfl
     ·refine zh eZ (dF h17) (AW.skip (TQ.qn (aV (zf (m:=6) rfl rfl (zl (q:=6) (c:=(.d (.sl 1 (List.map zt a1.Wounded)))) eZ bZ rfl rfl (za rfl ?_))))))
      obtain⟨v18,h19,H⟩:=zk H
      refine zD (u:=(oI v18)) eC Cl.fn (zcr h19) (Ec rfl (Ec eZ En)) (Vc Vp (Vc Vp Vn)) rfl (za eZ (xQ (AW.weaken (zg [] (kr 1 rfl rfl (kr 2 rfl rfl SL.nil)) (blR rfl) (BK.cons (n:=128) rfl bZ rfl rfl BK.nil)) (aS (aV (za eZ (qi eZ eC (xQ ?_))))))))
      rcases zA H with⟨h20,H⟩|⟨h20,H⟩
      ·refine zi eZ (dT h20) (aV (za eC (xQ (AW.ret (TQ.qr ?_)))))
       cases H
       exact eE rfl rfl
      ·refine zh eZ (dF h20) (AW.skip (TQ.qn (aV (zf (m:=7) rfl rfl (zl (q:=7) (c:=(.d (.sl 1 (List.map zt a1.Ended)))) eZ bZ rfl rfl (za rfl ?_))))))
       obtain⟨v21,h22,H⟩:=zk H
       refine zD (u:=(oI v21)) eC Cl.fn (zcr h22) (Ec rfl (Ec eZ En)) (Vc Vp (Vc Vp Vn)) rfl (za eZ (xQ (aS (aV (za eZ (qi eZ eC (xQ ?_)))))))
       rcases zA H with⟨h23,H⟩|⟨h23,H⟩
       ·refine zi eZ (dT h23) (aV (za eC (xQ (AW.ret (TQ.qr ?_)))))
        cases H
        exact eE rfl rfl
       ·refine zh eZ (dF h23) (AW.skip (TQ.qn (aV (za rfl (za eZ (xQ (AW.ret ?_)))))))
        cases H
        exact eE rfl rfl
theorem kY{a1:ze}{r:ze}(H:yU a1=some r):Fn Tryz.prog 21 (lent [(.agg (zd a1))]) true [(.agg (zd r))]:=by
 refine f21 (fle rfl) ?_
 rw[zx]
 refine AW.weaken (zg [] (kv 0 (.agg [(dI a1.Lo),(dI a1.Hi)]) rfl rfl SL.nil) BL.nil BK.nil) ?_
 unfold yU at H
 unfold i21
 refine aV (qY (n:=64) (m:=2) (cs:=[(dI a1.Lo),(dI a1.Hi)]) rfl eZ rfl rfl nZ (Zh (n:=128) (m:=2) rfl rfl (nR rfl) (xQ (aV (Zh (n:=192) (m:=2) rfl rfl (nR rfl) (xQ (aV (zf (m:=0) rfl rfl (zl (q:=0) (c:=(dI a1.Lo)) eZ (bR rfl) rfl rfl (zf (m:=0) rfl rfl (zO (es:=[(dI a1.Lo),(dI 0)]) eZ rfl rfl rfl bZ rfl (xQ (aV (zf (m:=1) rfl rfl (zl (q:=1) (c:=(dI a1.Hi)) eZ (bR rfl) rfl rfl (zf (m:=1) rfl rfl (zO (es:=[(dI a1.Lo),(dI a1.Hi)]) eZ rfl rfl rfl bZ rfl (xQ (aV (zM (es:=[(dI a1.Lo),(dI a1.Hi)]) rfl bZ rfl (zO (es:=[(dI a1.Lo),(dI a1.Hi)]) rfl eZ rfl rfl (bR rfl) rfl (xQ (AW.ret ?_)))))))))))))))))))))))
 cases H
 exact qK (RL.cons (jg (es:=[(dI a1.Lo),(dI a1.Hi)]) rfl bZ rfl) (VO.agg (ds:=[(.int .i64 a1.Lo),(.int .i64 a1.Hi)]) rfl rfl) RL.nil) List.nodup_nil
theorem zbb{a1:(List ze)}{r:(List ze)}(H:ZU a1=some r):Fn Tryz.prog 84 (lent [(.sl 2 (List.map zd a1))]) true [(.sl 2 (List.map zd r))]:=by
 refine f84 (fle rfl) ?_
 rw[zx]
 refine AW.weaken (zg [] (kv 0 (.one (.d (.sl 2 (List.map zd a1)))) rfl rfl SL.nil) BL.nil BK.nil) ?_
 unfold ZU at H
 unfold i84
 refine aV (za eC (xQ (aV (za rfl (zX eZ (n:=a1.length) lm ?_)))))
 obtain⟨h2,H⟩:=z6 H
 refine zgV (f:=zd) (zv:=(ze.mk 0 0)) (own:=true) (m:=448) (q:=(Int.toNat (a1.length:Int))) rfl rfl eZ eZ h2.1 h2.2 rfl (by decide) rfl nZ (za eZ (xQ (zE (fun t3:(List ze)=>Y8 t3=some r) (fun t3=>mk [(3,(.one (.sl 320128 0 t3.length)))] [(320128,(.data 2 (List.map zd t3) true none))] noG) ?_ ?_)))
 ·intro t3 H
  unfold Y8 at H
  refine aV (za eZ (za eZ (xQ (AW.ret ?_))))
  obtain rfl:=(Option.some.inj H)
  exact qK (RL.cons (RV.tmp eZ) (VO.sl bZ lm (zy fun _=>rfl)) RL.nil) (by decide)
 ·refine aV (za eC (xQ (AW.block (AW.iter (fun s5:((List ze)×Int)=>mk [(0,(.one (.d (.sl 2 (List.map zd a1))))),(3,(.one (.sl 320192 0 s5.1.length))),(4,(oI s5.2))] [(320192,(.data 2 (List.map zd s5.1) true none))] noG) H ((zg [] (kR rfl rfl (SL.cons (eR rfl) rfl (VWk.one (CWk.len (by first|(simp;done)|(simp;omega)|omega|(simp only[List.length_map];omega)))) (sR rfl rfl))) (blR rfl) (bkR rfl rfl rfl)).trans (ZS 448 320192 rfl rfl (nR rfl))) ?_))))
  intro kb6 s5 H
  unfold xc at H
  refine aS (aV (za rfl (za rfl (zX eZ (n:=a1.length) lm (qi rfl eZ (xQ ?_))))))
  rcases zA H with⟨h7,H⟩|⟨h7,H⟩
  ·refine zi eZ (dT h7) (AW.skip (TQ.qn (aS (AW.block (aR (za rfl (za rfl (za rfl (za rfl ?_)))))))))
   obtain⟨v8,h9,H⟩:=zk H
   refine qt rfl eZ h9 (zZ (es:=[(dI v8.Lo),(dI v8.Hi)]) eZ rfl ?_)
   obtain⟨v10,h11,H⟩:=zk H
   refine zD (u:=(.agg [(dI v10.Lo),(dI v10.Hi)])) eC Cl.fn (kY h11) (Ec eZ En) (Vc (VD.agg rfl) Vn) rfl ?_
   obtain⟨v12,h13,H⟩:=zk H
   exact Xr rfl rfl bZ rfl h13 (yO (t:=v12) (t':=v10) (es:=[(.int .i64 v10.Lo),(.int .i64 v10.Hi)]) eZ rfl rfl rfl bZ (yD h13) rfl rfl (zm (BQ.qn (TQ.qn (aR (za rfl (qg eZ eC (za eZ (zm (TQ.qn ⟨(s5.1.set (Int.toNat s5.2) v10,(IntKind.wrap .i64 (s5.2+1))),H,(zg [] (kR rfl rfl (SL.cons (eR rfl) rfl (VWk.one (CWk.len (by first|(simp;done)|(simp;omega)|omega|(simp only[List.length_map];omega)))) (sR rfl rfl))) (blR rfl) (bkR rfl rfl rfl))⟩))))))))))
  ·exact zh eZ (dF h7) (AW.exit (TQ.qe (TQ.qe (BQ.qe (TQ.qn ⟨s5.1,H,((zg [] (sR rfl rfl) (blR rfl) (bkR rfl rfl rfl)).trans (ZS 320192 320128 rfl rfl (nR rfl)))⟩)))))
theorem zgn{a1:zn}{r:zn}(H:XT a1=some r):Fn Tryz.prog 198 (lent [(.agg (zj a1))]) true [(.agg (zj r))]:=by
 refine zFX (fle rfl) ?_
 rw[zx]
 refine AW.weaken (zg [] (kv 0 (.agg [(dI a1.Key),(dI a1.Value)]) rfl rfl SL.nil) BL.nil BK.nil) ?_
 unfold XT at H
 unfold zB7
 refine aV (qY (n:=64) (m:=2) (cs:=[(dI a1.Key),(dI a1.Value)]) rfl eZ rfl rfl nZ (Zh (n:=128) (m:=2) rfl rfl (nR rfl) (xQ (aV (Zh (n:=192) (m:=2) rfl rfl (nR rfl) (xQ (aV (zf (m:=0) rfl rfl (zl (q:=0) (c:=(dI a1.Key)) eZ (bR rfl) rfl rfl (zf (m:=0) rfl rfl (zO (es:=[(dI a1.Key),(dI 0)]) eZ rfl rfl rfl bZ rfl (xQ (aV (zf (m:=1) rfl rfl (zl (q:=1) (c:=(dI a1.Value)) eZ (bR rfl) rfl rfl (zf (m:=1) rfl rfl (zO (es:=[(dI a1.Key),(dI a1.Value)]) eZ rfl rfl rfl bZ rfl (xQ (aV (zM (es:=[(dI a1.Key),(dI a1.Value)]) rfl bZ rfl (zO (es:=[(dI a1.Key),(dI a1.Value)]) rfl eZ rfl rfl (bR rfl) rfl (xQ (AW.ret ?_)))))))))))))))))))))))
 cases H
 exact qK (RL.cons (jg (es:=[(dI a1.Key),(dI a1.Value)]) rfl bZ rfl) (VO.agg (ds:=[(.int .i64 a1.Key),(.int .i64 a1.Value)]) rfl rfl) RL.nil) List.nodup_nil
theorem zfM{a1:(List zn)}{r:(List zn)}(H:Yt a1=some r):Fn Tryz.prog 85 (lent [(.sl 2 (List.map zj a1))]) true [(.sl 2 (List.map zj r))]:=by
 refine f85 (fle rfl) ?_
 rw[zx]
 refine AW.weaken (zg [] (kv 0 (.one (.d (.sl 2 (List.map zj a1)))) rfl rfl SL.nil) BL.nil BK.nil) ?_
 unfold Yt at H
 unfold i85
 refine aV (za eC (xQ (aV (za rfl (zX eZ (n:=a1.length) lm ?_)))))
 obtain⟨h2,H⟩:=z6 H
 refine zgV (f:=zj) (zv:=(zn.mk 0 0)) (own:=true) (m:=448) (q:=(Int.toNat (a1.length:Int))) rfl rfl eZ eZ h2.1 h2.2 rfl (by decide) rfl nZ (za eZ (xQ (zE (fun t3:(List zn)=>kg t3=some r) (fun t3=>mk [(3,(.one (.sl 320128 0 t3.length)))] [(320128,(.data 2 (List.map zj t3) true none))] noG) ?_ ?_)))
 ·intro t3 H
  unfold kg at H
  refine aV (za eZ (za eZ (xQ (AW.ret ?_))))
  obtain rfl:=(Option.some.inj H)
  exact qK (RL.cons (RV.tmp eZ) (VO.sl bZ lm (zy fun _=>rfl)) RL.nil) (by decide)
 ·refine aV (za eC (xQ (AW.block (AW.iter (fun s5:((List zn)×Int)=>mk [(0,(.one (.d (.sl 2 (List.map zj a1))))),(3,(.one (.sl 320192 0 s5.1.length))),(4,(oI s5.2))] [(320192,(.data 2 (List.map zj s5.1) true none))] noG) H ((zg [] (kR rfl rfl (SL.cons (eR rfl) rfl (VWk.one (CWk.len (by first|(simp;done)|(simp;omega)|omega|(simp only[List.length_map];omega)))) (sR rfl rfl))) (blR rfl) (bkR rfl rfl rfl)).trans (ZS 448 320192 rfl rfl (nR rfl))) ?_))))
  intro kb6 s5 H
  unfold xY at H
  refine aS (aV (za rfl (za rfl (zX eZ (n:=a1.length) lm (qi rfl eZ (xQ ?_))))))
  rcases zA H with⟨h7,H⟩|⟨h7,H⟩
  ·refine zi eZ (dT h7) (AW.skip (TQ.qn (aS (AW.block (aR (za rfl (za rfl (za rfl (za rfl ?_)))))))))
   obtain⟨v8,h9,H⟩:=zk H
   refine qt rfl eZ h9 (zZ (es:=[(dI v8.Key),(dI v8.Value)]) eZ rfl ?_)
   obtain⟨v10,h11,H⟩:=zk H
   refine zD (u:=(.agg [(dI v10.Key),(dI v10.Value)])) eC Cl.fn (zgn h11) (Ec eZ En) (Vc (VD.agg rfl) Vn) rfl ?_
   obtain⟨v12,h13,H⟩:=zk H
   exact Xr rfl rfl bZ rfl h13 (yO (t:=v12) (t':=v10) (es:=[(.int .i64 v10.Key),(.int .i64 v10.Value)]) eZ rfl rfl rfl bZ (yD h13) rfl rfl (zm (BQ.qn (TQ.qn (aR (za rfl (qg eZ eC (za eZ (zm (TQ.qn ⟨(s5.1.set (Int.toNat s5.2) v10,(IntKind.wrap .i64 (s5.2+1))),H,(zg [] (kR rfl rfl (SL.cons (eR rfl) rfl (VWk.one (CWk.len (by first|(simp;done)|(simp;omega)|omega|(simp only[List.length_map];omega)))) (sR rfl rfl))) (blR rfl) (bkR rfl rfl rfl))⟩))))))))))
  ·exact zh eZ (dF h7) (AW.exit (TQ.qe (TQ.qe (BQ.qe (TQ.qn ⟨s5.1,H,((zg [] (sR rfl rfl) (blR rfl) (bkR rfl rfl rfl)).trans (ZS 320192 320128 rfl rfl (nR rfl)))⟩)))))
theorem zgm{a1:zL}{r:zL}(H:XX a1=some r):Fn Tryz.prog 199 (lent [(.agg (zp a1))]) true [(.agg (zp r))]:=by
 refine zGs (fle rfl) ?_
 rw[zx]
 refine AW.weaken (zg [] (kv 0 (.agg (qj a1)) rfl rfl SL.nil) BL.nil BK.nil) ?_
 unfold XX at H
 unfold zDP
 refine aV (qY (n:=64) (m:=4) (cs:=(qj a1)) rfl eZ rfl rfl nZ (Zh (n:=128) (m:=4) rfl rfl (nR rfl) (xQ (aV (Zh (n:=192) (m:=4) rfl rfl (nR rfl) (xQ (aV (zf (m:=0) rfl rfl (zl (q:=0) (c:=(dI a1.Tx)) eZ (bR rfl) rfl rfl (zf (m:=0) rfl rfl (zO (es:=[(dI a1.Tx),(dI 0),(dI 0),(dI 0)]) eZ rfl rfl rfl bZ rfl (xQ (aV (zf (m:=1) rfl rfl (zl (q:=1) (c:=(dI a1.Lo)) eZ (bR rfl) rfl rfl (zf (m:=1) rfl rfl (zO (es:=[(dI a1.Tx),(dI a1.Lo),(dI 0),(dI 0)]) eZ rfl rfl rfl bZ rfl (xQ (aV (zf (m:=2) rfl rfl (zl (q:=2) (c:=(dI a1.Hi)) eZ (bR rfl) rfl rfl (zf (m:=2) rfl rfl (zO (es:=[(dI a1.Tx),(dI a1.Lo),(dI a1.Hi),(dI 0)]) eZ rfl rfl rfl bZ rfl (xQ (aV (zf (m:=3) rfl rfl (zl (q:=3) (c:=(dI a1.Mode)) eZ (bR rfl) rfl rfl (zf (m:=3) rfl rfl ?_))))))))))))))))))))))))))))
 refine zO (es:=(qj a1)) eZ rfl rfl rfl bZ rfl (xQ (AW.weaken (zg [64] (kr 3 rfl rfl (kr 2 rfl rfl SL.nil)) (blR rfl) (BK.cons (n:=192) rfl bZ rfl rfl (BK.cons (n:=128) rfl (bR rfl) rfl rfl BK.nil))) (aV (zM (es:=(qj a1)) eZ bZ rfl (zO (es:=(qj a1)) rfl eZ rfl rfl (bR rfl) rfl (xQ (AW.ret ?_)))))))
 cases H
 exact qK (RL.cons (jg (es:=(qj a1)) rfl bZ rfl) (VO.agg (ds:=[(.int .i64 a1.Tx),(.int .i64 a1.Lo),(.int .i64 a1.Hi),(.int .i64 a1.Mode)]) rfl rfl) RL.nil) List.nodup_nil
theorem zfZ{a1:(List zL)}{r:(List zL)}(H:Yq a1=some r):Fn Tryz.prog 86 (lent [(.sl 4 (List.map zp a1))]) true [(.sl 4 (List.map zp r))]:=by
 refine f86 (fle rfl) ?_
 rw[zx]
 refine AW.weaken (zg [] (kv 0 (.one (.d (.sl 4 (List.map zp a1)))) rfl rfl SL.nil) BL.nil BK.nil) ?_
 unfold Yq at H
 unfold i86
 refine aV (za eC (xQ (aV (za rfl (zX eZ (n:=a1.length) lm ?_)))))
 obtain⟨h2,H⟩:=z6 H
 refine zgV (f:=zp) (zv:=(zL.mk 0 0 0 0)) (own:=true) (m:=448) (q:=(Int.toNat (a1.length:Int))) rfl rfl eZ eZ h2.1 h2.2 rfl (by decide) rfl nZ (za eZ (xQ (zE (fun t3:(List zL)=>ke t3=some r) (fun t3=>mk [(3,(.one (.sl 320128 0 t3.length)))] [(320128,(.data 4 (List.map zp t3) true none))] noG) ?_ ?_)))
 ·intro t3 H
  unfold ke at H
  refine aV (za eZ (za eZ (xQ (AW.ret ?_))))
  obtain rfl:=(Option.some.inj H)
  exact qK (RL.cons (RV.tmp eZ) (VO.sl bZ lm (zy fun _=>rfl)) RL.nil) (by decide)
 ·refine aV (za eC (xQ (AW.block (AW.iter (fun s5:((List zL)×Int)=>mk [(0,(.one (.d (.sl 4 (List.map zp a1))))),(3,(.one (.sl 320192 0 s5.1.length))),(4,(oI s5.2))] [(320192,(.data 4 (List.map zp s5.1) true none))] noG) H ((zg [] (kR rfl rfl (SL.cons (eR rfl) rfl (VWk.one (CWk.len (by first|(simp;done)|(simp;omega)|omega|(simp only[List.length_map];omega)))) (sR rfl rfl))) (blR rfl) (bkR rfl rfl rfl)).trans (ZS 448 320192 rfl rfl (nR rfl))) ?_))))
  intro kb6 s5 H
  unfold x9 at H
  refine aS (aV (za rfl (za rfl (zX eZ (n:=a1.length) lm (qi rfl eZ (xQ ?_))))))
  rcases zA H with⟨h7,H⟩|⟨h7,H⟩
  ·refine zi eZ (dT h7) (AW.skip (TQ.qn (aS (AW.block (aR (za rfl (za rfl (za rfl (za rfl ?_)))))))))
   obtain⟨v8,h9,H⟩:=zk H
   refine qt rfl eZ h9 (zZ (es:=(qj v8)) eZ rfl ?_)
   obtain⟨v10,h11,H⟩:=zk H
   refine zD (u:=(.agg (qj v10))) eC Cl.fn (zgm h11) (Ec eZ En) (Vc (VD.agg rfl) Vn) rfl ?_
   obtain⟨v12,h13,H⟩:=zk H
   exact Xr rfl rfl bZ rfl h13 (yO (t:=v12) (t':=v10) (es:=[(.int .i64 v10.Tx),(.int .i64 v10.Lo),(.int .i64 v10.Hi),(.int .i64 v10.Mode)]) eZ rfl rfl rfl bZ (yD h13) rfl rfl (zm (BQ.qn (TQ.qn (aR (za rfl (qg eZ eC (za eZ (zm (TQ.qn ⟨(s5.1.set (Int.toNat s5.2) v10,(IntKind.wrap .i64 (s5.2+1))),H,(zg [] (kR rfl rfl (SL.cons (eR rfl) rfl (VWk.one (CWk.len (by first|(simp;done)|(simp;omega)|omega|(simp only[List.length_map];omega)))) (sR rfl rfl))) (blR rfl) (bkR rfl rfl rfl))⟩))))))))))
  ·exact zh eZ (dF h7) (AW.exit (TQ.qe (TQ.qe (BQ.qe (TQ.qn ⟨s5.1,H,((zg [] (sR rfl rfl) (blR rfl) (bkR rfl rfl rfl)).trans (ZS 320192 320128 rfl rfl (nR rfl)))⟩)))))
theorem zeX{a1:zn}{r:zn}(H:k8 a1=some r):Fn Tryz.prog 344 (lent [(.agg (zj a1))]) true [(.agg (zj r))]:=by
 refine zHa (fle rfl) ?_
 rw[zx]
 refine AW.weaken (zg [] (kv 0 (.agg [(dI a1.Key),(dI a1.Value)]) rfl rfl SL.nil) BL.nil BK.nil) ?_
 unfold k8 at H
 unfold zCN
 refine aV (qY (n:=64) (m:=2) (cs:=[(dI a1.Key),(dI a1.Value)]) rfl eZ rfl rfl nZ (Zh (n:=128) (m:=2) rfl rfl (nR rfl) (xQ (aV (Zh (n:=192) (m:=2) rfl rfl (nR rfl) (xQ (aV (zf (m:=0) rfl rfl (zl (q:=0) (c:=(dI a1.Key)) eZ (bR rfl) rfl rfl (zf (m:=0) rfl rfl (zO (es:=[(dI a1.Key),(dI 0)]) eZ rfl rfl rfl bZ rfl (xQ (aV (zf (m:=1) rfl rfl (zl (q:=1) (c:=(dI a1.Value)) eZ (bR rfl) rfl rfl (zf (m:=1) rfl rfl (zO (es:=[(dI a1.Key),(dI a1.Value)]) eZ rfl rfl rfl bZ rfl (xQ (aV (zM (es:=[(dI a1.Key),(dI a1.Value)]) rfl bZ rfl (zO (es:=[(dI a1.Key),(dI a1.Value)]) rfl eZ rfl rfl (bR rfl) rfl (xQ (AW.ret ?_)))))))))))))))))))))))
 cases H
 exact qK (RL.cons (jg (es:=[(dI a1.Key),(dI a1.Value)]) rfl bZ rfl) (VO.agg (ds:=[(.int .i64 a1.Key),(.int .i64 a1.Value)]) rfl rfl) RL.nil) List.nodup_nil
theorem zeG{a1:(List zn)}{r:(List zn)}(H:Jp a1=some r):Fn Tryz.prog 283 (lent [(.sl 2 (List.map zj a1))]) true [(.sl 2 (List.map zj r))]:=by
 refine zHw (fle rfl) ?_
 rw[zx]
 refine AW.weaken (zg [] (kv 0 (.one (.d (.sl 2 (List.map zj a1)))) rfl rfl SL.nil) BL.nil BK.nil) ?_
 unfold Jp at H
 unfold zEG
 refine aV (za eC (xQ (aV (za rfl (zX eZ (n:=a1.length) lm ?_)))))
 obtain⟨h2,H⟩:=z6 H
 refine zgV (f:=zj) (zv:=(zn.mk 0 0)) (own:=true) (m:=448) (q:=(Int.toNat (a1.length:Int))) rfl rfl eZ eZ h2.1 h2.2 rfl (by decide) rfl nZ (za eZ (xQ (zE (fun t3:(List zn)=>YK t3=some r) (fun t3=>mk [(3,(.one (.sl 320128 0 t3.length)))] [(320128,(.data 2 (List.map zj t3) true none))] noG) ?_ ?_)))
 ·intro t3 H
  unfold YK at H
  refine aV (za eZ (za eZ (xQ (AW.ret ?_))))
  obtain rfl:=(Option.some.inj H)
  exact qK (RL.cons (RV.tmp eZ) (VO.sl bZ lm (zy fun _=>rfl)) RL.nil) (by decide)
 ·refine aV (za eC (xQ (AW.block (AW.iter (fun s5:((List zn)×Int)=>mk [(0,(.one (.d (.sl 2 (List.map zj a1))))),(3,(.one (.sl 320192 0 s5.1.length))),(4,(oI s5.2))] [(320192,(.data 2 (List.map zj s5.1) true none))] noG) H ((zg [] (kR rfl rfl (SL.cons (eR rfl) rfl (VWk.one (CWk.len (by first|(simp;done)|(simp;omega)|omega|(simp only[List.length_map];omega)))) (sR rfl rfl))) (blR rfl) (bkR rfl rfl rfl)).trans (ZS 448 320192 rfl rfl (nR rfl))) ?_))))
  intro kb6 s5 H
  unfold YO at H
  refine aS (aV (za rfl (za rfl (zX eZ (n:=a1.length) lm (qi rfl eZ (xQ ?_))))))
  rcases zA H with⟨h7,H⟩|⟨h7,H⟩
  ·refine zi eZ (dT h7) (AW.skip (TQ.qn (aS (AW.block (aR (za rfl (za rfl (za rfl (za rfl ?_)))))))))
   obtain⟨v8,h9,H⟩:=zk H
   refine qt rfl eZ h9 (zZ (es:=[(dI v8.Key),(dI v8.Value)]) eZ rfl ?_)
   obtain⟨v10,h11,H⟩:=zk H
   refine zD (u:=(.agg [(dI v10.Key),(dI v10.Value)])) eC Cl.fn (zeX h11) (Ec eZ En) (Vc (VD.agg rfl) Vn) rfl ?_
   obtain⟨v12,h13,H⟩:=zk H
   exact Xr rfl rfl bZ rfl h13 (yO (t:=v12) (t':=v10) (es:=[(.int .i64 v10.Key),(.int .i64 v10.Value)]) eZ rfl rfl rfl bZ (yD h13) rfl rfl (zm (BQ.qn (TQ.qn (aR (za rfl (qg eZ eC (za eZ (zm (TQ.qn ⟨(s5.1.set (Int.toNat s5.2) v10,(IntKind.wrap .i64 (s5.2+1))),H,(zg [] (kR rfl rfl (SL.cons (eR rfl) rfl (VWk.one (CWk.len (by first|(simp;done)|(simp;omega)|omega|(simp only[List.length_map];omega)))) (sR rfl rfl))) (blR rfl) (bkR rfl rfl rfl))⟩))))))))))
  ·exact zh eZ (dF h7) (AW.exit (TQ.qe (TQ.qe (BQ.qe (TQ.qn ⟨s5.1,H,((zg [] (sR rfl rfl) (blR rfl) (bkR rfl rfl rfl)).trans (ZS 320192 320128 rfl rfl (nR rfl)))⟩)))))
theorem zgh{a1:zN}{r:zN}(H:xw a1=some r):Fn Tryz.prog 200 (lent [(.agg (zB a1))]) true [(.agg (zB r))]:=by
 refine zGK (fle rfl) ?_
 rw[zx]
 refine AW.weaken (t:=mk [(0,(.agg (jQ a1)))] [] (lk [])) (zg [] (sR rfl rfl) BL.nil BK.nil) ?_
 unfold xw at H
 unfold zCL
 refine aV (qY (n:=64) (m:=2) (cs:=(jQ a1)) rfl eZ rfl rfl nZ (Zh (n:=128) (m:=2) rfl rfl (nR rfl) (xQ (aV (Zh (n:=192) (m:=2) rfl rfl (nR rfl) (xQ (aV (zf (m:=0) rfl rfl (zl (q:=0) (c:=(dI a1.Tx)) eZ (bR rfl) rfl rfl (zf (m:=0) rfl rfl (zO (es:=[(dI a1.Tx),.zs]) eZ rfl rfl rfl bZ rfl (xQ (aS (zW (zw (zf (m:=1) rfl rfl (zm (zw (zl (q:=1) (c:=(.d (.sl 2 (List.map zj a1.Writes)))) eZ (bR rfl) rfl rfl (zm (zw ?_)))))))))))))))))))))
 obtain⟨v2,h3,H⟩:=zk H
 refine ju (u:=(.one (.sl 576 0 v2.length))) (bs:=[(576,(.data 2 (List.map zj v2) true none))]) eC Cl.fn (zeG h3) (Ec eZ En) (Vc Vp Vn) (by simp[qZ,jC,qq,jn,qy]) rfl (fC (nR rfl) rfl (fC (nR rfl) rfl fN)) (zm (zw (zf (m:=1) rfl rfl (zm (zw (zO (es:=[(dI a1.Tx),(.sl 576 0 v2.length)]) eZ rfl rfl rfl (bR rfl) rfl (zm (z7 (xQ (aS (zW (zw (zM (es:=[(dI a1.Tx),(.sl 576 0 v2.length)]) rfl bZ rfl (zm (zw (zO (es:=[(dI a1.Tx),(.sl 576 0 v2.length)]) rfl eZ rfl rfl (bR rfl) rfl (zm (z7 (xQ (AW.ret ?_))))))))))))))))))))
 cases H
 exact qK (RL.cons (jg (es:=[(dI a1.Tx),(.sl 576 0 v2.length)]) rfl bZ rfl) (VO.aggs (VOs.cons (VO.flat rfl) (VOs.cons (VO.sl (bR rfl) lm (zy fun _=>rfl)) VOs.nil))) RL.nil) (by decide)
theorem zf4{a1:(List zN)}{r:(List zN)}(H:YC a1=some r):Fn Tryz.prog 87 (lent [(.sl 2 (List.map zB a1))]) true [(.sl 2 (List.map zB r))]:=by
 refine f87 (fle rfl) ?_
 rw[zx]
 refine AW.weaken (t:=mk [(0,(.one (.d (.sl 2 (List.map zB a1)))))] [] (lk [])) (zg [] (sR rfl rfl) BL.nil BK.nil) ?_
 unfold YC at H
 unfold i87
 refine aV (za eC (xQ (aS (zW (zw (za rfl (zm (zw (zX eZ (n:=a1.length) lm (zm ?_))))))))))
 obtain⟨h2,H⟩:=z6 H
 refine zxp (f:=zB) (zv:=(zN.mk 0 ([]:(List zn)))) (m:=448) (q:=(Int.toNat (a1.length:Int))) rfl eZ eZ h2.1 h2.2 rfl (by decide) rfl nZ (z7 (za eZ (xQ (zE (fun t3:(List zN)=>xW t3=some r) (fun t3=>mk [(3,(.one (.sl 320128 0 t3.length)))] [(320128,(.data 2 (List.map zB t3) true none))] (lk [])) ?_ ?_))))
 ·intro t3 H
  unfold xW at H
  refine aV (za eZ (za eZ (xQ (AW.ret ?_))))
  obtain rfl:=(Option.some.inj H)
  exact qK (RL.cons (RV.tmp eZ) (Qf bZ lm rfl) RL.nil) (by decide)
 ·refine aV (za eC (xQ (AW.block (AW.iter (fun s5:((List zN)×Int)=>mk [(0,(.one (.d (.sl 2 (List.map zB a1))))),(3,(.one (.sl 320192 0 s5.1.length))),(4,(oI s5.2))] [(320192,(.data 2 (List.map zB s5.1) true none))] (lk [])) H ((zI [] (kR rfl rfl (SL.cons (eR rfl) rfl (VWk.one (CWk.len (by first|(simp;done)|(simp;omega)|omega|(simp only[List.length_map];omega)))) (sR rfl rfl))) (blR rfl) (bkR rfl rfl rfl) GK.nil).trans (Ky 448 320192 rfl rfl (nR rfl) GR.nil)) ?_))))
  intro kb6 s5 H
  unfold xT at H
  refine aS (aV (za rfl (za rfl (zX eZ (n:=a1.length) lm (qi rfl eZ (xQ ?_))))))
  rcases zA H with⟨h7,H⟩|⟨h7,H⟩
  ·refine zi eZ (dT h7) (AW.skip (TQ.qn (aS (AW.block (zW (zw (za rfl (zm (zw (za rfl (zm (zw (za rfl (zm (zw (za rfl (zm (zw ?_))))))))))))))))))
   obtain⟨v8,h9,H⟩:=zk H
   refine qt rfl eZ h9 (zm (zw (zZ (es:=(jQ v8)) eZ rfl (zm (zw ?_)))))
   obtain⟨v10,h11,H⟩:=zk H
   refine ju (u:=(.agg [(dI v10.Tx),(.sl 1281 0 v10.Writes.length)])) (bs:=[(1281,(.data 2 (List.map zj v10.Writes) true none))]) eC Cl.fn (zgh h11) (Ec eZ En) (Vc (VD.agg rfl) Vn) (by simp[qZ,jC,qq,jn,qy]) rfl (fC (nR rfl) rfl (fC (nR rfl) rfl fN)) (zm (zw ?_))
   obtain⟨v12,h13,H⟩:=zk H
   exact Xr rfl rfl (bR rfl) rfl h13 (zm (ziM (f:=zB) (t:=v12) (t':=v10) (ds:=[(.int .i64 v10.Tx),(.sl 2 (List.map zj v10.Writes))]) (ns:=[1281]) eZ rfl rfl rfl (bR rfl) (yD h13) (VOs.cons (VO.flat rfl) (VOs.cons (VO.sl bZ lm (zy fun _=>rfl)) VOs.nil)) rfl rfl (erL.cons (v':=(.one (.ptr (.nm 320192 (Int.toNat s5.2) 0)))) rfl (erL.cons (v':=(.agg [(dI v10.Tx),.any])) rfl (erL.cons (v':=(.agg (jQ v8))) rfl (erL.cons (v':=(.one (.ptr (.bd (zB v8) 0)))) rfl (erL.cons (v':=(oI s5.2)) rfl (erL.cons (v':=(.one (.d (.sl 2 (List.map zB a1))))) rfl (erL.cons (v':=(oI s5.2)) rfl (erL.cons (v':=(.one (.sl 320192 0 s5.1.length))) rfl (erL.cons (v':=(oB (decide (s5.2 < (a1.length:Int))))) rfl (erL.cons (v':=(oI (a1.length:Int))) rfl (erL.cons (v':=(.one (.d (.sl 2 (List.map zB a1))))) rfl (erL.cons (v':=(oI s5.2)) rfl (erL.cons (v':=(.one (.d (.sl 2 (List.map zB a1))))) rfl (erL.cons (v':=(.one (.sl 320192 0 s5.1.length))) rfl (erL.cons (v':=(oI s5.2)) rfl erL.nil))))))))))))))) (erH.drop rfl (erH.cons (v':=(.data 2 (List.map zB s5.1) true none)) rfl rfl erH.nil)) erL.nil (z7 (zm (BQ.qn (TQ.qn (aR (za rfl (qg eZ eC (za eZ (zm (TQ.qn ⟨(s5.1.set (Int.toNat s5.2) v10,(IntKind.wrap .i64 (s5.2+1))),H,(zI [] (kR rfl rfl (SL.cons (eR rfl) rfl (VWk.one (CWk.len (by first|(simp;done)|(simp;omega)|omega|(simp only[List.length_map];omega)))) (sR rfl rfl))) (blR rfl) (bkR rfl rfl rfl) GK.nil)⟩))))))))))))
  ·exact zh eZ (dF h7) (AW.exit (TQ.qe (TQ.qe (BQ.qe (TQ.qn ⟨s5.1,H,((zI [] (sR rfl rfl) (blR rfl) (bkR rfl rfl rfl) GK.nil).trans (Ky 320192 320128 rfl rfl (nR rfl) GR.nil))⟩)))))
theorem zcv{a1:(List Int)}{r:(List Int)}(H:Jy a1=some r):Fn Tryz.prog 88 (lent [(.sl 1 (List.map zt a1))]) true [(.sl 1 (List.map zt r))]:=by
 refine f88 (fle rfl) ?_
 rw[zx]
 refine AW.weaken (zg [] (kv 0 (.one (.d (.sl 1 (List.map zt a1)))) rfl rfl SL.nil) BL.nil BK.nil) ?_
 unfold Jy at H
 unfold i88
 refine aV (za eC (xQ (aV (za rfl (zX eZ (n:=a1.length) lm ?_)))))
 obtain⟨h2,H⟩:=z6 H
 refine zgV (f:=zt) (zv:=0) (own:=true) (m:=448) (q:=(Int.toNat (a1.length:Int))) rfl rfl eZ eZ h2.1 h2.2 rfl (by decide) rfl nZ (za eZ (xQ (zE (fun t3:(List Int)=>Xi t3=some r) (fun t3=>mk [(3,(.one (.sl 320128 0 t3.length)))] [(320128,(.data 1 (List.map zt t3) true none))] noG) ?_ ?_)))
 ·intro t3 H
  unfold Xi at H
  refine aV (za eZ (za eZ (xQ (AW.ret ?_))))
  obtain rfl:=(Option.some.inj H)
  exact qK (RL.cons (RV.tmp eZ) (VO.sl bZ lm (zy fun _=>rfl)) RL.nil) (by decide)
 ·refine aV (za eC (xQ (AW.block (AW.iter (fun s5:((List Int)×Int)=>mk [(0,(.one (.d (.sl 1 (List.map zt a1))))),(3,(.one (.sl 320192 0 s5.1.length))),(4,(oI s5.2))] [(320192,(.data 1 (List.map zt s5.1) true none))] noG) H ((zg [] (kR rfl rfl (SL.cons (eR rfl) rfl (VWk.one (CWk.len (by first|(simp;done)|(simp;omega)|omega|(simp only[List.length_map];omega)))) (sR rfl rfl))) (blR rfl) (bkR rfl rfl rfl)).trans (ZS 448 320192 rfl rfl (nR rfl))) ?_))))
  intro kb6 s5 H
  unfold kP at H
  refine aS (aV (za rfl (za rfl (zX eZ (n:=a1.length) lm (qi rfl eZ (xQ ?_))))))
  rcases zA H with⟨h7,H⟩|⟨h7,H⟩
  ·refine zi eZ (dT h7) (AW.skip (TQ.qn (aS (AW.block (aR (za rfl (za rfl (za rfl (za rfl ?_)))))))))
   obtain⟨v8,h9,H⟩:=zk H
   refine qt rfl eZ h9 (zY (e:=(.int .i64 v8)) eZ rfl ?_)
   obtain⟨v10,h11,H⟩:=zk H
   exact Xr rfl rfl bZ rfl h11 (yO (t:=v10) (t':=v8) (es:=[(.int .i64 v8)]) eZ rfl rfl rfl bZ (yD h11) rfl rfl (zm (BQ.qn (TQ.qn (aR (za rfl (qg eZ eC (za eZ (zm (TQ.qn ⟨(s5.1.set (Int.toNat s5.2) v8,(IntKind.wrap .i64 (s5.2+1))),H,(zg [] (kR rfl rfl (SL.cons (eR rfl) rfl (VWk.one (CWk.len (by first|(simp;done)|(simp;omega)|omega|(simp only[List.length_map];omega)))) (sR rfl rfl))) (blR rfl) (bkR rfl rfl rfl))⟩))))))))))
  ·exact zh eZ (dF h7) (AW.exit (TQ.qe (TQ.qe (BQ.qe (TQ.qn ⟨s5.1,H,((zg [] (sR rfl rfl) (blR rfl) (bkR rfl rfl rfl)).trans (ZS 320192 320128 rfl rfl (nR rfl)))⟩)))))
theorem kK{a1:zo}{r:zo}(H:yQ a1=some r):Fn Tryz.prog 20 (lent [(.agg (zR a1))]) true [(.agg (zR r))]:=by
 refine f20 (fle rfl) ?_
 rw[zx]
 refine AW.weaken (t:=mk [(0,(.agg (zF a1)))] [] (lk [])) (zg [] (sR rfl rfl) BL.nil BK.nil) ?_
 unfold yQ at H
 unfold i20
 refine aV (qY (n:=64) (m:=9) (cs:=(zF a1)) rfl eZ rfl rfl nZ (Zh (n:=128) (m:=9) rfl rfl (nR rfl) (xQ (aV (Zh (n:=192) (m:=9) rfl rfl (nR rfl) (xQ (aV (zf (m:=0) rfl rfl (zl (q:=0) (c:=(dI a1.Me)) eZ (bR rfl) rfl rfl (zf (m:=0) rfl rfl (zO (es:=[(dI a1.Me),.zs,.zs,.zs,.zs,.zs,.zs,.zs,(dI 0)]) eZ rfl rfl rfl bZ rfl (xQ (aS (zW (zw (zf (m:=1) rfl rfl (zm (zw (zl (q:=1) (c:=(.d (.sl 2 (List.map zd a1.Own)))) eZ (bR rfl) rfl rfl (zm (zw ?_)))))))))))))))))))))
 obtain⟨v2,h3,H⟩:=zk H
 refine ju (u:=(.one (.sl 576 0 v2.length))) (bs:=[(576,(.data 2 (List.map zd v2) true none))]) eC Cl.fn (zbb h3) (Ec eZ En) (Vc Vp Vn) (by simp[qZ,jC,qq,jn,qy]) rfl (fC (nR rfl) rfl (fC (nR rfl) rfl fN)) (zm (zw (zf (m:=1) rfl rfl (zm (zw (zO (es:=[(dI a1.Me),(.sl 576 0 v2.length),.zs,.zs,.zs,.zs,.zs,.zs,(dI 0)]) eZ rfl rfl rfl (bR rfl) rfl (zm (z7 (xQ (aS (zW (zw (zf (m:=2) rfl rfl (zm (zw (zl (q:=2) (c:=(.d (.sl 2 (List.map zd a1.Frozen)))) eZ (bR rfl) rfl rfl (zm (zw ?_))))))))))))))))))
 obtain⟨v4,h5,H⟩:=zk H
 refine ju (u:=(.one (.sl 832 0 v4.length))) (bs:=[(832,(.data 2 (List.map zd v4) true none))]) eC Cl.fn (zbb h5) (Ec eZ En) (Vc Vp Vn) (by simp[qZ,jC,qq,jn,qy]) rfl (fC (nR rfl) rfl (fC (nR rfl) rfl fN)) (zm (zw (zf (m:=2) rfl rfl (zm (zw (zO (es:=[(dI a1.Me),(.sl 576 0 v2.length),(.sl 832 0 v4.length),.zs,.zs,.zs,.zs,.zs,(dI 0)]) eZ rfl rfl rfl (bR rfl) rfl (zm (z7 (xQ (aS (zW (zw (zf (m:=3) rfl rfl (zm (zw (zl (q:=3) (c:=(.d (.sl 2 (List.map zj a1.Cells)))) eZ (bR rfl) rfl rfl (zm (zw ?_))))))))))))))))))
 obtain⟨v6,h7,H⟩:=zk H
 refine ju (u:=(.one (.sl 1088 0 v6.length))) (bs:=[(1088,(.data 2 (List.map zj v6) true none))]) eC Cl.fn (zfM h7) (Ec eZ En) (Vc Vp Vn) (by simp[qZ,jC,qq,jn,qy]) rfl (fC (nR rfl) rfl (fC (nR rfl) rfl fN)) (zm (zw (zf (m:=3) rfl rfl (zm (zw (zO (es:=[(dI a1.Me),(.sl 576 0 v2.length),(.sl 832 0 v4.length),(.sl 1088 0 v6.length),.zs,.zs,.zs,.zs,(dI 0)]) eZ rfl rfl rfl (bR rfl) rfl (zm (z7 (xQ (AW.weaken (zI [] (kr 3 rfl rfl (kr 2 rfl rfl (kr 1 rfl rfl SL.nil))) (blR rfl) (BK.cons (n:=192) rfl bZ rfl rfl (BK.cons (n:=1088) rfl (bR rfl) rfl rfl (BK.cons (n:=832) rfl (bR rfl) rfl rfl (BK.cons (n:=576) rfl (bR rfl) rfl rfl (BK.cons (n:=128) rfl (bR rfl) rfl rfl (BK.cons (n:=64) rfl (bR rfl) rfl rfl BK.nil)))))) GK.nil) (aS (zW (zw (zf (m:=4) rfl rfl (zm (zw (zl (q:=4) (c:=(.d (.sl 4 (List.map zp a1.Locks)))) eZ (bR rfl) rfl rfl (zm (zw ?_)))))))))))))))))))
 obtain⟨v8,h9,H⟩:=zk H
 refine ju (u:=(.one (.sl 1344 0 v8.length))) (bs:=[(1344,(.data 4 (List.map zp v8) true none))]) eC Cl.fn (zfZ h9) (Ec eZ En) (Vc Vp Vn) (by simp[qZ,jC,qq,jn,qy]) rfl (fC (nR rfl) rfl (fC (nR rfl) rfl fN)) (zm (zw (zf (m:=4) rfl rfl (zm (zw (zO (es:=[(dI a1.Me),(.sl 576 0 v2.length),(.sl 832 0 v4.length),(.sl 1088 0 v6.length),(.sl 1344 0 v8.length),.zs,.zs,.zs,(dI 0)]) eZ rfl rfl rfl (bR rfl) rfl (zm (z7 (xQ (aS (zW (zw (zf (m:=5) rfl rfl (zm (zw (zl (q:=5) (c:=(.d (.sl 2 (List.map zB a1.Helds)))) eZ (bR rfl) rfl rfl (zm (zw ?_))))))))))))))))))
 obtain⟨v10,h11,H⟩:=zk H
 refine ju (u:=(.one (.sl 1600 0 v10.length))) (bs:=[(1600,(.data 2 (List.map zB v10) true none))]) eC Cl.fn (zf4 h11) (Ec eZ En) (Vc Vp Vn) (by simp[qZ,jC,qq,jn,qy]) rfl (fC (nR rfl) rfl (fC (nR rfl) rfl fN)) (zm (zw (zf (m:=5) rfl rfl (zm (zw (zO (es:=[(dI a1.Me),(.sl 576 0 v2.length),(.sl 832 0 v4.length),(.sl 1088 0 v6.length),(.sl 1344 0 v8.length),(.sl 1600 0 v10.length),.zs,.zs,(dI 0)]) eZ rfl rfl rfl (bR rfl) rfl (zm (z7 (xQ (aS (zW (zw (zf (m:=6) rfl rfl (zm (zw (zl (q:=6) (c:=(.d (.sl 1 (List.map zt a1.Wounded)))) eZ (bR rfl) rfl rfl (zm (zw ?_))))))))))))))))))
 obtain⟨v12,h13,H⟩:=zk H
 refine ju (u:=(.one (.sl 1856 0 v12.length))) (bs:=[(1856,(.data 1 (List.map zt v12) true none))]) eC Cl.fn (zcv h13) (Ec eZ En) (Vc Vp Vn) (by simp[qZ,jC,qq,jn,qy]) rfl (fC (nR rfl) rfl (fC (nR rfl) rfl fN)) (zm (zw (zf (m:=6) rfl rfl (zm (zw (zO (es:=[(dI a1.Me),(.sl 576 0 v2.length),(.sl 832 0 v4.length),(.sl 1088 0 v6.length),(.sl 1344 0 v8.length),(.sl 1600 0 v10.length),(.sl 1856 0 v12.length),.zs,(dI 0)]) eZ rfl rfl rfl (bR rfl) rfl (zm (z7 (xQ (aS (zW (zw (zf (m:=7) rfl rfl (zm (zw (zl (q:=7) (c:=(.d (.sl 1 (List.map zt a1.Ended)))) eZ (bR rfl) rfl rfl (zm (zw ?_))))))))))))))))))
 obtain⟨v14,h15,H⟩:=zk H
 refine ju (u:=(.one (.sl 2112 0 v14.length))) (bs:=[(2112,(.data 1 (List.map zt v14) true none))]) eC Cl.fn (zcv h15) (Ec eZ En) (Vc Vp Vn) (by simp[qZ,jC,qq,jn,qy]) rfl (fC (nR rfl) rfl (fC (nR rfl) rfl fN)) (zm (zw (zf (m:=7) rfl rfl (zm (zw (zO (es:=[(dI a1.Me),(.sl 576 0 v2.length),(.sl 832 0 v4.length),(.sl 1088 0 v6.length),(.sl 1344 0 v8.length),(.sl 1600 0 v10.length),(.sl 1856 0 v12.length),(.sl 2112 0 v14.length),(dI 0)]) eZ rfl rfl rfl (bR rfl) rfl (zm (z7 (xQ (AW.weaken (zI [] (kr 3 rfl rfl (kr 2 rfl rfl (kr 1 rfl rfl SL.nil))) (blR rfl) (BK.cons (n:=192) rfl bZ rfl rfl (BK.cons (n:=2112) rfl (bR rfl) rfl rfl (BK.cons (n:=1856) rfl (bR rfl) rfl rfl (BK.cons (n:=1600) rfl (bR rfl) rfl rfl (BK.cons (n:=1344) rfl (bR rfl) rfl rfl (BK.cons (n:=1088) rfl (bR rfl) rfl rfl (BK.cons (n:=832) rfl (bR rfl) rfl rfl (BK.cons (n:=576) rfl (bR rfl) rfl rfl (BK.cons (n:=128) rfl (bR rfl) rfl rfl (BK.cons (n:=64) rfl (bR rfl) rfl rfl BK.nil)))))))))) GK.nil) (aV (zf (m:=8) rfl rfl (zl (q:=8) (c:=(dI a1.Rank)) eZ (bR rfl) rfl rfl (zf (m:=8) rfl rfl (zO (es:=[(dI a1.Me),(.sl 576 0 v2.length),(.sl 832 0 v4.length),(.sl 1088 0 v6.length),(.sl 1344 0 v8.length),(.sl 1600 0 v10.length),(.sl 1856 0 v12.length),(.sl 2112 0 v14.length),(dI a1.Rank)]) eZ rfl rfl rfl bZ rfl (xQ (aS (zW (zw (zM (es:=[(dI a1.Me),(.sl 576 0 v2.length),(.sl 832 0 v4.length),(.sl 1088 0 v6.length),(.sl 1344 0 v8.length),(.sl 1600 0 v10.length),(.sl 1856 0 v12.length),(.sl 2112 0 v14.length),(dI a1.Rank)]) rfl bZ rfl (zm (zw (zO (es:=[(dI a1.Me),(.sl 576 0 v2.length),(.sl 832 0 v4.length),(.sl 1088 0 v6.length),(.sl 1344 0 v8.length),(.sl 1600 0 v10.length),(.sl 1856 0 v12.length),(.sl 2112 0 v14.length),(dI a1.Rank)]) rfl eZ rfl rfl (bR rfl) rfl (zm (z7 (xQ (AW.ret ?_)))))))))))))))))))))))))))
 cases H
 exact qK (RL.cons (jg (es:=[(dI a1.Me),(.sl 576 0 v2.length),(.sl 832 0 v4.length),(.sl 1088 0 v6.length),(.sl 1344 0 v8.length),(.sl 1600 0 v10.length),(.sl 1856 0 v12.length),(.sl 2112 0 v14.length),(dI a1.Rank)]) rfl bZ rfl) (VO.aggs (VOs.cons (VO.flat rfl) (VOs.cons (VO.sl (bR rfl) lm (zy fun _=>rfl)) (VOs.cons (VO.sl (bR rfl) lm (zy fun _=>rfl)) (VOs.cons (VO.sl (bR rfl) lm (zy fun _=>rfl)) (VOs.cons (VO.sl (bR rfl) lm (zy fun _=>rfl)) (VOs.cons (Qf (bR rfl) lm rfl) (VOs.cons (VO.sl (bR rfl) lm (zy fun _=>rfl)) (VOs.cons (VO.sl (bR rfl) lm (zy fun _=>rfl)) (VOs.cons (VO.flat rfl) VOs.nil)))))))))) RL.nil) (by decide)
theorem QU{a1:Int}{a2:Int}{a3:Int}{r:Bool}(H:yz a1 a2 a3=some r):Fn Tryz.prog 168 (lent [(.int .i64 a1),(.int .i64 a2),(.int .i64 a3)]) true [(.bool r)]:=by
 refine zHu (fle rfl) ?_
 rw[zx]
 refine AW.weaken (zg [] (kv 0 (oI a1) rfl rfl (kv 1 (oI a2) rfl rfl (kv 2 (oI a3) rfl rfl SL.nil))) BL.nil BK.nil) ?_
 unfold yz at H
 unfold zCE
 refine aV (za eC (xQ (aV (za rfl (za rfl (XA rfl eZ (za eZ ?_)))))))
 rcases zA H with⟨h4,H⟩|⟨h4,H⟩
 ·refine gDo eZ (dT h4) (za rfl (gDo rfl (dT h4) (za rfl (gDo rfl (dT h4) (zbj rfl eZ (zC rfl (dT h4) eZ (za eZ (xQ (AW.ret ?_)))))))))
  cases H
  exact eE rfl rfl
 ·refine zb eZ (dF h4) rfl (zb rfl (dF h4) rfl (zb rfl (dF h4) rfl (zJ rfl (dF h4) eC (za eZ (xQ (AW.ret ?_))))))
  cases H
  exact eE rfl rfl
theorem jG{a1:ze}{r:Bool}(H:qL a1=some r):Fn Tryz.prog 133 (lent [(.agg (zd a1))]) true [(.bool r)]:=by
 refine zF9 (fle rfl) ?_
 rw[zx]
 refine AW.weaken (zg [] (kv 0 (.agg [(dI a1.Lo),(dI a1.Hi)]) rfl rfl SL.nil) BL.nil BK.nil) ?_
 unfold qL at H
 unfold zzw
 refine aV (qY (n:=64) (m:=2) (cs:=[(dI a1.Lo),(dI a1.Hi)]) rfl eZ rfl rfl nZ (za eC (xQ (aV (zf (m:=0) rfl rfl (zl (q:=0) (c:=(dI a1.Lo)) eZ bZ rfl rfl (XA eZ eC (za eZ ?_))))))))
 rcases zA H with⟨h2,H⟩|⟨h2,H⟩
 ·refine gDo eZ (dT h2) (zf (m:=0) rfl rfl (gDo rfl (dT h2) (zl (q:=0) (c:=(dI a1.Lo)) eZ bZ rfl rfl (gDo rfl (dT h2) (zf (m:=1) rfl rfl (gDo rfl (dT h2) (zl (q:=1) (c:=(dI a1.Hi)) eZ bZ rfl rfl (gDo rfl (dT h2) (qi rfl eZ (zC rfl (dT h2) eZ (za eZ ?_)))))))))))
  rcases zA H with⟨h3,H⟩|⟨h3,H⟩
  ·refine gDo eZ (dT h3) (zf (m:=1) rfl rfl (gDo rfl (dT h3) (zl (q:=1) (c:=(dI a1.Hi)) eZ bZ rfl rfl (gDo rfl (dT h3) (zbj eZ eC (zC rfl (dT h3) eZ (za eZ (xQ (AW.weaken (zg [64] (kr 2 rfl rfl SL.nil) (blR rfl) BK.nil) (AW.ret ?_))))))))))
   cases H
   exact eE rfl rfl
  ·refine zb eZ (dF h3) rfl (zb rfl (dF h3) rfl (zb rfl (dF h3) rfl (zJ rfl (dF h3) eC (za eZ (xQ (AW.weaken (zg [64] (kr 2 rfl rfl SL.nil) (blR rfl) BK.nil) (AW.ret ?_)))))))
   cases H
   exact eE rfl rfl
 ·refine zb eZ (dF h2) rfl (zb rfl (dF h2) rfl (zb rfl (dF h2) rfl (zb rfl (dF h2) rfl (zb rfl (dF h2) rfl (zJ rfl (dF h2) eC (za eZ (zb eZ rfl rfl (zb rfl rfl rfl (zb rfl rfl rfl (zJ rfl rfl eC (za eZ (xQ (AW.weaken (zg [64] (kr 2 rfl rfl SL.nil) (blR rfl) BK.nil) (AW.ret ?_))))))))))))))
  cases H
  exact eE rfl rfl
theorem kj{a1:(List ze)}{r:Bool}(H:yy a1=some r):Fn Tryz.prog 196 (lent [(.sl 2 (List.map zd a1))]) true [(.bool r)]:=by
 refine zHp (fle rfl) ?_
 rw[zx]
 refine AW.weaken (zg [] (kv 0 (.one (.d (.sl 2 (List.map zd a1)))) rfl rfl SL.nil) BL.nil BK.nil) ?_
 unfold yy at H
 unfold zzM
 refine aV (za eC (xQ (aS (aV (za rfl (zX eZ (n:=a1.length) lm (zaB eZ eC (xQ ?_))))))))
 rcases zA H with⟨h2,H⟩|⟨h2,H⟩
 ·refine zi eZ (dT h2) (aV (za eC (xQ (AW.ret (TQ.qr ?_)))))
  cases H
  exact eE rfl rfl
 ·refine zh eZ (dF h2) (AW.skip (TQ.qn (zE (fun t3:Unit=>XI t3=some r) (fun t3=>mk [] [] noG) ?_ ?_)))
  ·intro t3 H
   unfold XI at H
   refine aV (za eC (xQ (AW.ret ?_)))
   cases H
   exact eE rfl rfl
  ·refine aV (za eC (xQ (AW.block (AW.iter (fun s5:Int=>mk [(0,(.one (.d (.sl 2 (List.map zd a1))))),(3,(oI s5))] [] noG) H (zg [] (sR rfl rfl) BL.nil BK.nil) ?_))))
   intro kb6 s5 H
   unfold Y5 at H
   refine aS (aV (za rfl (za rfl (zX eZ (n:=a1.length) lm (qi rfl eZ (xQ ?_))))))
   rcases zA H with⟨h7,H⟩|⟨h7,H⟩
   ·refine zi eZ (dT h7) (AW.skip (TQ.qn (aS (AW.block (zE (fun t8:Bool=>(ZE kb6 s5) t8=some r) (fun t8=>mk [(0,(.one (.d (.sl 2 (List.map zd a1))))),(3,(oI s5)),(36,(oB t8))] [] noG) ?_ ?_)))))
    ·intro t8 H
     unfold ZE at H
     rcases zA H with⟨h10,H⟩|⟨h10,H⟩
     ·refine zi rfl h10 (aV (za eC (xQ (AW.ret (BQ.qr (TQ.qr (TQ.qr (BQ.qr (TQ.qr ?_)))))))))
      cases H
      exact eE rfl rfl
     ·exact zh rfl (nt h10) (AW.skip (BQ.qn (TQ.qn (aR (za rfl (qg eZ eC (za eZ (zm (TQ.qn ⟨(IntKind.wrap .i64 (s5+1)),H,(zg [] (sR rfl rfl) BL.nil BK.nil)⟩)))))))))
    ·refine AW.regd (za rfl (za rfl ?_))
     obtain⟨v11,h12,H⟩:=zk H
     refine qt rfl eZ h12 (zZ (es:=[(dI v11.Lo),(dI v11.Hi)]) eZ rfl ?_)
     obtain⟨v13,h14,H⟩:=zk H
     refine zD (u:=(oB v13)) eC Cl.fn (jG h14) (Ec eZ En) (Vc (VD.agg rfl) Vn) rfl (qI eZ (za eZ ?_))
     rcases zA H with⟨h15,H⟩|⟨h15,H⟩
     ·refine gDo eZ (cN h15) (za rfl (gDo rfl (cN h15) (zaB eZ eC (gDo rfl (cN h15) (za eZ ?_)))))
      rcases zA H with⟨h16,H⟩|⟨h16,H⟩
      ·refine gDo eZ (dT h16) (za rfl (gDo rfl (dT h16) (za rfl (gDo rfl (dT h16) ?_))))
       obtain⟨v17,h18,H⟩:=zk H
       refine qt rfl eZ h18 (gDo rfl (dT h16) (qa (m:=0) eZ rfl (gDo rfl (dT h16) (zY (e:=(.int .i64 v17.Lo)) eZ rfl (gDo rfl (dT h16) (za rfl (gDo rfl (dT h16) (za rfl (gDo rfl (dT h16) (zaF eZ eC (gDo rfl (dT h16) ?_)))))))))))
       obtain⟨v19,h20,H⟩:=zk H
       exact qt rfl eZ h20 (gDo rfl (dT h16) (qa (m:=1) eZ rfl (gDo rfl (dT h16) (zY (e:=(.int .i64 v19.Hi)) eZ rfl (gDo rfl (dT h16) (qi rfl eZ (gDo rfl (cN h15) (zC rfl (dT h16) eZ (zJ rfl (cN h15) eZ (zm (TQ.qn ⟨(decide (v17.Lo < v19.Hi)),H,(zg [] (sR rfl rfl) BL.nil BK.nil)⟩)))))))))))
      ·exact zb eZ (dF h16) rfl (zb rfl (dF h16) rfl (zb rfl (dF h16) rfl (zb rfl (dF h16) rfl (zb rfl (dF h16) rfl (zb rfl (dF h16) rfl (zb rfl (dF h16) rfl (zb rfl (dF h16) rfl (zb rfl (dF h16) rfl (zb rfl (dF h16) rfl (zb rfl (dF h16) rfl (zb rfl (dF h16) rfl (gDo rfl (cN h15) (zJ rfl (dF h16) eC (zJ rfl (cN h15) eZ (zm (TQ.qn ⟨false,H,(zg [] (sR rfl rfl) BL.nil BK.nil)⟩))))))))))))))))
     ·exact zb eZ (cN (nt h15)) rfl (zb rfl (cN (nt h15)) rfl (zb rfl (cN (nt h15)) rfl (zG eZ rfl (zG rfl rfl (zG rfl rfl (zG rfl rfl (zG rfl rfl (zG rfl rfl (zG rfl rfl (zG rfl rfl (zG rfl rfl (zG rfl rfl (zG rfl rfl (zG rfl rfl (zb rfl (cN (nt h15)) rfl (zC rfl (cN (nt h15)) eC (zm (TQ.qn ⟨true,H,(zg [] (sR rfl rfl) BL.nil BK.nil)⟩))))))))))))))))))
   ·exact zh eZ (dF h7) (AW.exit (TQ.qe (TQ.qe (BQ.qe (TQ.qn ⟨(),H,(zg [] SL.nil BL.nil BK.nil)⟩)))))
theorem zcn{a1:Int}{r:Bool}(H:JB a1=some r):Fn Tryz.prog 292 (lent [(.int .i64 a1)]) true [(.bool r)]:=by
 refine zFW (fle rfl) ?_
 rw[zx]
 refine AW.weaken (zg [] (kv 0 (oI a1) rfl rfl SL.nil) BL.nil BK.nil) ?_
 unfold JB at H
 unfold zEh
 refine aV (za eC (xQ (aV (za rfl ?_))))
 obtain⟨v2,h3,H⟩:=zk H
 refine zD (u:=(oB v2)) eC Cl.fn (QU h3) (Ec eZ (Ec eC (Ec eC En))) (Vc Vp (Vc Vp (Vc Vp Vn))) rfl (za eZ (xQ (AW.ret ?_)))
 cases H
 exact eE rfl rfl
theorem zfR{a1:Int}{r:Bool}(H:J4 a1=some r):Fn Tryz.prog 169 (lent [(.int .i64 a1)]) true [(.bool r)]:=by
 refine zF7 (fle rfl) ?_
 rw[zx]
 refine AW.weaken (zg [] (kv 0 (oI a1) rfl rfl SL.nil) BL.nil BK.nil) ?_
 unfold J4 at H
 unfold zD4
 refine aV (za eC (xQ (aV (za rfl ?_))))
 obtain⟨v2,h3,H⟩:=zk H
 refine zD (u:=(oB v2)) eC Cl.fn (QU h3) (Ec eZ (Ec eC (Ec eC En))) (Vc Vp (Vc Vp (Vc Vp Vn))) rfl (za eZ (xQ (AW.ret ?_)))
 cases H
 exact eE rfl rfl
theorem KO{a1:(List zn)}{r:Bool}(H:ZK a1=some r):Fn Tryz.prog 218 (lent [(.sl 2 (List.map zj a1))]) true [(.bool r)]:=by
 refine zG4 (fle rfl) ?_
 rw[zx]
 refine AW.weaken (zg [] (kv 0 (.one (.d (.sl 2 (List.map zj a1)))) rfl rfl SL.nil) BL.nil BK.nil) ?_
 unfold ZK at H
 unfold zD5
 refine aV (za eC (xQ (aS (aV (za rfl (zX eZ (n:=a1.length) lm (zaB eZ eC (xQ ?_))))))))
 rcases zA H with⟨h2,H⟩|⟨h2,H⟩
 ·refine zi eZ (dT h2) (aV (za eC (xQ (AW.ret (TQ.qr ?_)))))
  cases H
  exact eE rfl rfl
 ·refine zh eZ (dF h2) (AW.skip (TQ.qn (zE (fun t3:Unit=>Kb t3=some r) (fun t3=>mk [] [] noG) ?_ ?_)))
  ·intro t3 H
   unfold Kb at H
   refine aV (za eC (xQ (AW.ret ?_)))
   cases H
   exact eE rfl rfl
  ·refine aV (za eC (xQ (AW.block (AW.iter (fun s5:Int=>mk [(0,(.one (.d (.sl 2 (List.map zj a1))))),(3,(oI s5))] [] noG) H (zg [] (sR rfl rfl) BL.nil BK.nil) ?_))))
   intro kb6 s5 H
   unfold kl at H
   refine aS (aV (za rfl (za rfl (zX eZ (n:=a1.length) lm (qi rfl eZ (xQ ?_))))))
   rcases zA H with⟨h7,H⟩|⟨h7,H⟩
   ·refine zi eZ (dT h7) (AW.skip (TQ.qn (aS (AW.block (zE (fun t8:Bool=>(Zf kb6 s5) t8=some r) (fun t8=>mk [(0,(.one (.d (.sl 2 (List.map zj a1))))),(3,(oI s5)),(46,(oB t8))] [] noG) ?_ ?_)))))
    ·intro t8 H
     unfold Zf at H
     rcases zA H with⟨h10,H⟩|⟨h10,H⟩
     ·refine zi rfl h10 (aV (za eC (xQ (AW.ret (BQ.qr (TQ.qr (TQ.qr (BQ.qr (TQ.qr ?_)))))))))
      cases H
      exact eE rfl rfl
     ·exact zh rfl (nt h10) (AW.skip (BQ.qn (TQ.qn (aR (za rfl (qg eZ eC (za eZ (zm (TQ.qn ⟨(IntKind.wrap .i64 (s5+1)),H,(zg [] (sR rfl rfl) BL.nil BK.nil)⟩)))))))))
    ·refine AW.regd (za rfl (za rfl ?_))
     obtain⟨v11,h12,H⟩:=zk H
     refine qt rfl eZ h12 (qa (m:=0) eZ rfl (zY (e:=(.int .i64 v11.Key)) eZ rfl ?_))
     obtain⟨v13,h14,H⟩:=zk H
     refine zD (u:=(oB v13)) eC Cl.fn (zcn h14) (Ec eZ En) (Vc Vp Vn) rfl (qI eZ (za eZ ?_))
     rcases zA H with⟨h15,H⟩|⟨h15,H⟩
     ·refine gDo eZ (cN h15) (za rfl (gDo rfl (cN h15) (za rfl (gDo rfl (cN h15) ?_))))
      obtain⟨v16,h17,H⟩:=zk H
      refine qt rfl eZ h17 (gDo rfl (cN h15) (qa (m:=1) eZ rfl (gDo rfl (cN h15) (zY (e:=(.int .i64 v16.Value)) eZ rfl (gDo rfl (cN h15) ?_)))))
      obtain⟨v18,h19,H⟩:=zk H
      refine zD (u:=(oB v18)) eC Cl.fn (zfR h19) (Ec eZ En) (Vc Vp Vn) rfl (gDo rfl (cN h15) (qI eZ (zJ rfl (cN h15) eZ (za eZ ?_))))
      rcases zA H with⟨h20,H⟩|⟨h20,H⟩
      ·refine gDo eZ (cN h20) (za rfl (gDo rfl (cN h20) (zaB eZ eC (gDo rfl (cN h20) (za eZ ?_)))))
       rcases zA H with⟨h21,H⟩|⟨h21,H⟩
       ·refine gDo eZ (dT h21) (za rfl (gDo rfl (dT h21) (za rfl (gDo rfl (dT h21) (zaF eZ eC (gDo rfl (dT h21) ?_))))))
        obtain⟨v22,h23,H⟩:=zk H
        refine qt rfl eZ h23 (gDo rfl (dT h21) (qa (m:=0) eZ rfl (gDo rfl (dT h21) (zY (e:=(.int .i64 v22.Key)) eZ rfl (gDo rfl (dT h21) (za rfl (gDo rfl (dT h21) (za rfl (gDo rfl (dT h21) ?_)))))))))
        obtain⟨v24,h25,H⟩:=zk H
        exact qt rfl eZ h25 (gDo rfl (dT h21) (qa (m:=0) eZ rfl (gDo rfl (dT h21) (zY (e:=(.int .i64 v24.Key)) eZ rfl (gDo rfl (dT h21) (XA rfl eZ (gDo rfl (cN h20) (zC rfl (dT h21) eZ (zJ rfl (cN h20) eZ (zm (TQ.qn ⟨(decide (v24.Key≤v22.Key)),H,(zg [] (sR rfl rfl) BL.nil BK.nil)⟩)))))))))))
       ·exact zb eZ (dF h21) rfl (zb rfl (dF h21) rfl (zb rfl (dF h21) rfl (zb rfl (dF h21) rfl (zb rfl (dF h21) rfl (zb rfl (dF h21) rfl (zb rfl (dF h21) rfl (zb rfl (dF h21) rfl (zb rfl (dF h21) rfl (zb rfl (dF h21) rfl (zb rfl (dF h21) rfl (zb rfl (dF h21) rfl (gDo rfl (cN h20) (zJ rfl (dF h21) eC (zJ rfl (cN h20) eZ (zm (TQ.qn ⟨false,H,(zg [] (sR rfl rfl) BL.nil BK.nil)⟩))))))))))))))))
      ·exact zb eZ (cN (nt h20)) rfl (zb rfl (cN (nt h20)) rfl (zb rfl (cN (nt h20)) rfl (zG eZ rfl (zG rfl rfl (zG rfl rfl (zG rfl rfl (zG rfl rfl (zG rfl rfl (zG rfl rfl (zG rfl rfl (zG rfl rfl (zG rfl rfl (zG rfl rfl (zG rfl rfl (zb rfl (cN (nt h20)) rfl (zC rfl (cN (nt h20)) eC (zm (TQ.qn ⟨true,H,(zg [] (sR rfl rfl) BL.nil BK.nil)⟩))))))))))))))))))
     ·exact zb eZ (cN (nt h15)) rfl (zb rfl (cN (nt h15)) rfl (zb rfl (cN (nt h15)) rfl (zb rfl (cN (nt h15)) rfl (zb rfl (cN (nt h15)) rfl (zb rfl (cN (nt h15)) rfl (zb rfl (cN (nt h15)) rfl (zC rfl (cN (nt h15)) eC (za eZ (zb eZ rfl rfl (zb rfl rfl rfl (zb rfl rfl rfl (zG eZ rfl (zG rfl rfl (zG rfl rfl (zG rfl rfl (zG rfl rfl (zG rfl rfl (zG rfl rfl (zG rfl rfl (zG rfl rfl (zG rfl rfl (zG rfl rfl (zG rfl rfl (zb rfl rfl rfl (zC rfl rfl eC (zm (TQ.qn ⟨true,H,(zg [] (sR rfl rfl) BL.nil BK.nil)⟩)))))))))))))))))))))))))))
   ·exact zh eZ (dF h7) (AW.exit (TQ.qe (TQ.qe (BQ.qe (TQ.qn ⟨(),H,(zg [] SL.nil BL.nil BK.nil)⟩)))))
theorem zaT{a1:Int}{r:Bool}(H:Jf a1=some r):Fn Tryz.prog 116 (lent [(.int .i64 a1)]) true [(.bool r)]:=by
 refine zFZ (fle rfl) ?_
 rw[zx]
 refine AW.weaken (zg [] (kv 0 (oI a1) rfl rfl SL.nil) BL.nil BK.nil) ?_
 unfold Jf at H
 unfold zCK
 refine aV (za eC (xQ (aV (za rfl ?_))))
 obtain⟨v2,h3,H⟩:=zk H
 refine zD (u:=(oB v2)) eC Cl.fn (QU h3) (Ec eZ (Ec eC (Ec eC En))) (Vc Vp (Vc Vp (Vc Vp Vn))) rfl (za eZ (xQ (AW.ret ?_)))
 cases H
 exact eE rfl rfl
theorem ZX{a1:zL}{r:ze}(H:qT a1=some r):Fn Tryz.prog 108 (lent [(.agg (zp a1))]) true [(.agg (zd r))]:=by
 refine zGF (fle rfl) ?_
 rw[zx]
 refine AW.weaken (zg [] (kv 0 (.agg (qj a1)) rfl rfl SL.nil) BL.nil BK.nil) ?_
 unfold qT at H
 unfold zCA
 refine aV (qY (n:=64) (m:=4) (cs:=(qj a1)) rfl eZ rfl rfl nZ (Zh (n:=128) (m:=2) rfl rfl (nR rfl) (xQ (aV (zf (m:=1) rfl rfl (zl (q:=1) (c:=(dI a1.Lo)) eZ (bR rfl) rfl rfl (zf (m:=2) rfl rfl (zl (q:=2) (c:=(dI a1.Hi)) eZ (bR rfl) rfl rfl (Xv (cs:=[(dI a1.Lo),(dI a1.Hi)]) (jN rfl (jN eZ kD)) rfl (zO (es:=[(dI a1.Lo),(dI a1.Hi)]) rfl eZ rfl rfl bZ rfl (xQ (AW.ret ?_))))))))))))
 cases H
 exact qK (RL.cons (jg (es:=[(dI a1.Lo),(dI a1.Hi)]) rfl bZ rfl) (VO.agg (ds:=[(.int .i64 a1.Lo),(.int .i64 a1.Hi)]) rfl rfl) RL.nil) List.nodup_nil
theorem zfa{a1:Int}{r:Bool}(H:J0 a1=some r):Fn Tryz.prog 293 (lent [(.int .i64 a1)]) true [(.bool r)]:=by
 refine zF8 (fle rfl) ?_
 rw[zx]
 refine AW.weaken (zg [] (kv 0 (oI a1) rfl rfl SL.nil) BL.nil BK.nil) ?_
 unfold J0 at H
 unfold zFm
 refine aV (za eC (xQ (aV (za rfl (KG eZ eC (za eZ ?_))))))
 rcases zA H with⟨h2,H⟩|⟨h2,H⟩
 ·refine zb eZ (dT h2) rfl (zb rfl (dT h2) rfl (zC rfl (dT h2) eC (za eZ (xQ (AW.ret ?_)))))
  cases H
  exact eE rfl rfl
 ·refine gDo eZ (dF h2) (za rfl (gDo rfl (dF h2) (KG eZ eC (zJ rfl (dF h2) eZ (za eZ (xQ (AW.ret ?_)))))))
  cases H
  exact eE rfl rfl
theorem zg9{a1:Int}{a2:Int}{r:Int}(H:Xh a1 a2=some r):Fn Tryz.prog 159 (lent [(.int .i64 a1),(.int .i64 a2)]) true [(.int .i64 r)]:=by
 refine zGT (fle rfl) ?_
 rw[zx]
 refine AW.weaken (zg [] (kv 0 (oI a1) rfl rfl (kv 1 (oI a2) rfl rfl SL.nil)) BL.nil BK.nil) ?_
 unfold Xh at H
 unfold zAE
 refine aV (za eC (xQ (aS (aV (za rfl (za rfl (zaB rfl eZ (xQ ?_))))))))
 rcases zA H with⟨h3,H⟩|⟨h3,H⟩
 ·refine zi eZ (dT h3) (aV (za rfl (za eZ (xQ (AW.ret (TQ.qr ?_))))))
  cases H
  exact eE rfl rfl
 ·refine zh eZ (dF h3) (AW.skip (TQ.qn (aV (za rfl (za eZ (xQ (AW.ret ?_)))))))
  cases H
  exact eE rfl rfl
theorem zhn{a1:Int}{a2:Int}{r:Int}(H:kV a1 a2=some r):Fn Tryz.prog 214 (lent [(.int .i64 a1),(.int .i64 a2)]) true [(.int .i64 r)]:=by
 refine zHn (fle rfl) ?_
 rw[zx]
 refine AW.weaken (zg [] (kv 0 (oI a1) rfl rfl (kv 1 (oI a2) rfl rfl SL.nil)) BL.nil BK.nil) ?_
 unfold kV at H
 unfold zAe
 refine aV (za eC (xQ (aS (aV (za rfl (za rfl (qi rfl eZ (xQ ?_))))))))
 rcases zA H with⟨h3,H⟩|⟨h3,H⟩
 ·refine zi eZ (dT h3) (aV (za rfl (za eZ (xQ (AW.ret (TQ.qr ?_))))))
  cases H
  exact eE rfl rfl
 ·refine zh eZ (dF h3) (AW.skip (TQ.qn (aV (za rfl (za eZ (xQ (AW.ret ?_)))))))
  cases H
  exact eE rfl rfl
theorem XJ{a1:ze}{a2:ze}{r:(ze×Bool)}(H:yH a1 a2=some r):Fn Tryz.prog 107 (lent [(.agg (zd a1)),(.agg (zd a2))]) true [(.agg (zd r.1)),(.bool r.2)]:=by
 refine zG2 (fle rfl) ?_
 rw[zx]
 refine AW.weaken (zg [] (kv 0 (.agg [(dI a1.Lo),(dI a1.Hi)]) rfl rfl (kv 1 (.agg [(dI a2.Lo),(dI a2.Hi)]) rfl rfl SL.nil)) BL.nil BK.nil) ?_
 unfold yH at H
 unfold zFJ
 refine aV (qY (n:=128) (m:=2) (cs:=[(dI a1.Lo),(dI a1.Hi)]) rfl eZ rfl rfl nZ (qY (n:=192) (m:=2) (cs:=[(dI a2.Lo),(dI a2.Hi)]) rfl rfl rfl rfl (nR rfl) (Zh (n:=256) (m:=2) rfl rfl (nR rfl) (za eC (xQ (aS (AW.regd (zf (m:=0) rfl rfl (zl (q:=0) (c:=(dI a1.Lo)) eZ (hB rfl (bR rfl)) rfl rfl (zf (m:=0) rfl rfl (zl (q:=0) (c:=(dI a2.Lo)) eZ (hB rfl (bR rfl)) rfl rfl ?_)))))))))))
 obtain⟨v3,h4,H⟩:=zk H
 refine zD (u:=(oI v3)) eC Cl.fn (zg9 h4) (Ec rfl (Ec eZ En)) (Vc Vp (Vc Vp Vn)) rfl (zf (m:=1) rfl rfl (zl (q:=1) (c:=(dI a1.Hi)) eZ (hB rfl (bR rfl)) rfl rfl (zf (m:=1) rfl rfl (zl (q:=1) (c:=(dI a2.Hi)) eZ (hB rfl (bR rfl)) rfl rfl ?_))))
 obtain⟨v5,h6,H⟩:=zk H
 refine zD (u:=(oI v5)) eC Cl.fn (zhn h6) (Ec rfl (Ec eZ En)) (Vc Vp (Vc Vp Vn)) rfl (Xv (cs:=[(dI v3),(dI v5)]) (jN rfl (jN eZ kD)) rfl (Zh (n:=384) (m:=2) rfl rfl (hN (nR rfl)) (zO (es:=[(dI v3),(dI v5)]) eZ rfl rfl rfl bZ rfl (xQ (AW.weaken (zg [] (kr 6 rfl rfl (kr 4 rfl rfl (kr 3 rfl rfl (kr 2 rfl rfl SL.nil)))) (blR rfl) (BK.cons (n:=384) rfl bZ rfl rfl (BK.cons (n:=256) rfl (bR rfl) rfl rfl (BK.cons (n:=192) rfl (bR rfl) rfl rfl (BK.cons (n:=128) rfl (bR rfl) rfl rfl BK.nil))))) (aS (zE (fun t7:Bool=>(y4 v3 v5) t7=some r) (fun t7=>mk [(4,(.one (.ptr (.nm 256 0 0)))),(6,(.one (.ptr (.nm 384 0 0)))),(30,(oB t7))] [(256,(.vars 2 [(dI 0),(dI 0)])),(384,(.vars 2 [(dI v3),(dI v5)]))] noG) ?_ ?_)))))))
 ·intro t7 H
  unfold y4 at H
  rcases zA H with⟨h9,H⟩|⟨h9,H⟩
  ·refine zi rfl h9 (aV (Xv (cs:=[(dI 0),(dI 0)]) kD rfl (zO (es:=[(dI 0),(dI 0)]) rfl eZ rfl rfl bZ rfl (za eC (xQ (AW.ret (TQ.qr ?_)))))))
   cases H
   exact qK (RL.cons (jg (es:=[(dI 0),(dI 0)]) rfl bZ rfl) (VO.agg (ds:=[(.int .i64 0),(.int .i64 0)]) rfl rfl) (RL.cons (RV.tmp eZ) (VO.flat rfl) RL.nil)) List.nodup_nil
  ·refine zh rfl (nt h9) (AW.skip (TQ.qn (aV (zM (es:=[(dI v3),(dI v5)]) rfl (bR rfl) rfl (zO (es:=[(dI v3),(dI v5)]) rfl eZ rfl rfl bZ rfl (za eC (xQ (AW.ret ?_))))))))
   cases H
   exact qK (RL.cons (jg (es:=[(dI v3),(dI v5)]) rfl bZ rfl) (VO.agg (ds:=[(.int .i64 v3),(.int .i64 v5)]) rfl rfl) (RL.cons (RV.tmp eZ) (VO.flat rfl) RL.nil)) List.nodup_nil
 ·refine aR (zM (es:=[(dI a1.Lo),(dI a1.Hi)]) rfl (bR rfl) rfl ?_)
  obtain⟨v10,h11,H⟩:=zk H
  refine zD (u:=(oB v10)) eC Cl.fn (jG h11) (Ec eZ En) (Vc (VD.agg rfl) Vn) rfl (qI eZ (za eZ ?_))
  rcases zA H with⟨h12,H⟩|⟨h12,H⟩
  ·refine gDo eZ (cN h12) (zM (es:=[(dI a2.Lo),(dI a2.Hi)]) rfl (bR rfl) rfl (gDo rfl (cN h12) ?_))
   obtain⟨v13,h14,H⟩:=zk H
   refine zD (u:=(oB v13)) eC Cl.fn (jG h14) (Ec eZ En) (Vc (VD.agg rfl) Vn) rfl (gDo rfl (cN h12) (qI eZ (zJ rfl (cN h12) eZ (za eZ ?_))))
   rcases zA H with⟨h15,H⟩|⟨h15,H⟩
   ·refine gDo eZ (cN h15) (zM (es:=[(dI v3),(dI v5)]) rfl bZ rfl (gDo rfl (cN h15) ?_))
    obtain⟨v16,h17,H⟩:=zk H
    exact zD (u:=(oB v16)) eC Cl.fn (jG h17) (Ec eZ En) (Vc (VD.agg rfl) Vn) rfl (gDo rfl (cN h15) (qI eZ (zJ rfl (cN h15) eZ (zm (TQ.qn ⟨(!v16),H,(zg [192,128] (sR rfl rfl) (blR rfl) (bkR rfl rfl rfl))⟩)))))
   ·exact zb eZ (cN (nt h15)) rfl (zb rfl (cN (nt h15)) rfl (zb rfl (cN (nt h15)) rfl (zC rfl (cN (nt h15)) eC (zm (TQ.qn ⟨true,H,(zg [192,128] (sR rfl rfl) (blR rfl) (bkR rfl rfl rfl))⟩)))))
  ·exact zb eZ (cN (nt h12)) rfl (zb rfl (cN (nt h12)) rfl (zb rfl (cN (nt h12)) rfl (zC rfl (cN (nt h12)) eC (za eZ (zb eZ rfl rfl (zb rfl rfl rfl (zb rfl rfl rfl (zC rfl rfl eC (zm (TQ.qn ⟨true,H,(zg [192,128] (sR rfl rfl) (blR rfl) (bkR rfl rfl rfl))⟩))))))))))
theorem zeB{a1:zL}{a2:zL}{r:Bool}(H:Jl a1 a2=some r):Fn Tryz.prog 294 (lent [(.agg (zp a1)),(.agg (zp a2))]) true [(.bool r)]:=by
 refine f294 (fle rfl) ?_
 rw[zx]
 refine AW.weaken (zg [] (kv 0 (.agg (qj a1)) rfl rfl (kv 1 (.agg (qj a2)) rfl rfl SL.nil)) BL.nil BK.nil) ?_
 unfold Jl at H
 unfold zEm
 refine aV (qY (n:=128) (m:=4) (cs:=(qj a1)) rfl eZ rfl rfl nZ (qY (n:=192) (m:=4) (cs:=(qj a2)) rfl rfl rfl rfl (nR rfl) (za eC (xQ (aS (AW.regd (zM (es:=(qj a1)) rfl (hB rfl (bR rfl)) rfl ?_)))))))
 obtain⟨v3,h4,H⟩:=zk H
 refine zD (u:=(.agg [(dI v3.Lo),(dI v3.Hi)])) eC Cl.fn (ZX h4) (Ec eZ En) (Vc (VD.agg rfl) Vn) rfl (zM (es:=(qj a2)) rfl (hB rfl bZ) rfl ?_)
 obtain⟨v5,h6,H⟩:=zk H
 refine zD (u:=(.agg [(dI v5.Lo),(dI v5.Hi)])) eC Cl.fn (ZX h6) (Ec eZ En) (Vc (VD.agg rfl) Vn) rfl ?_
 obtain⟨v7,h8,H⟩:=zk H
 refine zD (u:=(.tup [(.agg [(dI v7.1.Lo),(dI v7.1.Hi)]),(oB v7.2)])) eC Cl.fn (XJ h8) (Ec rfl (Ec eZ En)) (Vc (VD.agg rfl) (Vc (VD.agg rfl) Vn)) rfl (za eZ (kI (v:=(.agg [(dI v7.1.Lo),(dI v7.1.Hi)])) eZ rfl (kI (v:=(oB v7.2)) rfl rfl (Zh (n:=320) (m:=2) rfl rfl (hN (nR rfl)) (zO (es:=[(dI v7.1.Lo),(dI v7.1.Hi)]) eZ rfl rfl rfl bZ rfl (za rfl (xQ (aV (za eZ (za eZ ?_))))))))))
 rcases zA H with⟨h9,H⟩|⟨h9,H⟩
 ·refine gDo eZ h9 (zf (m:=0) rfl rfl (gDo rfl h9 (zl (q:=0) (c:=(dI a1.Tx)) eZ (bR rfl) rfl rfl (gDo rfl h9 (zf (m:=0) rfl rfl (gDo rfl h9 (zl (q:=0) (c:=(dI a2.Tx)) eZ (bR rfl) rfl rfl (gDo rfl h9 (Qh rfl eZ (zC rfl h9 eZ (za eZ ?_)))))))))))
  rcases zA H with⟨h10,H⟩|⟨h10,H⟩
  ·refine gDo eZ (dT h10) (zf (m:=3) rfl rfl (gDo rfl (dT h10) (zl (q:=3) (c:=(dI a1.Mode)) eZ (bR rfl) rfl rfl (gDo rfl (dT h10) (KG eZ eC (gDo rfl (dT h10) (za eZ ?_)))))))
   rcases zA H with⟨h11,H⟩|⟨h11,H⟩
   ·refine zb eZ (dT h11) rfl (zb rfl (dT h11) rfl (zb rfl (dT h11) rfl (gDo rfl (dT h10) (zC rfl (dT h11) eC (zC rfl (dT h10) eZ (za eZ (xQ (AW.weaken (zg [320,192,128] (kr 4 rfl rfl SL.nil) (blR rfl) BK.nil) (AW.ret ?_)))))))))
    cases H
    exact eE rfl rfl
   ·refine gDo eZ (dF h11) (zf (m:=3) rfl rfl (gDo rfl (dF h11) (zl (q:=3) (c:=(dI a2.Mode)) eZ (bR rfl) rfl rfl (gDo rfl (dF h11) (KG eZ eC (gDo rfl (dT h10) (zJ rfl (dF h11) eZ (zC rfl (dT h10) eZ (za eZ (xQ (AW.weaken (zg [320,192,128] (kr 4 rfl rfl SL.nil) (blR rfl) BK.nil) (AW.ret ?_))))))))))))
    cases H
    exact eE rfl rfl
  ·refine zb eZ (dF h10) rfl (zb rfl (dF h10) rfl (zb rfl (dF h10) rfl (zb rfl (dF h10) rfl (zG eZ rfl (zG rfl rfl (zG rfl rfl (zb rfl (dF h10) rfl (zJ rfl (dF h10) eC (za eZ (xQ (AW.weaken (zg [320,192,128] (kr 4 rfl rfl SL.nil) (blR rfl) BK.nil) (AW.ret ?_))))))))))))
   cases H
   exact eE rfl rfl
 ·refine zb eZ (nt h9) rfl (zb rfl (nt h9) rfl (zb rfl (nt h9) rfl (zb rfl (nt h9) rfl (zb rfl (nt h9) rfl (zJ rfl (nt h9) eC (za eZ (zb eZ rfl rfl (zb rfl rfl rfl (zb rfl rfl rfl (zb rfl rfl rfl (zG eZ rfl (zG rfl rfl (zG rfl rfl (zb rfl rfl rfl (zJ rfl rfl eC (za eZ (xQ (AW.weaken (zg [320,192,128] (kr 4 rfl rfl SL.nil) (blR rfl) BK.nil) (AW.ret ?_)))))))))))))))))))
  cases H
  exact eE rfl rfl
theorem zft{a1:(List zL)}{r:Bool}(H:JV a1=some r):Fn Tryz.prog 219 (lent [(.sl 4 (List.map zp a1))]) true [(.bool r)]:=by
 refine zGp (fle rfl) ?_
 rw[zx]
 refine AW.weaken (zg [] (kv 0 (.one (.d (.sl 4 (List.map zp a1)))) rfl rfl SL.nil) BL.nil BK.nil) ?_
 unfold JV at H
 unfold zFx
 refine aV (za eC (xQ (aS (aV (za rfl (zX eZ (n:=a1.length) lm (zaB eZ eC (xQ ?_))))))))
 rcases zA H with⟨h2,H⟩|⟨h2,H⟩
 ·refine zi eZ (dT h2) (aV (za eC (xQ (AW.ret (TQ.qr ?_)))))
  cases H
  exact eE rfl rfl
 ·refine zh eZ (dF h2) (AW.skip (TQ.qn (zE (fun t3:Unit=>Kh t3=some r) (fun t3=>mk [] [] noG) ?_ ?_)))
  ·intro t3 H
   unfold Kh at H
   refine aV (za eC (xQ (AW.ret ?_)))
   cases H
   exact eE rfl rfl
  ·refine aV (za eC (xQ (AW.block (AW.iter (fun s5:Int=>mk [(0,(.one (.d (.sl 4 (List.map zp a1))))),(3,(oI s5))] [] noG) H (zg [] (sR rfl rfl) BL.nil BK.nil) ?_))))
   intro kb6 s5 H
   unfold kd at H
   refine aS (aV (za rfl (za rfl (zX eZ (n:=a1.length) lm (qi rfl eZ (xQ ?_))))))
   rcases zA H with⟨h7,H⟩|⟨h7,H⟩
   ·refine zi eZ (dT h7) (AW.skip (TQ.qn (zE (fun t8:Unit=>(Za kb6 s5) t8=some r) (fun t8=>mk [(0,(.one (.d (.sl 4 (List.map zp a1))))),(3,(oI s5))] [] noG) ?_ ?_)))
    ·intro t8 H
     unfold Za at H
     exact aR (za rfl (qg eZ eC (za eZ (zm (TQ.qn ⟨(IntKind.wrap .i64 (s5+1)),H,(zg [] (sR rfl rfl) BL.nil BK.nil)⟩)))))
    ·refine AW.block (aS (zE (fun t10:Bool=>(Zy s5 a1 (Za kb6 s5)) t10=some r) (fun t10=>mk [(0,(.one (.d (.sl 4 (List.map zp a1))))),(3,(oI s5)),(38,(oB t10))] [] noG) ?_ ?_))
     ·intro t10 H
      unfold Zy at H
      rcases zA H with⟨h12,H⟩|⟨h12,H⟩
      ·refine zi rfl h12 (aV (za eC (xQ (AW.ret (TQ.qr (BQ.qr (TQ.qr (TQ.qr (BQ.qr (TQ.qr ?_))))))))))
       cases H
       exact eE rfl rfl
      ·refine zh rfl (nt h12) (AW.skip (TQ.qn (aV (za eC (xQ (AW.block (AW.iter (fun s13:Int=>mk [(0,(.one (.d (.sl 4 (List.map zp a1))))),(3,(oI s5)),(4,(oI s13))] [] noG) H (zg [] (sR rfl rfl) BL.nil BK.nil) ?_)))))))
       intro kb14 s13 H
       unfold YW at H
       refine aS (aV (za rfl (za rfl (qi rfl eZ (xQ ?_)))))
       rcases zA H with⟨h15,H⟩|⟨h15,H⟩
       ·refine zi eZ (dT h15) (AW.skip (TQ.qn (aS (AW.block (aS (AW.regd (za rfl (za rfl ?_))))))))
        obtain⟨v16,h17,H⟩:=zk H
        refine qt rfl eZ h17 (zZ (es:=(qj v16)) eZ rfl (za rfl (za rfl ?_)))
        obtain⟨v18,h19,H⟩:=zk H
        refine qt rfl eZ h19 (zZ (es:=(qj v18)) eZ rfl ?_)
        obtain⟨v20,h21,H⟩:=zk H
        refine zD (u:=(oB v20)) eC Cl.fn (zeB h21) (Ec rfl (Ec eZ En)) (Vc (VD.agg rfl) (Vc (VD.agg rfl) Vn)) rfl (xQ ?_)
        rcases zA H with⟨h22,H⟩|⟨h22,H⟩
        ·refine zi eZ h22 (aV (za eC (xQ (AW.weaken (zg [] (kr 2 rfl rfl SL.nil) BL.nil BK.nil) (AW.ret (BQ.qr (TQ.qr (TQ.qr (BQ.qr (BQ.qr (TQ.qr (TQ.qr (BQ.qr (TQ.qr ?_))))))))))))))
         cases H
         exact eE rfl rfl
        ·exact zh eZ (nt h22) (AW.skip (BQ.qn (TQ.qn (aR (za rfl (qg eZ eC (za eZ (zm (TQ.qn ⟨(IntKind.wrap .i64 (s13+1)),H,(zg [] (sR rfl rfl) BL.nil BK.nil)⟩)))))))))
       ·exact zh eZ (dF h15) (AW.exit (TQ.qe (TQ.qe (BQ.qe (BQ.qn (TQ.qn ⟨(),H,(zg [] (sR rfl rfl) BL.nil BK.nil)⟩))))))
     ·refine aR (za rfl (za rfl ?_))
      obtain⟨v23,h24,H⟩:=zk H
      refine qt rfl eZ h24 (qa (m:=0) eZ rfl (zY (e:=(.int .i64 v23.Tx)) eZ rfl ?_))
      obtain⟨v25,h26,H⟩:=zk H
      refine zD (u:=(oB v25)) eC Cl.fn (zaT h26) (Ec eZ En) (Vc Vp Vn) rfl (qI eZ (za eZ ?_))
      rcases zA H with⟨h27,H⟩|⟨h27,H⟩
      ·refine gDo eZ (cN h27) (za rfl (gDo rfl (cN h27) (za rfl (gDo rfl (cN h27) ?_))))
       obtain⟨v28,h29,H⟩:=zk H
       refine qt rfl eZ h29 (gDo rfl (cN h27) (zZ (es:=(qj v28)) eZ rfl (gDo rfl (cN h27) ?_)))
       obtain⟨v30,h31,H⟩:=zk H
       refine zD (u:=(.agg [(dI v30.Lo),(dI v30.Hi)])) eC Cl.fn (ZX h31) (Ec eZ En) (Vc (VD.agg rfl) Vn) rfl (gDo rfl (cN h27) ?_)
       obtain⟨v32,h33,H⟩:=zk H
       refine zD (u:=(oB v32)) eC Cl.fn (jG h33) (Ec eZ En) (Vc (VD.agg rfl) Vn) rfl (gDo rfl (cN h27) (qI eZ (zJ rfl (cN h27) eZ (za eZ ?_))))
       rcases zA H with⟨h34,H⟩|⟨h34,H⟩
       ·refine gDo eZ (cN h34) (za rfl (gDo rfl (cN h34) (za rfl (gDo rfl (cN h34) ?_))))
        obtain⟨v35,h36,H⟩:=zk H
        refine qt rfl eZ h36 (gDo rfl (cN h34) (qa (m:=3) eZ rfl (gDo rfl (cN h34) (zY (e:=(.int .i64 v35.Mode)) eZ rfl (gDo rfl (cN h34) ?_)))))
        obtain⟨v37,h38,H⟩:=zk H
        exact zD (u:=(oB v37)) eC Cl.fn (zfa h38) (Ec eZ En) (Vc Vp Vn) rfl (gDo rfl (cN h34) (qI eZ (zJ rfl (cN h34) eZ (zm (TQ.qn ⟨(!v37),H,(zg [] (sR rfl rfl) BL.nil BK.nil)⟩)))))
       ·exact zb eZ (cN (nt h34)) rfl (zb rfl (cN (nt h34)) rfl (zb rfl (cN (nt h34)) rfl (zb rfl (cN (nt h34)) rfl (zb rfl (cN (nt h34)) rfl (zb rfl (cN (nt h34)) rfl (zb rfl (cN (nt h34)) rfl (zC rfl (cN (nt h34)) eC (zm (TQ.qn ⟨true,H,(zg [] (sR rfl rfl) BL.nil BK.nil)⟩)))))))))
      ·exact zb eZ (cN (nt h27)) rfl (zb rfl (cN (nt h27)) rfl (zb rfl (cN (nt h27)) rfl (zb rfl (cN (nt h27)) rfl (zb rfl (cN (nt h27)) rfl (zb rfl (cN (nt h27)) rfl (zb rfl (cN (nt h27)) rfl (zC rfl (cN (nt h27)) eC (za eZ (zb eZ rfl rfl (zb rfl rfl rfl (zb rfl rfl rfl (zb rfl rfl rfl (zb rfl rfl rfl (zb rfl rfl rfl (zb rfl rfl rfl (zC rfl rfl eC (zm (TQ.qn ⟨true,H,(zg [] (sR rfl rfl) BL.nil BK.nil)⟩))))))))))))))))))
   ·exact zh eZ (dF h7) (AW.exit (TQ.qe (TQ.qe (BQ.qe (TQ.qn ⟨(),H,(zg [] SL.nil BL.nil BK.nil)⟩)))))
theorem zco{a1:(List Int)}{r:Bool}(H:Jx a1=some r):Fn Tryz.prog 220 (lent [(.sl 1 (List.map zt a1))]) true [(.bool r)]:=by
 refine zGj (fle rfl) ?_
 rw[zx]
 refine AW.weaken (zg [] (kv 0 (.one (.d (.sl 1 (List.map zt a1)))) rfl rfl SL.nil) BL.nil BK.nil) ?_
 unfold Jx at H
 unfold zEw
 refine aV (za eC (xQ (zE (fun t2:Unit=>KI t2=some r) (fun t2=>mk [] [] noG) ?_ ?_)))
 ·intro t2 H
  unfold KI at H
  refine aV (za eC (xQ (AW.ret ?_)))
  cases H
  exact eE rfl rfl
 ·refine aV (za eC (xQ (AW.block (AW.iter (fun s4:Int=>mk [(0,(.one (.d (.sl 1 (List.map zt a1))))),(3,(oI s4))] [] noG) H (zg [] (sR rfl rfl) BL.nil BK.nil) ?_))))
  intro kb5 s4 H
  unfold kQ at H
  refine aS (aV (za rfl (za rfl (zX eZ (n:=a1.length) lm (qi rfl eZ (xQ ?_))))))
  rcases zA H with⟨h6,H⟩|⟨h6,H⟩
  ·refine zi eZ (dT h6) (AW.skip (TQ.qn (aS (AW.block (zE (fun t7:Bool=>(Qn kb5 s4) t7=some r) (fun t7=>mk [(0,(.one (.d (.sl 1 (List.map zt a1))))),(3,(oI s4)),(31,(oB t7))] [] noG) ?_ ?_)))))
   ·intro t7 H
    unfold Qn at H
    rcases zA H with⟨h9,H⟩|⟨h9,H⟩
    ·refine zi rfl h9 (aV (za eC (xQ (AW.ret (BQ.qr (TQ.qr (TQ.qr (BQ.qr (TQ.qr ?_)))))))))
     cases H
     exact eE rfl rfl
    ·exact zh rfl (nt h9) (AW.skip (BQ.qn (TQ.qn (aR (za rfl (qg eZ eC (za eZ (zm (TQ.qn ⟨(IntKind.wrap .i64 (s4+1)),H,(zg [] (sR rfl rfl) BL.nil BK.nil)⟩)))))))))
   ·refine AW.regd (za rfl (za rfl ?_))
    obtain⟨v10,h11,H⟩:=zk H
    refine qt rfl eZ h11 (zY (e:=(.int .i64 v10)) eZ rfl ?_)
    obtain⟨v12,h13,H⟩:=zk H
    refine zD (u:=(oB v12)) eC Cl.fn (zaT h13) (Ec eZ En) (Vc Vp Vn) rfl (qI eZ (za eZ ?_))
    rcases zA H with⟨h14,H⟩|⟨h14,H⟩
    ·refine gDo eZ (cN h14) (za rfl (gDo rfl (cN h14) (zaB eZ eC (gDo rfl (cN h14) (za eZ ?_)))))
     rcases zA H with⟨h15,H⟩|⟨h15,H⟩
     ·refine gDo eZ (dT h15) (za rfl (gDo rfl (dT h15) (za rfl (gDo rfl (dT h15) (zaF eZ eC (gDo rfl (dT h15) ?_))))))
      obtain⟨v16,h17,H⟩:=zk H
      refine qt rfl eZ h17 (gDo rfl (dT h15) (zY (e:=(.int .i64 v16)) eZ rfl (gDo rfl (dT h15) (za rfl (gDo rfl (dT h15) (za rfl (gDo rfl (dT h15) ?_)))))))
      obtain⟨v18,h19,H⟩:=zk H
      exact qt rfl eZ h19 (gDo rfl (dT h15) (zY (e:=(.int .i64 v18)) eZ rfl (gDo rfl (dT h15) (XA rfl eZ (gDo rfl (cN h14) (zC rfl (dT h15) eZ (zJ rfl (cN h14) eZ (zm (TQ.qn ⟨(decide (v18≤v16)),H,(zg [] (sR rfl rfl) BL.nil BK.nil)⟩)))))))))
     ·exact zb eZ (dF h15) rfl (zb rfl (dF h15) rfl (zb rfl (dF h15) rfl (zb rfl (dF h15) rfl (zb rfl (dF h15) rfl (zb rfl (dF h15) rfl (zb rfl (dF h15) rfl (zb rfl (dF h15) rfl (zb rfl (dF h15) rfl (zb rfl (dF h15) rfl (gDo rfl (cN h14) (zJ rfl (dF h15) eC (zJ rfl (cN h14) eZ (zm (TQ.qn ⟨false,H,(zg [] (sR rfl rfl) BL.nil BK.nil)⟩))))))))))))))
    ·exact zb eZ (cN (nt h14)) rfl (zb rfl (cN (nt h14)) rfl (zb rfl (cN (nt h14)) rfl (zG eZ rfl (zG rfl rfl (zG rfl rfl (zG rfl rfl (zG rfl rfl (zG rfl rfl (zG rfl rfl (zG rfl rfl (zG rfl rfl (zG rfl rfl (zb rfl (cN (nt h14)) rfl (zC rfl (cN (nt h14)) eC (zm (TQ.qn ⟨true,H,(zg [] (sR rfl rfl) BL.nil BK.nil)⟩))))))))))))))))
  ·exact zh eZ (dF h6) (AW.exit (TQ.qe (TQ.qe (BQ.qe (TQ.qn ⟨(),H,(zg [] SL.nil BL.nil BK.nil)⟩)))))
theorem JQ{a1:(List ze)}{a2:ze}{r:Bool}(H:jE a1 a2=some r):Fn Tryz.prog 82 (lent [(.sl 2 (List.map zd a1)),(.agg (zd a2))]) true [(.bool r)]:=by
 refine f82 (fle rfl) ?_
 rw[zx]
 refine AW.weaken (zg [] (kv 0 (.one (.d (.sl 2 (List.map zd a1)))) rfl rfl (kv 1 (.agg [(dI a2.Lo),(dI a2.Hi)]) rfl rfl SL.nil)) BL.nil BK.nil) ?_
 unfold jE at H
 unfold i82
 refine aV (qY (n:=192) (m:=2) (cs:=[(dI a2.Lo),(dI a2.Hi)]) rfl rfl rfl rfl nZ (za eC (xQ (aS (zE (fun t3:Bool=>(yh a1 a2) t3=some r) (fun t3=>mk [(0,(.one (.d (.sl 2 (List.map zd a1))))),(3,(.one (.ptr (.nm 192 0 0)))),(14,(oB t3))] [(192,(.vars 2 [(dI a2.Lo),(dI a2.Hi)]))] noG) ?_ ?_)))))
 ·intro t3 H
  unfold yh at H
  rcases zA H with⟨h5,H⟩|⟨h5,H⟩
  ·refine zi rfl h5 (aV (za eC (xQ (AW.ret (TQ.qr ?_)))))
   cases H
   exact eE rfl rfl
  ·refine zh rfl (nt h5) (AW.skip (TQ.qn (aV (zf (m:=0) rfl rfl (zl (q:=0) (c:=(dI a2.Lo)) eZ bZ rfl rfl (za eZ (xQ (zE (fun t6:Int=>(Jd a2) t6=some r) (fun t6=>mk [(3,(.one (.ptr (.nm 192 0 0)))),(5,(oI t6))] [(192,(.vars 2 [(dI a2.Lo),(dI a2.Hi)]))] noG) ?_ ?_))))))))
   ·intro t6 H
    unfold Jd at H
    refine aV (za rfl (zf (m:=1) rfl rfl (zl (q:=1) (c:=(dI a2.Hi)) eZ bZ rfl rfl (XA rfl eZ (za eZ (xQ (AW.ret ?_)))))))
    cases H
    exact eE rfl rfl
   ·refine aV (za eC (xQ (AW.block (AW.iter (fun s8:(Int×Int)=>mk [(0,(.one (.d (.sl 2 (List.map zd a1))))),(3,(.one (.ptr (.nm 192 0 0)))),(5,(oI s8.1)),(6,(oI s8.2))] [(192,(.vars 2 [(dI a2.Lo),(dI a2.Hi)]))] noG) H (zg [] (sR rfl rfl) (blR rfl) (bkR rfl rfl rfl)) ?_))))
    intro kb9 s8 H
    unfold Ja at H
    refine aS (aV (za rfl (za rfl (zX eZ (n:=a1.length) lm (qi rfl eZ (xQ ?_))))))
    rcases zA H with⟨h10,H⟩|⟨h10,H⟩
    ·refine zi eZ (dT h10) (AW.skip (TQ.qn (aS (AW.block (zE (fun t11:Bool=>(Zl a1 s8 kb9) t11=some r) (fun t11=>mk [(0,(.one (.d (.sl 2 (List.map zd a1))))),(3,(.one (.ptr (.nm 192 0 0)))),(5,(oI s8.1)),(6,(oI s8.2)),(38,(oB t11))] [(192,(.vars 2 [(dI a2.Lo),(dI a2.Hi)]))] noG) ?_ ?_)))))
     ·intro t11 H
      unfold Zl at H
      rcases zA H with⟨h13,H⟩|⟨h13,H⟩
      ·refine zi rfl h13 (aR (za eZ (za rfl ?_)))
       obtain⟨v14,h15,H⟩:=zk H
       exact qt rfl eZ h15 (qa (m:=1) eZ rfl (zY (e:=(.int .i64 v14.Hi)) eZ rfl (za eZ (zm (BQ.qn (TQ.qn (aR (za rfl (qg eZ eC (za eZ (zm (TQ.qn ⟨(v14.Hi,(IntKind.wrap .i64 (s8.2+1))),H,(zg [] (sR rfl rfl) (blR rfl) (bkR rfl rfl rfl))⟩))))))))))))
      ·exact zh rfl (nt h13) (AW.skip (BQ.qn (TQ.qn (aR (za rfl (qg eZ eC (za eZ (zm (TQ.qn ⟨(s8.1,(IntKind.wrap .i64 (s8.2+1))),H,(zg [] (sR rfl rfl) (blR rfl) (bkR rfl rfl rfl))⟩)))))))))
     ·refine aR (za rfl (za rfl ?_))
      obtain⟨v16,h17,H⟩:=zk H
      refine qt rfl eZ h17 (qa (m:=0) eZ rfl (zY (e:=(.int .i64 v16.Lo)) eZ rfl (za rfl (zbj rfl eZ (za eZ ?_)))))
      rcases zA H with⟨h18,H⟩|⟨h18,H⟩
      ·refine gDo eZ (dT h18) (za rfl (gDo rfl (dT h18) (za rfl (gDo rfl (dT h18) (za rfl (gDo rfl (dT h18) ?_))))))
       obtain⟨v19,h20,H⟩:=zk H
       exact qt rfl eZ h20 (gDo rfl (dT h18) (qa (m:=1) eZ rfl (gDo rfl (dT h18) (zY (e:=(.int .i64 v19.Hi)) eZ rfl (gDo rfl (dT h18) (qi rfl eZ (zC rfl (dT h18) eZ (zm (TQ.qn ⟨(decide (s8.1 < v19.Hi)),H,(zg [] (sR rfl rfl) (blR rfl) (bkR rfl rfl rfl))⟩)))))))))
      ·exact zb eZ (dF h18) rfl (zb rfl (dF h18) rfl (zb rfl (dF h18) rfl (zb rfl (dF h18) rfl (zb rfl (dF h18) rfl (zb rfl (dF h18) rfl (zb rfl (dF h18) rfl (zJ rfl (dF h18) eC (zm (TQ.qn ⟨false,H,(zg [] (sR rfl rfl) (blR rfl) (bkR rfl rfl rfl))⟩)))))))))
    ·exact zh eZ (dF h10) (AW.exit (TQ.qe (TQ.qe (BQ.qe (TQ.qn ⟨s8.1,H,(zg [] (sR rfl rfl) (blR rfl) (bkR rfl rfl rfl))⟩)))))
 ·refine aR (za rfl ?_)
  obtain⟨v21,h22,H⟩:=zk H
  refine zD (u:=(oB v21)) eC Cl.fn (kj h22) (Ec eZ En) (Vc Vp Vn) rfl (qI eZ (za eZ ?_))
  rcases zA H with⟨h23,H⟩|⟨h23,H⟩
  ·refine gDo eZ (cN h23) (zM (es:=[(dI a2.Lo),(dI a2.Hi)]) rfl bZ rfl (gDo rfl (cN h23) ?_))
   obtain⟨v24,h25,H⟩:=zk H
   exact zD (u:=(oB v24)) eC Cl.fn (jG h25) (Ec eZ En) (Vc (VD.agg rfl) Vn) rfl (gDo rfl (cN h23) (qI eZ (zJ rfl (cN h23) eZ (zm (TQ.qn ⟨(!v24),H,(zg [] (sR rfl rfl) (blR rfl) (bkR rfl rfl rfl))⟩)))))
  ·exact zb eZ (cN (nt h23)) rfl (zb rfl (cN (nt h23)) rfl (zb rfl (cN (nt h23)) rfl (zC rfl (cN (nt h23)) eC (zm (TQ.qn ⟨true,H,(zg [] (sR rfl rfl) (blR rfl) (bkR rfl rfl rfl))⟩)))))
theorem zcm{a1:Int}{r:ze}(H:xK a1=some r):Fn Tryz.prog 221 (lent [(.int .i64 a1)]) true [(.agg (zd r))]:=by
 refine zF1 (fle rfl) ?_
 rw[zx]
 refine AW.weaken (zg [] (kv 0 (oI a1) rfl rfl SL.nil) BL.nil BK.nil) ?_
 unfold xK at H
 unfold zFb
 refine aV (Zh (n:=128) (m:=2) rfl rfl nZ (xQ (aV (za rfl (za rfl (qg eZ eC (Xv (cs:=[(dI a1),(dI (IntKind.wrap .i64 (a1+1)))]) (jN rfl (jN eZ kD)) rfl (zO (es:=[(dI a1),(dI (IntKind.wrap .i64 (a1+1)))]) rfl eZ rfl rfl bZ rfl (xQ (AW.ret ?_))))))))))
 cases H
 exact qK (RL.cons (jg (es:=[(dI a1),(dI (IntKind.wrap .i64 (a1+1)))]) rfl bZ rfl) (VO.agg (ds:=[(.int .i64 a1),(.int .i64 (IntKind.wrap .i64 (a1+1)))]) rfl rfl) RL.nil) List.nodup_nil
theorem xF{a1:(List Int)}{a2:Int}{r:Bool}(H:yN a1 a2=some r):Fn Tryz.prog 117 (lent [(.sl 1 (List.map zt a1)),(.int .i64 a2)]) true [(.bool r)]:=by
 refine zGW (fle rfl) ?_
 rw[zx]
 refine AW.weaken (zg [] (kv 0 (.one (.d (.sl 1 (List.map zt a1)))) rfl rfl (kv 1 (oI a2) rfl rfl SL.nil)) BL.nil BK.nil) ?_
 unfold yN at H
 unfold zFD
 refine aV (za eC (xQ (zE (fun t3:Unit=>Xb t3=some r) (fun t3=>mk [] [] noG) ?_ ?_)))
 ·intro t3 H
  unfold Xb at H
  refine aV (za eC (xQ (AW.ret ?_)))
  cases H
  exact eE rfl rfl
 ·refine aV (za eC (xQ (AW.block (AW.iter (fun s5:Int=>mk [(0,(.one (.d (.sl 1 (List.map zt a1))))),(1,(oI a2)),(5,(oI s5))] [] noG) H (zg [] (sR rfl rfl) BL.nil BK.nil) ?_))))
  intro kb6 s5 H
  unfold Xe at H
  refine aS (aV (za rfl (za rfl (zX eZ (n:=a1.length) lm (qi rfl eZ (xQ ?_))))))
  rcases zA H with⟨h7,H⟩|⟨h7,H⟩
  ·refine zi eZ (dT h7) (AW.skip (TQ.qn (aS (AW.block (aV (za rfl (za rfl ?_)))))))
   obtain⟨v8,h9,H⟩:=zk H
   refine qt rfl eZ h9 (zY (e:=(.int .i64 v8)) eZ rfl (za rfl (KG rfl eZ (xQ ?_))))
   rcases zA H with⟨h10,H⟩|⟨h10,H⟩
   ·refine zi eZ (dT h10) (aV (za eC (xQ (AW.ret (BQ.qr (TQ.qr (TQ.qr (BQ.qr (TQ.qr ?_)))))))))
    cases H
    exact eE rfl rfl
   ·exact zh eZ (dF h10) (AW.skip (BQ.qn (TQ.qn (aR (za rfl (qg eZ eC (za eZ (zm (TQ.qn ⟨(IntKind.wrap .i64 (s5+1)),H,(zg [] (sR rfl rfl) BL.nil BK.nil)⟩)))))))))
  ·exact zh eZ (dF h7) (AW.exit (TQ.qe (TQ.qe (BQ.qe (TQ.qn ⟨(),H,(zg [] SL.nil BL.nil BK.nil)⟩)))))
theorem Kk{a1:(List zn)}{r:Bool}(H:y9 a1=some r):Fn Tryz.prog 224 (lent [(.sl 2 (List.map zj a1))]) true [(.bool r)]:=by
 refine zGq (fle rfl) ?_
 rw[zx]
 refine AW.weaken (zg [] (kv 0 (.one (.d (.sl 2 (List.map zj a1)))) rfl rfl SL.nil) BL.nil BK.nil) ?_
 unfold y9 at H
 unfold zFh
 refine aV (za eC (xQ (aS (aV (za rfl (zX eZ (n:=a1.length) lm (zaB eZ eC (xQ ?_))))))))
 rcases zA H with⟨h2,H⟩|⟨h2,H⟩
 ·refine zi eZ (dT h2) (aV (za eC (xQ (AW.ret (TQ.qr ?_)))))
  cases H
  exact eE rfl rfl
 ·refine zh eZ (dF h2) (AW.skip (TQ.qn (zE (fun t3:Unit=>Xx t3=some r) (fun t3=>mk [] [] noG) ?_ ?_)))
  ·intro t3 H
   unfold Xx at H
   refine aV (za eC (xQ (AW.ret ?_)))
   cases H
   exact eE rfl rfl
  ·refine aV (za eC (xQ (AW.block (AW.iter (fun s5:Int=>mk [(0,(.one (.d (.sl 2 (List.map zj a1))))),(3,(oI s5))] [] noG) H (zg [] (sR rfl rfl) BL.nil BK.nil) ?_))))
   intro kb6 s5 H
   unfold Y1 at H
   refine aS (aV (za rfl (za rfl (zX eZ (n:=a1.length) lm (qi rfl eZ (xQ ?_))))))
   rcases zA H with⟨h7,H⟩|⟨h7,H⟩
   ·refine zi eZ (dT h7) (AW.skip (TQ.qn (aS (AW.block (zE (fun t8:Bool=>(yI kb6 s5) t8=some r) (fun t8=>mk [(0,(.one (.d (.sl 2 (List.map zj a1))))),(3,(oI s5)),(46,(oB t8))] [] noG) ?_ ?_)))))
    ·intro t8 H
     unfold yI at H
     rcases zA H with⟨h10,H⟩|⟨h10,H⟩
     ·refine zi rfl h10 (aV (za eC (xQ (AW.ret (BQ.qr (TQ.qr (TQ.qr (BQ.qr (TQ.qr ?_)))))))))
      cases H
      exact eE rfl rfl
     ·exact zh rfl (nt h10) (AW.skip (BQ.qn (TQ.qn (aR (za rfl (qg eZ eC (za eZ (zm (TQ.qn ⟨(IntKind.wrap .i64 (s5+1)),H,(zg [] (sR rfl rfl) BL.nil BK.nil)⟩)))))))))
    ·refine AW.regd (za rfl (za rfl ?_))
     obtain⟨v11,h12,H⟩:=zk H
     refine qt rfl eZ h12 (qa (m:=0) eZ rfl (zY (e:=(.int .i64 v11.Key)) eZ rfl ?_))
     obtain⟨v13,h14,H⟩:=zk H
     refine zD (u:=(oB v13)) eC Cl.fn (zcn h14) (Ec eZ En) (Vc Vp Vn) rfl (qI eZ (za eZ ?_))
     rcases zA H with⟨h15,H⟩|⟨h15,H⟩
     ·refine gDo eZ (cN h15) (za rfl (gDo rfl (cN h15) (za rfl (gDo rfl (cN h15) ?_))))
      obtain⟨v16,h17,H⟩:=zk H
      refine qt rfl eZ h17 (gDo rfl (cN h15) (qa (m:=1) eZ rfl (gDo rfl (cN h15) (zY (e:=(.int .i64 v16.Value)) eZ rfl (gDo rfl (cN h15) ?_)))))
      obtain⟨v18,h19,H⟩:=zk H
      refine zD (u:=(oB v18)) eC Cl.fn (QU h19) (Ec eZ (Ec eC (Ec eC En))) (Vc Vp (Vc Vp (Vc Vp Vn))) rfl (gDo rfl (cN h15) (qI eZ (zJ rfl (cN h15) eZ (za eZ ?_))))
      rcases zA H with⟨h20,H⟩|⟨h20,H⟩
      ·refine gDo eZ (cN h20) (za rfl (gDo rfl (cN h20) (zaB eZ eC (gDo rfl (cN h20) (za eZ ?_)))))
       rcases zA H with⟨h21,H⟩|⟨h21,H⟩
       ·refine gDo eZ (dT h21) (za rfl (gDo rfl (dT h21) (za rfl (gDo rfl (dT h21) (zaF eZ eC (gDo rfl (dT h21) ?_))))))
        obtain⟨v22,h23,H⟩:=zk H
        refine qt rfl eZ h23 (gDo rfl (dT h21) (qa (m:=0) eZ rfl (gDo rfl (dT h21) (zY (e:=(.int .i64 v22.Key)) eZ rfl (gDo rfl (dT h21) (za rfl (gDo rfl (dT h21) (za rfl (gDo rfl (dT h21) ?_)))))))))
        obtain⟨v24,h25,H⟩:=zk H
        exact qt rfl eZ h25 (gDo rfl (dT h21) (qa (m:=0) eZ rfl (gDo rfl (dT h21) (zY (e:=(.int .i64 v24.Key)) eZ rfl (gDo rfl (dT h21) (XA rfl eZ (gDo rfl (cN h20) (zC rfl (dT h21) eZ (zJ rfl (cN h20) eZ (zm (TQ.qn ⟨(decide (v24.Key≤v22.Key)),H,(zg [] (sR rfl rfl) BL.nil BK.nil)⟩)))))))))))
       ·exact zb eZ (dF h21) rfl (zb rfl (dF h21) rfl (zb rfl (dF h21) rfl (zb rfl (dF h21) rfl (zb rfl (dF h21) rfl (zb rfl (dF h21) rfl (zb rfl (dF h21) rfl (zb rfl (dF h21) rfl (zb rfl (dF h21) rfl (zb rfl (dF h21) rfl (zb rfl (dF h21) rfl (zb rfl (dF h21) rfl (gDo rfl (cN h20) (zJ rfl (dF h21) eC (zJ rfl (cN h20) eZ (zm (TQ.qn ⟨false,H,(zg [] (sR rfl rfl) BL.nil BK.nil)⟩))))))))))))))))
      ·exact zb eZ (cN (nt h20)) rfl (zb rfl (cN (nt h20)) rfl (zb rfl (cN (nt h20)) rfl (zG eZ rfl (zG rfl rfl (zG rfl rfl (zG rfl rfl (zG rfl rfl (zG rfl rfl (zG rfl rfl (zG rfl rfl (zG rfl rfl (zG rfl rfl (zG rfl rfl (zG rfl rfl (zb rfl (cN (nt h20)) rfl (zC rfl (cN (nt h20)) eC (zm (TQ.qn ⟨true,H,(zg [] (sR rfl rfl) BL.nil BK.nil)⟩))))))))))))))))))
     ·exact zb eZ (cN (nt h15)) rfl (zb rfl (cN (nt h15)) rfl (zb rfl (cN (nt h15)) rfl (zb rfl (cN (nt h15)) rfl (zb rfl (cN (nt h15)) rfl (zb rfl (cN (nt h15)) rfl (zb rfl (cN (nt h15)) rfl (zC rfl (cN (nt h15)) eC (za eZ (zb eZ rfl rfl (zb rfl rfl rfl (zb rfl rfl rfl (zG eZ rfl (zG rfl rfl (zG rfl rfl (zG rfl rfl (zG rfl rfl (zG rfl rfl (zG rfl rfl (zG rfl rfl (zG rfl rfl (zG rfl rfl (zG rfl rfl (zG rfl rfl (zb rfl rfl rfl (zC rfl rfl eC (zm (TQ.qn ⟨true,H,(zg [] (sR rfl rfl) BL.nil BK.nil)⟩)))))))))))))))))))))))))))
   ·exact zh eZ (dF h7) (AW.exit (TQ.qe (TQ.qe (BQ.qe (TQ.qn ⟨(),H,(zg [] SL.nil BL.nil BK.nil)⟩)))))
theorem zfI{a1:ze}{a2:ze}{r:Bool}(H:JX a1 a2=some r):Fn Tryz.prog 313 (lent [(.agg (zd a1)),(.agg (zd a2))]) true [(.bool r)]:=by
 refine zF6 (fle rfl) ?_
 rw[zx]
 refine AW.weaken (zg [] (kv 0 (.agg [(dI a1.Lo),(dI a1.Hi)]) rfl rfl (kv 1 (.agg [(dI a2.Lo),(dI a2.Hi)]) rfl rfl SL.nil)) BL.nil BK.nil) ?_
 unfold JX at H
 unfold zzu
 refine aV (qY (n:=128) (m:=2) (cs:=[(dI a1.Lo),(dI a1.Hi)]) rfl eZ rfl rfl nZ (qY (n:=192) (m:=2) (cs:=[(dI a2.Lo),(dI a2.Hi)]) rfl rfl rfl rfl (nR rfl) (za eC (xQ (aV (zM (es:=[(dI a1.Lo),(dI a1.Hi)]) rfl (bR rfl) rfl ?_))))))
 obtain⟨v3,h4,H⟩:=zk H
 refine zD (u:=(oB v3)) eC Cl.fn (jG h4) (Ec eZ En) (Vc (VD.agg rfl) Vn) rfl (za eZ ?_)
 rcases zA H with⟨h5,H⟩|⟨h5,H⟩
 ·refine gDo eZ h5 (zM (es:=[(dI a2.Lo),(dI a2.Hi)]) rfl bZ rfl (gDo rfl h5 ?_))
  obtain⟨v6,h7,H⟩:=zk H
  refine zD (u:=(oB v6)) eC Cl.fn (jG h7) (Ec eZ En) (Vc (VD.agg rfl) Vn) rfl (zC rfl h5 eZ (za eZ ?_))
  rcases zA H with⟨h8,H⟩|⟨h8,H⟩
  ·refine gDo eZ h8 (zf (m:=0) rfl rfl (gDo rfl h8 (zl (q:=0) (c:=(dI a1.Lo)) eZ (bR rfl) rfl rfl (gDo rfl h8 (zf (m:=0) rfl rfl (gDo rfl h8 (zl (q:=0) (c:=(dI a2.Lo)) eZ bZ rfl rfl (gDo rfl h8 (XA rfl eZ (zC rfl h8 eZ (za eZ ?_)))))))))))
   rcases zA H with⟨h9,H⟩|⟨h9,H⟩
   ·refine gDo eZ (dT h9) (zf (m:=1) rfl rfl (gDo rfl (dT h9) (zl (q:=1) (c:=(dI a1.Hi)) eZ (bR rfl) rfl rfl (gDo rfl (dT h9) (zf (m:=1) rfl rfl (gDo rfl (dT h9) (zl (q:=1) (c:=(dI a2.Hi)) eZ bZ rfl rfl (gDo rfl (dT h9) (zbj rfl eZ (zC rfl (dT h9) eZ (za eZ (xQ (AW.weaken (zg [192,128] (kr 4 rfl rfl SL.nil) (blR rfl) BK.nil) (AW.ret ?_))))))))))))))
    cases H
    exact eE rfl rfl
   ·refine zb eZ (dF h9) rfl (zb rfl (dF h9) rfl (zb rfl (dF h9) rfl (zb rfl (dF h9) rfl (zb rfl (dF h9) rfl (zJ rfl (dF h9) eC (za eZ (xQ (AW.weaken (zg [192,128] (kr 4 rfl rfl SL.nil) (blR rfl) BK.nil) (AW.ret ?_)))))))))
    cases H
    exact eE rfl rfl
  ·refine zb eZ (nt h8) rfl (zb rfl (nt h8) rfl (zb rfl (nt h8) rfl (zb rfl (nt h8) rfl (zb rfl (nt h8) rfl (zJ rfl (nt h8) eC (za eZ (zb eZ rfl rfl (zb rfl rfl rfl (zb rfl rfl rfl (zb rfl rfl rfl (zb rfl rfl rfl (zJ rfl rfl eC (za eZ (xQ (AW.weaken (zg [192,128] (kr 4 rfl rfl SL.nil) (blR rfl) BK.nil) (AW.ret ?_))))))))))))))))
   cases H
   exact eE rfl rfl
 ·refine zb eZ (nt h5) rfl (zb rfl (nt h5) rfl (zJ rfl (nt h5) eC (za eZ (zb eZ rfl rfl (zb rfl rfl rfl (zb rfl rfl rfl (zb rfl rfl rfl (zb rfl rfl rfl (zJ rfl rfl eC (za eZ (zb eZ rfl rfl (zb rfl rfl rfl (zb rfl rfl rfl (zb rfl rfl rfl (zb rfl rfl rfl (zJ rfl rfl eC (za eZ (xQ (AW.weaken (zg [192,128] (kr 4 rfl rfl SL.nil) (blR rfl) BK.nil) (AW.ret ?_))))))))))))))))))))
  cases H
  exact eE rfl rfl
theorem zeH{a1:(List zL)}{a2:Int}{a3:ze}{a4:Int}{r:Bool}(H:Jn a1 a2 a3 a4=some r):Fn Tryz.prog 248 (lent [(.sl 4 (List.map zp a1)),(.int .i64 a2),(.agg (zd a3)),(.int .i64 a4)]) true [(.bool r)]:=by
 refine zHe (fle rfl) ?_
 rw[zx]
 refine AW.weaken (zg [] (kv 0 (.one (.d (.sl 4 (List.map zp a1)))) rfl rfl (kv 1 (oI a2) rfl rfl (kv 2 (.agg [(dI a3.Lo),(dI a3.Hi)]) rfl rfl (kv 3 (oI a4) rfl rfl SL.nil)))) BL.nil BK.nil) ?_
 unfold Jn at H
 unfold zBD
 refine aV (qY (n:=384) (m:=2) (cs:=[(dI a3.Lo),(dI a3.Hi)]) rfl rfl rfl rfl nZ (za eC (xQ (zE (fun t5:Unit=>XF t5=some r) (fun t5=>mk [] [] noG) ?_ ?_))))
 ·intro t5 H
  unfold XF at H
  refine aV (za eC (xQ (AW.ret ?_)))
  cases H
  exact eE rfl rfl
 ·refine aV (za eC (xQ (AW.block (AW.iter (fun s7:Int=>mk [(0,(.one (.d (.sl 4 (List.map zp a1))))),(1,(oI a2)),(3,(oI a4)),(6,(.one (.ptr (.nm 384 0 0)))),(9,(oI s7))] [(384,(.vars 2 [(dI a3.Lo),(dI a3.Hi)]))] noG) H (zg [] (sR rfl rfl) (blR rfl) (bkR rfl rfl rfl)) ?_))))
  intro kb8 s7 H
  unfold YS at H
  refine aS (aV (za rfl (za rfl (zX eZ (n:=a1.length) lm (qi rfl eZ (xQ ?_))))))
  rcases zA H with⟨h9,H⟩|⟨h9,H⟩
  ·refine zi eZ (dT h9) (AW.skip (TQ.qn (aS (AW.block (zE (fun t10:Bool=>(y6 kb8 s7) t10=some r) (fun t10=>mk [(0,(.one (.d (.sl 4 (List.map zp a1))))),(1,(oI a2)),(3,(oI a4)),(6,(.one (.ptr (.nm 384 0 0)))),(9,(oI s7)),(40,(oB t10))] [(384,(.vars 2 [(dI a3.Lo),(dI a3.Hi)]))] noG) ?_ ?_)))))
   ·intro t10 H
    unfold y6 at H
    rcases zA H with⟨h12,H⟩|⟨h12,H⟩
    ·refine zi rfl h12 (aV (za eC (xQ (AW.ret (BQ.qr (TQ.qr (TQ.qr (BQ.qr (TQ.qr ?_)))))))))
     cases H
     exact eE rfl rfl
    ·exact zh rfl (nt h12) (AW.skip (BQ.qn (TQ.qn (aR (za rfl (qg eZ eC (za eZ (zm (TQ.qn ⟨(IntKind.wrap .i64 (s7+1)),H,(zg [] (sR rfl rfl) (blR rfl) (bkR rfl rfl rfl))⟩)))))))))
   ·refine AW.regd (za rfl (za rfl ?_))
    obtain⟨v13,h14,H⟩:=zk H
    refine qt rfl eZ h14 (qa (m:=0) eZ rfl (zY (e:=(.int .i64 v13.Tx)) eZ rfl (za rfl (KG rfl eZ (za eZ ?_)))))
    rcases zA H with⟨h15,H⟩|⟨h15,H⟩
    ·refine gDo eZ (dT h15) (zM (es:=[(dI a3.Lo),(dI a3.Hi)]) rfl (hB rfl bZ) rfl (gDo rfl (dT h15) (za rfl (gDo rfl (dT h15) (za rfl (gDo rfl (dT h15) ?_))))))
     obtain⟨v16,h17,H⟩:=zk H
     refine qt rfl eZ h17 (gDo rfl (dT h15) (zZ (es:=(qj v16)) eZ rfl (gDo rfl (dT h15) ?_)))
     obtain⟨v18,h19,H⟩:=zk H
     refine zD (u:=(.agg [(dI v18.Lo),(dI v18.Hi)])) eC Cl.fn (ZX h19) (Ec eZ En) (Vc (VD.agg rfl) Vn) rfl (gDo rfl (dT h15) ?_)
     obtain⟨v20,h21,H⟩:=zk H
     refine zD (u:=(oB v20)) eC Cl.fn (zfI h21) (Ec rfl (Ec eZ En)) (Vc (VD.agg rfl) (Vc (VD.agg rfl) Vn)) rfl (zC rfl (dT h15) eZ (za eZ ?_))
     rcases zA H with⟨h22,H⟩|⟨h22,H⟩
     ·refine gDo eZ h22 (za rfl (gDo rfl h22 (za rfl (gDo rfl h22 ?_))))
      obtain⟨v23,h24,H⟩:=zk H
      exact qt rfl eZ h24 (gDo rfl h22 (qa (m:=3) eZ rfl (gDo rfl h22 (zY (e:=(.int .i64 v23.Mode)) eZ rfl (gDo rfl h22 (za rfl (gDo rfl h22 (XA rfl eZ (zC rfl h22 eZ (zm (TQ.qn ⟨(decide (a4≤v23.Mode)),H,(zg [] (sR rfl rfl) (blR rfl) (bkR rfl rfl rfl))⟩)))))))))))
     ·exact zb eZ (nt h22) rfl (zb rfl (nt h22) rfl (zb rfl (nt h22) rfl (zb rfl (nt h22) rfl (zb rfl (nt h22) rfl (zb rfl (nt h22) rfl (zb rfl (nt h22) rfl (zJ rfl (nt h22) eC (zm (TQ.qn ⟨false,H,(zg [] (sR rfl rfl) (blR rfl) (bkR rfl rfl rfl))⟩)))))))))
    ·exact zb eZ (dF h15) rfl (zb rfl (dF h15) rfl (zb rfl (dF h15) rfl (zb rfl (dF h15) rfl (zb rfl (dF h15) rfl (zb rfl (dF h15) rfl (zb rfl (dF h15) rfl (zJ rfl (dF h15) eC (za eZ (zb eZ rfl rfl (zb rfl rfl rfl (zb rfl rfl rfl (zb rfl rfl rfl (zb rfl rfl rfl (zb rfl rfl rfl (zb rfl rfl rfl (zJ rfl rfl eC (zm (TQ.qn ⟨false,H,(zg [] (sR rfl rfl) (blR rfl) (bkR rfl rfl rfl))⟩))))))))))))))))))
  ·exact zh eZ (dF h9) (AW.exit (TQ.qe (TQ.qe (BQ.qe (TQ.qn ⟨(),H,(zg [384] SL.nil (blR rfl) BK.nil)⟩)))))
theorem zdj{a1:zo}{r:Bool}(H:Z2 a1=some r):Fn Tryz.prog 222 (lent [(.agg (zR a1))]) true [(.bool r)]:=by
 refine zGO (fle rfl) ?_
 rw[zx]
 refine AW.weaken (t:=mk [(0,(.agg (zF a1)))] [] (lk [])) (zg [] (sR rfl rfl) BL.nil BK.nil) ?_
 unfold Z2 at H
 unfold zEx
 refine aV (qY (n:=64) (m:=9) (cs:=(zF a1)) rfl eZ rfl rfl nZ (za eC (xQ (zE (fun t2:Unit=>kB t2=some r) (fun t2=>mk [] [] (lk [])) ?_ ?_))))
 ·intro t2 H
  unfold kB at H
  refine aV (za eC (xQ (AW.ret ?_)))
  cases H
  exact eE rfl rfl
 ·refine aV (za eC (xQ (AW.block (AW.iter (fun s4:Int=>mk [(1,(.one (.ptr (.nm 64 0 0)))),(3,(oI s4))] [(64,(.vars 9 (zF a1)))] (lk [])) H (zI [] (sR rfl rfl) (blR rfl) (bkR rfl rfl rfl) GK.nil) ?_))))
  intro kb5 s4 H
  unfold Jb at H
  refine aS (aV (za rfl (zf (m:=5) rfl rfl (zl (q:=5) (c:=(.d (.sl 2 (List.map zB a1.Helds)))) eZ bZ rfl rfl (zX eZ (n:=a1.Helds.length) lm (qi rfl eZ (xQ ?_)))))))
  rcases zA H with⟨h6,H⟩|⟨h6,H⟩
  ·refine zi eZ (dT h6) (AW.skip (TQ.qn (zE (fun t7:Unit=>(jb kb5 s4) t7=some r) (fun t7=>mk [(1,(.one (.ptr (.nm 64 0 0)))),(3,(oI s4))] [(64,(.vars 9 (zF a1)))] (lk [])) ?_ ?_)))
   ·intro t7 H
    unfold jb at H
    exact aR (za rfl (qg eZ eC (za eZ (zm (TQ.qn ⟨(IntKind.wrap .i64 (s4+1)),H,(zI [] (sR rfl rfl) (blR rfl) (bkR rfl rfl rfl) GK.nil)⟩)))))
   ·refine AW.block (aS (zW (zw (zf (m:=5) rfl rfl (zm (zw (zl (q:=5) (c:=(.d (.sl 2 (List.map zB a1.Helds)))) eZ bZ rfl rfl (zm (zw (za rfl (zm (zw ?_))))))))))))
    obtain⟨v9,h10,H⟩:=zk H
    refine qt rfl eZ h10 (zm (zw (zZ (es:=(jQ v9)) eZ rfl (zm (zw (Zh (n:=256) (m:=2) rfl rfl (nR rfl) (zm (zw (zO (es:=(jQ v9)) eZ rfl rfl rfl bZ rfl (zm (z7 (xQ (aS (zE (fun t11:Bool=>(jm v9 a1 (jb kb5 s4)) t11=some r) (fun t11=>mk [(1,(.one (.ptr (.nm 64 0 0)))),(3,(oI s4)),(4,(.one (.ptr (.nm 256 0 0)))),(43,(oB t11))] [(64,(.vars 9 (zF a1))),(256,(.vars 2 (jQ v9)))] (lk [])) ?_ ?_))))))))))))))
    ·intro t11 H
     unfold jm at H
     rcases zA H with⟨h13,H⟩|⟨h13,H⟩
     ·refine zi rfl h13 (aV (za eC (xQ (AW.ret (TQ.qr (BQ.qr (TQ.qr (TQ.qr (BQ.qr (TQ.qr ?_))))))))))
      cases H
      exact eE rfl rfl
     ·refine zh rfl (nt h13) (AW.skip (TQ.qn (zE (fun t14:Unit=>(Qj a1 v9 (jb kb5 s4)) t14=some r) (fun t14=>mk [(1,(.one (.ptr (.nm 64 0 0)))),(3,(oI s4)),(4,(.one (.ptr (.nm 256 0 0))))] [(64,(.vars 9 (zF a1))),(256,(.vars 2 (jQ v9)))] (lk [])) ?_ ?_)))
      ·intro t14 H
       unfold Qj at H
       refine zE (fun t16:Bool=>(Zi (jb kb5 s4)) t16=some r) (fun t16=>mk [(1,(.one (.ptr (.nm 64 0 0)))),(3,(oI s4)),(75,(oB t16))] [(64,(.vars 9 (zF a1)))] (lk [])) ?_ ?_
       ·intro t16 H
        unfold Zi at H
        rcases zA H with⟨h18,H⟩|⟨h18,H⟩
        ·refine zi rfl h18 (aV (za eC (xQ (AW.ret (BQ.qr (TQ.qr (TQ.qr (BQ.qr (TQ.qr ?_)))))))))
         cases H
         exact eE rfl rfl
        ·exact zh rfl (nt h18) (AW.skip (BQ.qn (TQ.qn ⟨(),H,(zI [] (sR rfl rfl) (blR rfl) (bkR rfl rfl rfl) GK.nil)⟩)))
       ·refine aR (zf (m:=6) eZ rfl (zl (q:=6) (c:=(.d (.sl 1 (List.map zt a1.Wounded)))) eZ bZ rfl rfl (zf (m:=0) rfl rfl (zl (q:=0) (c:=(dI v9.Tx)) eZ (bR rfl) rfl rfl ?_))))
        obtain⟨v19,h20,H⟩:=zk H
        refine zD (u:=(oB v19)) eC Cl.fn (xF h20) (Ec rfl (Ec eZ En)) (Vc Vp (Vc Vp Vn)) rfl (za eZ ?_)
        rcases zA H with⟨h21,H⟩|⟨h21,H⟩
        ·exact zb eZ h21 rfl (zb rfl h21 rfl (zb rfl h21 rfl (zb rfl h21 rfl (zb rfl h21 rfl (zC rfl h21 eC (zm (TQ.qn ⟨true,H,(zI [256] (sR rfl rfl) (blR rfl) (bkR rfl rfl rfl) GK.nil)⟩)))))))
        ·refine gDo eZ (nt h21) (zf (m:=7) rfl rfl (gDo rfl (nt h21) (zl (q:=7) (c:=(.d (.sl 1 (List.map zt a1.Ended)))) eZ bZ rfl rfl (gDo rfl (nt h21) (zf (m:=0) rfl rfl (gDo rfl (nt h21) (zl (q:=0) (c:=(dI v9.Tx)) eZ (bR rfl) rfl rfl (gDo rfl (nt h21) ?_))))))))
         obtain⟨v22,h23,H⟩:=zk H
         exact zD (u:=(oB v22)) eC Cl.fn (xF h23) (Ec rfl (Ec eZ En)) (Vc Vp (Vc Vp Vn)) rfl (zJ rfl (nt h21) eZ (zm (TQ.qn ⟨v22,H,(zI [256] (sR rfl rfl) (blR rfl) (bkR rfl rfl rfl) GK.nil)⟩)))
      ·refine aV (za eC (xQ (AW.block (AW.iter (fun s24:Int=>mk [(1,(.one (.ptr (.nm 64 0 0)))),(3,(oI s4)),(4,(.one (.ptr (.nm 256 0 0)))),(5,(oI s24))] [(64,(.vars 9 (zF a1))),(256,(.vars 2 (jQ v9)))] (lk [])) H (zI [] (sR rfl rfl) (blR rfl) (bkR rfl rfl rfl) GK.nil) ?_))))
       intro kb25 s24 H
       unfold Qk at H
       refine aS (aV (za rfl (zf (m:=1) rfl rfl (zl (q:=1) (c:=(.d (.sl 2 (List.map zj v9.Writes)))) eZ (bR rfl) rfl rfl (zX eZ (n:=v9.Writes.length) lm (qi rfl eZ (xQ ?_)))))))
       rcases zA H with⟨h26,H⟩|⟨h26,H⟩
       ·refine zi eZ (dT h26) (AW.skip (TQ.qn (aS (AW.block (aS (AW.regd (zf (m:=4) rfl rfl (zl (q:=4) (c:=(.d (.sl 4 (List.map zp a1.Locks)))) eZ (hB rfl bZ) rfl rfl (zf (m:=0) rfl rfl (zl (q:=0) (c:=(dI v9.Tx)) eZ (hB rfl (bR rfl)) rfl rfl (zf (m:=1) rfl rfl (zl (q:=1) (c:=(.d (.sl 2 (List.map zj v9.Writes)))) eZ (bR rfl) rfl rfl (za rfl ?_)))))))))))))
        obtain⟨v27,h28,H⟩:=zk H
        refine qt rfl eZ h28 (qa (m:=0) eZ rfl (zY (e:=(.int .i64 v27.Key)) eZ rfl ?_))
        obtain⟨v29,h30,H⟩:=zk H
        refine zD (u:=(.agg [(dI v29.Lo),(dI v29.Hi)])) eC Cl.fn (zcm h30) (Ec eZ En) (Vc Vp Vn) rfl ?_
        obtain⟨v31,h32,H⟩:=zk H
        refine zD (u:=(oB v31)) eC Cl.fn (zeH h32) (Ec rfl (Ec rfl (Ec eZ (Ec eC En)))) (Vc Vp (Vc Vp (Vc (VD.agg rfl) (Vc Vp Vn)))) rfl (qI eZ (xQ (AW.weaken (zI [] (kr 63 rfl rfl (kr 1 rfl rfl (kr 3 rfl rfl (kr 4 rfl rfl (kr 5 rfl rfl SL.nil))))) (blR rfl) (BK.cons (n:=64) rfl bZ rfl rfl (BK.cons (n:=256) rfl (bR rfl) rfl rfl BK.nil)) GK.nil) ?_)))
        rcases zA H with⟨h33,H⟩|⟨h33,H⟩
        ·exact zh eZ (cN h33) (AW.skip (BQ.qn (TQ.qn (aR (za rfl (qg eZ eC (za eZ (zm (TQ.qn ⟨(IntKind.wrap .i64 (s24+1)),H,(zI [] (sR rfl rfl) (blR rfl) (bkR rfl rfl rfl) GK.nil)⟩)))))))))
        ·refine zi eZ (cN (nt h33)) (aV (za eC (xQ (AW.ret (BQ.qr (TQ.qr (TQ.qr (BQ.qr (TQ.qr (BQ.qr (TQ.qr (TQ.qr (BQ.qr (TQ.qr ?_))))))))))))))
         cases H
         exact eE rfl rfl
       ·exact zh eZ (dF h26) (AW.exit (TQ.qe (TQ.qe (BQ.qe (TQ.qn ⟨(),H,(zI [] (sR rfl rfl) (blR rfl) (bkR rfl rfl rfl) GK.nil)⟩)))))
    ·refine AW.regd (zf (m:=0) eZ rfl (zl (q:=0) (c:=(dI v9.Tx)) eZ bZ rfl rfl ?_))
     obtain⟨v34,h35,H⟩:=zk H
     refine zD (u:=(oB v34)) eC Cl.fn (zaT h35) (Ec eZ En) (Vc Vp Vn) rfl (qI eZ (za eZ ?_))
     rcases zA H with⟨h36,H⟩|⟨h36,H⟩
     ·refine gDo eZ (cN h36) (za rfl (gDo rfl (cN h36) (zaB eZ eC (gDo rfl (cN h36) (za eZ ?_)))))
      rcases zA H with⟨h37,H⟩|⟨h37,H⟩
      ·refine gDo eZ (dT h37) (zf (m:=5) rfl rfl (gDo rfl (dT h37) (zl (q:=5) (c:=(.d (.sl 2 (List.map zB a1.Helds)))) eZ (bR rfl) rfl rfl (gDo rfl (dT h37) (za rfl (gDo rfl (dT h37) (zaF eZ eC (gDo rfl (dT h37) ?_))))))))
       obtain⟨v38,h39,H⟩:=zk H
       refine qt rfl eZ h39 (gDo rfl (dT h37) (qa (m:=0) eZ rfl (gDo rfl (dT h37) (zY (e:=(.int .i64 v38.Tx)) eZ rfl (gDo rfl (dT h37) (zf (m:=0) rfl rfl (gDo rfl (dT h37) (zl (q:=0) (c:=(dI v9.Tx)) eZ bZ rfl rfl (gDo rfl (dT h37) (XA rfl eZ (gDo rfl (cN h36) (zC rfl (dT h37) eZ (zJ rfl (cN h36) eZ (za eZ ?_))))))))))))))
       rcases zA H with⟨h40,H⟩|⟨h40,H⟩
       ·exact zb eZ (dT h40) rfl (zb rfl (dT h40) rfl (zb rfl (dT h40) rfl (zb rfl (dT h40) rfl (zC rfl (dT h40) eC (zm (TQ.qn ⟨true,H,(zI [] (sR rfl rfl) (blR rfl) (bkR rfl rfl rfl) GK.nil)⟩))))))
       ·refine gDo eZ (dF h40) (zf (m:=1) rfl rfl (gDo rfl (dF h40) (zl (q:=1) (c:=(.d (.sl 2 (List.map zj v9.Writes)))) eZ bZ rfl rfl (gDo rfl (dF h40) ?_))))
        obtain⟨v41,h42,H⟩:=zk H
        exact zD (u:=(oB v41)) eC Cl.fn (Kk h42) (Ec eZ En) (Vc Vp Vn) rfl (gDo rfl (dF h40) (qI eZ (zJ rfl (dF h40) eZ (zm (TQ.qn ⟨(!v41),H,(zI [] (sR rfl rfl) (blR rfl) (bkR rfl rfl rfl) GK.nil)⟩)))))
      ·refine zb eZ (dF h37) rfl (zb rfl (dF h37) rfl (zb rfl (dF h37) rfl (zb rfl (dF h37) rfl (zb rfl (dF h37) rfl (zb rfl (dF h37) rfl (zb rfl (dF h37) rfl (zb rfl (dF h37) rfl (zb rfl (dF h37) rfl (zb rfl (dF h37) rfl (gDo rfl (cN h36) (zJ rfl (dF h37) eC (zJ rfl (cN h36) eZ (za eZ (gDo eZ rfl (zf (m:=1) rfl rfl (gDo rfl rfl (zl (q:=1) (c:=(.d (.sl 2 (List.map zj v9.Writes)))) eZ bZ rfl rfl (gDo rfl rfl ?_))))))))))))))))))
       obtain⟨v43,h44,H⟩:=zk H
       exact zD (u:=(oB v43)) eC Cl.fn (Kk h44) (Ec eZ En) (Vc Vp Vn) rfl (gDo rfl rfl (qI eZ (zJ rfl rfl eZ (zm (TQ.qn ⟨(!v43),H,(zI [] (sR rfl rfl) (blR rfl) (bkR rfl rfl rfl) GK.nil)⟩)))))
     ·exact zb eZ (cN (nt h36)) rfl (zb rfl (cN (nt h36)) rfl (zb rfl (cN (nt h36)) rfl (zG eZ rfl (zG rfl rfl (zG rfl rfl (zG rfl rfl (zG rfl rfl (zG rfl rfl (zG rfl rfl (zG rfl rfl (zG rfl rfl (zG rfl rfl (zb rfl (cN (nt h36)) rfl (zC rfl (cN (nt h36)) eC (za eZ (zb eZ rfl rfl (zb rfl rfl rfl (zb rfl rfl rfl (zb rfl rfl rfl (zC rfl rfl eC (zm (TQ.qn ⟨true,H,(zI [] (sR rfl rfl) (blR rfl) (bkR rfl rfl rfl) GK.nil)⟩))))))))))))))))))))))
  ·exact zh eZ (dF h6) (AW.exit (TQ.qe (TQ.qe (BQ.qe (TQ.qn ⟨(),H,(zI [64] SL.nil (blR rfl) BK.nil GK.nil)⟩)))))
theorem zgg{a1:(List zn)}{a2:Int}{r:Int}(H:xz a1 a2=some r):Fn Tryz.prog 346 (lent [(.sl 2 (List.map zj a1)),(.int .i64 a2)]) true [(.int .i64 r)]:=by
 refine zGJ (fle rfl) ?_
 rw[zx]
 refine AW.weaken (zg [] (kv 0 (.one (.d (.sl 2 (List.map zj a1)))) rfl rfl (kv 1 (oI a2) rfl rfl SL.nil)) BL.nil BK.nil) ?_
 unfold xz at H
 unfold zy9
 refine aV (za eC (xQ (zE (fun t3:Unit=>KM t3=some r) (fun t3=>mk [] [] noG) ?_ ?_)))
 ·intro t3 H
  unfold KM at H
  refine aV (za eC (xQ (AW.ret ?_)))
  cases H
  exact eE rfl rfl
 ·refine aV (za eC (xQ (AW.block (AW.iter (fun s5:Int=>mk [(0,(.one (.d (.sl 2 (List.map zj a1))))),(1,(oI a2)),(5,(oI s5))] [] noG) H (zg [] (sR rfl rfl) BL.nil BK.nil) ?_))))
  intro kb6 s5 H
  unfold kL at H
  refine aS (aV (za rfl (za rfl (zX eZ (n:=a1.length) lm (qi rfl eZ (xQ ?_))))))
  rcases zA H with⟨h7,H⟩|⟨h7,H⟩
  ·refine zi eZ (dT h7) (AW.skip (TQ.qn (aS (AW.block (aV (za rfl (za rfl ?_)))))))
   obtain⟨v8,h9,H⟩:=zk H
   refine qt rfl eZ h9 (qa (m:=0) eZ rfl (zY (e:=(.int .i64 v8.Key)) eZ rfl (za rfl (KG rfl eZ (xQ ?_)))))
   rcases zA H with⟨h10,H⟩|⟨h10,H⟩
   ·refine zi eZ (dT h10) (aV (za rfl (za rfl ?_)))
    obtain⟨v11,h12,H⟩:=zk H
    refine qt rfl eZ h12 (qa (m:=1) eZ rfl (zY (e:=(.int .i64 v11.Value)) eZ rfl (za eZ (xQ (AW.weaken (zg [] (kr 4 rfl rfl SL.nil) BL.nil BK.nil) (AW.ret (BQ.qr (TQ.qr (TQ.qr (BQ.qr (TQ.qr ?_)))))))))))
    cases H
    exact eE rfl rfl
   ·exact zh eZ (dF h10) (AW.skip (BQ.qn (TQ.qn (aR (za rfl (qg eZ eC (za eZ (zm (TQ.qn ⟨(IntKind.wrap .i64 (s5+1)),H,(zg [] (sR rfl rfl) BL.nil BK.nil)⟩)))))))))
  ·exact zh eZ (dF h7) (AW.exit (TQ.qe (TQ.qe (BQ.qe (TQ.qn ⟨(),H,(zg [] SL.nil BL.nil BK.nil)⟩)))))
theorem zeO{a1:(List zn)}{a2:(List zn)}{r:Int}(H:Jt a1 a2=some r):Fn Tryz.prog 295 (lent [(.sl 2 (List.map zj a1)),(.sl 2 (List.map zj a2))]) true [(.int .i64 r)]:=by
 refine f295 (fle rfl) ?_
 rw[zx]
 refine AW.weaken (zg [] (kv 0 (.one (.d (.sl 2 (List.map zj a1)))) rfl rfl (kv 1 (.one (.d (.sl 2 (List.map zj a2)))) rfl rfl SL.nil)) BL.nil BK.nil) ?_
 unfold Jt at H
 unfold zDa
 refine aV (za eC (xQ (aS (zE (fun t3:Bool=>(Qu a2 a1) t3=some r) (fun t3=>mk [(0,(.one (.d (.sl 2 (List.map zj a1))))),(1,(.one (.d (.sl 2 (List.map zj a2))))),(14,(oB t3))] [] noG) ?_ ?_))))
 ·intro t3 H
  unfold Qu at H
  rcases zA H with⟨h5,H⟩|⟨h5,H⟩
  ·refine zi rfl h5 (aV (za eC (xQ (AW.ret (TQ.qr ?_)))))
   cases H
   exact eE rfl rfl
  ·refine zh rfl (nt h5) (AW.skip (TQ.qn (aV (za eC (xQ (zE (fun t6:Int=>xb t6=some r) (fun t6=>mk [(5,(oI t6))] [] noG) ?_ ?_))))))
   ·intro t6 H
    unfold xb at H
    refine aV (za eZ (za eZ (xQ (AW.ret ?_))))
    cases H
    exact eE rfl rfl
   ·refine aV (za eC (xQ (AW.block (AW.iter (fun s8:(Int×Int)=>mk [(0,(.one (.d (.sl 2 (List.map zj a1))))),(1,(.one (.d (.sl 2 (List.map zj a2))))),(5,(oI s8.1)),(6,(oI s8.2))] [] noG) H (zg [] (sR rfl rfl) BL.nil BK.nil) ?_))))
    intro kb9 s8 H
    unfold YU at H
    refine aS (aV (za rfl (za rfl (zX eZ (n:=a2.length) lm (qi rfl eZ (xQ ?_))))))
    rcases zA H with⟨h10,H⟩|⟨h10,H⟩
    ·refine zi eZ (dT h10) (AW.skip (TQ.qn (aS (AW.block (zE (fun t11:Bool=>(Z9 kb9 s8) t11=some r) (fun t11=>mk [(0,(.one (.d (.sl 2 (List.map zj a1))))),(1,(.one (.d (.sl 2 (List.map zj a2))))),(5,(oI s8.1)),(6,(oI s8.2)),(36,(oB t11))] [] noG) ?_ ?_)))))
     ·intro t11 H
      unfold Z9 at H
      rcases zA H with⟨h13,H⟩|⟨h13,H⟩
      ·exact zi rfl h13 (aR (za rfl (qg eZ eC (za eZ (zm (BQ.qn (TQ.qn (aR (za rfl (qg eZ eC (za eZ (zm (TQ.qn ⟨((IntKind.wrap .i64 (s8.1+1)),(IntKind.wrap .i64 (s8.2+1))),H,(zg [] (sR rfl rfl) BL.nil BK.nil)⟩)))))))))))))
      ·exact zh rfl (nt h13) (AW.skip (BQ.qn (TQ.qn (aR (za rfl (qg eZ eC (za eZ (zm (TQ.qn ⟨(s8.1,(IntKind.wrap .i64 (s8.2+1))),H,(zg [] (sR rfl rfl) BL.nil BK.nil)⟩)))))))))
     ·refine aR (za rfl (za rfl ?_))
      obtain⟨v14,h15,H⟩:=zk H
      refine qt rfl eZ h15 (qa (m:=1) eZ rfl (zY (e:=(.int .i64 v14.Value)) eZ rfl (XA eZ eC (za eZ ?_))))
      rcases zA H with⟨h16,H⟩|⟨h16,H⟩
      ·refine gDo eZ (dT h16) (za rfl (gDo rfl (dT h16) (za rfl (gDo rfl (dT h16) (za rfl (gDo rfl (dT h16) ?_))))))
       obtain⟨v17,h18,H⟩:=zk H
       refine qt rfl eZ h18 (gDo rfl (dT h16) (qa (m:=0) eZ rfl (gDo rfl (dT h16) (zY (e:=(.int .i64 v17.Key)) eZ rfl (gDo rfl (dT h16) ?_)))))
       obtain⟨v19,h20,H⟩:=zk H
       exact zD (u:=(oI v19)) eC Cl.fn (zgg h20) (Ec rfl (Ec eZ En)) (Vc Vp (Vc Vp Vn)) rfl (gDo rfl (dT h16) (qi eZ eC (zC rfl (dT h16) eZ (zm (TQ.qn ⟨(decide (v19 < 0)),H,(zg [] (sR rfl rfl) BL.nil BK.nil)⟩)))))
      ·exact zb eZ (dF h16) rfl (zb rfl (dF h16) rfl (zb rfl (dF h16) rfl (zb rfl (dF h16) rfl (zb rfl (dF h16) rfl (zb rfl (dF h16) rfl (zb rfl (dF h16) rfl (zb rfl (dF h16) rfl (zJ rfl (dF h16) eC (zm (TQ.qn ⟨false,H,(zg [] (sR rfl rfl) BL.nil BK.nil)⟩))))))))))
    ·exact zh eZ (dF h10) (AW.exit (TQ.qe (TQ.qe (BQ.qe (TQ.qn ⟨s8.1,H,(zg [] (sR rfl rfl) BL.nil BK.nil)⟩)))))
 ·refine aR (za rfl ?_)
  obtain⟨v21,h22,H⟩:=zk H
  refine zD (u:=(oB v21)) eC Cl.fn (KO h22) (Ec eZ En) (Vc Vp Vn) rfl (qI eZ (za eZ ?_))
  rcases zA H with⟨h23,H⟩|⟨h23,H⟩
  ·refine gDo eZ (cN h23) (za rfl (gDo rfl (cN h23) ?_))
   obtain⟨v24,h25,H⟩:=zk H
   exact zD (u:=(oB v24)) eC Cl.fn (Kk h25) (Ec eZ En) (Vc Vp Vn) rfl (gDo rfl (cN h23) (qI eZ (zJ rfl (cN h23) eZ (zm (TQ.qn ⟨(!v24),H,(zg [] (sR rfl rfl) BL.nil BK.nil)⟩)))))
  ·exact zb eZ (cN (nt h23)) rfl (zb rfl (cN (nt h23)) rfl (zb rfl (cN (nt h23)) rfl (zC rfl (cN (nt h23)) eC (zm (TQ.qn ⟨true,H,(zg [] (sR rfl rfl) BL.nil BK.nil)⟩)))))
theorem zgk{a1:zo}{r:Int}(H:xC a1=some r):Fn Tryz.prog 223 (lent [(.agg (zR a1))]) true [(.int .i64 r)]:=by
 refine zGC (fle rfl) ?_
 rw[zx]
 refine AW.weaken (zg [] (kv 0 (.agg (zF a1)) rfl rfl SL.nil) BL.nil BK.nil) ?_
 unfold xC at H
 unfold zAA
 refine aV (qY (n:=64) (m:=9) (cs:=(zF a1)) rfl eZ rfl rfl nZ (za eC (xQ (aV (za eC (xQ (zE (fun t2:Int=>k9 t2=some r) (fun t2=>mk [(3,(oI t2))] [] noG) ?_ ?_)))))))
 ·intro t2 H
  unfold k9 at H
  refine aV (za eZ (za eZ (xQ (AW.ret ?_))))
  cases H
  exact eE rfl rfl
 ·refine aV (za eC (xQ (AW.block (AW.iter (fun s4:(Int×Int)=>mk [(1,(.one (.ptr (.nm 64 0 0)))),(3,(oI s4.1)),(4,(oI s4.2))] [(64,(.vars 9 (zF a1)))] noG) H (zg [] (sR rfl rfl) (blR rfl) (bkR rfl rfl rfl)) ?_))))
  intro kb5 s4 H
  unfold kS at H
  refine aS (aV (za rfl (zf (m:=5) rfl rfl (zl (q:=5) (c:=(.d (.sl 2 (List.map zB a1.Helds)))) eZ bZ rfl rfl (zX eZ (n:=a1.Helds.length) lm (qi rfl eZ (xQ ?_)))))))
  rcases zA H with⟨h6,H⟩|⟨h6,H⟩
  ·refine zi eZ (dT h6) (AW.skip (TQ.qn (aS (AW.block (AW.regd (za rfl (zf (m:=3) rfl rfl (zl (q:=3) (c:=(.d (.sl 2 (List.map zj a1.Cells)))) eZ bZ rfl rfl (zf (m:=5) rfl rfl (zl (q:=5) (c:=(.d (.sl 2 (List.map zB a1.Helds)))) eZ bZ rfl rfl (za rfl ?_)))))))))))
   obtain⟨v7,h8,H⟩:=zk H
   refine qt rfl eZ h8 (qa (m:=1) eZ rfl (zY (e:=(.sl 2 (List.map zj v7.Writes))) eZ rfl ?_))
   obtain⟨v9,h10,H⟩:=zk H
   exact zD (u:=(oI v9)) eC Cl.fn (zeO h10) (Ec rfl (Ec eZ En)) (Vc Vp (Vc Vp Vn)) rfl (qg rfl eZ (za eZ (zm (BQ.qn (TQ.qn (AW.weaken (zg [] (kr 3 rfl rfl (kr 1 rfl rfl (kr 4 rfl rfl SL.nil))) (blR rfl) (BK.cons (n:=64) rfl bZ rfl rfl BK.nil)) (aR (za rfl (qg eZ eC (za eZ (zm (TQ.qn ⟨((IntKind.wrap .i64 (s4.1+v9)),(IntKind.wrap .i64 (s4.2+1))),H,(zg [] (sR rfl rfl) (blR rfl) (bkR rfl rfl rfl))⟩))))))))))))
  ·exact zh eZ (dF h6) (AW.exit (TQ.qe (TQ.qe (BQ.qe (TQ.qn ⟨s4.1,H,(zg [64] (sR rfl rfl) (blR rfl) BK.nil)⟩)))))
end Go.AW
