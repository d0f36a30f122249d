/- That functions of the program compute what the plain functions say. Conditions: each theorem's own. -/
import Derived.Test.YtlcjjljmjdmobaaMCoordVote
import Derived.Test.YtlcjjljmjdmobaaGCoordVote
import Derived.Test.YtlcjjljmjdmobaaYp
set_option linter.unusedVariables false
set_option linter.unusedSimpArgs false
set_option maxRecDepth 100000
namespace Go.AW
open Go.Proofs
theorem X0{a1:(List zC)}{a2:Int}{r:Int}(H:y7 a1 a2=some r):Fn Try.prog 177 (lent [(.sl 2 (List.map zx a1)),(.int .i64 a2)]) true [(.int .i64 r)]:=by
 refine zss (fle rfl) ?_
 rw[zD]
 refine AW.weaken (zn [] (kv 0 (.one (.d (.sl 2 (List.map zx a1)))) rfl rfl (kv 1 (oI a2) rfl rfl SL.nil)) BL.nil BK.nil) ?_
 unfold y7 at H
 unfold zn7
 refine aV (za eC (xQ (aV (za rfl (za rfl (zX eZ (n:=a1.length) lm (kM rfl eZ (za eZ (xQ (aS (aV (za eZ (qJ eZ eC (xQ ?_))))))))))))))
 rcases zE H with⟨h3,H⟩|⟨h3,H⟩
 ·refine zi eZ (dT h3) (aV (za eC (xQ (AW.ret (TQ.qr ?_)))))
  cases H
  exact eE rfl rfl
 ·refine zg eZ (dF h3) (AW.skip (TQ.qn (aV (za rfl (za eZ (xQ (AW.ret ?_)))))))
  cases H
  exact eE rfl rfl
theorem Kp{a1:(List zO)}{a2:Int}{r:Int}(H:y5 a1 a2=some r):Fn Try.prog 178 (lent [(.sl 2 (List.map zG a1)),(.int .i64 a2)]) true [(.int .i64 r)]:=by
 refine zsg (fle rfl) ?_
 rw[zD]
 refine AW.weaken (zn [] (kv 0 (.one (.d (.sl 2 (List.map zG a1)))) rfl rfl (kv 1 (oI a2) rfl rfl SL.nil)) BL.nil BK.nil) ?_
 unfold y5 at H
 unfold zpq
 refine aV (za eC (xQ (aV (za rfl (za rfl (zX eZ (n:=a1.length) lm (kM rfl eZ (za eZ (xQ (aS (aV (za eZ (qJ eZ eC (xQ ?_))))))))))))))
 rcases zE H with⟨h3,H⟩|⟨h3,H⟩
 ·refine zi eZ (dT h3) (aV (za eC (xQ (AW.ret (TQ.qr ?_)))))
  cases H
  exact eE rfl rfl
 ·refine zg eZ (dF h3) (AW.skip (TQ.qn (aV (za rfl (za eZ (xQ (AW.ret ?_)))))))
  cases H
  exact eE rfl rfl
theorem zae{a1:zb}{a2:Int}{r:Int}(H:ZD a1 a2=some r):Fn Try.prog 171 (lent [(.agg (zd a1)),(.int .i64 a2)]) true [(.int .i64 r)]:=by
 refine zsT (fle rfl) ?_
 rw[zD]
 refine AW.weaken (zn [] (kv 0 (.agg (ql a1)) rfl rfl (kv 1 (oI a2) rfl rfl SL.nil)) BL.nil BK.nil) ?_
 unfold ZD at H
 unfold zoa
 refine aV (yX (n:=128) (m:=4) (cs:=(ql a1)) rfl eZ rfl rfl nZ (za eC (xQ (aV (ze (m:=1) rfl rfl (zm (q:=1) (c:=(.d (.sl 2 (List.map zx a1.Reads)))) eZ bZ rfl rfl (za rfl ?_)))))))
 obtain⟨v3,h4,H⟩:=zo H
 refine zM (u:=(oI v3)) eC Cl.fn (X0 h4) (Ec rfl (Ec eZ En)) (Vc Vp (Vc Vp Vn)) rfl (za eZ (xQ (aS (aV (za eZ (qJ eZ eC (xQ ?_)))))))
 rcases zE H with⟨h5,H⟩|⟨h5,H⟩
 ·refine zi eZ (dT h5) (aV (za eC (xQ (AW.ret (TQ.qr ?_)))))
  cases H
  exact eE rfl rfl
 ·refine zg eZ (dF h5) (AW.skip (TQ.qn (aV (ze (m:=2) rfl rfl (zm (q:=2) (c:=(.d (.sl 2 (List.map zG a1.Writes)))) eZ bZ rfl rfl (za rfl ?_))))))
  obtain⟨v6,h7,H⟩:=zo H
  refine zM (u:=(oI v6)) eC Cl.fn (Kp h7) (Ec rfl (Ec eZ En)) (Vc Vp (Vc Vp Vn)) rfl (za eZ (xQ (AW.weaken (zn [128] (kr 1 rfl rfl SL.nil) (blR rfl) BK.nil) (aS (aV (za eZ (qJ eZ eC (xQ ?_))))))))
  rcases zE H with⟨h8,H⟩|⟨h8,H⟩
  ·refine zi eZ (dT h8) (aV (za eC (xQ (AW.ret (TQ.qr ?_)))))
   cases H
   exact eE rfl rfl
  ·refine zg eZ (dF h8) (AW.skip (TQ.qn (aV (za rfl (za eZ (xQ (AW.ret ?_)))))))
   cases H
   exact eE rfl rfl
theorem Kl{a1:(List zb)}{a2:Int}{r:Int}(H:Zd a1 a2=some r):Fn Try.prog 150 (lent [(.sl 4 (List.map zd a1)),(.int .i64 a2)]) true [(.int .i64 r)]:=by
 refine zsL (fle rfl) ?_
 rw[zD]
 refine AW.weaken (zn [] (kv 0 (.one (.d (.sl 4 (List.map zd a1)))) rfl rfl (kv 1 (oI a2) rfl rfl SL.nil)) BL.nil BK.nil) ?_
 unfold Zd at H
 unfold zop
 refine aV (za eC (xQ (aV (za rfl (za rfl (zX eZ (n:=a1.length) lm (kM rfl eZ (za eZ (xQ (aS (aV (za eZ (qJ eZ eC (xQ ?_))))))))))))))
 rcases zE H with⟨h3,H⟩|⟨h3,H⟩
 ·refine zi eZ (dT h3) (aV (za eC (xQ (AW.ret (TQ.qr ?_)))))
  cases H
  exact eE rfl rfl
 ·refine zg eZ (dF h3) (AW.skip (TQ.qn (zJ (fun t4:Int=>Qe t4=some r) (fun t4=>mk [(1,(oI t4))] [] noG) ?_ ?_)))
  ·intro t4 H
   unfold Qe at H
   refine aV (za eZ (za eZ (xQ (AW.ret ?_))))
   cases H
   exact eE rfl rfl
  ·refine aV (za eC (xQ (AW.block (AW.iter (fun s6:(Int×Int)=>mk [(0,(.one (.d (.sl 4 (List.map zd a1))))),(1,(oI s6.1)),(5,(oI s6.2))] [] noG) H (zn [] (sR rfl rfl) BL.nil BK.nil) ?_))))
   intro kb7 s6 H
   unfold ZS at H
   refine aS (aV (za rfl (za rfl (zX eZ (n:=a1.length) lm (qJ rfl eZ (xQ ?_))))))
   rcases zE H with⟨h8,H⟩|⟨h8,H⟩
   ·refine zi eZ (dT h8) (AW.skip (TQ.qn (aS (AW.block (aV (za rfl (za rfl ?_)))))))
    obtain⟨v9,h10,H⟩:=zo H
    refine je rfl eZ h10 (qG (es:=(ql v9)) eZ rfl (za rfl ?_))
    obtain⟨v11,h12,H⟩:=zo H
    refine zM (u:=(oI v11)) eC Cl.fn (zae h12) (Ec rfl (Ec eZ En)) (Vc (VD.agg rfl) (Vc Vp Vn)) rfl (za eZ (xQ (aV (za eZ (qJ eZ eC (xQ (AW.weaken (zn [] (kr 25 rfl rfl (kr 1 rfl rfl (kr 0 rfl rfl (kr 5 rfl rfl SL.nil)))) BL.nil BK.nil) ?_)))))))
    rcases zE H with⟨h13,H⟩|⟨h13,H⟩
    ·refine zi eZ (dT h13) (aV (za eC (xQ (AW.ret (BQ.qr (TQ.qr (TQ.qr (BQ.qr (TQ.qr ?_)))))))))
     cases H
     exact eE rfl rfl
    ·exact zg eZ (dF h13) (AW.skip (BQ.qn (TQ.qn (aR (za rfl (qE eZ eC (za eZ (zj (TQ.qn ⟨(v11,(IntKind.wrap .i64 (s6.2+1))),H,(zn [] (sR rfl rfl) BL.nil BK.nil)⟩)))))))))
   ·exact zg eZ (dF h8) (AW.exit (TQ.qe (TQ.qe (BQ.qe (TQ.qn ⟨s6.1,H,(zn [] (sR rfl rfl) BL.nil BK.nil)⟩)))))
theorem zbL{a1:zp}{a2:Int}{r:Int}(H:Ja a1 a2=some r):Fn Try.prog 122 (lent [(.agg (zl a1)),(.int .i64 a2)]) true [(.int .i64 r)]:=by
 refine zsb (fle rfl) ?_
 rw[zD]
 refine AW.weaken (zn [] (kv 0 (.agg (jc a1)) rfl rfl (kv 1 (oI a2) rfl rfl SL.nil)) BL.nil BK.nil) ?_
 unfold Ja at H
 unfold znd
 refine aV (yX (n:=128) (m:=5) (cs:=(jc a1)) rfl eZ rfl rfl nZ (za eC (xQ (aV (ze (m:=4) rfl rfl (zm (q:=4) (c:=(.d (.sl 4 (List.map zd a1.Shares)))) eZ bZ rfl rfl (za rfl ?_)))))))
 obtain⟨v3,h4,H⟩:=zo H
 refine zM (u:=(oI v3)) eC Cl.fn (Kl h4) (Ec rfl (Ec eZ En)) (Vc Vp (Vc Vp Vn)) rfl (za eZ (xQ (aS (aV (za eZ (qJ eZ eC (xQ ?_)))))))
 rcases zE H with⟨h5,H⟩|⟨h5,H⟩
 ·refine zi eZ (dT h5) (aV (za eC (xQ (AW.ret (TQ.qr ?_)))))
  cases H
  exact eE rfl rfl
 ·refine zg eZ (dF h5) (AW.skip (TQ.qn (aV (za rfl (za eZ (xQ (AW.ret ?_)))))))
  cases H
  exact eE rfl rfl
theorem zaQ{a1:(List zp)}{a2:Int}{r:Int}(H:Qq a1 a2=some r):Fn Try.prog 87 (lent [(.sl 5 (List.map zl a1)),(.int .i64 a2)]) true [(.int .i64 r)]:=by
 refine f87 (fle rfl) ?_
 rw[zD]
 refine AW.weaken (zn [] (kv 0 (.one (.d (.sl 5 (List.map zl a1)))) rfl rfl (kv 1 (oI a2) rfl rfl SL.nil)) BL.nil BK.nil) ?_
 unfold Qq at H
 unfold i87
 refine aV (za eC (xQ (aV (za rfl (za rfl (zX eZ (n:=a1.length) lm (kM rfl eZ (za eZ (xQ (aS (aV (za eZ (qJ eZ eC (xQ ?_))))))))))))))
 rcases zE H with⟨h3,H⟩|⟨h3,H⟩
 ·refine zi eZ (dT h3) (aV (za eC (xQ (AW.ret (TQ.qr ?_)))))
  cases H
  exact eE rfl rfl
 ·refine zg eZ (dF h3) (AW.skip (TQ.qn (zJ (fun t4:Int=>QY t4=some r) (fun t4=>mk [(1,(oI t4))] [] noG) ?_ ?_)))
  ·intro t4 H
   unfold QY at H
   refine aV (za eZ (za eZ (xQ (AW.ret ?_))))
   cases H
   exact eE rfl rfl
  ·refine aV (za eC (xQ (AW.block (AW.iter (fun s6:(Int×Int)=>mk [(0,(.one (.d (.sl 5 (List.map zl a1))))),(1,(oI s6.1)),(5,(oI s6.2))] [] noG) H (zn [] (sR rfl rfl) BL.nil BK.nil) ?_))))
   intro kb7 s6 H
   unfold Q3 at H
   refine aS (aV (za rfl (za rfl (zX eZ (n:=a1.length) lm (qJ rfl eZ (xQ ?_))))))
   rcases zE H with⟨h8,H⟩|⟨h8,H⟩
   ·refine zi eZ (dT h8) (AW.skip (TQ.qn (aS (AW.block (aV (za rfl (za rfl ?_)))))))
    obtain⟨v9,h10,H⟩:=zo H
    refine je rfl eZ h10 (qG (es:=(jc v9)) eZ rfl (za rfl ?_))
    obtain⟨v11,h12,H⟩:=zo H
    refine zM (u:=(oI v11)) eC Cl.fn (zbL h12) (Ec rfl (Ec eZ En)) (Vc (VD.agg rfl) (Vc Vp Vn)) rfl (za eZ (xQ (aV (za eZ (qJ eZ eC (xQ (AW.weaken (zn [] (kr 25 rfl rfl (kr 1 rfl rfl (kr 0 rfl rfl (kr 5 rfl rfl SL.nil)))) BL.nil BK.nil) ?_)))))))
    rcases zE H with⟨h13,H⟩|⟨h13,H⟩
    ·refine zi eZ (dT h13) (aV (za eC (xQ (AW.ret (BQ.qr (TQ.qr (TQ.qr (BQ.qr (TQ.qr ?_)))))))))
     cases H
     exact eE rfl rfl
    ·exact zg eZ (dF h13) (AW.skip (BQ.qn (TQ.qn (aR (za rfl (qE eZ eC (za eZ (zj (TQ.qn ⟨(v11,(IntKind.wrap .i64 (s6.2+1))),H,(zn [] (sR rfl rfl) BL.nil BK.nil)⟩)))))))))
   ·exact zg eZ (dF h8) (AW.exit (TQ.qe (TQ.qe (BQ.qe (TQ.qn ⟨s6.1,H,(zn [] (sR rfl rfl) BL.nil BK.nil)⟩)))))
theorem zaO{a1:(List Int)}{a2:Int}{r:Int}(H:QB a1 a2=some r):Fn Try.prog 88 (lent [(.sl 1 (List.map zA a1)),(.int .i64 a2)]) true [(.int .i64 r)]:=by
 refine f88 (fle rfl) ?_
 rw[zD]
 refine AW.weaken (zn [] (kv 0 (.one (.d (.sl 1 (List.map zA a1)))) rfl rfl (kv 1 (oI a2) rfl rfl SL.nil)) BL.nil BK.nil) ?_
 unfold QB at H
 unfold i88
 refine aV (za eC (xQ (aV (za rfl (za rfl (zX eZ (n:=a1.length) lm (kM rfl eZ (za eZ (xQ (aS (aV (za eZ (qJ eZ eC (xQ ?_))))))))))))))
 rcases zE H with⟨h3,H⟩|⟨h3,H⟩
 ·refine zi eZ (dT h3) (aV (za eC (xQ (AW.ret (TQ.qr ?_)))))
  cases H
  exact eE rfl rfl
 ·refine zg eZ (dF h3) (AW.skip (TQ.qn (aV (za rfl (za eZ (xQ (AW.ret ?_)))))))
  cases H
  exact eE rfl rfl
theorem KA{a1:zw}{a2:Int}{r:Int}(H:ZB a1 a2=some r):Fn Try.prog 33 (lent [(.agg (qL a1)),(.int .i64 a2)]) true [(.int .i64 r)]:=by
 refine f33 (fle rfl) ?_
 rw[zD]
 refine AW.weaken (zn [] (kv 0 (.agg (zH a1)) rfl rfl (kv 1 (oI a2) rfl rfl SL.nil)) BL.nil BK.nil) ?_
 unfold ZB at H
 unfold i33
 refine aV (yX (n:=128) (m:=2) (cs:=(zH a1)) rfl eZ rfl rfl nZ (za eC (xQ (aV (ze (m:=0) rfl rfl (zm (q:=0) (c:=(.d (.sl 5 (List.map zl a1.Recs)))) eZ bZ rfl rfl (za rfl ?_)))))))
 obtain⟨v3,h4,H⟩:=zo H
 refine zM (u:=(oI v3)) eC Cl.fn (zaQ h4) (Ec rfl (Ec eZ En)) (Vc Vp (Vc Vp Vn)) rfl (za eZ (xQ (aS (aV (za eZ (qJ eZ eC (xQ ?_)))))))
 rcases zE H with⟨h5,H⟩|⟨h5,H⟩
 ·refine zi eZ (dT h5) (aV (za eC (xQ (AW.ret (TQ.qr ?_)))))
  cases H
  exact eE rfl rfl
 ·refine zg eZ (dF h5) (AW.skip (TQ.qn (aV (ze (m:=1) rfl rfl (zm (q:=1) (c:=(.d (.sl 1 (List.map zA a1.Order)))) eZ bZ rfl rfl (za rfl ?_))))))
  obtain⟨v6,h7,H⟩:=zo H
  refine zM (u:=(oI v6)) eC Cl.fn (zaO h7) (Ec rfl (Ec eZ En)) (Vc Vp (Vc Vp Vn)) rfl (za eZ (xQ (AW.weaken (zn [128] (kr 1 rfl rfl SL.nil) (blR rfl) BK.nil) (aS (aV (za eZ (qJ eZ eC (xQ ?_))))))))
  rcases zE H with⟨h8,H⟩|⟨h8,H⟩
  ·refine zi eZ (dT h8) (aV (za eC (xQ (AW.ret (TQ.qr ?_)))))
   cases H
   exact eE rfl rfl
  ·refine zg eZ (dF h8) (AW.skip (TQ.qn (aV (za rfl (za eZ (xQ (AW.ret ?_)))))))
   cases H
   exact eE rfl rfl
theorem KJ{a1:zC}{r:zC}(H:Js a1=some r):Fn Try.prog 184 (lent [(.agg (zx a1))]) true [(.agg (zx r))]:=by
 refine zr1 (fle rfl) ?_
 rw[zD]
 refine AW.weaken (zn [] (kv 0 (.agg [(dI a1.Lo),(dI a1.Hi)]) rfl rfl SL.nil) BL.nil BK.nil) ?_
 unfold Js at H
 unfold zqy
 refine aV (yX (n:=64) (m:=2) (cs:=[(dI a1.Lo),(dI a1.Hi)]) rfl eZ rfl rfl nZ (Qo (n:=128) (m:=2) rfl rfl (nR rfl) (xQ (aV (Qo (n:=192) (m:=2) rfl rfl (nR rfl) (xQ (aV (ze (m:=0) rfl rfl (zm (q:=0) (c:=(dI a1.Lo)) eZ (bR rfl) rfl rfl (ze (m:=0) rfl rfl (zN (es:=[(dI a1.Lo),(dI 0)]) eZ rfl rfl rfl bZ rfl (xQ (aV (ze (m:=1) rfl rfl (zm (q:=1) (c:=(dI a1.Hi)) eZ (bR rfl) rfl rfl (ze (m:=1) rfl rfl (zN (es:=[(dI a1.Lo),(dI a1.Hi)]) eZ rfl rfl rfl bZ rfl (xQ (aV (zZ (es:=[(dI a1.Lo),(dI a1.Hi)]) rfl bZ rfl (zN (es:=[(dI a1.Lo),(dI a1.Hi)]) rfl eZ rfl rfl (bR rfl) rfl (xQ (AW.ret ?_)))))))))))))))))))))))
 cases H
 exact jU (RL.cons (jD (es:=[(dI a1.Lo),(dI a1.Hi)]) rfl bZ rfl) (VO.agg (ds:=[(.int .i64 a1.Lo),(.int .i64 a1.Hi)]) rfl rfl) RL.nil) List.nodup_nil
theorem X5{a1:(List zC)}{r:(List zC)}(H:Zf a1=some r):Fn Try.prog 179 (lent [(.sl 2 (List.map zx a1))]) true [(.sl 2 (List.map zx r))]:=by
 refine zr7 (fle rfl) ?_
 rw[zD]
 refine AW.weaken (zn [] (kv 0 (.one (.d (.sl 2 (List.map zx a1)))) rfl rfl SL.nil) BL.nil BK.nil) ?_
 unfold Zf at H
 unfold zo4
 refine aV (za eC (xQ (aV (za rfl (zX eZ (n:=a1.length) lm ?_)))))
 obtain⟨h2,H⟩:=jf H
 refine zeR (f:=zx) (zv:=(zC.mk 0 0)) (own:=true) (m:=448) (q:=(Int.toNat (a1.length:Int))) rfl rfl eZ eZ h2.1 h2.2 rfl (by decide) rfl nZ (za eZ (xQ (zJ (fun t3:(List zC)=>ZX t3=some r) (fun t3=>mk [(3,(.one (.sl 320128 0 t3.length)))] [(320128,(.data 2 (List.map zx t3) true none))] noG) ?_ ?_)))
 ·intro t3 H
  unfold ZX at H
  refine aV (za eZ (za eZ (xQ (AW.ret ?_))))
  obtain rfl:=(Option.some.inj H)
  exact jU (RL.cons (RV.tmp eZ) (VO.sl bZ lm (qq fun _=>rfl)) RL.nil) (by decide)
 ·refine aV (za eC (xQ (AW.block (AW.iter (fun s5:((List zC)×Int)=>mk [(0,(.one (.d (.sl 2 (List.map zx a1))))),(3,(.one (.sl 320192 0 s5.1.length))),(4,(oI s5.2))] [(320192,(.data 2 (List.map zx s5.1) true none))] noG) H ((zn [] (kR rfl rfl (SL.cons (eR rfl) rfl (VWk.one (CWk.len (by first|(simp;done)|(simp;omega)|omega|(simp only[List.length_map];omega)))) (sR rfl rfl))) (blR rfl) (bkR rfl rfl rfl)).trans (XE 448 320192 rfl rfl (nR rfl))) ?_))))
  intro kb6 s5 H
  unfold ZM at H
  refine aS (aV (za rfl (za rfl (zX eZ (n:=a1.length) lm (qJ rfl eZ (xQ ?_))))))
  rcases zE H with⟨h7,H⟩|⟨h7,H⟩
  ·refine zi eZ (dT h7) (AW.skip (TQ.qn (aS (AW.block (aR (za rfl (za rfl (za rfl (za rfl ?_)))))))))
   obtain⟨v8,h9,H⟩:=zo H
   refine je rfl eZ h9 (qG (es:=[(dI v8.Lo),(dI v8.Hi)]) eZ rfl ?_)
   obtain⟨v10,h11,H⟩:=zo H
   refine zM (u:=(.agg [(dI v10.Lo),(dI v10.Hi)])) eC Cl.fn (KJ h11) (Ec eZ En) (Vc (VD.agg rfl) Vn) rfl ?_
   obtain⟨v12,h13,H⟩:=zo H
   exact Yh rfl rfl bZ rfl h13 (jZ (t:=v12) (t':=v10) (es:=[(.int .i64 v10.Lo),(.int .i64 v10.Hi)]) eZ rfl rfl rfl bZ (qi h13) rfl rfl (zj (BQ.qn (TQ.qn (aR (za rfl (qE eZ eC (za eZ (zj (TQ.qn ⟨(s5.1.set (Int.toNat s5.2) v10,(IntKind.wrap .i64 (s5.2+1))),H,(zn [] (kR rfl rfl (SL.cons (eR rfl) rfl (VWk.one (CWk.len (by first|(simp;done)|(simp;omega)|omega|(simp only[List.length_map];omega)))) (sR rfl rfl))) (blR rfl) (bkR rfl rfl rfl))⟩))))))))))
  ·exact zg eZ (dF h7) (AW.exit (TQ.qe (TQ.qe (BQ.qe (TQ.qn ⟨s5.1,H,((zn [] (sR rfl rfl) (blR rfl) (bkR rfl rfl rfl)).trans (XE 320192 320128 rfl rfl (nR rfl)))⟩)))))
theorem zas{a1:zO}{r:zO}(H:Q5 a1=some r):Fn Try.prog 185 (lent [(.agg (zG a1))]) true [(.agg (zG r))]:=by
 refine zsG (fle rfl) ?_
 rw[zD]
 refine AW.weaken (zn [] (kv 0 (.agg [(dI a1.Key),(dI a1.Value)]) rfl rfl SL.nil) BL.nil BK.nil) ?_
 unfold Q5 at H
 unfold zqu
 refine aV (yX (n:=64) (m:=2) (cs:=[(dI a1.Key),(dI a1.Value)]) rfl eZ rfl rfl nZ (Qo (n:=128) (m:=2) rfl rfl (nR rfl) (xQ (aV (Qo (n:=192) (m:=2) rfl rfl (nR rfl) (xQ (aV (ze (m:=0) rfl rfl (zm (q:=0) (c:=(dI a1.Key)) eZ (bR rfl) rfl rfl (ze (m:=0) rfl rfl (zN (es:=[(dI a1.Key),(dI 0)]) eZ rfl rfl rfl bZ rfl (xQ (aV (ze (m:=1) rfl rfl (zm (q:=1) (c:=(dI a1.Value)) eZ (bR rfl) rfl rfl (ze (m:=1) rfl rfl (zN (es:=[(dI a1.Key),(dI a1.Value)]) eZ rfl rfl rfl bZ rfl (xQ (aV (zZ (es:=[(dI a1.Key),(dI a1.Value)]) rfl bZ rfl (zN (es:=[(dI a1.Key),(dI a1.Value)]) rfl eZ rfl rfl (bR rfl) rfl (xQ (AW.ret ?_)))))))))))))))))))))))
 cases H
 exact jU (RL.cons (jD (es:=[(dI a1.Key),(dI a1.Value)]) rfl bZ rfl) (VO.agg (ds:=[(.int .i64 a1.Key),(.int .i64 a1.Value)]) rfl rfl) RL.nil) List.nodup_nil
theorem Kf{a1:(List zO)}{r:(List zO)}(H:y9 a1=some r):Fn Try.prog 180 (lent [(.sl 2 (List.map zG a1))]) true [(.sl 2 (List.map zG r))]:=by
 refine zsh (fle rfl) ?_
 rw[zD]
 refine AW.weaken (zn [] (kv 0 (.one (.d (.sl 2 (List.map zG a1)))) rfl rfl SL.nil) BL.nil BK.nil) ?_
 unfold y9 at H
 unfold zmg
 refine aV (za eC (xQ (aV (za rfl (zX eZ (n:=a1.length) lm ?_)))))
 obtain⟨h2,H⟩:=jf H
 refine zeR (f:=zG) (zv:=(zO.mk 0 0)) (own:=true) (m:=448) (q:=(Int.toNat (a1.length:Int))) rfl rfl eZ eZ h2.1 h2.2 rfl (by decide) rfl nZ (za eZ (xQ (zJ (fun t3:(List zO)=>Z0 t3=some r) (fun t3=>mk [(3,(.one (.sl 320128 0 t3.length)))] [(320128,(.data 2 (List.map zG t3) true none))] noG) ?_ ?_)))
 ·intro t3 H
  unfold Z0 at H
  refine aV (za eZ (za eZ (xQ (AW.ret ?_))))
  obtain rfl:=(Option.some.inj H)
  exact jU (RL.cons (RV.tmp eZ) (VO.sl bZ lm (qq fun _=>rfl)) RL.nil) (by decide)
 ·refine aV (za eC (xQ (AW.block (AW.iter (fun s5:((List zO)×Int)=>mk [(0,(.one (.d (.sl 2 (List.map zG a1))))),(3,(.one (.sl 320192 0 s5.1.length))),(4,(oI s5.2))] [(320192,(.data 2 (List.map zG s5.1) true none))] noG) H ((zn [] (kR rfl rfl (SL.cons (eR rfl) rfl (VWk.one (CWk.len (by first|(simp;done)|(simp;omega)|omega|(simp only[List.length_map];omega)))) (sR rfl rfl))) (blR rfl) (bkR rfl rfl rfl)).trans (XE 448 320192 rfl rfl (nR rfl))) ?_))))
  intro kb6 s5 H
  unfold Z2 at H
  refine aS (aV (za rfl (za rfl (zX eZ (n:=a1.length) lm (qJ rfl eZ (xQ ?_))))))
  rcases zE H with⟨h7,H⟩|⟨h7,H⟩
  ·refine zi eZ (dT h7) (AW.skip (TQ.qn (aS (AW.block (aR (za rfl (za rfl (za rfl (za rfl ?_)))))))))
   obtain⟨v8,h9,H⟩:=zo H
   refine je rfl eZ h9 (qG (es:=[(dI v8.Key),(dI v8.Value)]) eZ rfl ?_)
   obtain⟨v10,h11,H⟩:=zo H
   refine zM (u:=(.agg [(dI v10.Key),(dI v10.Value)])) eC Cl.fn (zas h11) (Ec eZ En) (Vc (VD.agg rfl) Vn) rfl ?_
   obtain⟨v12,h13,H⟩:=zo H
   exact Yh rfl rfl bZ rfl h13 (jZ (t:=v12) (t':=v10) (es:=[(.int .i64 v10.Key),(.int .i64 v10.Value)]) eZ rfl rfl rfl bZ (qi h13) rfl rfl (zj (BQ.qn (TQ.qn (aR (za rfl (qE eZ eC (za eZ (zj (TQ.qn ⟨(s5.1.set (Int.toNat s5.2) v10,(IntKind.wrap .i64 (s5.2+1))),H,(zn [] (kR rfl rfl (SL.cons (eR rfl) rfl (VWk.one (CWk.len (by first|(simp;done)|(simp;omega)|omega|(simp only[List.length_map];omega)))) (sR rfl rfl))) (blR rfl) (bkR rfl rfl rfl))⟩))))))))))
  ·exact zg eZ (dF h7) (AW.exit (TQ.qe (TQ.qe (BQ.qe (TQ.qn ⟨s5.1,H,((zn [] (sR rfl rfl) (blR rfl) (bkR rfl rfl rfl)).trans (XE 320192 320128 rfl rfl (nR rfl)))⟩)))))
theorem zao{a1:zb}{r:zb}(H:Zy a1=some r):Fn Try.prog 172 (lent [(.agg (zd a1))]) true [(.agg (zd r))]:=by
 refine zsE (fle rfl) ?_
 rw[zD]
 refine AW.weaken (t:=mk [(0,(.agg (ql a1)))] [] (lk [])) (zn [] (sR rfl rfl) BL.nil BK.nil) ?_
 unfold Zy at H
 unfold zmb
 refine aV (yX (n:=64) (m:=4) (cs:=(ql a1)) rfl eZ rfl rfl nZ (Qo (n:=128) (m:=4) rfl rfl (nR rfl) (xQ (aV (Qo (n:=192) (m:=4) rfl rfl (nR rfl) (xQ (aV (ze (m:=0) rfl rfl (zm (q:=0) (c:=(dI a1.Group)) eZ (bR rfl) rfl rfl (ze (m:=0) rfl rfl (zN (es:=[(dI a1.Group),.zs,.zs,(dI 0)]) eZ rfl rfl rfl bZ rfl (xQ (aS (zK (zh (ze (m:=1) rfl rfl (zj (zh (zm (q:=1) (c:=(.d (.sl 2 (List.map zx a1.Reads)))) eZ (bR rfl) rfl rfl (zj (zh ?_)))))))))))))))))))))
 obtain⟨v2,h3,H⟩:=zo H
 refine Qj (u:=(.one (.sl 576 0 v2.length))) (bs:=[(576,(.data 2 (List.map zx v2) true none))]) eC Cl.fn (X5 h3) (Ec eZ En) (Vc Vp Vn) (by simp[jR,yV,jn,yd,jz]) rfl (fC (nR rfl) rfl (fC (nR rfl) rfl fN)) (zj (zh (ze (m:=1) rfl rfl (zj (zh (zN (es:=[(dI a1.Group),(.sl 576 0 v2.length),.zs,(dI 0)]) eZ rfl rfl rfl (bR rfl) rfl (zj (zR (xQ (aS (zK (zh (ze (m:=2) rfl rfl (zj (zh (zm (q:=2) (c:=(.d (.sl 2 (List.map zG a1.Writes)))) eZ (bR rfl) rfl rfl (zj (zh ?_))))))))))))))))))
 obtain⟨v4,h5,H⟩:=zo H
 refine Qj (u:=(.one (.sl 832 0 v4.length))) (bs:=[(832,(.data 2 (List.map zG v4) true none))]) eC Cl.fn (Kf h5) (Ec eZ En) (Vc Vp Vn) (by simp[jR,yV,jn,yd,jz]) rfl (fC (nR rfl) rfl (fC (nR rfl) rfl fN)) (zj (zh (ze (m:=2) rfl rfl (zj (zh (zN (es:=[(dI a1.Group),(.sl 576 0 v2.length),(.sl 832 0 v4.length),(dI 0)]) eZ rfl rfl rfl (bR rfl) rfl (zj (zR (xQ (aV (ze (m:=3) rfl rfl (zm (q:=3) (c:=(dI a1.Vote)) eZ (bR rfl) rfl rfl (ze (m:=3) rfl rfl (zN (es:=[(dI a1.Group),(.sl 576 0 v2.length),(.sl 832 0 v4.length),(dI a1.Vote)]) eZ rfl rfl rfl bZ rfl (xQ (AW.weaken (zt [64] (kr 3 rfl rfl (kr 2 rfl rfl SL.nil)) (blR rfl) (BK.cons (n:=192) rfl bZ rfl rfl (BK.cons (n:=832) rfl (bR rfl) rfl rfl (BK.cons (n:=576) rfl (bR rfl) rfl rfl (BK.cons (n:=128) rfl (bR rfl) rfl rfl BK.nil)))) GK.nil) (aS (zK (zh (zZ (es:=[(dI a1.Group),(.sl 576 0 v2.length),(.sl 832 0 v4.length),(dI a1.Vote)]) eZ bZ rfl (zj (zh (zN (es:=[(dI a1.Group),(.sl 576 0 v2.length),(.sl 832 0 v4.length),(dI a1.Vote)]) rfl eZ rfl rfl (bR rfl) rfl (zj (zR (xQ (AW.ret ?_)))))))))))))))))))))))))))
 cases H
 exact jU (RL.cons (jD (es:=[(dI a1.Group),(.sl 576 0 v2.length),(.sl 832 0 v4.length),(dI a1.Vote)]) rfl bZ rfl) (VO.aggs (VOs.cons (VO.flat rfl) (VOs.cons (VO.sl (bR rfl) lm (qq fun _=>rfl)) (VOs.cons (VO.sl (bR rfl) lm (qq fun _=>rfl)) (VOs.cons (VO.flat rfl) VOs.nil))))) RL.nil) (by decide)
theorem Kk{a1:(List zb)}{r:(List zb)}(H:yS a1=some r):Fn Try.prog 151 (lent [(.sl 4 (List.map zd a1))]) true [(.sl 4 (List.map zd r))]:=by
 refine zr5 (fle rfl) ?_
 rw[zD]
 refine AW.weaken (t:=mk [(0,(.one (.d (.sl 4 (List.map zd a1)))))] [] (lk [])) (zn [] (sR rfl rfl) BL.nil BK.nil) ?_
 unfold yS at H
 unfold zqK
 refine aV (za eC (xQ (aS (zK (zh (za rfl (zj (zh (zX eZ (n:=a1.length) lm (zj ?_))))))))))
 obtain⟨h2,H⟩:=jf H
 refine zfv (f:=zd) (zv:=(zb.mk 0 ([]:(List zC)) ([]:(List zO)) 0)) (m:=448) (q:=(Int.toNat (a1.length:Int))) rfl eZ eZ h2.1 h2.2 rfl (by decide) rfl nZ (zR (za eZ (xQ (zJ (fun t3:(List zb)=>Qb t3=some r) (fun t3=>mk [(3,(.one (.sl 320128 0 t3.length)))] [(320128,(.data 4 (List.map zd t3) true none))] (lk [])) ?_ ?_))))
 ·intro t3 H
  unfold Qb at H
  refine aV (za eZ (za eZ (xQ (AW.ret ?_))))
  obtain rfl:=(Option.some.inj H)
  exact jU (RL.cons (RV.tmp eZ) (jH bZ lm rfl) RL.nil) (by decide)
 ·refine aV (za eC (xQ (AW.block (AW.iter (fun s5:((List zb)×Int)=>mk [(0,(.one (.d (.sl 4 (List.map zd a1))))),(3,(.one (.sl 320192 0 s5.1.length))),(4,(oI s5.2))] [(320192,(.data 4 (List.map zd s5.1) true none))] (lk [])) H ((zt [] (kR rfl rfl (SL.cons (eR rfl) rfl (VWk.one (CWk.len (by first|(simp;done)|(simp;omega)|omega|(simp only[List.length_map];omega)))) (sR rfl rfl))) (blR rfl) (bkR rfl rfl rfl) GK.nil).trans (yh 448 320192 rfl rfl (nR rfl) GR.nil)) ?_))))
  intro kb6 s5 H
  unfold Z5 at H
  refine aS (aV (za rfl (za rfl (zX eZ (n:=a1.length) lm (qJ rfl eZ (xQ ?_))))))
  rcases zE H with⟨h7,H⟩|⟨h7,H⟩
  ·refine zi eZ (dT h7) (AW.skip (TQ.qn (aS (AW.block (zK (zh (za rfl (zj (zh (za rfl (zj (zh (za rfl (zj (zh (za rfl (zj (zh ?_))))))))))))))))))
   obtain⟨v8,h9,H⟩:=zo H
   refine je rfl eZ h9 (zj (zh (qG (es:=(ql v8)) eZ rfl (zj (zh ?_)))))
   obtain⟨v10,h11,H⟩:=zo H
   refine Qj (u:=(.agg [(dI v10.Group),(.sl 1281 0 v10.Reads.length),(.sl 1282 0 v10.Writes.length),(dI v10.Vote)])) (bs:=[(1281,(.data 2 (List.map zx v10.Reads) true none)),(1282,(.data 2 (List.map zG v10.Writes) true none))]) eC Cl.fn (zao h11) (Ec eZ En) (Vc (VD.agg rfl) Vn) (by simp[jR,yV,jn,yd,jz]) rfl (fC (nR rfl) rfl (fC (nR rfl) rfl (fC (nR rfl) rfl fN))) (zj (zh ?_))
   obtain⟨v12,h13,H⟩:=zo H
   exact Yh rfl rfl (bR rfl) rfl h13 (zj (KE (f:=zd) (t:=v12) (t':=v10) (ds:=[(.int .i64 v10.Group),(.sl 2 (List.map zx v10.Reads)),(.sl 2 (List.map zG v10.Writes)),(.int .i64 v10.Vote)]) (ns:=[1281,1282]) eZ rfl rfl rfl (bR rfl) (qi h13) (VOs.cons (VO.flat rfl) (VOs.cons (VO.sl (bR rfl) lm (qq fun _=>rfl)) (VOs.cons (VO.sl bZ lm (qq fun _=>rfl)) (VOs.cons (VO.flat rfl) VOs.nil)))) rfl rfl (erL.cons (v':=(.one (.ptr (.nm 320192 (Int.toNat s5.2) 0)))) rfl (erL.cons (v':=(.agg [(dI v10.Group),.any,.any,(dI v10.Vote)])) rfl (erL.cons (v':=(.agg (ql v8))) rfl (erL.cons (v':=(.one (.ptr (.bd (zd v8) 0)))) rfl (erL.cons (v':=(oI s5.2)) rfl (erL.cons (v':=(.one (.d (.sl 4 (List.map zd a1))))) rfl (erL.cons (v':=(oI s5.2)) rfl (erL.cons (v':=(.one (.sl 320192 0 s5.1.length))) rfl (erL.cons (v':=(oB (decide (s5.2 < (a1.length:Int))))) rfl (erL.cons (v':=(oI (a1.length:Int))) rfl (erL.cons (v':=(.one (.d (.sl 4 (List.map zd a1))))) rfl (erL.cons (v':=(oI s5.2)) rfl (erL.cons (v':=(.one (.d (.sl 4 (List.map zd a1))))) rfl (erL.cons (v':=(.one (.sl 320192 0 s5.1.length))) rfl (erL.cons (v':=(oI s5.2)) rfl erL.nil))))))))))))))) (erH.drop rfl (erH.drop rfl (erH.cons (v':=(.data 4 (List.map zd s5.1) true none)) rfl rfl erH.nil))) erL.nil (zR (zj (BQ.qn (TQ.qn (aR (za rfl (qE eZ eC (za eZ (zj (TQ.qn ⟨(s5.1.set (Int.toNat s5.2) v10,(IntKind.wrap .i64 (s5.2+1))),H,(zt [] (kR rfl rfl (SL.cons (eR rfl) rfl (VWk.one (CWk.len (by first|(simp;done)|(simp;omega)|omega|(simp only[List.length_map];omega)))) (sR rfl rfl))) (blR rfl) (bkR rfl rfl rfl) GK.nil)⟩))))))))))))
  ·exact zg eZ (dF h7) (AW.exit (TQ.qe (TQ.qe (BQ.qe (TQ.qn ⟨s5.1,H,((zt [] (sR rfl rfl) (blR rfl) (bkR rfl rfl rfl) GK.nil).trans (yh 320192 320128 rfl rfl (nR rfl) GR.nil))⟩)))))
theorem zbw{a1:zp}{r:zp}(H:Jj a1=some r):Fn Try.prog 123 (lent [(.agg (zl a1))]) true [(.agg (zl r))]:=by
 refine zsS (fle rfl) ?_
 rw[zD]
 refine AW.weaken (t:=mk [(0,(.agg (jc a1)))] [] (lk [])) (zn [] (sR rfl rfl) BL.nil BK.nil) ?_
 unfold Jj at H
 unfold zqh
 refine aV (yX (n:=64) (m:=5) (cs:=(jc a1)) rfl eZ rfl rfl nZ (Qo (n:=128) (m:=5) rfl rfl (nR rfl) (xQ (aV (Qo (n:=192) (m:=5) rfl rfl (nR rfl) (xQ (aV (ze (m:=0) rfl rfl (zm (q:=0) (c:=(dI a1.Tx)) eZ (bR rfl) rfl rfl (ze (m:=0) rfl rfl (zN (es:=[(dI a1.Tx),(dI 0),(dI 0),(dI 0),.zs]) eZ rfl rfl rfl bZ rfl (xQ (aV (ze (m:=1) rfl rfl (zm (q:=1) (c:=(dI a1.Client)) eZ (bR rfl) rfl rfl (ze (m:=1) rfl rfl (zN (es:=[(dI a1.Tx),(dI a1.Client),(dI 0),(dI 0),.zs]) eZ rfl rfl rfl bZ rfl (xQ (aV (ze (m:=2) rfl rfl (zm (q:=2) (c:=(dI a1.Req)) eZ (bR rfl) rfl rfl (ze (m:=2) rfl rfl (zN (es:=[(dI a1.Tx),(dI a1.Client),(dI a1.Req),(dI 0),.zs]) eZ rfl rfl rfl bZ rfl (xQ (aV (ze (m:=3) rfl rfl (zm (q:=3) (c:=(dI a1.State)) eZ (bR rfl) rfl rfl (ze (m:=3) rfl rfl ?_))))))))))))))))))))))))))))
 refine zN (es:=[(dI a1.Tx),(dI a1.Client),(dI a1.Req),(dI a1.State),.zs]) eZ rfl rfl rfl bZ rfl (xQ (AW.weaken (zt [] (kr 3 rfl rfl (kr 2 rfl rfl (kr 1 rfl rfl SL.nil))) (blR rfl) (BK.cons (n:=192) rfl bZ rfl rfl (BK.cons (n:=128) rfl (bR rfl) rfl rfl (BK.cons (n:=64) rfl (bR rfl) rfl rfl BK.nil))) GK.nil) (aS (zK (zh (ze (m:=4) rfl rfl (zj (zh (zm (q:=4) (c:=(.d (.sl 4 (List.map zd a1.Shares)))) eZ (bR rfl) rfl rfl (zj (zh ?_)))))))))))
 obtain⟨v2,h3,H⟩:=zo H
 refine Qj (u:=(.one (.sl 1152 0 v2.length))) (bs:=[(1152,(.data 4 (List.map zd v2) true none))]) eC Cl.fn (Kk h3) (Ec eZ En) (Vc Vp Vn) (by simp[jR,yV,jn,yd,jz]) rfl (fC (nR rfl) rfl (fC (nR rfl) rfl fN)) (zj (zh (ze (m:=4) rfl rfl (zj (zh (zN (es:=[(dI a1.Tx),(dI a1.Client),(dI a1.Req),(dI a1.State),(.sl 1152 0 v2.length)]) eZ rfl rfl rfl (bR rfl) rfl (zj (zR (xQ (aS (zK (zh (zZ (es:=[(dI a1.Tx),(dI a1.Client),(dI a1.Req),(dI a1.State),(.sl 1152 0 v2.length)]) rfl bZ rfl (zj (zh (zN (es:=[(dI a1.Tx),(dI a1.Client),(dI a1.Req),(dI a1.State),(.sl 1152 0 v2.length)]) rfl eZ rfl rfl (bR rfl) rfl (zj (zR (xQ (AW.ret ?_))))))))))))))))))))
 cases H
 exact jU (RL.cons (jD (es:=[(dI a1.Tx),(dI a1.Client),(dI a1.Req),(dI a1.State),(.sl 1152 0 v2.length)]) rfl bZ rfl) (VO.aggs (VOs.cons (VO.flat rfl) (VOs.cons (VO.flat rfl) (VOs.cons (VO.flat rfl) (VOs.cons (VO.flat rfl) (VOs.cons (jH (bR rfl) lm rfl) VOs.nil)))))) RL.nil) (by decide)
theorem zaI{a1:(List zp)}{r:(List zp)}(H:Qr a1=some r):Fn Try.prog 89 (lent [(.sl 5 (List.map zl a1))]) true [(.sl 5 (List.map zl r))]:=by
 refine f89 (fle rfl) ?_
 rw[zD]
 refine AW.weaken (t:=mk [(0,(.one (.d (.sl 5 (List.map zl a1)))))] [] (lk [])) (zn [] (sR rfl rfl) BL.nil BK.nil) ?_
 unfold Qr at H
 unfold i89
 refine aV (za eC (xQ (aS (zK (zh (za rfl (zj (zh (zX eZ (n:=a1.length) lm (zj ?_))))))))))
 obtain⟨h2,H⟩:=jf H
 refine zfv (f:=zl) (zv:=(zp.mk 0 0 0 0 ([]:(List zb)))) (m:=448) (q:=(Int.toNat (a1.length:Int))) rfl eZ eZ h2.1 h2.2 rfl (by decide) rfl nZ (zR (za eZ (xQ (zJ (fun t3:(List zp)=>Q1 t3=some r) (fun t3=>mk [(3,(.one (.sl 320128 0 t3.length)))] [(320128,(.data 5 (List.map zl t3) true none))] (lk [])) ?_ ?_))))
 ·intro t3 H
  unfold Q1 at H
  refine aV (za eZ (za eZ (xQ (AW.ret ?_))))
  obtain rfl:=(Option.some.inj H)
  exact jU (RL.cons (RV.tmp eZ) (jH bZ lm rfl) RL.nil) (by decide)
 ·refine aV (za eC (xQ (AW.block (AW.iter (fun s5:((List zp)×Int)=>mk [(0,(.one (.d (.sl 5 (List.map zl a1))))),(3,(.one (.sl 320192 0 s5.1.length))),(4,(oI s5.2))] [(320192,(.data 5 (List.map zl s5.1) true none))] (lk [])) H ((zt [] (kR rfl rfl (SL.cons (eR rfl) rfl (VWk.one (CWk.len (by first|(simp;done)|(simp;omega)|omega|(simp only[List.length_map];omega)))) (sR rfl rfl))) (blR rfl) (bkR rfl rfl rfl) GK.nil).trans (yh 448 320192 rfl rfl (nR rfl) GR.nil)) ?_))))
  intro kb6 s5 H
  unfold Q9 at H
  refine aS (aV (za rfl (za rfl (zX eZ (n:=a1.length) lm (qJ rfl eZ (xQ ?_))))))
  rcases zE H with⟨h7,H⟩|⟨h7,H⟩
  ·refine zi eZ (dT h7) (AW.skip (TQ.qn (aS (AW.block (zK (zh (za rfl (zj (zh (za rfl (zj (zh (za rfl (zj (zh (za rfl (zj (zh ?_))))))))))))))))))
   obtain⟨v8,h9,H⟩:=zo H
   refine je rfl eZ h9 (zj (zh (qG (es:=(jc v8)) eZ rfl (zj (zh ?_)))))
   obtain⟨v10,h11,H⟩:=zo H
   refine Qj (u:=(.agg [(dI v10.Tx),(dI v10.Client),(dI v10.Req),(dI v10.State),(.sl 1284 0 v10.Shares.length)])) (bs:=[(1284,(.data 4 (List.map zd v10.Shares) true none))]) eC Cl.fn (zbw h11) (Ec eZ En) (Vc (VD.agg rfl) Vn) (by simp[jR,yV,jn,yd,jz]) rfl (fC (nR rfl) rfl (fC (nR rfl) rfl fN)) (zj (zh ?_))
   obtain⟨v12,h13,H⟩:=zo H
   exact Yh rfl rfl (bR rfl) rfl h13 (zj (KE (f:=zl) (t:=v12) (t':=v10) (ds:=[(.int .i64 v10.Tx),(.int .i64 v10.Client),(.int .i64 v10.Req),(.int .i64 v10.State),(.sl 4 (List.map zd v10.Shares))]) (ns:=[1284]) eZ rfl rfl rfl (bR rfl) (qi h13) (VOs.cons (VO.flat rfl) (VOs.cons (VO.flat rfl) (VOs.cons (VO.flat rfl) (VOs.cons (VO.flat rfl) (VOs.cons (jH bZ lm rfl) VOs.nil))))) rfl rfl (erL.cons (v':=(.one (.ptr (.nm 320192 (Int.toNat s5.2) 0)))) rfl (erL.cons (v':=(.agg [(dI v10.Tx),(dI v10.Client),(dI v10.Req),(dI v10.State),.any])) rfl (erL.cons (v':=(.agg (jc v8))) rfl (erL.cons (v':=(.one (.ptr (.bd (zl v8) 0)))) rfl (erL.cons (v':=(oI s5.2)) rfl (erL.cons (v':=(.one (.d (.sl 5 (List.map zl a1))))) rfl (erL.cons (v':=(oI s5.2)) rfl (erL.cons (v':=(.one (.sl 320192 0 s5.1.length))) rfl (erL.cons (v':=(oB (decide (s5.2 < (a1.length:Int))))) rfl (erL.cons (v':=(oI (a1.length:Int))) rfl (erL.cons (v':=(.one (.d (.sl 5 (List.map zl a1))))) rfl (erL.cons (v':=(oI s5.2)) rfl (erL.cons (v':=(.one (.d (.sl 5 (List.map zl a1))))) rfl (erL.cons (v':=(.one (.sl 320192 0 s5.1.length))) rfl (erL.cons (v':=(oI s5.2)) rfl erL.nil))))))))))))))) (erH.drop rfl (erH.cons (v':=(.data 5 (List.map zl s5.1) true none)) rfl rfl erH.nil)) erL.nil (zR (zj (BQ.qn (TQ.qn (aR (za rfl (qE eZ eC (za eZ (zj (TQ.qn ⟨(s5.1.set (Int.toNat s5.2) v10,(IntKind.wrap .i64 (s5.2+1))),H,(zt [] (kR rfl rfl (SL.cons (eR rfl) rfl (VWk.one (CWk.len (by first|(simp;done)|(simp;omega)|omega|(simp only[List.length_map];omega)))) (sR rfl rfl))) (blR rfl) (bkR rfl rfl rfl) GK.nil)⟩))))))))))))
  ·exact zg eZ (dF h7) (AW.exit (TQ.qe (TQ.qe (BQ.qe (TQ.qn ⟨s5.1,H,((zt [] (sR rfl rfl) (blR rfl) (bkR rfl rfl rfl) GK.nil).trans (yh 320192 320128 rfl rfl (nR rfl) GR.nil))⟩)))))
theorem zaK{a1:(List Int)}{r:(List Int)}(H:QA a1=some r):Fn Try.prog 90 (lent [(.sl 1 (List.map zA a1))]) true [(.sl 1 (List.map zA r))]:=by
 refine f90 (fle rfl) ?_
 rw[zD]
 refine AW.weaken (zn [] (kv 0 (.one (.d (.sl 1 (List.map zA a1)))) rfl rfl SL.nil) BL.nil BK.nil) ?_
 unfold QA at H
 unfold i90
 refine aV (za eC (xQ (aV (za rfl (zX eZ (n:=a1.length) lm ?_)))))
 obtain⟨h2,H⟩:=jf H
 refine zeR (f:=zA) (zv:=0) (own:=true) (m:=448) (q:=(Int.toNat (a1.length:Int))) rfl rfl eZ eZ h2.1 h2.2 rfl (by decide) rfl nZ (za eZ (xQ (zJ (fun t3:(List Int)=>Jc t3=some r) (fun t3=>mk [(3,(.one (.sl 320128 0 t3.length)))] [(320128,(.data 1 (List.map zA t3) true none))] noG) ?_ ?_)))
 ·intro t3 H
  unfold Jc at H
  refine aV (za eZ (za eZ (xQ (AW.ret ?_))))
  obtain rfl:=(Option.some.inj H)
  exact jU (RL.cons (RV.tmp eZ) (VO.sl bZ lm (qq fun _=>rfl)) RL.nil) (by decide)
 ·refine aV (za eC (xQ (AW.block (AW.iter (fun s5:((List Int)×Int)=>mk [(0,(.one (.d (.sl 1 (List.map zA a1))))),(3,(.one (.sl 320192 0 s5.1.length))),(4,(oI s5.2))] [(320192,(.data 1 (List.map zA s5.1) true none))] noG) H ((zn [] (kR rfl rfl (SL.cons (eR rfl) rfl (VWk.one (CWk.len (by first|(simp;done)|(simp;omega)|omega|(simp only[List.length_map];omega)))) (sR rfl rfl))) (blR rfl) (bkR rfl rfl rfl)).trans (XE 448 320192 rfl rfl (nR rfl))) ?_))))
  intro kb6 s5 H
  unfold Jm at H
  refine aS (aV (za rfl (za rfl (zX eZ (n:=a1.length) lm (qJ rfl eZ (xQ ?_))))))
  rcases zE H with⟨h7,H⟩|⟨h7,H⟩
  ·refine zi eZ (dT h7) (AW.skip (TQ.qn (aS (AW.block (aR (za rfl (za rfl (za rfl (za rfl ?_)))))))))
   obtain⟨v8,h9,H⟩:=zo H
   refine je rfl eZ h9 (qC (e:=(.int .i64 v8)) eZ rfl ?_)
   obtain⟨v10,h11,H⟩:=zo H
   exact Yh rfl rfl bZ rfl h11 (jZ (t:=v10) (t':=v8) (es:=[(.int .i64 v8)]) eZ rfl rfl rfl bZ (qi h11) rfl rfl (zj (BQ.qn (TQ.qn (aR (za rfl (qE eZ eC (za eZ (zj (TQ.qn ⟨(s5.1.set (Int.toNat s5.2) v8,(IntKind.wrap .i64 (s5.2+1))),H,(zn [] (kR rfl rfl (SL.cons (eR rfl) rfl (VWk.one (CWk.len (by first|(simp;done)|(simp;omega)|omega|(simp only[List.length_map];omega)))) (sR rfl rfl))) (blR rfl) (bkR rfl rfl rfl))⟩))))))))))
  ·exact zg eZ (dF h7) (AW.exit (TQ.qe (TQ.qe (BQ.qe (TQ.qn ⟨s5.1,H,((zn [] (sR rfl rfl) (blR rfl) (bkR rfl rfl rfl)).trans (XE 320192 320128 rfl rfl (nR rfl)))⟩)))))
theorem Q7{a1:zw}{r:zw}(H:jy a1=some r):Fn Try.prog 34 (lent [(.agg (qL a1))]) true [(.agg (qL r))]:=by
 refine f34 (fle rfl) ?_
 rw[zD]
 refine AW.weaken (t:=mk [(0,(.agg (zH a1)))] [] (lk [])) (zn [] (sR rfl rfl) BL.nil BK.nil) ?_
 unfold jy at H
 unfold i34
 refine aV (yX (n:=64) (m:=2) (cs:=(zH a1)) rfl eZ rfl rfl nZ (Qo (n:=128) (m:=2) rfl rfl (nR rfl) (xQ (aV (Qo (n:=192) (m:=2) rfl rfl (nR rfl) (xQ (aS (zK (zh (ze (m:=0) rfl rfl (zj (zh (zm (q:=0) (c:=(.d (.sl 5 (List.map zl a1.Recs)))) eZ (bR rfl) rfl rfl (zj (zh ?_)))))))))))))))
 obtain⟨v2,h3,H⟩:=zo H
 refine Qj (u:=(.one (.sl 384 0 v2.length))) (bs:=[(384,(.data 5 (List.map zl v2) true none))]) eC Cl.fn (zaI h3) (Ec eZ En) (Vc Vp Vn) (by simp[jR,yV,jn,yd,jz]) rfl (fC (nR rfl) rfl (fC (nR rfl) rfl fN)) (zj (zh (ze (m:=0) rfl rfl (zj (zh (zN (es:=[(.sl 384 0 v2.length),.zs]) eZ rfl rfl rfl (bR rfl) rfl (zj (zR (xQ (aS (zK (zh (ze (m:=1) rfl rfl (zj (zh (zm (q:=1) (c:=(.d (.sl 1 (List.map zA a1.Order)))) eZ (bR rfl) rfl rfl (zj (zh ?_))))))))))))))))))
 obtain⟨v4,h5,H⟩:=zo H
 refine Qj (u:=(.one (.sl 640 0 v4.length))) (bs:=[(640,(.data 1 (List.map zA v4) true none))]) eC Cl.fn (zaK h5) (Ec eZ En) (Vc Vp Vn) (by simp[jR,yV,jn,yd,jz]) rfl (fC (nR rfl) rfl (fC (nR rfl) rfl fN)) (zj (zh (ze (m:=1) rfl rfl (zj (zh (zN (es:=[(.sl 384 0 v2.length),(.sl 640 0 v4.length)]) eZ rfl rfl rfl (bR rfl) rfl (zj (zR (xQ (aS (zK (zh (zZ (es:=[(.sl 384 0 v2.length),(.sl 640 0 v4.length)]) rfl bZ rfl (zj (zh (zN (es:=[(.sl 384 0 v2.length),(.sl 640 0 v4.length)]) rfl eZ rfl rfl (bR rfl) rfl (zj (zR (xQ (AW.ret ?_))))))))))))))))))))
 cases H
 exact jU (RL.cons (jD (es:=[(.sl 384 0 v2.length),(.sl 640 0 v4.length)]) rfl bZ rfl) (VO.aggs (VOs.cons (jH (bR rfl) lm rfl) (VOs.cons (VO.sl (bR rfl) lm (qq fun _=>rfl)) VOs.nil))) RL.nil) (by decide)
theorem yf{a1:Int}{a2:Int}{a3:Int}{r:Bool}(H:jb a1 a2 a3=some r):Fn Try.prog 64 (lent [(.int .i64 a1),(.int .i64 a2),(.int .i64 a3)]) true [(.bool r)]:=by
 refine f64 (fle rfl) ?_
 rw[zD]
 refine AW.weaken (zn [] (kv 0 (oI a1) rfl rfl (kv 1 (oI a2) rfl rfl (kv 2 (oI a3) rfl rfl SL.nil))) BL.nil BK.nil) ?_
 unfold jb at H
 unfold i64
 refine aV (za eC (xQ (aV (za rfl (za rfl (Kn rfl eZ (za eZ ?_)))))))
 rcases zE H with⟨h4,H⟩|⟨h4,H⟩
 ·refine gDo eZ (dT h4) (za rfl (gDo rfl (dT h4) (za rfl (gDo rfl (dT h4) (zcO rfl eZ (zL rfl (dT h4) eZ (za eZ (xQ (AW.ret ?_)))))))))
  cases H
  exact eE rfl rfl
 ·refine zf eZ (dF h4) rfl (zf rfl (dF h4) rfl (zf rfl (dF h4) rfl (zV rfl (dF h4) eC (za eZ (xQ (AW.ret ?_))))))
  cases H
  exact eE rfl rfl
theorem KG{a1:Int}{r:Bool}(H:ZF a1=some r):Fn Try.prog 63 (lent [(.int .i64 a1)]) true [(.bool r)]:=by
 refine f63 (fle rfl) ?_
 rw[zD]
 refine AW.weaken (zn [] (kv 0 (oI a1) rfl rfl SL.nil) BL.nil BK.nil) ?_
 unfold ZF at H
 unfold i63
 refine aV (za eC (xQ (aV (za rfl ?_))))
 obtain⟨v2,h3,H⟩:=zo H
 refine zM (u:=(oB v2)) eC Cl.fn (yf h3) (Ec eZ (Ec eC (Ec eC En))) (Vc Vp (Vc Vp (Vc Vp Vn))) rfl (za eZ (xQ (AW.ret ?_)))
 cases H
 exact eE rfl rfl
theorem zaN{a1:Int}{r:Bool}(H:Qt a1=some r):Fn Try.prog 99 (lent [(.int .i64 a1)]) true [(.bool r)]:=by
 refine f99 (fle rfl) ?_
 rw[zD]
 refine AW.weaken (zn [] (kv 0 (oI a1) rfl rfl SL.nil) BL.nil BK.nil) ?_
 unfold Qt at H
 unfold i99
 refine aV (za eC (xQ (aV (za rfl ?_))))
 obtain⟨v2,h3,H⟩:=zo H
 refine zM (u:=(oB v2)) eC Cl.fn (yf h3) (Ec eZ (Ec eC (Ec eC En))) (Vc Vp (Vc Vp (Vc Vp Vn))) rfl (za eZ (xQ (AW.ret ?_)))
 cases H
 exact eE rfl rfl
theorem xf{a1:(List zO)}{r:Bool}(H:j3 a1=some r):Fn Try.prog 105 (lent [(.sl 2 (List.map zG a1))]) true [(.bool r)]:=by
 refine zsO (fle rfl) ?_
 rw[zD]
 refine AW.weaken (zn [] (kv 0 (.one (.d (.sl 2 (List.map zG a1)))) rfl rfl SL.nil) BL.nil BK.nil) ?_
 unfold j3 at H
 unfold zoI
 refine aV (za eC (xQ (aS (aV (za rfl (zX eZ (n:=a1.length) lm (Kj eZ eC (xQ ?_))))))))
 rcases zE H with⟨h2,H⟩|⟨h2,H⟩
 ·refine zi eZ (dT h2) (aV (za eC (xQ (AW.ret (TQ.qr ?_)))))
  cases H
  exact eE rfl rfl
 ·refine zg eZ (dF h2) (AW.skip (TQ.qn (zJ (fun t3:Unit=>JJ t3=some r) (fun t3=>mk [] [] noG) ?_ ?_)))
  ·intro t3 H
   unfold JJ at H
   refine aV (za eC (xQ (AW.ret ?_)))
   cases H
   exact eE rfl rfl
  ·refine aV (za eC (xQ (AW.block (AW.iter (fun s5:Int=>mk [(0,(.one (.d (.sl 2 (List.map zG a1))))),(3,(oI s5))] [] noG) H (zn [] (sR rfl rfl) BL.nil BK.nil) ?_))))
   intro kb6 s5 H
   unfold ZL at H
   refine aS (aV (za rfl (za rfl (zX eZ (n:=a1.length) lm (qJ rfl eZ (xQ ?_))))))
   rcases zE H with⟨h7,H⟩|⟨h7,H⟩
   ·refine zi eZ (dT h7) (AW.skip (TQ.qn (aS (AW.block (zJ (fun t8:Bool=>(jt kb6 s5) t8=some r) (fun t8=>mk [(0,(.one (.d (.sl 2 (List.map zG a1))))),(3,(oI s5)),(46,(oB t8))] [] noG) ?_ ?_)))))
    ·intro t8 H
     unfold jt at H
     rcases zE H with⟨h10,H⟩|⟨h10,H⟩
     ·refine zi rfl h10 (aV (za eC (xQ (AW.ret (BQ.qr (TQ.qr (TQ.qr (BQ.qr (TQ.qr ?_)))))))))
      cases H
      exact eE rfl rfl
     ·exact zg rfl (nt h10) (AW.skip (BQ.qn (TQ.qn (aR (za rfl (qE eZ eC (za eZ (zj (TQ.qn ⟨(IntKind.wrap .i64 (s5+1)),H,(zn [] (sR rfl rfl) BL.nil BK.nil)⟩)))))))))
    ·refine AW.regd (za rfl (za rfl ?_))
     obtain⟨v11,h12,H⟩:=zo H
     refine je rfl eZ h12 (qI (m:=0) eZ rfl (qC (e:=(.int .i64 v11.Key)) eZ rfl ?_))
     obtain⟨v13,h14,H⟩:=zo H
     refine zM (u:=(oB v13)) eC Cl.fn (zaN h14) (Ec eZ En) (Vc Vp Vn) rfl (jE eZ (za eZ ?_))
     rcases zE H with⟨h15,H⟩|⟨h15,H⟩
     ·refine gDo eZ (cN h15) (za rfl (gDo rfl (cN h15) (za rfl (gDo rfl (cN h15) ?_))))
      obtain⟨v16,h17,H⟩:=zo H
      refine je rfl eZ h17 (gDo rfl (cN h15) (qI (m:=1) eZ rfl (gDo rfl (cN h15) (qC (e:=(.int .i64 v16.Value)) eZ rfl (gDo rfl (cN h15) ?_)))))
      obtain⟨v18,h19,H⟩:=zo H
      refine zM (u:=(oB v18)) eC Cl.fn (yf h19) (Ec eZ (Ec eC (Ec eC En))) (Vc Vp (Vc Vp (Vc Vp Vn))) rfl (gDo rfl (cN h15) (jE eZ (zV rfl (cN h15) eZ (za eZ ?_))))
      rcases zE H with⟨h20,H⟩|⟨h20,H⟩
      ·refine gDo eZ (cN h20) (za rfl (gDo rfl (cN h20) (Kj eZ eC (gDo rfl (cN h20) (za eZ ?_)))))
       rcases zE H with⟨h21,H⟩|⟨h21,H⟩
       ·refine gDo eZ (dT h21) (za rfl (gDo rfl (dT h21) (za rfl (gDo rfl (dT h21) (kM eZ eC (gDo rfl (dT h21) ?_))))))
        obtain⟨v22,h23,H⟩:=zo H
        refine je rfl eZ h23 (gDo rfl (dT h21) (qI (m:=0) eZ rfl (gDo rfl (dT h21) (qC (e:=(.int .i64 v22.Key)) eZ rfl (gDo rfl (dT h21) (za rfl (gDo rfl (dT h21) (za rfl (gDo rfl (dT h21) ?_)))))))))
        obtain⟨v24,h25,H⟩:=zo H
        exact je rfl eZ h25 (gDo rfl (dT h21) (qI (m:=0) eZ rfl (gDo rfl (dT h21) (qC (e:=(.int .i64 v24.Key)) eZ rfl (gDo rfl (dT h21) (Kn rfl eZ (gDo rfl (cN h20) (zL rfl (dT h21) eZ (zV rfl (cN h20) eZ (zj (TQ.qn ⟨(decide (v24.Key≤v22.Key)),H,(zn [] (sR rfl rfl) BL.nil BK.nil)⟩)))))))))))
       ·exact zf eZ (dF h21) rfl (zf rfl (dF h21) rfl (zf rfl (dF h21) rfl (zf rfl (dF h21) rfl (zf rfl (dF h21) rfl (zf rfl (dF h21) rfl (zf rfl (dF h21) rfl (zf rfl (dF h21) rfl (zf rfl (dF h21) rfl (zf rfl (dF h21) rfl (zf rfl (dF h21) rfl (zf rfl (dF h21) rfl (gDo rfl (cN h20) (zV rfl (dF h21) eC (zV rfl (cN h20) eZ (zj (TQ.qn ⟨false,H,(zn [] (sR rfl rfl) BL.nil BK.nil)⟩))))))))))))))))
      ·exact zf eZ (cN (nt h20)) rfl (zf rfl (cN (nt h20)) rfl (zf rfl (cN (nt h20)) rfl (zU eZ rfl (zU rfl rfl (zU rfl rfl (zU rfl rfl (zU rfl rfl (zU rfl rfl (zU rfl rfl (zU rfl rfl (zU rfl rfl (zU rfl rfl (zU rfl rfl (zU rfl rfl (zf rfl (cN (nt h20)) rfl (zL rfl (cN (nt h20)) eC (zj (TQ.qn ⟨true,H,(zn [] (sR rfl rfl) BL.nil BK.nil)⟩))))))))))))))))))
     ·exact zf eZ (cN (nt h15)) rfl (zf rfl (cN (nt h15)) rfl (zf rfl (cN (nt h15)) rfl (zf rfl (cN (nt h15)) rfl (zf rfl (cN (nt h15)) rfl (zf rfl (cN (nt h15)) rfl (zf rfl (cN (nt h15)) rfl (zL rfl (cN (nt h15)) eC (za eZ (zf eZ rfl rfl (zf rfl rfl rfl (zf rfl rfl rfl (zU eZ rfl (zU rfl rfl (zU rfl rfl (zU rfl rfl (zU rfl rfl (zU rfl rfl (zU rfl rfl (zU rfl rfl (zU rfl rfl (zU rfl rfl (zU rfl rfl (zU rfl rfl (zf rfl rfl rfl (zL rfl rfl eC (zj (TQ.qn ⟨true,H,(zn [] (sR rfl rfl) BL.nil BK.nil)⟩)))))))))))))))))))))))))))
   ·exact zg eZ (dF h7) (AW.exit (TQ.qe (TQ.qe (BQ.qe (TQ.qn ⟨(),H,(zn [] SL.nil BL.nil BK.nil)⟩)))))
theorem KZ{a1:zC}{r:Bool}(H:Zx a1=some r):Fn Try.prog 121 (lent [(.agg (zx a1))]) true [(.bool r)]:=by
 refine zsA (fle rfl) ?_
 rw[zD]
 refine AW.weaken (zn [] (kv 0 (.agg [(dI a1.Lo),(dI a1.Hi)]) rfl rfl SL.nil) BL.nil BK.nil) ?_
 unfold Zx at H
 unfold zmY
 refine aV (yX (n:=64) (m:=2) (cs:=[(dI a1.Lo),(dI a1.Hi)]) rfl eZ rfl rfl nZ (za eC (xQ (aV (ze (m:=0) rfl rfl (zm (q:=0) (c:=(dI a1.Lo)) eZ bZ rfl rfl (Kn eZ eC (za eZ ?_))))))))
 rcases zE H with⟨h2,H⟩|⟨h2,H⟩
 ·refine gDo eZ (dT h2) (ze (m:=0) rfl rfl (gDo rfl (dT h2) (zm (q:=0) (c:=(dI a1.Lo)) eZ bZ rfl rfl (gDo rfl (dT h2) (ze (m:=1) rfl rfl (gDo rfl (dT h2) (zm (q:=1) (c:=(dI a1.Hi)) eZ bZ rfl rfl (gDo rfl (dT h2) (qJ rfl eZ (zL rfl (dT h2) eZ (za eZ ?_)))))))))))
  rcases zE H with⟨h3,H⟩|⟨h3,H⟩
  ·refine gDo eZ (dT h3) (ze (m:=1) rfl rfl (gDo rfl (dT h3) (zm (q:=1) (c:=(dI a1.Hi)) eZ bZ rfl rfl (gDo rfl (dT h3) (zcO eZ eC (zL rfl (dT h3) eZ (za eZ (xQ (AW.weaken (zn [64] (kr 2 rfl rfl SL.nil) (blR rfl) BK.nil) (AW.ret ?_))))))))))
   cases H
   exact eE rfl rfl
  ·refine zf eZ (dF h3) rfl (zf rfl (dF h3) rfl (zf rfl (dF h3) rfl (zV rfl (dF h3) eC (za eZ (xQ (AW.weaken (zn [64] (kr 2 rfl rfl SL.nil) (blR rfl) BK.nil) (AW.ret ?_)))))))
   cases H
   exact eE rfl rfl
 ·refine zf eZ (dF h2) rfl (zf rfl (dF h2) rfl (zf rfl (dF h2) rfl (zf rfl (dF h2) rfl (zf rfl (dF h2) rfl (zV rfl (dF h2) eC (za eZ (zf eZ rfl rfl (zf rfl rfl rfl (zf rfl rfl rfl (zV rfl rfl eC (za eZ (xQ (AW.weaken (zn [64] (kr 2 rfl rfl SL.nil) (blR rfl) BK.nil) (AW.ret ?_))))))))))))))
  cases H
  exact eE rfl rfl
theorem X3{a1:(List zb)}{r:Bool}(H:yU a1=some r):Fn Try.prog 81 (lent [(.sl 4 (List.map zd a1))]) true [(.bool r)]:=by
 refine f81 (fle rfl) ?_
 rw[zD]
 refine AW.weaken (t:=mk [(0,(.one (.d (.sl 4 (List.map zd a1)))))] [] (lk [])) (zn [] (sR rfl rfl) BL.nil BK.nil) ?_
 unfold yU at H
 unfold i81
 refine aV (za eC (xQ (aS (aV (za rfl (zX eZ (n:=a1.length) lm (Kj eZ eC (xQ ?_))))))))
 rcases zE H with⟨h2,H⟩|⟨h2,H⟩
 ·refine zi eZ (dT h2) (aV (za eC (xQ (AW.ret (TQ.qr ?_)))))
  cases H
  exact eE rfl rfl
 ·refine zg eZ (dF h2) (AW.skip (TQ.qn (zJ (fun t3:Unit=>Jx t3=some r) (fun t3=>mk [] [] (lk [])) ?_ ?_)))
  ·intro t3 H
   unfold Jx at H
   refine aV (za eC (xQ (AW.ret ?_)))
   cases H
   exact eE rfl rfl
  ·refine aV (za eC (xQ (AW.block (AW.iter (fun s5:Int=>mk [(0,(.one (.d (.sl 4 (List.map zd a1))))),(3,(oI s5))] [] (lk [])) H (zt [] (sR rfl rfl) BL.nil BK.nil GK.nil) ?_))))
   intro kb6 s5 H
   unfold ZW at H
   refine aS (aV (za rfl (za rfl (zX eZ (n:=a1.length) lm (qJ rfl eZ (xQ ?_))))))
   rcases zE H with⟨h7,H⟩|⟨h7,H⟩
   ·refine zi eZ (dT h7) (AW.skip (TQ.qn (zJ (fun t8:Unit=>(qc kb6 s5) t8=some r) (fun t8=>mk [(0,(.one (.d (.sl 4 (List.map zd a1))))),(3,(oI s5))] [] (lk [])) ?_ ?_)))
    ·intro t8 H
     unfold qc at H
     exact aR (za rfl (qE eZ eC (za eZ (zj (TQ.qn ⟨(IntKind.wrap .i64 (s5+1)),H,(zt [] (sR rfl rfl) BL.nil BK.nil GK.nil)⟩)))))
    ·refine AW.block (aS (zK (zh (za rfl (zj (zh (za rfl (zj (zh ?_)))))))))
     obtain⟨v10,h11,H⟩:=zo H
     refine je rfl eZ h11 (zj (zh (qG (es:=(ql v10)) eZ rfl (zj (zh (Qo (n:=256) (m:=4) rfl rfl nZ (zj (zh (zN (es:=(ql v10)) eZ rfl rfl rfl bZ rfl (zj (zR (xQ (aS (zJ (fun t12:Bool=>(qg v10 (qc kb6 s5)) t12=some r) (fun t12=>mk [(0,(.one (.d (.sl 4 (List.map zd a1))))),(3,(oI s5)),(4,(.one (.ptr (.nm 256 0 0)))),(55,(oB t12))] [(256,(.vars 4 (ql v10)))] (lk [])) ?_ ?_))))))))))))))
     ·intro t12 H
      unfold qg at H
      rcases zE H with⟨h14,H⟩|⟨h14,H⟩
      ·refine zi rfl h14 (aV (za eC (xQ (AW.ret (TQ.qr (BQ.qr (TQ.qr (TQ.qr (BQ.qr (TQ.qr ?_))))))))))
       cases H
       exact eE rfl rfl
      ·refine zg rfl (nt h14) (AW.skip (TQ.qn (aV (za eC (xQ (AW.block (AW.iter (fun s15:Int=>mk [(0,(.one (.d (.sl 4 (List.map zd a1))))),(3,(oI s5)),(4,(.one (.ptr (.nm 256 0 0)))),(5,(oI s15))] [(256,(.vars 4 (ql v10)))] (lk [])) H (zt [] (sR rfl rfl) (blR rfl) (bkR rfl rfl rfl) GK.nil) ?_)))))))
       intro kb16 s15 H
       unfold j5 at H
       refine aS (aV (za rfl (ze (m:=1) rfl rfl (zm (q:=1) (c:=(.d (.sl 2 (List.map zx v10.Reads)))) eZ bZ rfl rfl (zX eZ (n:=v10.Reads.length) lm (qJ rfl eZ (xQ ?_)))))))
       rcases zE H with⟨h17,H⟩|⟨h17,H⟩
       ·refine zi eZ (dT h17) (AW.skip (TQ.qn (aS (AW.block (aV (ze (m:=1) rfl rfl (zm (q:=1) (c:=(.d (.sl 2 (List.map zx v10.Reads)))) eZ bZ rfl rfl (za rfl ?_))))))))
        obtain⟨v18,h19,H⟩:=zo H
        refine je rfl eZ h19 (qG (es:=[(dI v18.Lo),(dI v18.Hi)]) eZ rfl ?_)
        obtain⟨v20,h21,H⟩:=zo H
        refine zM (u:=(oB v20)) eC Cl.fn (KZ h21) (Ec eZ En) (Vc (VD.agg rfl) Vn) rfl (jE eZ (xQ (AW.weaken (zt [] (kr 69 rfl rfl (kr 0 rfl rfl (kr 3 rfl rfl (kr 4 rfl rfl (kr 5 rfl rfl SL.nil))))) (blR rfl) (BK.cons (n:=256) rfl bZ rfl rfl BK.nil) GK.nil) ?_)))
        rcases zE H with⟨h22,H⟩|⟨h22,H⟩
        ·exact zg eZ (cN h22) (AW.skip (BQ.qn (TQ.qn (aR (za rfl (qE eZ eC (za eZ (zj (TQ.qn ⟨(IntKind.wrap .i64 (s15+1)),H,(zt [] (sR rfl rfl) (blR rfl) (bkR rfl rfl rfl) GK.nil)⟩)))))))))
        ·refine zi eZ (cN (nt h22)) (aV (za eC (xQ (AW.ret (BQ.qr (TQ.qr (TQ.qr (BQ.qr (BQ.qr (TQ.qr (TQ.qr (BQ.qr (TQ.qr ?_)))))))))))))
         cases H
         exact eE rfl rfl
       ·exact zg eZ (dF h17) (AW.exit (TQ.qe (TQ.qe (BQ.qe (BQ.qn (TQ.qn ⟨(),H,(zt [256] (sR rfl rfl) (blR rfl) BK.nil GK.nil)⟩))))))
     ·refine AW.regd (ze (m:=0) eZ rfl (zm (q:=0) (c:=(dI v10.Group)) eZ bZ rfl rfl ?_))
      obtain⟨v23,h24,H⟩:=zo H
      refine zM (u:=(oB v23)) eC Cl.fn (yf h24) (Ec eZ (Ec eC (Ec eC En))) (Vc Vp (Vc Vp (Vc Vp Vn))) rfl (jE eZ (za eZ ?_))
      rcases zE H with⟨h25,H⟩|⟨h25,H⟩
      ·refine gDo eZ (cN h25) (za rfl (gDo rfl (cN h25) (Kj eZ eC (gDo rfl (cN h25) (za eZ ?_)))))
       rcases zE H with⟨h26,H⟩|⟨h26,H⟩
       ·refine gDo eZ (dT h26) (za rfl (gDo rfl (dT h26) (za rfl (gDo rfl (dT h26) (kM eZ eC (gDo rfl (dT h26) ?_))))))
        obtain⟨v27,h28,H⟩:=zo H
        refine je rfl eZ h28 (gDo rfl (dT h26) (qI (m:=0) eZ rfl (gDo rfl (dT h26) (qC (e:=(.int .i64 v27.Group)) eZ rfl (gDo rfl (dT h26) (ze (m:=0) rfl rfl (gDo rfl (dT h26) (zm (q:=0) (c:=(dI v10.Group)) eZ bZ rfl rfl (gDo rfl (dT h26) (Kn rfl eZ (gDo rfl (cN h25) (zL rfl (dT h26) eZ (zV rfl (cN h25) eZ (za eZ ?_))))))))))))))
        rcases zE H with⟨h29,H⟩|⟨h29,H⟩
        ·exact zf eZ (dT h29) rfl (zf rfl (dT h29) rfl (zf rfl (dT h29) rfl (zf rfl (dT h29) rfl (zL rfl (dT h29) eC (za eZ (zf eZ rfl rfl (zf rfl rfl rfl (zf rfl rfl rfl (zf rfl rfl rfl (zL rfl rfl eC (za eZ (zf eZ rfl rfl (zf rfl rfl rfl (zf rfl rfl rfl (zf rfl rfl rfl (zL rfl rfl eC (zj (TQ.qn ⟨true,H,(zt [] (sR rfl rfl) (blR rfl) (bkR rfl rfl rfl) GK.nil)⟩))))))))))))))))))
        ·refine gDo eZ (dF h29) (ze (m:=1) rfl rfl (gDo rfl (dF h29) (zm (q:=1) (c:=(.d (.sl 2 (List.map zx v10.Reads)))) eZ bZ rfl rfl (gDo rfl (dF h29) (zX eZ (n:=v10.Reads.length) lm (gDo rfl (dF h29) (Kj eZ eC (zV rfl (dF h29) eZ (za eZ ?_)))))))))
         rcases zE H with⟨h30,H⟩|⟨h30,H⟩
         ·exact zf eZ (dT h30) rfl (zf rfl (dT h30) rfl (zf rfl (dT h30) rfl (zf rfl (dT h30) rfl (zL rfl (dT h30) eC (za eZ (zf eZ rfl rfl (zf rfl rfl rfl (zf rfl rfl rfl (zf rfl rfl rfl (zL rfl rfl eC (zj (TQ.qn ⟨true,H,(zt [] (sR rfl rfl) (blR rfl) (bkR rfl rfl rfl) GK.nil)⟩))))))))))))
         ·refine gDo eZ (dF h30) (ze (m:=2) rfl rfl (gDo rfl (dF h30) (zm (q:=2) (c:=(.d (.sl 2 (List.map zG v10.Writes)))) eZ bZ rfl rfl (gDo rfl (dF h30) ?_))))
          obtain⟨v31,h32,H⟩:=zo H
          refine zM (u:=(oB v31)) eC Cl.fn (xf h32) (Ec eZ En) (Vc Vp Vn) rfl (gDo rfl (dF h30) (jE eZ (zV rfl (dF h30) eZ (za eZ ?_))))
          rcases zE H with⟨h33,H⟩|⟨h33,H⟩
          ·refine gDo eZ (cN h33) (ze (m:=3) rfl rfl (gDo rfl (cN h33) (zm (q:=3) (c:=(dI v10.Vote)) eZ bZ rfl rfl (gDo rfl (cN h33) ?_))))
           obtain⟨v34,h35,H⟩:=zo H
           exact zM (u:=(oB v34)) eC Cl.fn (yf h35) (Ec eZ (Ec eC (Ec eC En))) (Vc Vp (Vc Vp (Vc Vp Vn))) rfl (gDo rfl (cN h33) (jE eZ (zV rfl (cN h33) eZ (zj (TQ.qn ⟨(!v34),H,(zt [] (sR rfl rfl) (blR rfl) (bkR rfl rfl rfl) GK.nil)⟩)))))
          ·exact zf eZ (cN (nt h33)) rfl (zf rfl (cN (nt h33)) rfl (zf rfl (cN (nt h33)) rfl (zf rfl (cN (nt h33)) rfl (zL rfl (cN (nt h33)) eC (zj (TQ.qn ⟨true,H,(zt [] (sR rfl rfl) (blR rfl) (bkR rfl rfl rfl) GK.nil)⟩))))))
       ·refine zf eZ (dF h26) rfl (zf rfl (dF h26) rfl (zf rfl (dF h26) rfl (zf rfl (dF h26) rfl (zf rfl (dF h26) rfl (zf rfl (dF h26) rfl (zf rfl (dF h26) rfl (zf rfl (dF h26) rfl (zf rfl (dF h26) rfl (gDo rfl (cN h25) (zV rfl (dF h26) eC (zV rfl (cN h25) eZ (za eZ (gDo eZ rfl (ze (m:=1) rfl rfl (gDo rfl rfl (zm (q:=1) (c:=(.d (.sl 2 (List.map zx v10.Reads)))) eZ bZ rfl rfl (gDo rfl rfl (zX eZ (n:=v10.Reads.length) lm (gDo rfl rfl (Kj eZ eC (zV rfl rfl eZ (za eZ ?_))))))))))))))))))))))
        rcases zE H with⟨h36,H⟩|⟨h36,H⟩
        ·exact zf eZ (dT h36) rfl (zf rfl (dT h36) rfl (zf rfl (dT h36) rfl (zf rfl (dT h36) rfl (zL rfl (dT h36) eC (za eZ (zf eZ rfl rfl (zf rfl rfl rfl (zf rfl rfl rfl (zf rfl rfl rfl (zL rfl rfl eC (zj (TQ.qn ⟨true,H,(zt [] (sR rfl rfl) (blR rfl) (bkR rfl rfl rfl) GK.nil)⟩))))))))))))
        ·refine gDo eZ (dF h36) (ze (m:=2) rfl rfl (gDo rfl (dF h36) (zm (q:=2) (c:=(.d (.sl 2 (List.map zG v10.Writes)))) eZ bZ rfl rfl (gDo rfl (dF h36) ?_))))
         obtain⟨v37,h38,H⟩:=zo H
         refine zM (u:=(oB v37)) eC Cl.fn (xf h38) (Ec eZ En) (Vc Vp Vn) rfl (gDo rfl (dF h36) (jE eZ (zV rfl (dF h36) eZ (za eZ ?_))))
         rcases zE H with⟨h39,H⟩|⟨h39,H⟩
         ·refine gDo eZ (cN h39) (ze (m:=3) rfl rfl (gDo rfl (cN h39) (zm (q:=3) (c:=(dI v10.Vote)) eZ bZ rfl rfl (gDo rfl (cN h39) ?_))))
          obtain⟨v40,h41,H⟩:=zo H
          exact zM (u:=(oB v40)) eC Cl.fn (yf h41) (Ec eZ (Ec eC (Ec eC En))) (Vc Vp (Vc Vp (Vc Vp Vn))) rfl (gDo rfl (cN h39) (jE eZ (zV rfl (cN h39) eZ (zj (TQ.qn ⟨(!v40),H,(zt [] (sR rfl rfl) (blR rfl) (bkR rfl rfl rfl) GK.nil)⟩)))))
         ·exact zf eZ (cN (nt h39)) rfl (zf rfl (cN (nt h39)) rfl (zf rfl (cN (nt h39)) rfl (zf rfl (cN (nt h39)) rfl (zL rfl (cN (nt h39)) eC (zj (TQ.qn ⟨true,H,(zt [] (sR rfl rfl) (blR rfl) (bkR rfl rfl rfl) GK.nil)⟩))))))
      ·exact zf eZ (cN (nt h25)) rfl (zf rfl (cN (nt h25)) rfl (zf rfl (cN (nt h25)) rfl (zU eZ rfl (zU rfl rfl (zU rfl rfl (zU rfl rfl (zU rfl rfl (zU rfl rfl (zU rfl rfl (zU rfl rfl (zU rfl rfl (zf rfl (cN (nt h25)) rfl (zL rfl (cN (nt h25)) eC (za eZ (zf eZ rfl rfl (zf rfl rfl rfl (zf rfl rfl rfl (zf rfl rfl rfl (zL rfl rfl eC (za eZ (zf eZ rfl rfl (zf rfl rfl rfl (zf rfl rfl rfl (zf rfl rfl rfl (zL rfl rfl eC (za eZ (zf eZ rfl rfl (zf rfl rfl rfl (zf rfl rfl rfl (zf rfl rfl rfl (zL rfl rfl eC (zj (TQ.qn ⟨true,H,(zt [] (sR rfl rfl) (blR rfl) (bkR rfl rfl rfl) GK.nil)⟩)))))))))))))))))))))))))))))))))
   ·exact zg eZ (dF h7) (AW.exit (TQ.qe (TQ.qe (BQ.qe (TQ.qn ⟨(),H,(zt [] SL.nil BL.nil BK.nil GK.nil)⟩)))))
theorem QK{a1:(List zb)}{a2:Int}{r:Int}(H:jj a1 a2=some r):Fn Try.prog 82 (lent [(.sl 4 (List.map zd a1)),(.int .i64 a2)]) true [(.int .i64 r)]:=by
 refine f82 (fle rfl) ?_
 rw[zD]
 refine AW.weaken (zn [] (kv 0 (.one (.d (.sl 4 (List.map zd a1)))) rfl rfl (kv 1 (oI a2) rfl rfl SL.nil)) BL.nil BK.nil) ?_
 unfold jj at H
 unfold i82
 refine aV (za eC (xQ (aV (za eC (xQ (zJ (fun t3:Int=>Z6 t3=some r) (fun t3=>mk [(5,(oI t3))] [] noG) ?_ ?_))))))
 ·intro t3 H
  unfold Z6 at H
  refine aV (za eZ (za eZ (xQ (AW.ret ?_))))
  cases H
  exact eE rfl rfl
 ·refine aV (za eC (xQ (AW.block (AW.iter (fun s5:(Int×Int)=>mk [(0,(.one (.d (.sl 4 (List.map zd a1))))),(1,(oI a2)),(5,(oI s5.1)),(6,(oI s5.2))] [] noG) H (zn [] (sR rfl rfl) BL.nil BK.nil) ?_))))
  intro kb6 s5 H
  unfold ZR at H
  refine aS (aV (za rfl (za rfl (zX eZ (n:=a1.length) lm (qJ rfl eZ (xQ ?_))))))
  rcases zE H with⟨h7,H⟩|⟨h7,H⟩
  ·refine zi eZ (dT h7) (AW.skip (TQ.qn (aS (AW.block (aV (za rfl (za rfl ?_)))))))
   obtain⟨v8,h9,H⟩:=zo H
   refine je rfl eZ h9 (qI (m:=3) eZ rfl (qC (e:=(.int .i64 v8.Vote)) eZ rfl (za rfl (Jp rfl eZ (xQ ?_)))))
   rcases zE H with⟨h10,H⟩|⟨h10,H⟩
   ·exact zi eZ (dT h10) (aR (za rfl (qE eZ eC (za eZ (zj (BQ.qn (TQ.qn (AW.weaken (zn [] (kr 5 rfl rfl (kr 0 rfl rfl (kr 1 rfl rfl (kr 6 rfl rfl SL.nil)))) BL.nil BK.nil) (aR (za rfl (qE eZ eC (za eZ (zj (TQ.qn ⟨((IntKind.wrap .i64 (s5.1+1)),(IntKind.wrap .i64 (s5.2+1))),H,(zn [] (sR rfl rfl) BL.nil BK.nil)⟩))))))))))))))
   ·exact zg eZ (dF h10) (AW.skip (BQ.qn (TQ.qn (aR (za rfl (qE eZ eC (za eZ (zj (TQ.qn ⟨(s5.1,(IntKind.wrap .i64 (s5.2+1))),H,(zn [] (sR rfl rfl) BL.nil BK.nil)⟩)))))))))
  ·exact zg eZ (dF h7) (AW.exit (TQ.qe (TQ.qe (BQ.qe (TQ.qn ⟨s5.1,H,(zn [] (sR rfl rfl) BL.nil BK.nil)⟩)))))
theorem Ko{a1:zp}{r:Bool}(H:yY a1=some r):Fn Try.prog 71 (lent [(.agg (zl a1))]) true [(.bool r)]:=by
 refine f71 (fle rfl) ?_
 rw[zD]
 refine AW.weaken (zn [] (kv 0 (.agg (jc a1)) rfl rfl SL.nil) BL.nil BK.nil) ?_
 unfold yY at H
 unfold i71
 refine aV (yX (n:=64) (m:=5) (cs:=(jc a1)) rfl eZ rfl rfl nZ (za eC (xQ (aS (zJ (fun t2:Bool=>(jP a1) t2=some r) (fun t2=>mk [(1,(.one (.ptr (.nm 64 0 0)))),(18,(oB t2))] [(64,(.vars 5 (jc a1)))] noG) ?_ ?_)))))
 ·intro t2 H
  unfold jP at H
  rcases zE H with⟨h4,H⟩|⟨h4,H⟩
  ·refine zi rfl h4 (aV (za eC (xQ (AW.ret (TQ.qr ?_)))))
   cases H
   exact eE rfl rfl
  ·refine zg rfl (nt h4) (AW.skip (TQ.qn (aS (aV (ze (m:=3) eZ rfl (zm (q:=3) (c:=(dI a1.State)) eZ bZ rfl rfl (xQ (AW.block (aV (Jp eZ eC (za eZ (xQ ?_))))))))))))
   rcases zE H with⟨h5,H⟩|⟨h5,H⟩
   ·refine zi eZ (dT h5) (aV (ze (m:=4) rfl rfl (zm (q:=4) (c:=(.d (.sl 4 (List.map zd a1.Shares)))) eZ bZ rfl rfl (zX eZ (n:=a1.Shares.length) lm (Jp eZ eC (za eZ (xQ (AW.ret (BQ.qr (TQ.qr ?_))))))))))
    cases H
    exact eE rfl rfl
   ·refine zg eZ (dF h5) (aV (Jp rfl eC (za eZ (xQ ?_))))
    rcases zE H with⟨h6,H⟩|⟨h6,H⟩
    ·refine zi eZ (dT h6) (aV (ze (m:=4) rfl rfl (zm (q:=4) (c:=(.d (.sl 4 (List.map zd a1.Shares)))) eZ bZ rfl rfl ?_)))
     obtain⟨v7,h8,H⟩:=zo H
     refine zM (u:=(oI v7)) eC Cl.fn (QK h8) (Ec eZ (Ec eC En)) (Vc Vp (Vc Vp Vn)) rfl (Kj eZ eC (za eZ ?_))
     rcases zE H with⟨h9,H⟩|⟨h9,H⟩
     ·refine gDo eZ (dT h9) (ze (m:=4) rfl rfl (gDo rfl (dT h9) (zm (q:=4) (c:=(.d (.sl 4 (List.map zd a1.Shares)))) eZ bZ rfl rfl (gDo rfl (dT h9) ?_))))
      obtain⟨v10,h11,H⟩:=zo H
      refine zM (u:=(oI v10)) eC Cl.fn (QK h11) (Ec eZ (Ec eC En)) (Vc Vp (Vc Vp Vn)) rfl (gDo rfl (dT h9) (Jp eZ eC (zL rfl (dT h9) eZ (za eZ (xQ (AW.weaken (zn [64] (kr 2 rfl rfl SL.nil) (blR rfl) BK.nil) (AW.ret (BQ.qr (TQ.qr ?_)))))))))
      cases H
      exact eE rfl rfl
     ·refine zf eZ (dF h9) rfl (zf rfl (dF h9) rfl (zf rfl (dF h9) rfl (zf rfl (dF h9) rfl (zV rfl (dF h9) eC (za eZ (xQ (AW.weaken (zn [64] (kr 2 rfl rfl SL.nil) (blR rfl) BK.nil) (AW.ret (BQ.qr (TQ.qr ?_))))))))))
      cases H
      exact eE rfl rfl
    ·refine zg eZ (dF h6) (aV (Jp rfl eC (za eZ (xQ ?_))))
     rcases zE H with⟨h12,H⟩|⟨h12,H⟩
     ·refine zi eZ (dT h12) (aS (AW.regd (ze (m:=4) rfl rfl (zm (q:=4) (c:=(.d (.sl 4 (List.map zd a1.Shares)))) eZ bZ rfl rfl ?_))))
      obtain⟨v13,h14,H⟩:=zo H
      refine zM (u:=(oI v13)) eC Cl.fn (QK h14) (Ec eZ (Ec eC En)) (Vc Vp (Vc Vp Vn)) rfl (ze (m:=4) rfl rfl (zm (q:=4) (c:=(.d (.sl 4 (List.map zd a1.Shares)))) eZ (hB rfl bZ) rfl rfl (zX eZ (n:=a1.Shares.length) lm (Jp rfl eZ (za eZ (xQ (AW.weaken (zn [64] (kr 2 rfl rfl SL.nil) (blR rfl) BK.nil) (AW.ret (BQ.qr (TQ.qr ?_))))))))))
      cases H
      exact eE rfl rfl
     ·refine zg eZ (dF h12) (AW.skip (BQ.qn (TQ.qn (aV (ze (m:=3) rfl rfl (zm (q:=3) (c:=(dI a1.State)) eZ bZ rfl rfl (Jp eZ eC (za eZ (xQ (AW.ret ?_))))))))))
      cases H
      exact eE rfl rfl
 ·refine aR (ze (m:=1) rfl rfl (zm (q:=1) (c:=(dI a1.Client)) eZ bZ rfl rfl ?_))
  obtain⟨v15,h16,H⟩:=zo H
  refine zM (u:=(oB v15)) eC Cl.fn (KG h16) (Ec eZ En) (Vc Vp Vn) rfl (jE eZ (za eZ ?_))
  rcases zE H with⟨h17,H⟩|⟨h17,H⟩
  ·refine gDo eZ (cN h17) (ze (m:=2) rfl rfl (gDo rfl (cN h17) (zm (q:=2) (c:=(dI a1.Req)) eZ bZ rfl rfl (gDo rfl (cN h17) ?_))))
   obtain⟨v18,h19,H⟩:=zo H
   refine zM (u:=(oB v18)) eC Cl.fn (yf h19) (Ec eZ (Ec eC (Ec eC En))) (Vc Vp (Vc Vp (Vc Vp Vn))) rfl (gDo rfl (cN h17) (jE eZ (zV rfl (cN h17) eZ (za eZ ?_))))
   rcases zE H with⟨h20,H⟩|⟨h20,H⟩
   ·refine gDo eZ (cN h20) (ze (m:=4) rfl rfl (gDo rfl (cN h20) (zm (q:=4) (c:=(.d (.sl 4 (List.map zd a1.Shares)))) eZ bZ rfl rfl (gDo rfl (cN h20) ?_))))
    obtain⟨v21,h22,H⟩:=zo H
    exact zM (u:=(oB v21)) eC Cl.fn (X3 h22) (Ec eZ En) (Vc Vp Vn) rfl (gDo rfl (cN h20) (jE eZ (zV rfl (cN h20) eZ (zj (TQ.qn ⟨(!v21),H,(zn [] (sR rfl rfl) (blR rfl) (bkR rfl rfl rfl))⟩)))))
   ·exact zf eZ (cN (nt h20)) rfl (zf rfl (cN (nt h20)) rfl (zf rfl (cN (nt h20)) rfl (zf rfl (cN (nt h20)) rfl (zL rfl (cN (nt h20)) eC (zj (TQ.qn ⟨true,H,(zn [] (sR rfl rfl) (blR rfl) (bkR rfl rfl rfl))⟩))))))
  ·exact zf eZ (cN (nt h17)) rfl (zf rfl (cN (nt h17)) rfl (zf rfl (cN (nt h17)) rfl (zf rfl (cN (nt h17)) rfl (zL rfl (cN (nt h17)) eC (za eZ (zf eZ rfl rfl (zf rfl rfl rfl (zf rfl rfl rfl (zf rfl rfl rfl (zL rfl rfl eC (zj (TQ.qn ⟨true,H,(zn [] (sR rfl rfl) (blR rfl) (bkR rfl rfl rfl))⟩))))))))))))
theorem zaF{a1:(List Int)}{a2:Int}{r:Bool}(H:Qy a1 a2=some r):Fn Try.prog 72 (lent [(.sl 1 (List.map zA a1)),(.int .i64 a2)]) true [(.bool r)]:=by
 refine f72 (fle rfl) ?_
 rw[zD]
 refine AW.weaken (zn [] (kv 0 (.one (.d (.sl 1 (List.map zA a1)))) rfl rfl (kv 1 (oI a2) rfl rfl SL.nil)) BL.nil BK.nil) ?_
 unfold Qy at H
 unfold i72
 refine aV (za eC (xQ (zJ (fun t3:Unit=>Yj t3=some r) (fun t3=>mk [] [] noG) ?_ ?_)))
 ·intro t3 H
  unfold Yj at H
  refine aV (za eC (xQ (AW.ret ?_)))
  cases H
  exact eE rfl rfl
 ·refine aV (za eC (xQ (AW.block (AW.iter (fun s5:Int=>mk [(0,(.one (.d (.sl 1 (List.map zA a1))))),(1,(oI a2)),(5,(oI s5))] [] noG) H (zn [] (sR rfl rfl) BL.nil BK.nil) ?_))))
  intro kb6 s5 H
  unfold Ji at H
  refine aS (aV (za rfl (za rfl (zX eZ (n:=a1.length) lm (qJ rfl eZ (xQ ?_))))))
  rcases zE H with⟨h7,H⟩|⟨h7,H⟩
  ·refine zi eZ (dT h7) (AW.skip (TQ.qn (aS (AW.block (aV (za rfl (za rfl ?_)))))))
   obtain⟨v8,h9,H⟩:=zo H
   refine je rfl eZ h9 (qC (e:=(.int .i64 v8)) eZ rfl (za rfl (Jp rfl eZ (xQ ?_))))
   rcases zE H with⟨h10,H⟩|⟨h10,H⟩
   ·refine zi eZ (dT h10) (aV (za eC (xQ (AW.ret (BQ.qr (TQ.qr (TQ.qr (BQ.qr (TQ.qr ?_)))))))))
    cases H
    exact eE rfl rfl
   ·exact zg eZ (dF h10) (AW.skip (BQ.qn (TQ.qn (aR (za rfl (qE eZ eC (za eZ (zj (TQ.qn ⟨(IntKind.wrap .i64 (s5+1)),H,(zn [] (sR rfl rfl) BL.nil BK.nil)⟩)))))))))
  ·exact zg eZ (dF h7) (AW.exit (TQ.qe (TQ.qe (BQ.qe (TQ.qn ⟨(),H,(zn [] SL.nil BL.nil BK.nil)⟩)))))
theorem zam{a1:zw}{r:Bool}(H:Zs a1=some r):Fn Try.prog 24 (lent [(.agg (qL a1))]) true [(.bool r)]:=by
 refine f24 (fle rfl) ?_
 rw[zD]
 refine AW.weaken (t:=mk [(0,(.agg (zH a1)))] [] (lk [])) (zn [] (sR rfl rfl) BL.nil BK.nil) ?_
 unfold Zs at H
 unfold i24
 refine aV (yX (n:=64) (m:=2) (cs:=(zH a1)) rfl eZ rfl rfl nZ (za eC (xQ (aS (zJ (fun t2:Bool=>(Zb a1) t2=some r) (fun t2=>mk [(1,(.one (.ptr (.nm 64 0 0)))),(18,(oB t2))] [(64,(.vars 2 (zH a1)))] (lk [])) ?_ ?_)))))
 ·intro t2 H
  unfold Zb at H
  rcases zE H with⟨h4,H⟩|⟨h4,H⟩
  ·refine zi rfl h4 (aV (za eC (xQ (AW.ret (TQ.qr ?_)))))
   cases H
   exact eE rfl rfl
  ·refine zg rfl (nt h4) (AW.skip (TQ.qn (aV (za eC (xQ (zJ (fun t5:Int=>(QL a1) t5=some r) (fun t5=>mk [(1,(.one (.ptr (.nm 64 0 0)))),(3,(oI t5))] [(64,(.vars 2 (zH a1)))] (lk [])) ?_ ?_))))))
   ·intro t5 H
    unfold QL at H
    refine zJ (fun t7:Unit=>(QH t5 a1) t7=some r) (fun t7=>mk [(1,(.one (.ptr (.nm 64 0 0)))),(3,(oI t5))] [(64,(.vars 2 (zH a1)))] (lk [])) ?_ ?_
    ·intro t7 H
     unfold QH at H
     refine aV (za rfl (ze (m:=1) rfl rfl (zm (q:=1) (c:=(.d (.sl 1 (List.map zA a1.Order)))) eZ bZ rfl rfl (zX eZ (n:=a1.Order.length) lm (Jp rfl eZ (za eZ (xQ (AW.ret ?_))))))))
     cases H
     exact eE rfl rfl
    ·refine aV (za eC (xQ (AW.block (AW.iter (fun s9:Int=>mk [(1,(.one (.ptr (.nm 64 0 0)))),(3,(oI t5)),(7,(oI s9))] [(64,(.vars 2 (zH a1)))] (lk [])) H (zt [] (sR rfl rfl) (blR rfl) (bkR rfl rfl rfl) GK.nil) ?_))))
     intro kb10 s9 H
     unfold QI at H
     refine aS (aV (za rfl (ze (m:=1) rfl rfl (zm (q:=1) (c:=(.d (.sl 1 (List.map zA a1.Order)))) eZ bZ rfl rfl (zX eZ (n:=a1.Order.length) lm (qJ rfl eZ (xQ ?_)))))))
     rcases zE H with⟨h11,H⟩|⟨h11,H⟩
     ·refine zi eZ (dT h11) (AW.skip (TQ.qn (aS (AW.block (aV (ze (m:=1) rfl rfl (zm (q:=1) (c:=(.d (.sl 1 (List.map zA a1.Order)))) eZ bZ rfl rfl (za rfl ?_))))))))
      obtain⟨v12,h13,H⟩:=zo H
      refine je rfl eZ h13 (qC (e:=(.int .i64 v12)) eZ rfl (za eZ (xQ (zJ (fun t14:Bool=>(jK kb10 s9) t14=some r) (fun t14=>mk [(1,(.one (.ptr (.nm 64 0 0)))),(3,(oI t5)),(7,(oI s9)),(106,(oB t14))] [(64,(.vars 2 (zH a1)))] (lk [])) ?_ ?_))))
      ·intro t14 H
       unfold jK at H
       rcases zE H with⟨h16,H⟩|⟨h16,H⟩
       ·refine zi rfl h16 (aV (za eC (xQ (AW.ret (BQ.qr (TQ.qr (TQ.qr (BQ.qr (TQ.qr ?_)))))))))
        cases H
        exact eE rfl rfl
       ·exact zg rfl (nt h16) (AW.skip (BQ.qn (TQ.qn (aR (za rfl (qE eZ eC (za eZ (zj (TQ.qn ⟨(IntKind.wrap .i64 (s9+1)),H,(zt [] (sR rfl rfl) (blR rfl) (bkR rfl rfl rfl) GK.nil)⟩)))))))))
      ·refine aR (za eZ (ze (m:=0) rfl rfl (zm (q:=0) (c:=(.d (.sl 5 (List.map zl a1.Recs)))) eZ bZ rfl rfl (zX eZ (n:=a1.Recs.length) lm ?_))))
       obtain⟨v17,h18,H⟩:=zo H
       refine zM (u:=(oB v17)) eC Cl.fn (yf h18) (Ec rfl (Ec eC (Ec eZ En))) (Vc Vp (Vc Vp (Vc Vp Vn))) rfl (jE eZ (za eZ ?_))
       rcases zE H with⟨h19,H⟩|⟨h19,H⟩
       ·refine gDo eZ (cN h19) (ze (m:=0) rfl rfl (gDo rfl (cN h19) (zm (q:=0) (c:=(.d (.sl 5 (List.map zl a1.Recs)))) eZ bZ rfl rfl (gDo rfl (cN h19) (za rfl (gDo rfl (cN h19) (kM eZ eC (gDo rfl (cN h19) ?_))))))))
        obtain⟨v20,h21,H⟩:=zo H
        refine je rfl eZ h21 (gDo rfl (cN h19) (qI (m:=3) eZ rfl (gDo rfl (cN h19) (qC (e:=(.int .i64 v20.State)) eZ rfl (gDo rfl (cN h19) (Za eZ eC (zV rfl (cN h19) eZ (za eZ ?_))))))))
        rcases zE H with⟨h22,H⟩|⟨h22,H⟩
        ·exact zf eZ (dT h22) rfl (zf rfl (dT h22) rfl (zf rfl (dT h22) rfl (zf rfl (dT h22) rfl (zf rfl (dT h22) rfl (zf rfl (dT h22) rfl (zL rfl (dT h22) eC (zj (TQ.qn ⟨true,H,(zt [] (sR rfl rfl) (blR rfl) (bkR rfl rfl rfl) GK.nil)⟩))))))))
        ·refine gDo eZ (dF h22) (ze (m:=1) rfl rfl (gDo rfl (dF h22) (zm (q:=1) (c:=(.d (.sl 1 (List.map zA a1.Order)))) eZ bZ rfl rfl (gDo rfl (dF h22) (za rfl (gDo rfl (dF h22) ?_))))))
         obtain⟨v23,h24,H⟩:=zo H
         refine zfj rfl zfJ (n:=(a1.Order.length:Int)) rfl (Bd.at eZ) h24 (gDo rfl (dF h22) (za rfl (gDo rfl (dF h22) ?_)))
         obtain⟨v25,h26,H⟩:=zo H
         exact zM (u:=(oB v25)) eC Cl.fn (zaF h26) (Ec rfl (Ec eZ En)) (Vc Vp (Vc Vp Vn)) rfl (zV rfl (dF h22) eZ (zj (TQ.qn ⟨v25,H,(zt [] (sR rfl rfl) (blR rfl) (bkR rfl rfl rfl) GK.nil)⟩)))
       ·exact zf eZ (cN (nt h19)) rfl (zf rfl (cN (nt h19)) rfl (zf rfl (cN (nt h19)) rfl (zf rfl (cN (nt h19)) rfl (zf rfl (cN (nt h19)) rfl (zf rfl (cN (nt h19)) rfl (zf rfl (cN (nt h19)) rfl (zf rfl (cN (nt h19)) rfl (zL rfl (cN (nt h19)) eC (za eZ (zf eZ rfl rfl (zf rfl rfl rfl (zf rfl rfl rfl (zf rfl rfl rfl (zf rfl rfl rfl (zf rfl rfl rfl (zL rfl rfl eC (zj (TQ.qn ⟨true,H,(zt [] (sR rfl rfl) (blR rfl) (bkR rfl rfl rfl) GK.nil)⟩))))))))))))))))))
     ·exact zg eZ (dF h11) (AW.exit (TQ.qe (TQ.qe (BQ.qe (TQ.qn ⟨(),H,(zt [] (sR rfl rfl) (blR rfl) (bkR rfl rfl rfl) GK.nil)⟩)))))
   ·refine aV (za eC (xQ (AW.block (AW.iter (fun s27:(Int×Int)=>mk [(1,(.one (.ptr (.nm 64 0 0)))),(3,(oI s27.1)),(4,(oI s27.2))] [(64,(.vars 2 (zH a1)))] (lk [])) H (zt [] (sR rfl rfl) (blR rfl) (bkR rfl rfl rfl) GK.nil) ?_))))
    intro kb28 s27 H
    unfold ZU at H
    refine aS (aV (za rfl (ze (m:=0) rfl rfl (zm (q:=0) (c:=(.d (.sl 5 (List.map zl a1.Recs)))) eZ bZ rfl rfl (zX eZ (n:=a1.Recs.length) lm (qJ rfl eZ (xQ ?_)))))))
    rcases zE H with⟨h29,H⟩|⟨h29,H⟩
    ·refine zi eZ (dT h29) (AW.skip (TQ.qn (zJ (fun t30:Int=>(jr kb28 s27) t30=some r) (fun t30=>mk [(1,(.one (.ptr (.nm 64 0 0)))),(3,(oI t30)),(4,(oI s27.2))] [(64,(.vars 2 (zH a1)))] (lk [])) ?_ ?_)))
     ·intro t30 H
      unfold jr at H
      exact aR (za rfl (qE eZ eC (za eZ (zj (TQ.qn ⟨(t30,(IntKind.wrap .i64 (s27.2+1))),H,(zt [] (sR rfl rfl) (blR rfl) (bkR rfl rfl rfl) GK.nil)⟩)))))
     ·refine AW.block (aS (zK (zh (ze (m:=0) rfl rfl (zj (zh (zm (q:=0) (c:=(.d (.sl 5 (List.map zl a1.Recs)))) eZ bZ rfl rfl (zj (zh (za rfl (zj (zh ?_))))))))))))
      obtain⟨v32,h33,H⟩:=zo H
      refine je rfl eZ h33 (zj (zh (qG (es:=(jc v32)) eZ rfl (zj (zh (Qo (n:=320) (m:=5) rfl rfl (nR rfl) (zj (zh (zN (es:=(jc v32)) eZ rfl rfl rfl bZ rfl (zj (zR (xQ (aS (zJ (fun t34:Bool=>(yu s27 a1 v32 (jr kb28 s27)) t34=some r) (fun t34=>mk [(1,(.one (.ptr (.nm 64 0 0)))),(3,(oI s27.1)),(4,(oI s27.2)),(5,(.one (.ptr (.nm 320 0 0)))),(40,(oB t34))] [(64,(.vars 2 (zH a1))),(320,(.vars 5 (jc v32)))] (lk [])) ?_ ?_))))))))))))))
      ·intro t34 H
       unfold yu at H
       rcases zE H with⟨h36,H⟩|⟨h36,H⟩
       ·refine zi rfl h36 (aV (za eC (xQ (AW.ret (TQ.qr (BQ.qr (TQ.qr (TQ.qr (BQ.qr (TQ.qr ?_))))))))))
        cases H
        exact eE rfl rfl
       ·refine zg rfl (nt h36) (AW.skip (TQ.qn (zJ (fun t37:Unit=>(Z8 v32 (jr kb28 s27) s27) t37=some r) (fun t37=>mk [(1,(.one (.ptr (.nm 64 0 0)))),(3,(oI s27.1)),(4,(oI s27.2)),(5,(.one (.ptr (.nm 320 0 0))))] [(64,(.vars 2 (zH a1))),(320,(.vars 5 (jc v32)))] (lk [])) ?_ ?_)))
        ·intro t37 H
         unfold Z8 at H
         refine aV (ze (m:=3) rfl rfl (zm (q:=3) (c:=(dI v32.State)) eZ (bR rfl) rfl rfl (Jp eZ eC (xQ ?_))))
         rcases zE H with⟨h39,H⟩|⟨h39,H⟩
         ·exact zi eZ (dT h39) (aR (za rfl (qE eZ eC (za eZ (zj (BQ.qn (TQ.qn ⟨(IntKind.wrap .i64 (s27.1+1)),H,(zt [320] (sR rfl rfl) (blR rfl) (bkR rfl rfl rfl) GK.nil)⟩)))))))
         ·exact zg eZ (dF h39) (AW.skip (BQ.qn (TQ.qn ⟨s27.1,H,(zt [320] (sR rfl rfl) (blR rfl) (bkR rfl rfl rfl) GK.nil)⟩)))
        ·refine aV (za eC (xQ (AW.block (AW.iter (fun s40:Int=>mk [(1,(.one (.ptr (.nm 64 0 0)))),(3,(oI s27.1)),(4,(oI s27.2)),(5,(.one (.ptr (.nm 320 0 0)))),(6,(oI s40))] [(64,(.vars 2 (zH a1))),(320,(.vars 5 (jc v32)))] (lk [])) H (zt [] (sR rfl rfl) (blR rfl) (bkR rfl rfl rfl) GK.nil) ?_))))
         intro kb41 s40 H
         unfold yk at H
         refine aS (aV (za rfl (za rfl (qJ rfl eZ (xQ ?_)))))
         rcases zE H with⟨h42,H⟩|⟨h42,H⟩
         ·refine zi eZ (dT h42) (AW.skip (TQ.qn (aS (AW.block (zJ (fun t43:Bool=>(ym kb41 s40) t43=some r) (fun t43=>mk [(1,(.one (.ptr (.nm 64 0 0)))),(3,(oI s27.1)),(4,(oI s27.2)),(5,(.one (.ptr (.nm 320 0 0)))),(6,(oI s40)),(65,(oB t43))] [(64,(.vars 2 (zH a1))),(320,(.vars 5 (jc v32)))] (lk [])) ?_ ?_)))))
          ·intro t43 H
           unfold ym at H
           rcases zE H with⟨h45,H⟩|⟨h45,H⟩
           ·refine zi rfl h45 (aV (za eC (xQ (AW.ret (BQ.qr (TQ.qr (TQ.qr (BQ.qr (TQ.qr (BQ.qr (TQ.qr (TQ.qr (BQ.qr (TQ.qr ?_))))))))))))))
            cases H
            exact eE rfl rfl
           ·exact zg rfl (nt h45) (AW.skip (BQ.qn (TQ.qn (aR (za rfl (qE eZ eC (za eZ (zj (TQ.qn ⟨(IntKind.wrap .i64 (s40+1)),H,(zt [] (sR rfl rfl) (blR rfl) (bkR rfl rfl rfl) GK.nil)⟩)))))))))
          ·refine AW.regd (ze (m:=0) rfl rfl (zm (q:=0) (c:=(.d (.sl 5 (List.map zl a1.Recs)))) eZ bZ rfl rfl (za rfl ?_)))
           obtain⟨v46,h47,H⟩:=zo H
           refine je rfl eZ h47 (qI (m:=1) eZ rfl (qC (e:=(.int .i64 v46.Client)) eZ rfl (ze (m:=1) rfl rfl (zm (q:=1) (c:=(dI v32.Client)) eZ (bR rfl) rfl rfl (Jp rfl eZ (za eZ ?_))))))
           rcases zE H with⟨h48,H⟩|⟨h48,H⟩
           ·refine gDo eZ (dT h48) (ze (m:=0) rfl rfl (gDo rfl (dT h48) (zm (q:=0) (c:=(.d (.sl 5 (List.map zl a1.Recs)))) eZ bZ rfl rfl (gDo rfl (dT h48) (za rfl (gDo rfl (dT h48) ?_))))))
            obtain⟨v49,h50,H⟩:=zo H
            exact je rfl eZ h50 (gDo rfl (dT h48) (qI (m:=2) eZ rfl (gDo rfl (dT h48) (qC (e:=(.int .i64 v49.Req)) eZ rfl (gDo rfl (dT h48) (ze (m:=2) rfl rfl (gDo rfl (dT h48) (zm (q:=2) (c:=(dI v32.Req)) eZ (bR rfl) rfl rfl (gDo rfl (dT h48) (Jp rfl eZ (zL rfl (dT h48) eZ (zj (TQ.qn ⟨(decide (v49.Req=v32.Req)),H,(zt [] (sR rfl rfl) (blR rfl) (bkR rfl rfl rfl) GK.nil)⟩)))))))))))))
           ·exact zf eZ (dF h48) rfl (zf rfl (dF h48) rfl (zf rfl (dF h48) rfl (zf rfl (dF h48) rfl (zf rfl (dF h48) rfl (zf rfl (dF h48) rfl (zf rfl (dF h48) rfl (zf rfl (dF h48) rfl (zf rfl (dF h48) rfl (zV rfl (dF h48) eC (zj (TQ.qn ⟨false,H,(zt [] (sR rfl rfl) (blR rfl) (bkR rfl rfl rfl) GK.nil)⟩)))))))))))
         ·exact zg eZ (dF h42) (AW.exit (TQ.qe (TQ.qe (BQ.qe (TQ.qn ⟨(),H,(zt [] (sR rfl rfl) (blR rfl) (bkR rfl rfl rfl) GK.nil)⟩)))))
      ·refine aR (ze (m:=0) eZ rfl (zm (q:=0) (c:=(dI v32.Tx)) eZ bZ rfl rfl (za rfl (qE eZ eC (Za rfl eZ (za eZ ?_))))))
       rcases zE H with⟨h51,H⟩|⟨h51,H⟩
       ·exact zf eZ (dT h51) rfl (zf rfl (dT h51) rfl (zf rfl (dT h51) rfl (zL rfl (dT h51) eC (zj (TQ.qn ⟨true,H,(zt [] (sR rfl rfl) (blR rfl) (bkR rfl rfl rfl) GK.nil)⟩)))))
       ·refine gDo eZ (dF h51) (zZ (es:=(jc v32)) rfl bZ rfl (gDo rfl (dF h51) ?_))
        obtain⟨v52,h53,H⟩:=zo H
        exact zM (u:=(oB v52)) eC Cl.fn (Ko h53) (Ec eZ En) (Vc (VD.agg rfl) Vn) rfl (gDo rfl (dF h51) (jE eZ (zV rfl (dF h51) eZ (zj (TQ.qn ⟨(!v52),H,(zt [] (sR rfl rfl) (blR rfl) (bkR rfl rfl rfl) GK.nil)⟩)))))
    ·exact zg eZ (dF h29) (AW.exit (TQ.qe (TQ.qe (BQ.qe (TQ.qn ⟨s27.1,H,(zt [] (sR rfl rfl) (blR rfl) (bkR rfl rfl rfl) GK.nil)⟩)))))
 ·refine aR (ze (m:=0) rfl rfl (zm (q:=0) (c:=(.d (.sl 5 (List.map zl a1.Recs)))) eZ bZ rfl rfl (zX eZ (n:=a1.Recs.length) lm (Kj eZ eC (za eZ ?_)))))
  rcases zE H with⟨h54,H⟩|⟨h54,H⟩
  ·exact zf eZ (dT h54) rfl (zf rfl (dT h54) rfl (zf rfl (dT h54) rfl (zf rfl (dT h54) rfl (zL rfl (dT h54) eC (zj (TQ.qn ⟨true,H,(zt [] (sR rfl rfl) (blR rfl) (bkR rfl rfl rfl) GK.nil)⟩))))))
  ·exact gDo eZ (dF h54) (ze (m:=1) rfl rfl (gDo rfl (dF h54) (zm (q:=1) (c:=(.d (.sl 1 (List.map zA a1.Order)))) eZ bZ rfl rfl (gDo rfl (dF h54) (zX eZ (n:=a1.Order.length) lm (gDo rfl (dF h54) (Kj eZ eC (zV rfl (dF h54) eZ (zj (TQ.qn ⟨(decide (60 < (a1.Order.length:Int))),H,(zt [] (sR rfl rfl) (blR rfl) (bkR rfl rfl rfl) GK.nil)⟩))))))))))
theorem Xz{a1:(List zb)}{r:(List zb)}(H:yq a1=some r):Fn Try.prog 83 (lent [(.sl 4 (List.map zd a1))]) true [(.sl 4 (List.map zd r))]:=by
 refine f83 (fle rfl) ?_
 rw[zD]
 refine AW.weaken (t:=mk [(0,(.one (.d (.sl 4 (List.map zd a1)))))] [] (lk [])) (zn [] (sR rfl rfl) BL.nil BK.nil) ?_
 unfold yq at H
 unfold i83
 refine aV (za eC (xQ (aV (JW (m:=384) rfl nZ (za eZ (xQ (zJ (fun t2:(List zb)=>Zi t2=some r) (fun t2=>mk [(3,(.one (.sl 320128 0 t2.length)))] [(320128,(.data 4 (List.map zd t2) true none))] (lk [])) ?_ ?_)))))))
 ·intro t2 H
  unfold Zi at H
  refine aV (za eZ (za eZ (xQ (AW.ret ?_))))
  obtain rfl:=(Option.some.inj H)
  exact jU (RL.cons (RV.tmp eZ) (jH bZ lm rfl) RL.nil) (by decide)
 ·refine aV (za eC (xQ (AW.block (AW.iter (fun s4:((List zb)×Int)=>mk [(0,(.one (.d (.sl 4 (List.map zd a1))))),(3,(.one (.sl 320192 0 s4.1.length))),(4,(oI s4.2))] [(320192,(.data 4 (List.map zd s4.1) true none))] (lk [])) H ((zt [] (kR rfl rfl (SL.cons eZ rfl (VWk.one (CWk.len (by first|(simp;done)|(simp;omega)|omega|(simp only[List.length_map];omega)))) (sR rfl rfl))) (blR rfl) (bkR rfl rfl rfl) GK.nil).trans (zfs 320192 4 3 true rfl nZ)) ?_))))
  intro kb5 s4 H
  unfold Zl at H
  refine aS (aV (za rfl (za rfl (zX eZ (n:=a1.length) lm (qJ rfl eZ (xQ ?_))))))
  rcases zE H with⟨h6,H⟩|⟨h6,H⟩
  ·refine zi eZ (dT h6) (AW.skip (TQ.qn (aS (AW.block (aS (zK (zh (za rfl (zj (zh (za rfl (zj (zh ?_)))))))))))))
   obtain⟨v7,h8,H⟩:=zo H
   refine je rfl eZ h8 (zj (zh (qG (es:=(ql v7)) eZ rfl (zj (zh (Qo (n:=320) (m:=4) rfl rfl (nR rfl) (zj (zh (zN (es:=(ql v7)) eZ rfl rfl rfl bZ rfl (zj (zR (xQ (aS (zK (zh (JW (m:=1088) rfl (nR rfl) (zj (zh (ze (m:=1) rfl rfl (zj (zh (zm (q:=1) (c:=(.d (.sl 2 (List.map zx v7.Reads)))) eZ bZ rfl rfl (zj (zh ?_))))))))))))))))))))))))
   obtain⟨h9,H⟩:=jf H
   refine za9 (f:=zx) (m:=1280) (own:=true) (ys:=v7.Reads) (q:=v7.Reads.length) rfl rfl rfl eZ (El.lent fun _ _=>rfl) rfl h9 (by decide) (nR rfl) (zj (zh (ze (m:=1) rfl rfl (zj (zh (zN (es:=[(dI v7.Group),(.sl 1280 0 v7.Reads.length),(.d (.sl 2 (List.map zG v7.Writes))),(dI v7.Vote)]) eZ rfl rfl rfl (bR rfl) rfl (zj (zR (xQ (AW.weaken (zt [] (kr 5 rfl rfl (kr 0 rfl rfl (kr 3 rfl rfl (kr 4 rfl rfl SL.nil)))) (blR rfl) (BK.cons (n:=320) rfl bZ rfl rfl (BK.cons (n:=1280) rfl (bR rfl) rfl rfl (BK.cons (n:=320192) rfl (bR rfl) rfl rfl BK.nil))) GK.nil) (aS (zK (zh (JW (m:=1408) rfl (nR rfl) (zj (zh (ze (m:=2) rfl rfl (zj (zh (zm (q:=2) (c:=(.d (.sl 2 (List.map zG v7.Writes)))) eZ bZ rfl rfl (zj (zh ?_))))))))))))))))))))))
   obtain⟨h10,H⟩:=jf H
   refine za9 (f:=zG) (m:=1600) (own:=true) (ys:=v7.Writes) (q:=v7.Writes.length) rfl rfl rfl eZ (El.lent fun _ _=>rfl) rfl h10 (by decide) (nR rfl) (zj (zh (ze (m:=2) rfl rfl (zj (zh (zN (es:=[(dI v7.Group),(.sl 1280 0 v7.Reads.length),(.sl 1600 0 v7.Writes.length),(dI v7.Vote)]) eZ rfl rfl rfl (bR rfl) rfl (zj (zR (xQ (zK (zh (za rfl (zj (zh (zZ (es:=[(dI v7.Group),(.sl 1280 0 v7.Reads.length),(.sl 1600 0 v7.Writes.length),(dI v7.Vote)]) rfl bZ rfl (zj (zh (x8 (m:=1856) (q:=1) (cs:=[(dI v7.Group),(.sl 1280 0 v7.Reads.length),(.sl 1600 0 v7.Writes.length),(dI v7.Vote)]) rfl (J1 eZ xC) rfl (List.cons_ne_nil _ _) (by simp) (nR rfl) (zj ?_)))))))))))))))))))
   obtain⟨h11,H⟩:=jf H
   exact Xh (f:=zd) (xs:=s4.1) (t:=v7) (q:=(s4.1++[v7]).length) (ds:=[(.int .i64 v7.Group),(.sl 2 (List.map zx v7.Reads)),(.sl 2 (List.map zG v7.Writes)),(.int .i64 v7.Vote)]) (ns:=[1280,1600]) rfl eZ (bR rfl) rfl bZ rfl (VOs.cons (VO.flat rfl) (VOs.cons (VO.sl (bR rfl) lm (qq fun _=>rfl)) (VOs.cons (VO.sl (bR rfl) lm (qq fun _=>rfl)) (VOs.cons (VO.flat rfl) VOs.nil)))) rfl rfl rfl rfl h11 (by decide) (erL.cons (v':=(.one (.sl 1856 0 1))) rfl (erL.cons (v':=(.agg [(dI v7.Group),.any,.any,(dI v7.Vote)])) rfl (erL.cons (v':=(.one (.sl 320192 0 s4.1.length))) rfl (erL.cons (v':=(.one (.ptr (.nm 320 0 2)))) rfl (erL.cons (v':=(.one .any)) rfl (erL.cons (v':=(.one (.d (.sl 2 (List.map zG v7.Writes))))) rfl (erL.cons (v':=(.one (.ptr (.nm 320 0 2)))) rfl (erL.cons (v':=(.one .zs)) rfl (erL.cons (v':=(.one (.ptr (.nm 320 0 0)))) rfl (erL.cons (v':=(.one (.d (.sl 4 (List.map zd a1))))) rfl (erL.cons (v':=(.one (.sl 320192 0 s4.1.length))) rfl (erL.cons (v':=(oI s4.2)) rfl erL.nil)))))))))))) (erH.cons (v':=(.vars 4 [(dI v7.Group),.any,.any,(dI v7.Vote)])) rfl rfl (erH.cons (v':=(.vars 4 [(dI v7.Group),.any,.any,(dI v7.Vote)])) rfl rfl (erH.drop rfl (erH.cons (v':=(.vars 4 [(dI v7.Group),.any,(.d (.sl 2 (List.map zG v7.Writes))),(dI v7.Vote)])) rfl rfl (erH.drop rfl (erH.cons (v':=(.data 4 (List.map zd s4.1) true none)) rfl rfl erH.nil)))))) erL.nil (erL.cons (v':=(.one (.sl 1856 0 1))) rfl (erL.cons (v':=(.agg [(dI v7.Group),.any,.any,(dI v7.Vote)])) rfl (erL.cons (v':=(.one .any)) rfl (erL.cons (v':=(.one (.ptr (.nm 320 0 2)))) rfl (erL.cons (v':=(.one .any)) rfl (erL.cons (v':=(.one (.d (.sl 2 (List.map zG v7.Writes))))) rfl (erL.cons (v':=(.one (.ptr (.nm 320 0 2)))) rfl (erL.cons (v':=(.one .zs)) rfl (erL.cons (v':=(.one (.ptr (.nm 320 0 0)))) rfl (erL.cons (v':=(.one (.d (.sl 4 (List.map zd a1))))) rfl (erL.cons (v':=(.one .any)) rfl (erL.cons (v':=(oI s4.2)) rfl erL.nil)))))))))))) (erH.cons (v':=(.vars 4 [(dI v7.Group),.any,.any,(dI v7.Vote)])) rfl rfl (erH.cons (v':=(.vars 4 [(dI v7.Group),.any,.any,(dI v7.Vote)])) rfl rfl (erH.cons (v':=(.vars 4 [(dI v7.Group),.any,(.d (.sl 2 (List.map zG v7.Writes))),(dI v7.Vote)])) rfl rfl (erH.drop rfl erH.nil)))) erL.nil (zR (za eZ (zj (BQ.qn (TQ.qn (aR (za rfl (qE eZ eC (za eZ (zj (TQ.qn ⟨((s4.1++[v7]),(IntKind.wrap .i64 (s4.2+1))),H,(zt [1856,320] (sR rfl rfl) (blR rfl) (bkR rfl rfl rfl) GK.nil)⟩)))))))))))
  ·exact zg eZ (dF h6) (AW.exit (TQ.qe (TQ.qe (BQ.qe (TQ.qn ⟨s4.1,H,((zt [] (sR rfl rfl) (blR rfl) (bkR rfl rfl rfl) GK.nil).trans (yh 320192 320128 rfl rfl (nR rfl) GR.nil))⟩)))))
theorem zay{a1:zw}{r:zw}(H:ZE a1=some r):Fn Try.prog 65 (lent [(.agg (qL a1))]) true [(.agg (qL r))]:=by
 refine f65 (fle rfl) ?_
 rw[zD]
 refine AW.weaken (t:=mk [(0,(.agg (zH a1)))] [] (lk [])) (zn [] (sR rfl rfl) BL.nil BK.nil) ?_
 unfold ZE at H
 unfold i65
 refine aV (yX (n:=64) (m:=2) (cs:=(zH a1)) rfl eZ rfl rfl nZ (Qo (n:=128) (m:=2) rfl rfl (nR rfl) (xQ (aS (zK (zh (JW (m:=384) rfl (nR rfl) (zj (zh (ze (m:=1) rfl rfl (zj (zh (zm (q:=1) (c:=(.d (.sl 1 (List.map zA a1.Order)))) eZ (bR rfl) rfl rfl (zj (zh ?_)))))))))))))))
 obtain⟨h2,H⟩:=jf H
 refine za9 (f:=zA) (m:=576) (own:=true) (ys:=a1.Order) (q:=a1.Order.length) rfl rfl rfl eZ (El.lent fun _ _=>rfl) rfl h2 (by decide) (nR rfl) (zj (zh (Kx (cs:=[.zs,(.sl 576 0 a1.Order.length)]) (J1 eZ xC) rfl (zj (zh (Qo (n:=192) (m:=2) rfl rfl (nR rfl) (zj (zh (zN (es:=[.zs,(.sl 576 0 a1.Order.length)]) eZ rfl rfl rfl bZ rfl (zj (zR (xQ (zJ (fun t3:(List zp)=>(QJ a1) t3=some r) (fun t3=>mk [(2,(.one (.ptr (.nm 128 0 0)))),(3,(.one (.ptr (.nm 192 0 0))))] [(128,(.vars 2 [.zs,.zs])),(320128,(.data 5 (List.map zl t3) true none)),(192,(.vars 2 [(.sl 320128 0 t3.length),(.sl 576 0 a1.Order.length)])),(576,(.data 1 (List.map zA a1.Order) true none))] (lk [])) ?_ ?_)))))))))))))
 ·intro t3 H
  unfold QJ at H
  refine aS (zK (zh (zZ (es:=[(.sl 320128 0 t3.length),(.sl 576 0 a1.Order.length)]) rfl (bR rfl) rfl (zj (zh (zN (es:=[(.sl 320128 0 t3.length),(.sl 576 0 a1.Order.length)]) rfl eZ rfl rfl bZ rfl (zj (zR (xQ (AW.ret ?_))))))))))
  cases H
  exact jU (RL.cons (jD (es:=[(.sl 320128 0 t3.length),(.sl 576 0 a1.Order.length)]) rfl bZ rfl) (VO.aggs (VOs.cons (jH (bR rfl) lm rfl) (VOs.cons (VO.sl (bR rfl) lm (qq fun _=>rfl)) VOs.nil))) RL.nil) (by decide)
 ·refine aV (za eC (xQ (AW.block (AW.iter (fun s5:(Int×(List zp))=>mk [(1,(.one (.ptr (.nm 64 0 0)))),(2,(.one (.ptr (.nm 128 0 0)))),(3,(.one (.ptr (.nm 192 0 0)))),(4,(oI s5.1))] [(64,(.vars 2 (zH a1))),(128,(.vars 2 [.zs,.zs])),(320192,(.data 5 (List.map zl s5.2) true none)),(192,(.vars 2 [(.sl 320192 0 s5.2.length),(.sl 576 0 a1.Order.length)])),(576,(.data 1 (List.map zA a1.Order) true none))] (lk [])) H ((zt [] (sR rfl rfl) (blR rfl) (BK.cons rfl (bR rfl) rfl rfl (BK.cons rfl (bR rfl) rfl rfl (BK.cons rfl (bR rfl) rfl rfl (BK.cons rfl bZ rfl (by first|rfl|simp) (bkR rfl rfl rfl))))) GK.nil).trans (zeP 320192 5 192 0 true bZ rfl (nR rfl))) ?_))))
  intro kb6 s5 H
  unfold QD at H
  refine aS (aV (za rfl (ze (m:=0) rfl rfl (zm (q:=0) (c:=(.d (.sl 5 (List.map zl a1.Recs)))) eZ bZ rfl rfl (zX eZ (n:=a1.Recs.length) lm (qJ rfl eZ (xQ ?_)))))))
  rcases zE H with⟨h7,H⟩|⟨h7,H⟩
  ·refine zi eZ (dT h7) (AW.skip (TQ.qn (aS (AW.block (aS (zK (zh (ze (m:=0) rfl rfl (zj (zh (zm (q:=0) (c:=(.d (.sl 5 (List.map zl a1.Recs)))) eZ bZ rfl rfl (zj (zh (za rfl (zj (zh ?_))))))))))))))))
   obtain⟨v8,h9,H⟩:=zo H
   refine je rfl eZ h9 (zj (zh (qG (es:=(jc v8)) eZ rfl (zj (zh (Qo (n:=320) (m:=5) rfl rfl (nR rfl) (zj (zh (zN (es:=(jc v8)) eZ rfl rfl rfl bZ rfl (zj (zR (xQ (aS (zK (zh (ze (m:=4) eZ rfl (zj (zh (zm (q:=4) (c:=(.d (.sl 4 (List.map zd v8.Shares)))) eZ bZ rfl rfl (zj (zh ?_)))))))))))))))))))))
   obtain⟨v10,h11,H⟩:=zo H
   refine Qj (u:=(.one (.sl 1600 0 v10.length))) (bs:=[(1600,(.data 4 (List.map zd v10) true none))]) eC Cl.fn (Xz h11) (Ec eZ En) (Vc Vp Vn) (by simp[jR,yV,jn,yd,jz]) rfl (fC (nR rfl) rfl (fC (nR rfl) rfl fN)) (zj (zh (ze (m:=4) rfl rfl (zj (zh (zN (es:=[(dI v8.Tx),(dI v8.Client),(dI v8.Req),(dI v8.State),(.sl 1600 0 v10.length)]) eZ rfl rfl rfl (bR rfl) rfl (zj (zR (xQ (AW.weaken (zt [] (kr 5 rfl rfl (kr 1 rfl rfl (kr 2 rfl rfl (kr 3 rfl rfl (kr 4 rfl rfl SL.nil))))) (blR rfl) (BK.cons (n:=320) rfl bZ rfl rfl (BK.cons (n:=1600) rfl (bR rfl) rfl rfl (BK.cons (n:=64) rfl (bR rfl) rfl rfl (BK.cons (n:=128) rfl (bR rfl) rfl rfl (BK.cons (n:=320192) rfl (bR rfl) rfl rfl (BK.cons (n:=192) rfl (bR rfl) rfl rfl (BK.cons (n:=576) rfl (bR rfl) rfl rfl BK.nil))))))) GK.nil) (zK (zh (ze (m:=0) rfl rfl (zj (zh (zm (q:=0) (c:=(.sl 320192 0 s5.2.length)) eZ (bR rfl) rfl rfl (zj (zh (zZ (es:=[(dI v8.Tx),(dI v8.Client),(dI v8.Req),(dI v8.State),(.sl 1600 0 v10.length)]) rfl bZ rfl (zj (zh (x8 (m:=1920) (q:=1) (cs:=[(dI v8.Tx),(dI v8.Client),(dI v8.Req),(dI v8.State),(.sl 1600 0 v10.length)]) rfl (J1 eZ xC) rfl (List.cons_ne_nil _ _) (by simp) (nR rfl) (zj ?_)))))))))))))))))))))))
   obtain⟨h12,H⟩:=jf H
   exact Xh (f:=zl) (xs:=s5.2) (t:=(zp.mk v8.Tx v8.Client v8.Req v8.State v10)) (q:=(s5.2++[(zp.mk v8.Tx v8.Client v8.Req v8.State v10)]).length) (ds:=[(.int .i64 v8.Tx),(.int .i64 v8.Client),(.int .i64 v8.Req),(.int .i64 v8.State),(.sl 4 (List.map zd v10))]) (ns:=[1600]) rfl eZ (bR rfl) rfl bZ rfl (VOs.cons (VO.flat rfl) (VOs.cons (VO.flat rfl) (VOs.cons (VO.flat rfl) (VOs.cons (VO.flat rfl) (VOs.cons (jH (bR rfl) lm rfl) VOs.nil))))) rfl rfl rfl rfl h12 (by decide) (erL.cons (v':=(.one (.sl 1920 0 1))) rfl (erL.cons (v':=(.agg [(dI v8.Tx),(dI v8.Client),(dI v8.Req),(dI v8.State),.any])) rfl (erL.cons (v':=(.one (.sl 320192 0 s5.2.length))) rfl (erL.cons (v':=(.one (.ptr (.nm 192 0 0)))) rfl (erL.cons (v':=(.one (.ptr (.nm 320 0 0)))) rfl (erL.cons (v':=(.one (.ptr (.nm 64 0 0)))) rfl (erL.cons (v':=(.one (.ptr (.nm 128 0 0)))) rfl (erL.cons (v':=(.one (.ptr (.nm 192 0 0)))) rfl (erL.cons (v':=(oI s5.1)) rfl erL.nil))))))))) (erH.cons (v':=(.vars 5 [(dI v8.Tx),(dI v8.Client),(dI v8.Req),(dI v8.State),.any])) rfl rfl (erH.cons (v':=(.vars 5 [(dI v8.Tx),(dI v8.Client),(dI v8.Req),(dI v8.State),.any])) rfl rfl (erH.drop rfl (erH.cons (v':=(.vars 2 (zH a1))) rfl rfl (erH.cons (v':=(.vars 2 [.zs,.zs])) rfl rfl (erH.cons (v':=(.data 5 (List.map zl s5.2) true none)) rfl rfl (erH.cons (v':=(.vars 2 [(.sl 320192 0 s5.2.length),(.sl 576 0 a1.Order.length)])) rfl rfl (erH.cons (v':=(.data 1 (List.map zA a1.Order) true none)) rfl rfl erH.nil)))))))) erL.nil (erL.cons (v':=(.one (.sl 1920 0 1))) rfl (erL.cons (v':=(.agg [(dI v8.Tx),(dI v8.Client),(dI v8.Req),(dI v8.State),.any])) rfl (erL.cons (v':=(.one .any)) rfl (erL.cons (v':=(.one (.ptr (.nm 192 0 0)))) rfl (erL.cons (v':=(.one (.ptr (.nm 320 0 0)))) rfl (erL.cons (v':=(.one (.ptr (.nm 64 0 0)))) rfl (erL.cons (v':=(.one (.ptr (.nm 128 0 0)))) rfl (erL.cons (v':=(.one (.ptr (.nm 192 0 0)))) rfl (erL.cons (v':=(oI s5.1)) rfl erL.nil))))))))) (erH.cons (v':=(.vars 5 [(dI v8.Tx),(dI v8.Client),(dI v8.Req),(dI v8.State),.any])) rfl rfl (erH.cons (v':=(.vars 5 [(dI v8.Tx),(dI v8.Client),(dI v8.Req),(dI v8.State),.any])) rfl rfl (erH.cons (v':=(.vars 2 (zH a1))) rfl rfl (erH.cons (v':=(.vars 2 [.zs,.zs])) rfl rfl (erH.drop rfl (erH.cons (v':=(.vars 2 [.any,(.sl 576 0 a1.Order.length)])) rfl rfl (erH.cons (v':=(.data 1 (List.map zA a1.Order) true none)) rfl rfl erH.nil))))))) erL.nil (zh (ze (m:=0) rfl rfl (zj (zh (zN (es:=[(.sl 320192 0 ((s5.2++[(zp.mk v8.Tx v8.Client v8.Req v8.State v10)]).length)),(.sl 576 0 a1.Order.length)]) eZ rfl rfl rfl (bR rfl) rfl (zj (zR (zj (BQ.qn (TQ.qn (aR (za rfl (qE eZ eC (za eZ (zj (TQ.qn ⟨((IntKind.wrap .i64 (s5.1+1)),(s5.2++[(zp.mk v8.Tx v8.Client v8.Req v8.State v10)])),H,(zt [1920,320] (sR rfl rfl) (blR rfl) (BK.cons rfl (bR rfl) rfl rfl (BK.cons rfl (bR rfl) rfl rfl (BK.cons rfl (bR rfl) rfl rfl (BK.cons rfl bZ rfl (by first|rfl|simp) (bkR rfl rfl rfl))))) GK.nil)⟩))))))))))))))))
  ·exact zg eZ (dF h7) (AW.exit (TQ.qe (TQ.qe (BQ.qe (TQ.qn ⟨s5.2,H,((zt [64] (sR rfl rfl) (blR rfl) (BK.cons rfl (bR rfl) rfl rfl (BK.cons rfl (bR rfl) rfl rfl (BK.cons rfl (bR rfl) rfl (by first|rfl|simp) (bkR rfl rfl rfl)))) GK.nil).trans (yh 320192 320128 rfl rfl (nR rfl) GR.nil))⟩)))))
theorem XF{a1:zw}{a2:Int}{a3:Int}{a4:Bool}{r:(zw×Int)}(H:yj a1 a2 a3 a4=some r):Fn Try.prog 30 (lent [(.agg (qL a1)),(.int .i64 a2),(.int .i64 a3),(.bool a4)]) true [(.agg (qL r.1)),(.int .i64 r.2)]:=by
 refine f30 (fle rfl) ?_
 rw[zD]
 refine AW.weaken (t:=mk [(0,(.agg (zH a1))),(1,(oI a2)),(2,(oI a3)),(3,(oB a4))] [] (lk [])) (zn [] (sR rfl rfl) BL.nil BK.nil) ?_
 unfold yj at H
 unfold i30
 refine aV (yX (n:=256) (m:=2) (cs:=(zH a1)) rfl eZ rfl rfl nZ (Qo (n:=512) (m:=2) rfl rfl (nR rfl) (za eC (xQ (aS (aV (zZ (es:=(zH a1)) rfl (bR rfl) rfl ?_)))))))
 obtain⟨v5,h6,H⟩:=zo H
 refine zM (u:=(oB v5)) eC Cl.fn (zam h6) (Ec eZ En) (Vc (VD.agg rfl) Vn) rfl (jE eZ (xQ ?_))
 rcases zE H with⟨h7,H⟩|⟨h7,H⟩
 ·refine zg eZ (cN h7) (AW.skip (TQ.qn (aS (zK (zh (zZ (es:=(zH a1)) rfl (bR rfl) rfl (zj (zh ?_))))))))
  obtain⟨v8,h9,H⟩:=zo H
  refine Qj (u:=(.agg [(.sl 1216 0 v8.Recs.length),(.sl 1217 0 v8.Order.length)])) (bs:=[(1216,(.data 5 (List.map zl v8.Recs) true none)),(1217,(.data 1 (List.map zA v8.Order) true none))]) eC Cl.fn (zay h9) (Ec eZ En) (Vc (VD.agg rfl) Vn) (by simp[jR,yV,jn,yd,jz]) rfl (fC (nR rfl) rfl (fC (nR rfl) rfl (fC (nR rfl) rfl fN))) (zj (zh (Qo (n:=640) (m:=2) rfl rfl (nR rfl) (zj (zh (zN (es:=[(.sl 1216 0 v8.Recs.length),(.sl 1217 0 v8.Order.length)]) eZ rfl rfl rfl bZ rfl (zj (zR (xQ (aS (aV (za rfl (ze (m:=0) rfl rfl (zm (q:=0) (c:=(.d (.sl 5 (List.map zl a1.Recs)))) eZ (bR rfl) rfl rfl (zX eZ (n:=a1.Recs.length) lm ?_)))))))))))))))
  obtain⟨v10,h11,H⟩:=zo H
  refine zM (u:=(oB v10)) eC Cl.fn (yf h11) (Ec rfl (Ec eC (Ec eZ En))) (Vc Vp (Vc Vp (Vc Vp Vn))) rfl (jE eZ (xQ (AW.weaken (zt [256] (kr 25 rfl rfl (kr 10 rfl rfl (kr 8 rfl rfl (kr 1 rfl rfl (kr 2 rfl rfl (kr 3 rfl rfl SL.nil)))))) (blR rfl) (BK.cons (n:=640) rfl bZ rfl rfl (BK.cons (n:=1217) rfl (bR rfl) rfl rfl (BK.cons (n:=1216) rfl (bR rfl) rfl rfl (BK.cons (n:=512) rfl (bR rfl) rfl rfl BK.nil)))) GK.nil) ?_)))
  rcases zE H with⟨h12,H⟩|⟨h12,H⟩
  ·refine zg eZ (cN h12) (AW.skip (TQ.qn (aS (zK (zh (ze (m:=0) rfl rfl (zj (zh (zm (q:=0) (c:=(.sl 1216 0 v8.Recs.length)) eZ bZ rfl rfl (zj (zh (za rfl (zj (zh (kM eZ eC (zj (zh ?_)))))))))))))))))
   obtain⟨v13,h14,H⟩:=zo H
   refine Yh rfl eZ (bR rfl) rfl h14 (zj (zeQ (n:=1216) (f:=zl) (f':=zd) (i:=(Int.toNat (IntKind.wrap .i64 (a2 - 1)))) (j:=4) (t:=v13) (ys:=v13.Shares) (e:=fun pw15=>[(.int .i64 v13.Tx),(.int .i64 v13.Client),(.int .i64 v13.Req),(.int .i64 v13.State),(.both pw15 (.sl 4 (List.map zd v13.Shares)))]) (bR rfl) (qi h14) rfl (fun _=>rfl) ?_))
   intro pw15
   refine zh (zf3 (t:=[(.int .i64 v13.Tx),(.int .i64 v13.Client),(.int .i64 v13.Req),(.int .i64 v13.State),(.both pw15 (.sl 4 (List.map zd v13.Shares)))]) (es:=[(.int .i64 v13.Tx),(.int .i64 v13.Client),(.int .i64 v13.Req),(.int .i64 v13.State),(.both pw15 (.sl 4 (List.map zd v13.Shares)))]) (cs:=[(dI v13.Tx),(dI v13.Client),(dI v13.Req),(dI v13.State),(.sub 1216 (.both pw15 (.sl 4 (List.map zd v13.Shares))))]) eZ bZ (KP (qi h14)) rfl rfl (zj (zh (Qo (n:=704) (m:=5) rfl rfl (nR rfl) (zj (zh (zN (es:=[(dI v13.Tx),(dI v13.Client),(dI v13.Req),(dI v13.State),(.sub 1216 (.both pw15 (.sl 4 (List.map zd v13.Shares))))]) eZ rfl rfl rfl bZ rfl (zj (zR (xQ (aV (za eC (xQ (zJ (fun t16:Int=>(yO v13 v8 a4 a2) t16=some r) (fun t16=>mk [(1,(oI a2)),(3,(oB a4)),(8,(.one (.ptr (.nm 512 0 0)))),(10,(.one (.ptr (.nm 640 0 0)))),(11,(.one (.ptr (.nm 704 0 0)))),(12,(oI t16))] [(512,(.vars 2 [.zs,.zs])),(640,(.vars 2 [(.sl 1216 0 v8.Recs.length),(.sl 1217 0 v8.Order.length)])),(704,(.vars 5 [(dI v13.Tx),(dI v13.Client),(dI v13.Req),(dI v13.State),(.sub 1216 (.both pw15 (.sl 4 (List.map zd v13.Shares))))])),(1216,(.data 5 (List.map kE ((List.map zl v8.Recs).set (Int.toNat (IntKind.wrap .i64 (a2 - 1))) [(.int .i64 v13.Tx),(.int .i64 v13.Client),(.int .i64 v13.Req),(.int .i64 v13.State),(.both pw15 (.sl 4 (List.map zd v13.Shares)))])) true none)),(1217,(.data 1 (List.map zA v8.Order) true none))] (lk [])) ?_ ?_))))))))))))))
   ·intro t16 H
    unfold yO at H
    refine aS (zJ (fun t18:Bool=>(jq v8 a4 v13 t16 a2) t18=some r) (fun t18=>mk [(1,(oI a2)),(3,(oB a4)),(8,(.one (.ptr (.nm 512 0 0)))),(10,(.one (.ptr (.nm 640 0 0)))),(11,(.one (.ptr (.nm 704 0 0)))),(12,(oI t16)),(64,(oB t18))] [(512,(.vars 2 [.zs,.zs])),(640,(.vars 2 [(.sl 1216 0 v8.Recs.length),(.sl 1217 0 v8.Order.length)])),(704,(.vars 5 [(dI v13.Tx),(dI v13.Client),(dI v13.Req),(dI v13.State),(.sub 1216 (.both pw15 (.sl 4 (List.map zd v13.Shares))))])),(1216,(.data 5 (List.map kE ((List.map zl v8.Recs).set (Int.toNat (IntKind.wrap .i64 (a2 - 1))) [(.int .i64 v13.Tx),(.int .i64 v13.Client),(.int .i64 v13.Req),(.int .i64 v13.State),(.both pw15 (.sl 4 (List.map zd v13.Shares)))])) true none)),(1217,(.data 1 (List.map zA v8.Order) true none))] (lk [])) ?_ ?_)
    ·intro t18 H
     unfold jq at H
     rcases zE H with⟨h20,H⟩|⟨h20,H⟩
     ·refine zi rfl h20 (aS (zK (zh (zZ (es:=[(.sl 1216 0 v8.Recs.length),(.sl 1217 0 v8.Order.length)]) rfl (bR rfl) rfl (zj (zh (zN (es:=[(.sl 1216 0 v8.Recs.length),(.sl 1217 0 v8.Order.length)]) rfl eZ rfl rfl bZ rfl (zj (zR (za eC (xQ (AW.weaken (zeb (n:=1216) (f:=zl) (t:=v13) (j:=4) (bR rfl) (qi h14) rfl rfl rfl) (AW.ret (TQ.qr ?_))))))))))))))
      cases H
      exact jU (RL.cons (jD (es:=[(.sl 1216 0 v8.Recs.length),(.sl 1217 0 v8.Order.length)]) rfl (bR rfl) rfl) (VO.aggs (VOs.cons (jH bZ lm rfl) (VOs.cons (VO.sl (bR rfl) lm (qq fun _=>rfl)) VOs.nil))) (RL.cons (RV.tmp eZ) (VO.flat rfl) RL.nil)) (by decide)
     ·refine zg rfl (nt h20) (AW.skip (TQ.qn (aS (aV (za rfl (jE eZ (xQ ?_)))))))
      rcases zE H with⟨h21,H⟩|⟨h21,H⟩
      ·refine zg eZ (cN h21) (AW.skip (TQ.qn (aS (zK (zh (ze (m:=4) rfl rfl (zj (zh (zm (q:=4) (c:=(.sub 1216 (.both pw15 (.sl 4 (List.map zd v13.Shares))))) eZ (bR rfl) rfl rfl (zj (zh (za rfl (zj ?_)))))))))))))
       obtain⟨v22,h23,H⟩:=zo H
       refine JT (za7 (nv:=704) (n:=1216) (q:=4) (cs':=[(dI v13.Tx),(dI v13.Client),(dI v13.Req),(dI v13.State),(.d (.pin pw15))]) (bR rfl) rfl rfl) (kd (n:=1216) (f:=zl) (f':=zd) (i:=(Int.toNat (IntKind.wrap .i64 (a2 - 1)))) (j:=4) (t:=v13) (ys:=v13.Shares) (u:=v22) (u':=(zb.mk v22.Group v22.Reads v22.Writes 1)) (e:=[(.int .i64 v13.Tx),(.int .i64 v13.Client),(.int .i64 v13.Req),(.int .i64 v13.State),(.both pw15 (.sl 4 (List.map zd v13.Shares)))]) (e':=[(.int .i64 v13.Tx),(.int .i64 v13.Client),(.int .i64 v13.Req),(.int .i64 v13.State),(.both pw15 (.sl 4 (List.map zd (v13.Shares.set (Int.toNat t16) (zb.mk v22.Group v22.Reads v22.Writes 1)))))]) (c:=(.int .i64 1)) rfl eZ h23 (bR rfl) (qi h14) rfl rfl eC rfl rfl rfl (erL.cons (v':=(.one .any)) rfl (erL.cons (v':=(.one .any)) rfl (erL.cons (v':=(oI t16)) rfl (erL.cons (v':=(.one .any)) rfl (erL.cons (v':=(.one (.ptr (.nm 704 0 4)))) rfl (erL.cons (v':=(oB (!a4))) rfl (erL.cons (v':=(oB a4)) rfl (erL.cons (v':=(oI a2)) rfl (erL.cons (v':=(oB a4)) rfl (erL.cons (v':=(.one (.ptr (.nm 512 0 0)))) rfl (erL.cons (v':=(.one (.ptr (.nm 640 0 0)))) rfl (erL.cons (v':=(.one (.ptr (.nm 704 0 0)))) rfl (erL.cons (v':=(oI t16)) rfl (erL.cons (v':=(oB t18)) rfl erL.nil)))))))))))))) (erH.cons (v':=(.vars 5 [(dI v13.Tx),(dI v13.Client),(dI v13.Req),(dI v13.State),(.d (.pin pw15))])) rfl rfl (erH.cons (v':=(.vars 2 [.zs,.zs])) rfl rfl (erH.cons (v':=(.vars 2 [(.sl 1216 0 v8.Recs.length),(.sl 1217 0 v8.Order.length)])) rfl rfl (erH.cons (v':=(.vars 5 [(dI v13.Tx),(dI v13.Client),(dI v13.Req),(dI v13.State),.any])) rfl rfl (erH.cons (v':=(.data 5 (List.map kE ((List.map zl v8.Recs).set (Int.toNat (IntKind.wrap .i64 (a2 - 1))) [(.int .i64 v13.Tx),(.int .i64 v13.Client),(.int .i64 v13.Req),(.int .i64 v13.State),(.both pw15 (.sl 4 (List.map zd v13.Shares)))])) true none)) rfl rfl (erH.cons (v':=(.data 1 (List.map zA v8.Order) true none)) rfl rfl erH.nil)))))) erL.nil (JT (zbk (n:=1216) (nv:=704) (q:=4) (j:=4) (cs':=[(dI v13.Tx),(dI v13.Client),(dI v13.Req),(dI v13.State),(.sub 1216 (.sl 4 (List.map zd (v13.Shares.set (Int.toNat t16) (zb.mk v22.Group v22.Reads v22.Writes 1)))))]) bZ (KP (qi h14)) rfl (bR rfl) rfl rfl) (JT (xB (n:=1216) (f:=zl) (t:=v13) (t':=(zp.mk v13.Tx v13.Client v13.Req v13.State (v13.Shares.set (Int.toNat t16) (zb.mk v22.Group v22.Reads v22.Writes 1)))) (j:=4) (bR rfl) (qi h14) rfl rfl rfl) (zR (xQ (zJ (fun t24:((List zp)×(List Int))=>jQ t24=some r) (fun t24=>mk [(8,(.one (.ptr (.nm 512 0 0)))),(10,(.one (.ptr (.nm 640 0 0))))] [(512,(.vars 2 [.zs,.zs])),(320064,(.data 5 (List.map zl t24.1) true none)),(320128,(.data 1 (List.map zA t24.2) true none)),(640,(.vars 2 [(.sl 320064 0 t24.1.length),(.sl 320128 0 t24.2.length)]))] (lk [])) ?_ ?_))))))
       ·intro t24 H
        unfold jQ at H
        refine aS (zK (zh (zZ (es:=[(.sl 320064 0 t24.1.length),(.sl 320128 0 t24.2.length)]) rfl (bR rfl) rfl (zj (zh (zN (es:=[(.sl 320064 0 t24.1.length),(.sl 320128 0 t24.2.length)]) rfl eZ rfl rfl bZ rfl (zj (zR (za eC (xQ (AW.ret ?_)))))))))))
        cases H
        exact jU (RL.cons (jD (es:=[(.sl 320064 0 t24.1.length),(.sl 320128 0 t24.2.length)]) rfl bZ rfl) (VO.aggs (VOs.cons (jH (bR rfl) lm rfl) (VOs.cons (VO.sl (bR rfl) lm (qq fun _=>rfl)) VOs.nil))) (RL.cons (RV.tmp eZ) (VO.flat rfl) RL.nil)) (by decide)
       ·refine aV (ze (m:=4) rfl rfl (zm (q:=4) (c:=(.sub 1216 (.sl 4 (List.map zd (v13.Shares.set (Int.toNat t16) (zb.mk v22.Group v22.Reads v22.Writes 1)))))) eZ (bR rfl) rfl rfl ?_))
        obtain⟨v26,h27,H⟩:=zo H
        refine zM (u:=(oI v26)) eC Cl.fn (QK h27) (Ec eZ (Ec eC En)) (Vc VD.sub (Vc Vp Vn)) rfl (Jp eZ eC (xQ (AW.weaken (zt [704] (kr 88 rfl rfl (kr 1 rfl rfl (kr 8 rfl rfl (kr 10 rfl rfl SL.nil)))) (blR rfl) (BK.cons (n:=1216) rfl bZ rfl rfl (BK.cons (n:=512) rfl (bR rfl) rfl rfl (BK.cons (n:=640) rfl (bR rfl) rfl rfl (BK.cons (n:=1217) rfl (bR rfl) rfl rfl BK.nil)))) GK.nil) ?_)))
        rcases zE H with⟨h28,H⟩|⟨h28,H⟩
        ·refine zi eZ (dT h28) (aS (zK (zh (ze (m:=0) rfl rfl (zj (zh (zm (q:=0) (c:=(.sl 1216 0 v8.Recs.length)) eZ (bR rfl) rfl rfl (zj (zh (za rfl (zj (zh (kM eZ eC (zj (zh ?_)))))))))))))))
         obtain⟨v29,h30,H⟩:=zo H
         refine Yh rfl eZ bZ (by first|(simp;done)|(simp;omega)|omega|(simp only[List.length_map];omega)) h30 (zj (zh (ze (m:=3) eZ rfl (zj (zh (jZ (t:=v29) (t':=(zp.mk v29.Tx v29.Client v29.Req 3 v29.Shares)) (es:=[(.int .i64 3)]) eZ eC rfl rfl bZ (qi h30) rfl rfl (zj (zR (xQ (zK (zh (ze (m:=1) rfl rfl (zj (zh (zm (q:=1) (c:=(.sl 1217 0 v8.Order.length)) eZ (bR rfl) rfl rfl (zj (zh (za rfl (zj (zh (x8 (m:=6272) (q:=1) (cs:=[(dI a2)]) rfl (J1 eZ xC) rfl (List.cons_ne_nil _ _) (by simp) (nR rfl) (zj (zh ?_)))))))))))))))))))))))
         obtain⟨h31,H⟩:=jf H
         exact zfp (f:=zA) (xs:=v8.Order) (ys:=[a2]) (q:=(v8.Order++([a2])).length) rfl eZ (bR rfl) rfl (El.one (f:=zA) (t:=a2) (es:=[(.int .i64 a2)]) bZ rfl rfl rfl) rfl h31 (by decide) (by decide) (erL.cons (v':=(.one (.sl 6272 0 1))) rfl (erL.cons (v':=(oI a2)) rfl (erL.cons (v':=(.one .any)) rfl (erL.cons (v':=(.one (.ptr (.nm 640 0 1)))) rfl (erL.cons (v':=(.one (.ptr (.nm 1216 (Int.toNat (IntKind.wrap .i64 (a2 - 1))) 3)))) rfl (erL.cons (v':=(.one (.ptr (.nm 1216 (Int.toNat (IntKind.wrap .i64 (a2 - 1))) 0)))) rfl (erL.cons (v':=(oI (IntKind.wrap .i64 (a2 - 1)))) rfl (erL.cons (v':=(oI a2)) rfl (erL.cons (v':=(.one (.sl 1216 0 v8.Recs.length))) rfl (erL.cons (v':=(.one (.ptr (.nm 640 0 0)))) rfl (erL.cons (v':=(oB (decide (v26=0)))) rfl (erL.cons (v':=(oI a2)) rfl (erL.cons (v':=(.one (.ptr (.nm 512 0 0)))) rfl (erL.cons (v':=(.one (.ptr (.nm 640 0 0)))) rfl erL.nil)))))))))))))) (erH.cons (v':=(.vars 1 [(dI a2)])) rfl rfl (erH.cons (v':=(.data 5 (List.map zl ((v8.Recs.set (Int.toNat (IntKind.wrap .i64 (a2 - 1))) (zp.mk v13.Tx v13.Client v13.Req v13.State (v13.Shares.set (Int.toNat t16) (zb.mk v22.Group v22.Reads v22.Writes 1)))).set (Int.toNat (IntKind.wrap .i64 (a2 - 1))) (zp.mk v29.Tx v29.Client v29.Req 3 v29.Shares))) true none)) rfl rfl (erH.cons (v':=(.data 5 (List.map zl (v8.Recs.set (Int.toNat (IntKind.wrap .i64 (a2 - 1))) (zp.mk v13.Tx v13.Client v13.Req v13.State (v13.Shares.set (Int.toNat t16) (zb.mk v22.Group v22.Reads v22.Writes 1))))) true none)) rfl rfl (erH.cons (v':=(.vars 2 [.zs,.zs])) rfl rfl (erH.cons (v':=(.vars 2 [(.sl 1216 0 v8.Recs.length),.any])) rfl rfl (erH.drop rfl erH.nil)))))) GK.nil (zj (zh (ze (m:=1) rfl rfl (zj (zh (zN (es:=[(.sl 1216 0 v8.Recs.length),(.sl 1217 0 ((v8.Order++([a2])).length))]) eZ rfl rfl rfl (bR rfl) rfl (zj (zR (zj (TQ.qn ⟨((v8.Recs.set (Int.toNat (IntKind.wrap .i64 (a2 - 1))) (zp.mk v13.Tx v13.Client v13.Req v13.State (v13.Shares.set (Int.toNat t16) (zb.mk v22.Group v22.Reads v22.Writes 1)))).set (Int.toNat (IntKind.wrap .i64 (a2 - 1))) (zp.mk v29.Tx v29.Client v29.Req 3 v29.Shares),(v8.Order++([a2]))),H,(Wk.trans (s:=mk [(100,(.one (.ptr (.nm 640 0 1)))),(99,(.one (.sl 1217 0 ((v8.Order++([a2])).length)))),(98,(.one (.sl 6272 0 1))),(97,(oI a2)),(96,(.one .any)),(95,(.one (.ptr (.nm 640 0 1)))),(94,(.one (.ptr (.nm 320064 (Int.toNat (IntKind.wrap .i64 (a2 - 1))) 3)))),(93,(.one (.ptr (.nm 320064 (Int.toNat (IntKind.wrap .i64 (a2 - 1))) 0)))),(92,(oI (IntKind.wrap .i64 (a2 - 1)))),(91,(oI a2)),(90,(.one (.sl 320064 0 v8.Recs.length))),(89,(.one (.ptr (.nm 640 0 0)))),(88,(oB (decide (v26=0)))),(1,(oI a2)),(8,(.one (.ptr (.nm 512 0 0)))),(10,(.one (.ptr (.nm 640 0 0))))] [(640,(.vars 2 [(.sl 320064 0 v8.Recs.length),(.sl 1217 0 ((v8.Order++([a2])).length))])),(1217,(.data 1 (List.map zA (v8.Order++([a2]))) true none)),(6272,(.vars 1 [(dI a2)])),(320064,(.data 5 (List.map zl ((v8.Recs.set (Int.toNat (IntKind.wrap .i64 (a2 - 1))) (zp.mk v13.Tx v13.Client v13.Req v13.State (v13.Shares.set (Int.toNat t16) (zb.mk v22.Group v22.Reads v22.Writes 1)))).set (Int.toNat (IntKind.wrap .i64 (a2 - 1))) (zp.mk v29.Tx v29.Client v29.Req 3 v29.Shares))) true none)),(320064,(.data 5 (List.map zl (v8.Recs.set (Int.toNat (IntKind.wrap .i64 (a2 - 1))) (zp.mk v13.Tx v13.Client v13.Req v13.State (v13.Shares.set (Int.toNat t16) (zb.mk v22.Group v22.Reads v22.Writes 1))))) true none)),(512,(.vars 2 [.zs,.zs])),(640,(.vars 2 [(.sl 320064 0 v8.Recs.length),.any]))] (lk [])) (Wk.trans (s:=mk [(100,(.one (.ptr (.nm 640 0 1)))),(99,(.one (.sl 320128 0 ((v8.Order++([a2])).length)))),(98,(.one (.sl 6272 0 1))),(97,(oI a2)),(96,(.one .any)),(95,(.one (.ptr (.nm 640 0 1)))),(94,(.one (.ptr (.nm 320064 (Int.toNat (IntKind.wrap .i64 (a2 - 1))) 3)))),(93,(.one (.ptr (.nm 320064 (Int.toNat (IntKind.wrap .i64 (a2 - 1))) 0)))),(92,(oI (IntKind.wrap .i64 (a2 - 1)))),(91,(oI a2)),(90,(.one (.sl 320064 0 v8.Recs.length))),(89,(.one (.ptr (.nm 640 0 0)))),(88,(oB (decide (v26=0)))),(1,(oI a2)),(8,(.one (.ptr (.nm 512 0 0)))),(10,(.one (.ptr (.nm 640 0 0))))] [(640,(.vars 2 [(.sl 320064 0 v8.Recs.length),(.sl 320128 0 ((v8.Order++([a2])).length))])),(320128,(.data 1 (List.map zA (v8.Order++([a2]))) true none)),(6272,(.vars 1 [(dI a2)])),(320064,(.data 5 (List.map zl ((v8.Recs.set (Int.toNat (IntKind.wrap .i64 (a2 - 1))) (zp.mk v13.Tx v13.Client v13.Req v13.State (v13.Shares.set (Int.toNat t16) (zb.mk v22.Group v22.Reads v22.Writes 1)))).set (Int.toNat (IntKind.wrap .i64 (a2 - 1))) (zp.mk v29.Tx v29.Client v29.Req 3 v29.Shares))) true none)),(320064,(.data 5 (List.map zl (v8.Recs.set (Int.toNat (IntKind.wrap .i64 (a2 - 1))) (zp.mk v13.Tx v13.Client v13.Req v13.State (v13.Shares.set (Int.toNat t16) (zb.mk v22.Group v22.Reads v22.Writes 1))))) true none)),(512,(.vars 2 [.zs,.zs])),(640,(.vars 2 [(.sl 320064 0 v8.Recs.length),.any]))] (lk [])) (zt [6272] (sR rfl rfl) (blR rfl) (BK.cons rfl (bR rfl) rfl rfl (BK.cons rfl (bR rfl) rfl rfl (BK.cons rfl (bR rfl) rfl rfl (BK.cons rfl bZ rfl (by first|rfl|simp) BK.nil)))) GK.nil) (yh 1217 320128 rfl rfl (nR rfl) GR.nil)) (yh 1216 320064 rfl rfl (nR rfl) GR.nil))⟩))))))))))
        ·exact zg eZ (dF h28) (AW.skip (TQ.qn ⟨(v8.Recs.set (Int.toNat (IntKind.wrap .i64 (a2 - 1))) (zp.mk v13.Tx v13.Client v13.Req v13.State (v13.Shares.set (Int.toNat t16) (zb.mk v22.Group v22.Reads v22.Writes 1))),v8.Order),H,(Wk.trans (s:=mk [(88,(oB (decide (v26=0)))),(1,(oI a2)),(8,(.one (.ptr (.nm 512 0 0)))),(10,(.one (.ptr (.nm 640 0 0))))] [(320064,(.data 5 (List.map zl (v8.Recs.set (Int.toNat (IntKind.wrap .i64 (a2 - 1))) (zp.mk v13.Tx v13.Client v13.Req v13.State (v13.Shares.set (Int.toNat t16) (zb.mk v22.Group v22.Reads v22.Writes 1))))) true none)),(512,(.vars 2 [.zs,.zs])),(640,(.vars 2 [(.sl 320064 0 v8.Recs.length),(.sl 1217 0 v8.Order.length)])),(1217,(.data 1 (List.map zA v8.Order) true none))] (lk [])) (Wk.trans (s:=mk [(88,(oB (decide (v26=0)))),(1,(oI a2)),(8,(.one (.ptr (.nm 512 0 0)))),(10,(.one (.ptr (.nm 640 0 0))))] [(320064,(.data 5 (List.map zl (v8.Recs.set (Int.toNat (IntKind.wrap .i64 (a2 - 1))) (zp.mk v13.Tx v13.Client v13.Req v13.State (v13.Shares.set (Int.toNat t16) (zb.mk v22.Group v22.Reads v22.Writes 1))))) true none)),(512,(.vars 2 [.zs,.zs])),(640,(.vars 2 [(.sl 320064 0 v8.Recs.length),(.sl 320128 0 v8.Order.length)])),(320128,(.data 1 (List.map zA v8.Order) true none))] (lk [])) (zt [] (sR rfl rfl) (blR rfl) (BK.cons rfl (bR rfl) rfl rfl (BK.cons rfl bZ rfl rfl (BK.cons rfl (bR rfl) rfl rfl (BK.cons rfl (bR rfl) rfl (by first|rfl|simp) BK.nil)))) GK.nil) (yh 1217 320128 rfl rfl (nR rfl) GR.nil)) (yh 1216 320064 rfl rfl (nR rfl) GR.nil))⟩))
      ·refine zi eZ (cN (nt h21)) (aS (zK (zh (ze (m:=4) rfl rfl (zj (zh (zm (q:=4) (c:=(.sub 1216 (.both pw15 (.sl 4 (List.map zd v13.Shares))))) eZ (bR rfl) rfl rfl (zj (zh (za rfl (zj ?_)))))))))))
       obtain⟨v32,h33,H⟩:=zo H
       refine JT (za7 (nv:=704) (n:=1216) (q:=4) (cs':=[(dI v13.Tx),(dI v13.Client),(dI v13.Req),(dI v13.State),(.d (.pin pw15))]) (bR rfl) rfl rfl) (kd (n:=1216) (f:=zl) (f':=zd) (i:=(Int.toNat (IntKind.wrap .i64 (a2 - 1)))) (j:=4) (t:=v13) (ys:=v13.Shares) (u:=v32) (u':=(zb.mk v32.Group v32.Reads v32.Writes 2)) (e:=[(.int .i64 v13.Tx),(.int .i64 v13.Client),(.int .i64 v13.Req),(.int .i64 v13.State),(.both pw15 (.sl 4 (List.map zd v13.Shares)))]) (e':=[(.int .i64 v13.Tx),(.int .i64 v13.Client),(.int .i64 v13.Req),(.int .i64 v13.State),(.both pw15 (.sl 4 (List.map zd (v13.Shares.set (Int.toNat t16) (zb.mk v32.Group v32.Reads v32.Writes 2)))))]) (c:=(.int .i64 2)) rfl eZ h33 (bR rfl) (qi h14) rfl rfl eC rfl rfl rfl (erL.cons (v':=(.one .any)) rfl (erL.cons (v':=(.one .any)) rfl (erL.cons (v':=(oI t16)) rfl (erL.cons (v':=(.one .any)) rfl (erL.cons (v':=(.one (.ptr (.nm 704 0 4)))) rfl (erL.cons (v':=(oB (!a4))) rfl (erL.cons (v':=(oB a4)) rfl (erL.cons (v':=(oI a2)) rfl (erL.cons (v':=(oB a4)) rfl (erL.cons (v':=(.one (.ptr (.nm 512 0 0)))) rfl (erL.cons (v':=(.one (.ptr (.nm 640 0 0)))) rfl (erL.cons (v':=(.one (.ptr (.nm 704 0 0)))) rfl (erL.cons (v':=(oI t16)) rfl (erL.cons (v':=(oB t18)) rfl erL.nil)))))))))))))) (erH.cons (v':=(.vars 5 [(dI v13.Tx),(dI v13.Client),(dI v13.Req),(dI v13.State),(.d (.pin pw15))])) rfl rfl (erH.cons (v':=(.vars 2 [.zs,.zs])) rfl rfl (erH.cons (v':=(.vars 2 [(.sl 1216 0 v8.Recs.length),(.sl 1217 0 v8.Order.length)])) rfl rfl (erH.cons (v':=(.vars 5 [(dI v13.Tx),(dI v13.Client),(dI v13.Req),(dI v13.State),.any])) rfl rfl (erH.cons (v':=(.data 5 (List.map kE ((List.map zl v8.Recs).set (Int.toNat (IntKind.wrap .i64 (a2 - 1))) [(.int .i64 v13.Tx),(.int .i64 v13.Client),(.int .i64 v13.Req),(.int .i64 v13.State),(.both pw15 (.sl 4 (List.map zd v13.Shares)))])) true none)) rfl rfl (erH.cons (v':=(.data 1 (List.map zA v8.Order) true none)) rfl rfl erH.nil)))))) erL.nil (JT (zbk (n:=1216) (nv:=704) (q:=4) (j:=4) (cs':=[(dI v13.Tx),(dI v13.Client),(dI v13.Req),(dI v13.State),(.sub 1216 (.sl 4 (List.map zd (v13.Shares.set (Int.toNat t16) (zb.mk v32.Group v32.Reads v32.Writes 2)))))]) bZ (KP (qi h14)) rfl (bR rfl) rfl rfl) (JT (xB (n:=1216) (f:=zl) (t:=v13) (t':=(zp.mk v13.Tx v13.Client v13.Req v13.State (v13.Shares.set (Int.toNat t16) (zb.mk v32.Group v32.Reads v32.Writes 2)))) (j:=4) (bR rfl) (qi h14) rfl rfl rfl) (zR (xQ (aS (zK (zh (ze (m:=0) rfl rfl (zj (zh (zm (q:=0) (c:=(.sl 1216 0 v8.Recs.length)) eZ (bR rfl) rfl rfl (zj (zh (za rfl (zj (zh (kM eZ eC (zj (zh ?_))))))))))))))))))))
       obtain⟨v34,h35,H⟩:=zo H
       refine Yh rfl eZ bZ (by first|(simp;done)|(simp;omega)|omega|(simp only[List.length_map];omega)) h35 (zj (zh (ze (m:=3) eZ rfl (zj (zh (jZ (t:=v34) (t':=(zp.mk v34.Tx v34.Client v34.Req 4 v34.Shares)) (es:=[(.int .i64 4)]) eZ eC rfl rfl bZ (qi h35) rfl rfl (zj (zR (xQ (AW.weaken (zt [704] (kr 8 rfl rfl (kr 10 rfl rfl SL.nil)) (blR rfl) (BK.cons (n:=1216) rfl bZ rfl rfl (BK.cons (n:=512) rfl (bR rfl) rfl rfl (BK.cons (n:=640) rfl (bR rfl) rfl rfl (BK.cons (n:=1217) rfl (bR rfl) rfl rfl BK.nil)))) GK.nil) (aS (zK (zh (zZ (es:=[(.sl 1216 0 v8.Recs.length),(.sl 1217 0 v8.Order.length)]) rfl (bR rfl) rfl (zj (zh (zN (es:=[(.sl 1216 0 v8.Recs.length),(.sl 1217 0 v8.Order.length)]) rfl eZ rfl rfl (bR rfl) rfl (zj (zR (za eC (xQ (AW.ret (TQ.qr ?_)))))))))))))))))))))))
       cases H
       exact jU (RL.cons (jD (es:=[(.sl 1216 0 v8.Recs.length),(.sl 1217 0 v8.Order.length)]) rfl bZ rfl) (VO.aggs (VOs.cons (jH (bR rfl) (by first|(simp;done)|(simp;omega)|omega|(simp only[List.length_map];omega)) rfl) (VOs.cons (VO.sl (bR rfl) lm (qq fun _=>rfl)) VOs.nil))) (RL.cons (RV.tmp eZ) (VO.flat rfl) RL.nil)) (by decide)
    ·refine aR (ze (m:=3) rfl rfl (zm (q:=3) (c:=(dI v13.State)) eZ (bR rfl) rfl rfl (Za eZ eC (za eZ ?_))))
     rcases zE H with⟨h36,H⟩|⟨h36,H⟩
     ·exact zf eZ (dT h36) rfl (zf rfl (dT h36) rfl (zL rfl (dT h36) eC (zj (TQ.qn ⟨true,H,(zt [] (sR rfl rfl) (blR rfl) (BK.cons rfl bZ rfl rfl (BK.cons rfl (bR rfl) rfl (by first|rfl|simp) (bkR rfl rfl rfl))) GK.nil)⟩))))
     ·exact gDo eZ (dF h36) (za rfl (gDo rfl (dF h36) (qJ eZ eC (zV rfl (dF h36) eZ (zj (TQ.qn ⟨(decide (t16 < 0)),H,(zt [] (sR rfl rfl) (blR rfl) (BK.cons rfl bZ rfl rfl (BK.cons rfl (bR rfl) rfl (by first|rfl|simp) (bkR rfl rfl rfl))) GK.nil)⟩))))))
   ·refine aV (za eC (xQ (AW.block (AW.iter (fun s37:(Int×Int)=>mk [(1,(oI a2)),(2,(oI a3)),(3,(oB a4)),(8,(.one (.ptr (.nm 512 0 0)))),(10,(.one (.ptr (.nm 640 0 0)))),(11,(.one (.ptr (.nm 704 0 0)))),(12,(oI s37.1)),(13,(oI s37.2))] [(512,(.vars 2 [.zs,.zs])),(640,(.vars 2 [(.sl 1216 0 v8.Recs.length),(.sl 1217 0 v8.Order.length)])),(704,(.vars 5 [(dI v13.Tx),(dI v13.Client),(dI v13.Req),(dI v13.State),(.sub 1216 (.both pw15 (.sl 4 (List.map zd v13.Shares))))])),(1216,(.data 5 (List.map kE ((List.map zl v8.Recs).set (Int.toNat (IntKind.wrap .i64 (a2 - 1))) [(.int .i64 v13.Tx),(.int .i64 v13.Client),(.int .i64 v13.Req),(.int .i64 v13.State),(.both pw15 (.sl 4 (List.map zd v13.Shares)))])) true none)),(1217,(.data 1 (List.map zA v8.Order) true none))] (lk [])) H (zt [] (sR rfl rfl) (blR rfl) (BK.cons rfl (bR rfl) rfl rfl (BK.cons rfl (bR rfl) rfl (by first|rfl|simp) (bkR rfl rfl rfl))) GK.nil) ?_))))
    intro kb38 s37 H
    unfold jT at H
    refine aS (aV (za rfl (ze (m:=4) rfl rfl (zm (q:=4) (c:=(.sub 1216 (.both pw15 (.sl 4 (List.map zd v13.Shares))))) eZ (bR rfl) rfl rfl (zqx eZ (n:=v13.Shares.length) lm (qJ rfl eZ (xQ ?_)))))))
    rcases zE H with⟨h39,H⟩|⟨h39,H⟩
    ·refine zi eZ (dT h39) (AW.skip (TQ.qn (aS (AW.block (zJ (fun t40:Bool=>(jS kb38 s37) t40=some r) (fun t40=>mk [(1,(oI a2)),(2,(oI a3)),(3,(oB a4)),(8,(.one (.ptr (.nm 512 0 0)))),(10,(.one (.ptr (.nm 640 0 0)))),(11,(.one (.ptr (.nm 704 0 0)))),(12,(oI s37.1)),(13,(oI s37.2)),(56,(oB t40))] [(512,(.vars 2 [.zs,.zs])),(640,(.vars 2 [(.sl 1216 0 v8.Recs.length),(.sl 1217 0 v8.Order.length)])),(704,(.vars 5 [(dI v13.Tx),(dI v13.Client),(dI v13.Req),(dI v13.State),(.sub 1216 (.both pw15 (.sl 4 (List.map zd v13.Shares))))])),(1216,(.data 5 (List.map kE ((List.map zl v8.Recs).set (Int.toNat (IntKind.wrap .i64 (a2 - 1))) [(.int .i64 v13.Tx),(.int .i64 v13.Client),(.int .i64 v13.Req),(.int .i64 v13.State),(.both pw15 (.sl 4 (List.map zd v13.Shares)))])) true none)),(1217,(.data 1 (List.map zA v8.Order) true none))] (lk [])) ?_ ?_)))))
     ·intro t40 H
      unfold jS at H
      rcases zE H with⟨h42,H⟩|⟨h42,H⟩
      ·exact zi rfl h42 (aR (za rfl (za eZ (zj (BQ.qn (TQ.qn (aR (za rfl (qE eZ eC (za eZ (zj (TQ.qn ⟨(s37.2,(IntKind.wrap .i64 (s37.2+1))),H,(zt [] (sR rfl rfl) (blR rfl) (BK.cons rfl bZ rfl rfl (BK.cons rfl (bR rfl) rfl (by first|rfl|simp) (bkR rfl rfl rfl))) GK.nil)⟩))))))))))))
      ·exact zg rfl (nt h42) (AW.skip (BQ.qn (TQ.qn (aR (za rfl (qE eZ eC (za eZ (zj (TQ.qn ⟨(s37.1,(IntKind.wrap .i64 (s37.2+1))),H,(zt [] (sR rfl rfl) (blR rfl) (BK.cons rfl bZ rfl rfl (BK.cons rfl (bR rfl) rfl (by first|rfl|simp) (bkR rfl rfl rfl))) GK.nil)⟩)))))))))
     ·refine aR (ze (m:=4) rfl rfl (zm (q:=4) (c:=(.sub 1216 (.both pw15 (.sl 4 (List.map zd v13.Shares))))) eZ (bR rfl) rfl rfl (za rfl ?_)))
      obtain⟨v43,h44,H⟩:=zo H
      refine zqt rfl eZ h44 (zdR (cs':=[(.int .i64 v43.Group),(.sl 2 (List.map zx v43.Reads)),(.sl 2 (List.map zG v43.Writes)),(.int .i64 v43.Vote)]) eZ rfl (zfe eZ rfl (za rfl (Jp rfl eZ (za eZ ?_)))))
      rcases zE H with⟨h45,H⟩|⟨h45,H⟩
      ·refine gDo eZ (dT h45) (ze (m:=4) rfl rfl (gDo rfl (dT h45) (zm (q:=4) (c:=(.sub 1216 (.both pw15 (.sl 4 (List.map zd v13.Shares))))) eZ (bR rfl) rfl rfl (gDo rfl (dT h45) (za rfl (gDo rfl (dT h45) ?_))))))
       obtain⟨v46,h47,H⟩:=zo H
       exact zqt rfl eZ h47 (gDo rfl (dT h45) (zdR (cs':=[(.int .i64 v46.Vote)]) eZ rfl (gDo rfl (dT h45) (zfe eZ rfl (gDo rfl (dT h45) (Jp eZ eC (zL rfl (dT h45) eZ (zj (TQ.qn ⟨(decide (v46.Vote=0)),H,(zt [] (sR rfl rfl) (blR rfl) (BK.cons rfl bZ rfl rfl (BK.cons rfl (bR rfl) rfl (by first|rfl|simp) (bkR rfl rfl rfl))) GK.nil)⟩)))))))))
      ·exact zf eZ (dF h45) rfl (zf rfl (dF h45) rfl (zf rfl (dF h45) rfl (zf rfl (dF h45) rfl (zf rfl (dF h45) rfl (zf rfl (dF h45) rfl (zf rfl (dF h45) rfl (zV rfl (dF h45) eC (zj (TQ.qn ⟨false,H,(zt [] (sR rfl rfl) (blR rfl) (BK.cons rfl bZ rfl rfl (BK.cons rfl (bR rfl) rfl (by first|rfl|simp) (bkR rfl rfl rfl))) GK.nil)⟩)))))))))
    ·exact zg eZ (dF h39) (AW.exit (TQ.qe (TQ.qe (BQ.qe (TQ.qn ⟨s37.1,H,(zt [] (sR rfl rfl) (blR rfl) (BK.cons rfl bZ rfl rfl (BK.cons rfl (bR rfl) rfl (by first|rfl|simp) (bkR rfl rfl rfl))) GK.nil)⟩)))))
  ·refine zi eZ (cN (nt h12)) (aS (zK (zh (zZ (es:=[(.sl 1216 0 v8.Recs.length),(.sl 1217 0 v8.Order.length)]) rfl bZ rfl (zj (zh (zN (es:=[(.sl 1216 0 v8.Recs.length),(.sl 1217 0 v8.Order.length)]) rfl eZ rfl rfl (bR rfl) rfl (zj (zR (za eC (xQ (AW.ret (TQ.qr ?_)))))))))))))
   cases H
   exact jU (RL.cons (jD (es:=[(.sl 1216 0 v8.Recs.length),(.sl 1217 0 v8.Order.length)]) rfl bZ rfl) (VO.aggs (VOs.cons (jH (bR rfl) lm rfl) (VOs.cons (VO.sl (bR rfl) lm (qq fun _=>rfl)) VOs.nil))) (RL.cons (RV.tmp eZ) (VO.flat rfl) RL.nil)) (by decide)
 ·refine zi eZ (cN (nt h7)) (aS (zK (zh (Kx (cs:=[.zs,.zs]) xC rfl (zj (zh (zN (es:=[.zs,.zs]) rfl eZ rfl rfl bZ rfl (zj (zR (za eC (xQ (AW.ret (TQ.qr ?_)))))))))))))
  cases H
  exact jU (RL.cons (jD (es:=[.zs,.zs]) rfl bZ rfl) (VO.aggs (VOs.cons VO.zs (VOs.cons VO.zs VOs.nil))) (RL.cons (RV.tmp eZ) (VO.flat rfl) RL.nil)) List.nodup_nil
theorem ye{a1:Int}{a2:Int}{a3:Int}{r:Bool}(H:qY a1 a2 a3=some r):Fn Try.prog 76 (lent [(.int .i64 a1),(.int .i64 a2),(.int .i64 a3)]) true [(.bool r)]:=by
 refine f76 (fle rfl) ?_
 rw[zD]
 refine AW.weaken (zn [] (kv 0 (oI a1) rfl rfl (kv 1 (oI a2) rfl rfl (kv 2 (oI a3) rfl rfl SL.nil))) BL.nil BK.nil) ?_
 unfold qY at H
 unfold i76
 refine aV (za eC (xQ (aV (za rfl (za rfl (Kn rfl eZ (za eZ ?_)))))))
 rcases zE H with⟨h4,H⟩|⟨h4,H⟩
 ·refine gDo eZ (dT h4) (za rfl (gDo rfl (dT h4) (za rfl (gDo rfl (dT h4) (zcO rfl eZ (zL rfl (dT h4) eZ (za eZ (xQ (AW.ret ?_)))))))))
  cases H
  exact eE rfl rfl
 ·refine zf eZ (dF h4) rfl (zf rfl (dF h4) rfl (zf rfl (dF h4) rfl (zV rfl (dF h4) eC (za eZ (xQ (AW.ret ?_))))))
  cases H
  exact eE rfl rfl
theorem KS{a1:Int}{r:Bool}(H:Zn a1=some r):Fn Try.prog 60 (lent [(.int .i64 a1)]) true [(.bool r)]:=by
 refine f60 (fle rfl) ?_
 rw[zD]
 refine AW.weaken (zn [] (kv 0 (oI a1) rfl rfl SL.nil) BL.nil BK.nil) ?_
 unfold Zn at H
 unfold i60
 refine aV (za eC (xQ (aV (za rfl ?_))))
 obtain⟨v2,h3,H⟩:=zo H
 refine zM (u:=(oB v2)) eC Cl.fn (ye h3) (Ec eZ (Ec eC (Ec eC En))) (Vc Vp (Vc Vp (Vc Vp Vn))) rfl (za eZ (xQ (AW.ret ?_)))
 cases H
 exact eE rfl rfl
theorem zbC{a1:Int}{r:Bool}(H:Jr a1=some r):Fn Try.prog 61 (lent [(.int .i64 a1)]) true [(.bool r)]:=by
 refine f61 (fle rfl) ?_
 rw[zD]
 refine AW.weaken (zn [] (kv 0 (oI a1) rfl rfl SL.nil) BL.nil BK.nil) ?_
 unfold Jr at H
 unfold i61
 refine aV (za eC (xQ (aV (za rfl ?_))))
 obtain⟨v2,h3,H⟩:=zo H
 refine zM (u:=(oB v2)) eC Cl.fn (ye h3) (Ec eZ (Ec eC (Ec eC En))) (Vc Vp (Vc Vp (Vc Vp Vn))) rfl (za eZ (xQ (AW.ret ?_)))
 cases H
 exact eE rfl rfl
theorem K3{a1:Int}{r:Bool}(H:Zo a1=some r):Fn Try.prog 115 (lent [(.int .i64 a1)]) true [(.bool r)]:=by
 refine zsJ (fle rfl) ?_
 rw[zD]
 refine AW.weaken (zn [] (kv 0 (oI a1) rfl rfl SL.nil) BL.nil BK.nil) ?_
 unfold Zo at H
 unfold zmz
 refine aV (za eC (xQ (aV (za rfl ?_))))
 obtain⟨v2,h3,H⟩:=zo H
 refine zM (u:=(oB v2)) eC Cl.fn (ye h3) (Ec eZ (Ec eC (Ec eC En))) (Vc Vp (Vc Vp (Vc Vp Vn))) rfl (za eZ (xQ (AW.ret ?_)))
 cases H
 exact eE rfl rfl
theorem K8{a1:zC}{r:Bool}(H:Zr a1=some r):Fn Try.prog 129 (lent [(.agg (zx a1))]) true [(.bool r)]:=by
 refine zsc (fle rfl) ?_
 rw[zD]
 refine AW.weaken (zn [] (kv 0 (.agg [(dI a1.Lo),(dI a1.Hi)]) rfl rfl SL.nil) BL.nil BK.nil) ?_
 unfold Zr at H
 unfold zoJ
 refine aV (yX (n:=64) (m:=2) (cs:=[(dI a1.Lo),(dI a1.Hi)]) rfl eZ rfl rfl nZ (za eC (xQ (aV (ze (m:=0) rfl rfl (zm (q:=0) (c:=(dI a1.Lo)) eZ bZ rfl rfl (Kn eZ eC (za eZ ?_))))))))
 rcases zE H with⟨h2,H⟩|⟨h2,H⟩
 ·refine gDo eZ (dT h2) (ze (m:=0) rfl rfl (gDo rfl (dT h2) (zm (q:=0) (c:=(dI a1.Lo)) eZ bZ rfl rfl (gDo rfl (dT h2) (ze (m:=1) rfl rfl (gDo rfl (dT h2) (zm (q:=1) (c:=(dI a1.Hi)) eZ bZ rfl rfl (gDo rfl (dT h2) (qJ rfl eZ (zL rfl (dT h2) eZ (za eZ ?_)))))))))))
  rcases zE H with⟨h3,H⟩|⟨h3,H⟩
  ·refine gDo eZ (dT h3) (ze (m:=1) rfl rfl (gDo rfl (dT h3) (zm (q:=1) (c:=(dI a1.Hi)) eZ bZ rfl rfl (gDo rfl (dT h3) (zcO eZ eC (zL rfl (dT h3) eZ (za eZ (xQ (AW.weaken (zn [64] (kr 2 rfl rfl SL.nil) (blR rfl) BK.nil) (AW.ret ?_))))))))))
   cases H
   exact eE rfl rfl
  ·refine zf eZ (dF h3) rfl (zf rfl (dF h3) rfl (zf rfl (dF h3) rfl (zV rfl (dF h3) eC (za eZ (xQ (AW.weaken (zn [64] (kr 2 rfl rfl SL.nil) (blR rfl) BK.nil) (AW.ret ?_)))))))
   cases H
   exact eE rfl rfl
 ·refine zf eZ (dF h2) rfl (zf rfl (dF h2) rfl (zf rfl (dF h2) rfl (zf rfl (dF h2) rfl (zf rfl (dF h2) rfl (zV rfl (dF h2) eC (za eZ (zf eZ rfl rfl (zf rfl rfl rfl (zf rfl rfl rfl (zV rfl rfl eC (za eZ (xQ (AW.weaken (zn [64] (kr 2 rfl rfl SL.nil) (blR rfl) BK.nil) (AW.ret ?_))))))))))))))
  cases H
  exact eE rfl rfl
theorem Xt{a1:zC}{r:Bool}(H:yl a1=some r):Fn Try.prog 149 (lent [(.agg (zx a1))]) true [(.bool r)]:=by
 refine zso (fle rfl) ?_
 rw[zD]
 refine AW.weaken (zn [] (kv 0 (.agg [(dI a1.Lo),(dI a1.Hi)]) rfl rfl SL.nil) BL.nil BK.nil) ?_
 unfold yl at H
 unfold zmk
 refine aV (yX (n:=64) (m:=2) (cs:=[(dI a1.Lo),(dI a1.Hi)]) rfl eZ rfl rfl nZ (za eC (xQ (aV (zZ (es:=[(dI a1.Lo),(dI a1.Hi)]) rfl bZ rfl ?_)))))
 obtain⟨v2,h3,H⟩:=zo H
 refine zM (u:=(oB v2)) eC Cl.fn (K8 h3) (Ec eZ En) (Vc (VD.agg rfl) Vn) rfl (jE eZ (za eZ (xQ (AW.ret ?_))))
 cases H
 exact eE rfl rfl
theorem Qp{a1:(List zC)}{r:Int}(H:qt a1=some r):Fn Try.prog 170 (lent [(.sl 2 (List.map zx a1)),(.fn 149 [])]) true [(.int .i64 r)]:=by
 refine zsK (fle rfl) ?_
 rw[zD]
 refine AW.weaken (zn [] (kv 0 (.one (.d (.sl 2 (List.map zx a1)))) rfl rfl (SL.cons (v:=(.one (.fn 149 []))) (eS rfl eZ) rfl (VWk.one (CWk.fn (css:=[]))) SL.nil)) BL.nil BK.nil) ?_
 unfold qt at H
 unfold zoZ
 refine aV (za eC (xQ (zJ (fun t2:Unit=>qQ t2=some r) (fun t2=>mk [] [] noG) ?_ ?_)))
 ·intro t2 H
  unfold qQ at H
  refine aV (za eC (xQ (AW.ret ?_)))
  cases H
  exact eE rfl rfl
 ·refine aV (za rfl (zX eZ (n:=a1.length) lm (za eC (xQ (AW.block (AW.iter (fun s4:Int=>mk [(0,(.one (.d (.sl 2 (List.map zx a1))))),(1,(.one (.fn 149 []))),(7,(oI (a1.length:Int))),(8,(oI s4))] [] noG) H (zn [] (sR rfl rfl) BL.nil BK.nil) ?_))))))
  intro kb5 s4 H
  unfold qm at H
  refine aV (qJ rfl rfl (xQ (aS ?_)))
  rcases zE H with⟨h6,H⟩|⟨h6,H⟩
  ·refine zi eZ (dT h6) (AW.skip (TQ.qn (aS (AW.block (aV (za rfl (za eZ (xQ (aV (za rfl (za rfl (za rfl ?_))))))))))))
   obtain⟨v7,h8,H⟩:=zo H
   refine je rfl eZ h8 (qG (es:=[(dI v7.Lo),(dI v7.Hi)]) eZ rfl ?_)
   obtain⟨v9,h10,H⟩:=zo H
   refine zM (u:=(oB v9)) rfl Cl.fn (Xt h10) (Ec eZ En) (Vc (VD.agg rfl) Vn) rfl (xQ ?_)
   rcases zE H with⟨h11,H⟩|⟨h11,H⟩
   ·refine zi eZ h11 (aV (za rfl (za eZ (xQ (AW.ret (BQ.qr (TQ.qr (TQ.qr (BQ.qr (TQ.qr ?_))))))))))
    cases H
    exact eE rfl rfl
   ·exact zg eZ (nt h11) (AW.skip (BQ.qn (TQ.qn (aR (qE rfl eC (za eZ (zj (TQ.qn ⟨(IntKind.wrap .i64 (s4+1)),H,(zn [] (sR rfl rfl) BL.nil BK.nil)⟩))))))))
  ·exact zg eZ (dF h6) (AW.exit (TQ.qe (TQ.qe (BQ.qe (TQ.qn ⟨(),H,(zn [] SL.nil BL.nil BK.nil)⟩)))))
end Go.AW
