/- That functions of the program compute what the plain functions say. Conditions: each theorem's own. -/
import Derived.Test.YtlcjjljmjdmobaaMCoordVote
import Derived.Test.YtlcjjljmjdmobaaGCoordVote
import Derived.Test.YtlcjjljmjdmobaaYp
import Derived.Test.YtlcjjljmjdmobaaDCoordVotea
set_option linter.unusedVariables false
set_option linter.unusedSimpArgs false
set_option maxRecDepth 100000
namespace Go.AW
open Go.Proofs
theorem Zw{a1:(List zC)}{r:Bool}(H:z3 a1=some r):Fn Try.prog 148 (lent [(.sl 2 (List.map zx a1)),(.fn 149 [])]) true [(.bool r)]:=by
 refine zsp (fle rfl) ?_
 rw[zD]
 refine AW.weaken (zn [] (kv 0 (.one (.d (.sl 2 (List.map zx a1)))) rfl rfl (SL.cons (v:=(.one (.fn 149 []))) (eS rfl eZ) rfl (VWk.one (CWk.fn (css:=[]))) SL.nil)) BL.nil BK.nil) ?_
 unfold z3 at H
 unfold zqE
 refine aV (za eC (xQ (aV (za rfl (za rfl ?_)))))
 obtain⟨v2,h3,H⟩:=zo H
 refine zM (u:=(oI v2)) eC Cl.fn (Qp h3) (Ec rfl (Ec eZ En)) (Vc Vp (Vc (VD.fn PDs.nil) Vn)) rfl (Kn eZ eC (za eZ (xQ (AW.ret ?_))))
 cases H
 exact eE rfl rfl
theorem xp{a1:(List zC)}{r:Bool}(H:yr a1=some r):Fn Try.prog 116 (lent [(.sl 2 (List.map zx a1))]) true [(.bool r)]:=by
 refine zsa (fle rfl) ?_
 rw[zD]
 refine AW.weaken (zn [] (kv 0 (.one (.d (.sl 2 (List.map zx a1)))) rfl rfl SL.nil) BL.nil BK.nil) ?_
 unfold yr at H
 unfold zqm
 refine aV (za eC (xQ (aV (za rfl (zX eZ (n:=a1.length) lm (zcO eZ eC (za eZ ?_)))))))
 rcases zE H with⟨h2,H⟩|⟨h2,H⟩
 ·refine gDo eZ (dT h2) (za rfl (gDo rfl (dT h2) ?_))
  obtain⟨v3,h4,H⟩:=zo H
  refine zM (u:=(oB v3)) eC Cl.fn (Zw h4) (Ec eZ (Ec eC En)) (Vc Vp (Vc (VD.fn PDs.nil) Vn)) rfl (gDo rfl (dT h2) (jE eZ (zL rfl (dT h2) eZ (za eZ (xQ (AW.ret ?_))))))
  cases H
  exact eE rfl rfl
 ·refine zf eZ (dF h2) rfl (zf rfl (dF h2) rfl (zf rfl (dF h2) rfl (zV rfl (dF h2) eC (za eZ (xQ (AW.ret ?_))))))
  cases H
  exact eE rfl rfl
theorem zbJ{a1:Int}{r:Bool}(H:Q6 a1=some r):Fn Try.prog 100 (lent [(.int .i64 a1)]) true [(.bool r)]:=by
 refine zsk (fle rfl) ?_
 rw[zD]
 refine AW.weaken (zn [] (kv 0 (oI a1) rfl rfl SL.nil) BL.nil BK.nil) ?_
 unfold Q6 at H
 unfold zpF
 refine aV (za eC (xQ (aV (za rfl ?_))))
 obtain⟨v2,h3,H⟩:=zo H
 refine zM (u:=(oB v2)) eC Cl.fn (ye h3) (Ec eZ (Ec eC (Ec eC En))) (Vc Vp (Vc Vp (Vc Vp Vn))) rfl (za eZ (xQ (AW.ret ?_)))
 cases H
 exact eE rfl rfl
theorem Ka{a1:Int}{r:Bool}(H:yW a1=some r):Fn Try.prog 134 (lent [(.int .i64 a1)]) true [(.bool r)]:=by
 refine zsl (fle rfl) ?_
 rw[zD]
 refine AW.weaken (zn [] (kv 0 (oI a1) rfl rfl SL.nil) BL.nil BK.nil) ?_
 unfold yW at H
 unfold znU
 refine aV (za eC (xQ (aV (za rfl ?_))))
 obtain⟨v2,h3,H⟩:=zo H
 refine zM (u:=(oB v2)) eC Cl.fn (ye h3) (Ec eZ (Ec eC (Ec eC En))) (Vc Vp (Vc Vp (Vc Vp Vn))) rfl (za eZ (xQ (AW.ret ?_)))
 cases H
 exact eE rfl rfl
theorem xb{a1:(List zO)}{r:Bool}(H:j4 a1=some r):Fn Try.prog 102 (lent [(.sl 2 (List.map zG a1))]) true [(.bool r)]:=by
 refine zsr (fle rfl) ?_
 rw[zD]
 refine AW.weaken (zn [] (kv 0 (.one (.d (.sl 2 (List.map zG a1)))) rfl rfl SL.nil) BL.nil BK.nil) ?_
 unfold j4 at H
 unfold zmX
 refine aV (za eC (xQ (zJ (fun t2:Unit=>(Qf a1) t2=some r) (fun t2=>mk [(0,(.one (.d (.sl 2 (List.map zG a1)))))] [] noG) ?_ ?_)))
 ·intro t2 H
  unfold Qf at H
  refine aV (za eZ (zX eZ (n:=a1.length) lm (zcO eZ eC (za eZ (xQ (AW.ret ?_))))))
  cases H
  exact eE rfl rfl
 ·refine aV (za rfl (zX eZ (n:=a1.length) lm (za eC (xQ (AW.block (AW.iter (fun s4:Int=>mk [(0,(.one (.d (.sl 2 (List.map zG a1))))),(5,(.one (.d (.sl 2 (List.map zG a1))))),(6,(oI (a1.length:Int))),(7,(oI s4))] [] noG) H (zn [] (sR rfl rfl) BL.nil BK.nil) ?_))))))
  intro kb5 s4 H
  unfold ZY at H
  refine aV (qJ rfl rfl (xQ (aS ?_)))
  rcases zE H with⟨h6,H⟩|⟨h6,H⟩
  ·refine zi eZ (dT h6) (AW.skip (TQ.qn (aS (AW.block (aV (za rfl ?_))))))
   obtain⟨v7,h8,H⟩:=zo H
   refine je rfl rfl h8 (qG (es:=[(dI v7.Key),(dI v7.Value)]) eZ rfl (Qo (n:=256) (m:=2) rfl rfl nZ (za rfl (zN (es:=[(dI v7.Key),(dI v7.Value)]) rfl rfl rfl rfl bZ rfl (xQ (zJ (fun t9:Bool=>(js kb5 s4) t9=some r) (fun t9=>mk [(0,(.one (.d (.sl 2 (List.map zG a1))))),(5,(.one (.d (.sl 2 (List.map zG a1))))),(6,(oI (a1.length:Int))),(7,(oI s4)),(36,(oB t9))] [] noG) ?_ ?_))))))
   ·intro t9 H
    unfold js at H
    rcases zE H with⟨h11,H⟩|⟨h11,H⟩
    ·refine zi rfl h11 (aV (za eC (xQ (AW.ret (BQ.qr (TQ.qr (TQ.qr (BQ.qr (TQ.qr ?_)))))))))
     cases H
     exact eE rfl rfl
    ·exact zg rfl (nt h11) (AW.skip (BQ.qn (TQ.qn (aR (qE rfl eC (za eZ (zj (TQ.qn ⟨(IntKind.wrap .i64 (s4+1)),H,(zn [] (sR rfl rfl) BL.nil BK.nil)⟩))))))))
   ·refine AW.regd (ze (m:=0) rfl rfl (zm (q:=0) (c:=(dI v7.Key)) eZ bZ rfl rfl ?_))
    obtain⟨v12,h13,H⟩:=zo H
    refine zM (u:=(oB v12)) eC Cl.fn (zbJ h13) (Ec eZ En) (Vc Vp Vn) rfl (jE eZ (za eZ ?_))
    rcases zE H with⟨h14,H⟩|⟨h14,H⟩
    ·refine gDo eZ (cN h14) (ze (m:=1) rfl rfl (gDo rfl (cN h14) (zm (q:=1) (c:=(dI v7.Value)) eZ bZ rfl rfl (gDo rfl (cN h14) ?_))))
     obtain⟨v15,h16,H⟩:=zo H
     refine zM (u:=(oB v15)) eC Cl.fn (Ka h16) (Ec eZ En) (Vc Vp Vn) rfl (gDo rfl (cN h14) (jE eZ (zV rfl (cN h14) eZ (za eZ ?_))))
     rcases zE H with⟨h17,H⟩|⟨h17,H⟩
     ·refine gDo eZ (cN h17) (za rfl (gDo rfl (cN h17) (Kj eZ eC (gDo rfl (cN h17) (za eZ ?_)))))
      rcases zE H with⟨h18,H⟩|⟨h18,H⟩
      ·refine gDo eZ (dT h18) (za rfl (gDo rfl (dT h18) (za rfl (gDo rfl (dT h18) (kM eZ eC (gDo rfl (dT h18) ?_))))))
       obtain⟨v19,h20,H⟩:=zo H
       exact je rfl eZ h20 (gDo rfl (dT h18) (qI (m:=0) eZ rfl (gDo rfl (dT h18) (qC (e:=(.int .i64 v19.Key)) eZ rfl (gDo rfl (dT h18) (ze (m:=0) rfl rfl (gDo rfl (dT h18) (zm (q:=0) (c:=(dI v7.Key)) eZ bZ rfl rfl (gDo rfl (dT h18) (Kn rfl eZ (gDo rfl (cN h17) (zL rfl (dT h18) eZ (zV rfl (cN h17) eZ (zj (TQ.qn ⟨(decide (v7.Key≤v19.Key)),H,(zn [256] (sR rfl rfl) (blR rfl) BK.nil)⟩)))))))))))))))
      ·exact zf eZ (dF h18) rfl (zf rfl (dF h18) rfl (zf rfl (dF h18) rfl (zf rfl (dF h18) rfl (zf rfl (dF h18) rfl (zf rfl (dF h18) rfl (zf rfl (dF h18) rfl (zf rfl (dF h18) rfl (zf rfl (dF h18) rfl (gDo rfl (cN h17) (zV rfl (dF h18) eC (zV rfl (cN h17) eZ (zj (TQ.qn ⟨false,H,(zn [256] (sR rfl rfl) (blR rfl) BK.nil)⟩)))))))))))))
     ·exact zf eZ (cN (nt h17)) rfl (zf rfl (cN (nt h17)) rfl (zf rfl (cN (nt h17)) rfl (zU eZ rfl (zU rfl rfl (zU rfl rfl (zU rfl rfl (zU rfl rfl (zU rfl rfl (zU rfl rfl (zU rfl rfl (zU rfl rfl (zf rfl (cN (nt h17)) rfl (zL rfl (cN (nt h17)) eC (zj (TQ.qn ⟨true,H,(zn [256] (sR rfl rfl) (blR rfl) BK.nil)⟩)))))))))))))))
    ·exact zf eZ (cN (nt h14)) rfl (zf rfl (cN (nt h14)) rfl (zf rfl (cN (nt h14)) rfl (zf rfl (cN (nt h14)) rfl (zL rfl (cN (nt h14)) eC (za eZ (zf eZ rfl rfl (zf rfl rfl rfl (zf rfl rfl rfl (zU eZ rfl (zU rfl rfl (zU rfl rfl (zU rfl rfl (zU rfl rfl (zU rfl rfl (zU rfl rfl (zU rfl rfl (zU rfl rfl (zf rfl rfl rfl (zL rfl rfl eC (zj (TQ.qn ⟨true,H,(zn [256] (sR rfl rfl) (blR rfl) BK.nil)⟩)))))))))))))))))))))
  ·exact zg eZ (dF h6) (AW.exit (TQ.qe (TQ.qe (BQ.qe (TQ.qn ⟨(),H,(zn [] (sR rfl rfl) BL.nil BK.nil)⟩)))))
theorem XX{a1:(List zb)}{r:Bool}(H:yT a1=some r):Fn Try.prog 78 (lent [(.sl 4 (List.map zd a1))]) true [(.bool r)]:=by
 refine f78 (fle rfl) ?_
 rw[zD]
 refine AW.weaken (t:=mk [(0,(.one (.d (.sl 4 (List.map zd a1)))))] [] (lk [])) (zn [] (sR rfl rfl) BL.nil BK.nil) ?_
 unfold yT at H
 unfold i78
 refine aV (za eC (xQ (zJ (fun t2:Unit=>(ZZ a1) t2=some r) (fun t2=>mk [(0,(.one (.d (.sl 4 (List.map zd a1)))))] [] (lk [])) ?_ ?_)))
 ·intro t2 H
  unfold ZZ at H
  refine aV (za eZ (zX eZ (n:=a1.length) lm (zcO eZ eC (za eZ (xQ (AW.ret ?_))))))
  cases H
  exact eE rfl rfl
 ·refine aV (za rfl (zX eZ (n:=a1.length) lm (za eC (xQ (AW.block (AW.iter (fun s4:Int=>mk [(0,(.one (.d (.sl 4 (List.map zd a1))))),(5,(.one (.d (.sl 4 (List.map zd a1))))),(6,(oI (a1.length:Int))),(7,(oI s4))] [] (lk [])) H (zt [] (sR rfl rfl) BL.nil BK.nil GK.nil) ?_))))))
  intro kb5 s4 H
  unfold Z3 at H
  refine aV (qJ rfl rfl (xQ (aS ?_)))
  rcases zE H with⟨h6,H⟩|⟨h6,H⟩
  ·refine zi eZ (dT h6) (AW.skip (TQ.qn (aS (AW.block (aS (zK (zh (za rfl (zj (zh ?_))))))))))
   obtain⟨v7,h8,H⟩:=zo H
   refine je rfl rfl h8 (zj (zh (qG (es:=(ql v7)) eZ rfl (zj (zh (Qo (n:=256) (m:=4) rfl rfl nZ (zj (zh (za rfl (zj (zh (zN (es:=(ql v7)) rfl rfl rfl rfl bZ rfl (zj (zR (xQ (zJ (fun t9:Bool=>(qp kb5 s4) t9=some r) (fun t9=>mk [(0,(.one (.d (.sl 4 (List.map zd a1))))),(5,(.one (.d (.sl 4 (List.map zd a1))))),(6,(oI (a1.length:Int))),(7,(oI s4)),(48,(oB t9))] [] (lk [])) ?_ ?_))))))))))))))))
   ·intro t9 H
    unfold qp at H
    rcases zE H with⟨h11,H⟩|⟨h11,H⟩
    ·refine zi rfl h11 (aV (za eC (xQ (AW.ret (BQ.qr (TQ.qr (TQ.qr (BQ.qr (TQ.qr ?_)))))))))
     cases H
     exact eE rfl rfl
    ·exact zg rfl (nt h11) (AW.skip (BQ.qn (TQ.qn (aR (qE rfl eC (za eZ (zj (TQ.qn ⟨(IntKind.wrap .i64 (s4+1)),H,(zt [] (sR rfl rfl) BL.nil BK.nil GK.nil)⟩))))))))
   ·refine AW.regd (ze (m:=0) rfl rfl (zm (q:=0) (c:=(dI v7.Group)) eZ bZ rfl rfl ?_))
    obtain⟨v12,h13,H⟩:=zo H
    refine zM (u:=(oB v12)) eC Cl.fn (K3 h13) (Ec eZ En) (Vc Vp Vn) rfl (jE eZ (za eZ ?_))
    rcases zE H with⟨h14,H⟩|⟨h14,H⟩
    ·refine gDo eZ (cN h14) (za rfl (gDo rfl (cN h14) (Kj eZ eC (gDo rfl (cN h14) (za eZ ?_)))))
     rcases zE H with⟨h15,H⟩|⟨h15,H⟩
     ·refine gDo eZ (dT h15) (za rfl (gDo rfl (dT h15) (za rfl (gDo rfl (dT h15) (kM eZ eC (gDo rfl (dT h15) ?_))))))
      obtain⟨v16,h17,H⟩:=zo H
      refine je rfl eZ h17 (gDo rfl (dT h15) (qI (m:=0) eZ rfl (gDo rfl (dT h15) (qC (e:=(.int .i64 v16.Group)) eZ rfl (gDo rfl (dT h15) (ze (m:=0) rfl rfl (gDo rfl (dT h15) (zm (q:=0) (c:=(dI v7.Group)) eZ bZ rfl rfl (gDo rfl (dT h15) (Kn rfl eZ (gDo rfl (cN h14) (zL rfl (dT h15) eZ (zV rfl (cN h14) eZ (za eZ ?_))))))))))))))
      rcases zE H with⟨h18,H⟩|⟨h18,H⟩
      ·exact zf eZ (dT h18) rfl (zf rfl (dT h18) rfl (zf rfl (dT h18) rfl (zf rfl (dT h18) rfl (zL rfl (dT h18) eC (za eZ (zf eZ rfl rfl (zf rfl rfl rfl (zf rfl rfl rfl (zf rfl rfl rfl (zL rfl rfl eC (za eZ (zf eZ rfl rfl (zf rfl rfl rfl (zf rfl rfl rfl (zf rfl rfl rfl (zL rfl rfl eC (zj (TQ.qn ⟨true,H,(zt [256] (sR rfl rfl) (blR rfl) BK.nil GK.nil)⟩))))))))))))))))))
      ·refine gDo eZ (dF h18) (ze (m:=1) rfl rfl (gDo rfl (dF h18) (zm (q:=1) (c:=(.d (.sl 2 (List.map zx v7.Reads)))) eZ bZ rfl rfl (gDo rfl (dF h18) ?_))))
       obtain⟨v19,h20,H⟩:=zo H
       refine zM (u:=(oB v19)) eC Cl.fn (xp h20) (Ec eZ En) (Vc Vp Vn) rfl (gDo rfl (dF h18) (jE eZ (zV rfl (dF h18) eZ (za eZ ?_))))
       rcases zE H with⟨h21,H⟩|⟨h21,H⟩
       ·refine gDo eZ (cN h21) (ze (m:=2) rfl rfl (gDo rfl (cN h21) (zm (q:=2) (c:=(.d (.sl 2 (List.map zG v7.Writes)))) eZ bZ rfl rfl (gDo rfl (cN h21) ?_))))
        obtain⟨v22,h23,H⟩:=zo H
        refine zM (u:=(oB v22)) eC Cl.fn (xb h23) (Ec eZ En) (Vc Vp Vn) rfl (gDo rfl (cN h21) (jE eZ (zV rfl (cN h21) eZ (za eZ ?_))))
        rcases zE H with⟨h24,H⟩|⟨h24,H⟩
        ·refine gDo eZ (cN h24) (ze (m:=3) rfl rfl (gDo rfl (cN h24) (zm (q:=3) (c:=(dI v7.Vote)) eZ bZ rfl rfl (gDo rfl (cN h24) ?_))))
         obtain⟨v25,h26,H⟩:=zo H
         exact zM (u:=(oB v25)) eC Cl.fn (ye h26) (Ec eZ (Ec eC (Ec eC En))) (Vc Vp (Vc Vp (Vc Vp Vn))) rfl (gDo rfl (cN h24) (jE eZ (zV rfl (cN h24) eZ (zj (TQ.qn ⟨(!v25),H,(zt [256] (sR rfl rfl) (blR rfl) BK.nil GK.nil)⟩)))))
        ·exact zf eZ (cN (nt h24)) rfl (zf rfl (cN (nt h24)) rfl (zf rfl (cN (nt h24)) rfl (zf rfl (cN (nt h24)) rfl (zL rfl (cN (nt h24)) eC (zj (TQ.qn ⟨true,H,(zt [256] (sR rfl rfl) (blR rfl) BK.nil GK.nil)⟩))))))
       ·exact zf eZ (cN (nt h21)) rfl (zf rfl (cN (nt h21)) rfl (zf rfl (cN (nt h21)) rfl (zf rfl (cN (nt h21)) rfl (zL rfl (cN (nt h21)) eC (za eZ (zf eZ rfl rfl (zf rfl rfl rfl (zf rfl rfl rfl (zf rfl rfl rfl (zL rfl rfl eC (zj (TQ.qn ⟨true,H,(zt [256] (sR rfl rfl) (blR rfl) BK.nil GK.nil)⟩))))))))))))
     ·refine zf eZ (dF h15) rfl (zf rfl (dF h15) rfl (zf rfl (dF h15) rfl (zf rfl (dF h15) rfl (zf rfl (dF h15) rfl (zf rfl (dF h15) rfl (zf rfl (dF h15) rfl (zf rfl (dF h15) rfl (zf rfl (dF h15) rfl (gDo rfl (cN h14) (zV rfl (dF h15) eC (zV rfl (cN h14) eZ (za eZ (gDo eZ rfl (ze (m:=1) rfl rfl (gDo rfl rfl (zm (q:=1) (c:=(.d (.sl 2 (List.map zx v7.Reads)))) eZ bZ rfl rfl (gDo rfl rfl ?_)))))))))))))))))
      obtain⟨v27,h28,H⟩:=zo H
      refine zM (u:=(oB v27)) eC Cl.fn (xp h28) (Ec eZ En) (Vc Vp Vn) rfl (gDo rfl rfl (jE eZ (zV rfl rfl eZ (za eZ ?_))))
      rcases zE H with⟨h29,H⟩|⟨h29,H⟩
      ·refine gDo eZ (cN h29) (ze (m:=2) rfl rfl (gDo rfl (cN h29) (zm (q:=2) (c:=(.d (.sl 2 (List.map zG v7.Writes)))) eZ bZ rfl rfl (gDo rfl (cN h29) ?_))))
       obtain⟨v30,h31,H⟩:=zo H
       refine zM (u:=(oB v30)) eC Cl.fn (xb h31) (Ec eZ En) (Vc Vp Vn) rfl (gDo rfl (cN h29) (jE eZ (zV rfl (cN h29) eZ (za eZ ?_))))
       rcases zE H with⟨h32,H⟩|⟨h32,H⟩
       ·refine gDo eZ (cN h32) (ze (m:=3) rfl rfl (gDo rfl (cN h32) (zm (q:=3) (c:=(dI v7.Vote)) eZ bZ rfl rfl (gDo rfl (cN h32) ?_))))
        obtain⟨v33,h34,H⟩:=zo H
        exact zM (u:=(oB v33)) eC Cl.fn (ye h34) (Ec eZ (Ec eC (Ec eC En))) (Vc Vp (Vc Vp (Vc Vp Vn))) rfl (gDo rfl (cN h32) (jE eZ (zV rfl (cN h32) eZ (zj (TQ.qn ⟨(!v33),H,(zt [256] (sR rfl rfl) (blR rfl) BK.nil GK.nil)⟩)))))
       ·exact zf eZ (cN (nt h32)) rfl (zf rfl (cN (nt h32)) rfl (zf rfl (cN (nt h32)) rfl (zf rfl (cN (nt h32)) rfl (zL rfl (cN (nt h32)) eC (zj (TQ.qn ⟨true,H,(zt [256] (sR rfl rfl) (blR rfl) BK.nil GK.nil)⟩))))))
      ·exact zf eZ (cN (nt h29)) rfl (zf rfl (cN (nt h29)) rfl (zf rfl (cN (nt h29)) rfl (zf rfl (cN (nt h29)) rfl (zL rfl (cN (nt h29)) eC (za eZ (zf eZ rfl rfl (zf rfl rfl rfl (zf rfl rfl rfl (zf rfl rfl rfl (zL rfl rfl eC (zj (TQ.qn ⟨true,H,(zt [256] (sR rfl rfl) (blR rfl) BK.nil GK.nil)⟩))))))))))))
    ·exact zf eZ (cN (nt h14)) rfl (zf rfl (cN (nt h14)) rfl (zf rfl (cN (nt h14)) rfl (zU eZ rfl (zU rfl rfl (zU rfl rfl (zU rfl rfl (zU rfl rfl (zU rfl rfl (zU rfl rfl (zU rfl rfl (zU rfl rfl (zf rfl (cN (nt h14)) rfl (zL rfl (cN (nt h14)) eC (za eZ (zf eZ rfl rfl (zf rfl rfl rfl (zf rfl rfl rfl (zf rfl rfl rfl (zL rfl rfl eC (za eZ (zf eZ rfl rfl (zf rfl rfl rfl (zf rfl rfl rfl (zf rfl rfl rfl (zL rfl rfl eC (za eZ (zf eZ rfl rfl (zf rfl rfl rfl (zf rfl rfl rfl (zf rfl rfl rfl (zL rfl rfl eC (zj (TQ.qn ⟨true,H,(zt [256] (sR rfl rfl) (blR rfl) BK.nil GK.nil)⟩)))))))))))))))))))))))))))))))))
  ·exact zg eZ (dF h6) (AW.exit (TQ.qe (TQ.qe (BQ.qe (TQ.qn ⟨(),H,(zt [] (sR rfl rfl) BL.nil BK.nil GK.nil)⟩)))))
theorem KW{a1:zb}{a2:Int}{r:Bool}(H:Q4 a1 a2=some r):Fn Try.prog 118 (lent [(.agg (zd a1)),(.ptr (zA a2))]) true [(.bool r)]:=by
 refine zsu (fle rfl) ?_
 rw[zD]
 refine AW.weaken (zn [] (kv 0 (.agg (ql a1)) rfl rfl (SL.cons (v:=(.one (.ptr (.bd (zA a2) 0)))) (eS rfl eZ) rfl (VWk.one CWk.ptr) SL.nil)) BL.nil BK.nil) ?_
 unfold Q4 at H
 unfold zrm
 refine aV (yX (n:=128) (m:=4) (cs:=(ql a1)) rfl eZ rfl rfl nZ (za eC (xQ (aV (ze (m:=3) rfl rfl (zm (q:=3) (c:=(dI a1.Vote)) eZ bZ rfl rfl (qC (e:=(.int .i64 a2)) rfl rfl (Jp rfl eZ (za eZ (xQ (AW.ret ?_)))))))))))
 cases H
 exact eE rfl rfl
theorem QX{a1:(List zb)}{a2:Int}{r:Int}(H:qA a1 a2=some r):Fn Try.prog 84 (lent [(.sl 4 (List.map zd a1)),(.fn 118 [.ptr (zA a2)])]) true [(.int .i64 r)]:=by
 refine f84 (fle rfl) ?_
 rw[zD]
 refine AW.weaken (zn [] (kv 0 (.one (.d (.sl 4 (List.map zd a1)))) rfl rfl (SL.cons (v:=(.one (.fn 118 [(.bd (zA a2) 0)]))) (eS rfl eZ) rfl (VWk.one (CWk.fn (css:=[zA a2]))) SL.nil)) BL.nil BK.nil) ?_
 unfold qA at H
 unfold i84
 refine aV (za eC (xQ (zJ (fun t3:Unit=>qW t3=some r) (fun t3=>mk [] [] noG) ?_ ?_)))
 ·intro t3 H
  unfold qW at H
  refine aV (za eC (xQ (AW.ret ?_)))
  cases H
  exact eE rfl rfl
 ·refine aV (za rfl (zX eZ (n:=a1.length) lm (za eC (xQ (AW.block (AW.iter (fun s5:Int=>mk [(0,(.one (.d (.sl 4 (List.map zd a1))))),(1,(.one (.fn 118 [(.bd (zA a2) 0)]))),(7,(oI (a1.length:Int))),(8,(oI s5))] [] noG) H (zn [] (sR rfl rfl) BL.nil BK.nil) ?_))))))
  intro kb6 s5 H
  unfold qw at H
  refine aV (qJ rfl rfl (xQ (aS ?_)))
  rcases zE H with⟨h7,H⟩|⟨h7,H⟩
  ·refine zi eZ (dT h7) (AW.skip (TQ.qn (aS (AW.block (aV (za rfl (za eZ (xQ (aV (za rfl (za rfl (za rfl ?_))))))))))))
   obtain⟨v8,h9,H⟩:=zo H
   refine je rfl eZ h9 (qG (es:=(ql v8)) eZ rfl ?_)
   obtain⟨v10,h11,H⟩:=zo H
   refine zM (u:=(oB v10)) rfl Cl.fn (KW h11) (Ec eZ En) (Vc (VD.agg rfl) (Vc Xm Vn)) rfl (xQ ?_)
   rcases zE H with⟨h12,H⟩|⟨h12,H⟩
   ·refine zi eZ h12 (aV (za rfl (za eZ (xQ (AW.ret (BQ.qr (TQ.qr (TQ.qr (BQ.qr (TQ.qr ?_))))))))))
    cases H
    exact eE rfl rfl
   ·exact zg eZ (nt h12) (AW.skip (BQ.qn (TQ.qn (aR (qE rfl eC (za eZ (zj (TQ.qn ⟨(IntKind.wrap .i64 (s5+1)),H,(zn [] (sR rfl rfl) BL.nil BK.nil)⟩))))))))
  ·exact zg eZ (dF h7) (AW.exit (TQ.qe (TQ.qe (BQ.qe (TQ.qn ⟨(),H,(zn [] SL.nil BL.nil BK.nil)⟩)))))
theorem Qk{a1:(List zb)}{a2:Int}{r:Bool}(H:qo a1 a2=some r):Fn Try.prog 117 (lent [(.sl 4 (List.map zd a1)),(.fn 118 [.ptr (zA a2)])]) true [(.bool r)]:=by
 refine zsw (fle rfl) ?_
 rw[zD]
 refine AW.weaken (zn [] (kv 0 (.one (.d (.sl 4 (List.map zd a1)))) rfl rfl (SL.cons (v:=(.one (.fn 118 [(.bd (zA a2) 0)]))) (eS rfl eZ) rfl (VWk.one (CWk.fn (css:=[zA a2]))) SL.nil)) BL.nil BK.nil) ?_
 unfold qo at H
 unfold zo8
 refine aV (za eC (xQ (aV (za rfl (za rfl ?_)))))
 obtain⟨v3,h4,H⟩:=zo H
 refine zM (u:=(oI v3)) eC Cl.fn (QX h4) (Ec rfl (Ec eZ En)) (Vc Vp (Vc (VD.fn (PDs.cons Xm PDs.nil)) Vn)) rfl (Kn eZ eC (za eZ (xQ (AW.ret ?_))))
 cases H
 exact eE rfl rfl
theorem Jh{a1:(List zb)}{a2:Int}{r:Bool}(H:jI a1 a2=some r):Fn Try.prog 79 (lent [(.sl 4 (List.map zd a1)),(.int .i64 a2)]) true [(.bool r)]:=by
 refine f79 (fle rfl) ?_
 rw[zD]
 refine AW.weaken (zn [] (kv 0 (.one (.d (.sl 4 (List.map zd a1)))) rfl rfl (kv 1 (oI a2) rfl rfl SL.nil)) BL.nil BK.nil) ?_
 unfold jI at H
 unfold i79
 refine aV (yX (n:=192) (m:=1) (cs:=[(dI a2)]) rfl rfl rfl rfl nZ (za eC (xQ (aV (za rfl (ze9 (ps:=[(.nm 192 0 0)]) (Ec rfl En) ?_))))))
 obtain⟨v3,h4,H⟩:=zo H
 refine zM (u:=(oB v3)) eC Cl.fn (Qk h4) (Ec rfl (Ec eZ En)) (Vc Vp (Vc (VD.fn (PDs.cons (zbS bZ (CDs.plain CDs.nil)) PDs.nil)) Vn)) rfl (za eZ (xQ (AW.ret ?_)))
 cases H
 exact eE rfl rfl
theorem zbK{a1:zp}{r:Bool}(H:Jg a1=some r):Fn Try.prog 73 (lent [(.agg (zl a1))]) true [(.bool r)]:=by
 refine f73 (fle rfl) ?_
 rw[zD]
 refine AW.weaken (zn [] (kv 0 (.agg (jc a1)) rfl rfl SL.nil) BL.nil BK.nil) ?_
 unfold Jg at H
 unfold i73
 refine aV (yX (n:=64) (m:=5) (cs:=(jc a1)) rfl eZ rfl rfl nZ (za eC (xQ (aS (zJ (fun t2:Bool=>(Zg a1) t2=some r) (fun t2=>mk [(1,(.one (.ptr (.nm 64 0 0)))),(18,(oB t2))] [(64,(.vars 5 (jc a1)))] noG) ?_ ?_)))))
 ·intro t2 H
  unfold Zg at H
  rcases zE H with⟨h4,H⟩|⟨h4,H⟩
  ·refine zi rfl h4 (aV (za eC (xQ (AW.ret (TQ.qr ?_)))))
   cases H
   exact eE rfl rfl
  ·refine zg rfl (nt h4) (AW.skip (TQ.qn (aS (aV (ze (m:=3) eZ rfl (zm (q:=3) (c:=(dI a1.State)) eZ bZ rfl rfl (xQ (AW.block (aV (Jp eZ eC (za eZ (xQ ?_))))))))))))
   rcases zE H with⟨h5,H⟩|⟨h5,H⟩
   ·refine zi eZ (dT h5) (aV (ze (m:=4) rfl rfl (zm (q:=4) (c:=(.d (.sl 4 (List.map zd a1.Shares)))) eZ bZ rfl rfl (zX eZ (n:=a1.Shares.length) lm (Jp eZ eC (za eZ (xQ (AW.ret (BQ.qr (TQ.qr ?_))))))))))
    cases H
    exact eE rfl rfl
   ·refine zg eZ (dF h5) (aV (Jp rfl eC (za eZ (xQ ?_))))
    rcases zE H with⟨h6,H⟩|⟨h6,H⟩
    ·refine zi eZ (dT h6) (aV (ze (m:=4) rfl rfl (zm (q:=4) (c:=(.d (.sl 4 (List.map zd a1.Shares)))) eZ bZ rfl rfl ?_)))
     obtain⟨v7,h8,H⟩:=zo H
     refine zM (u:=(oB v7)) eC Cl.fn (Jh h8) (Ec eZ (Ec eC En)) (Vc Vp (Vc Vp Vn)) rfl (za eZ ?_)
     rcases zE H with⟨h9,H⟩|⟨h9,H⟩
     ·refine gDo eZ h9 (ze (m:=4) rfl rfl (gDo rfl h9 (zm (q:=4) (c:=(.d (.sl 4 (List.map zd a1.Shares)))) eZ bZ rfl rfl (gDo rfl h9 ?_))))
      obtain⟨v10,h11,H⟩:=zo H
      refine zM (u:=(oB v10)) eC Cl.fn (Jh h11) (Ec eZ (Ec eC En)) (Vc Vp (Vc Vp Vn)) rfl (gDo rfl h9 (jE eZ (zL rfl h9 eZ (za eZ (xQ (AW.weaken (zn [64] (kr 2 rfl rfl SL.nil) (blR rfl) BK.nil) (AW.ret (BQ.qr (TQ.qr ?_)))))))))
      cases H
      exact eE rfl rfl
     ·refine zf eZ (nt h9) rfl (zf rfl (nt h9) rfl (zf rfl (nt h9) rfl (zf rfl (nt h9) rfl (zV rfl (nt h9) eC (za eZ (xQ (AW.weaken (zn [64] (kr 2 rfl rfl SL.nil) (blR rfl) BK.nil) (AW.ret (BQ.qr (TQ.qr ?_))))))))))
      cases H
      exact eE rfl rfl
    ·refine zg eZ (dF h6) (aV (Jp rfl eC (za eZ (xQ ?_))))
     rcases zE H with⟨h12,H⟩|⟨h12,H⟩
     ·refine zi eZ (dT h12) (aV (ze (m:=4) rfl rfl (zm (q:=4) (c:=(.d (.sl 4 (List.map zd a1.Shares)))) eZ bZ rfl rfl ?_)))
      obtain⟨v13,h14,H⟩:=zo H
      refine zM (u:=(oB v13)) eC Cl.fn (Jh h14) (Ec eZ (Ec eC En)) (Vc Vp (Vc Vp Vn)) rfl (jE eZ (za eZ ?_))
      rcases zE H with⟨h15,H⟩|⟨h15,H⟩
      ·refine zf eZ (cN h15) rfl (zf rfl (cN h15) rfl (zf rfl (cN h15) rfl (zf rfl (cN h15) rfl (zV rfl (cN h15) eC (za eZ (xQ (AW.weaken (zn [64] (kr 2 rfl rfl SL.nil) (blR rfl) BK.nil) (AW.ret (BQ.qr (TQ.qr ?_))))))))))
       cases H
       exact eE rfl rfl
      ·refine gDo eZ (cN (nt h15)) (ze (m:=4) rfl rfl (gDo rfl (cN (nt h15)) (zm (q:=4) (c:=(.d (.sl 4 (List.map zd a1.Shares)))) eZ bZ rfl rfl (gDo rfl (cN (nt h15)) ?_))))
       obtain⟨v16,h17,H⟩:=zo H
       refine zM (u:=(oB v16)) eC Cl.fn (Jh h17) (Ec eZ (Ec eC En)) (Vc Vp (Vc Vp Vn)) rfl (gDo rfl (cN (nt h15)) (jE eZ (zL rfl (cN (nt h15)) eZ (za eZ (xQ (AW.weaken (zn [64] (kr 2 rfl rfl SL.nil) (blR rfl) BK.nil) (AW.ret (BQ.qr (TQ.qr ?_)))))))))
       cases H
       exact eE rfl rfl
     ·refine zg eZ (dF h12) (AW.skip (BQ.qn (TQ.qn (aV (ze (m:=3) rfl rfl (zm (q:=3) (c:=(dI a1.State)) eZ bZ rfl rfl (Jp eZ eC (za eZ (xQ (AW.ret ?_))))))))))
      cases H
      exact eE rfl rfl
 ·refine aR (ze (m:=1) rfl rfl (zm (q:=1) (c:=(dI a1.Client)) eZ bZ rfl rfl ?_))
  obtain⟨v18,h19,H⟩:=zo H
  refine zM (u:=(oB v18)) eC Cl.fn (KS h19) (Ec eZ En) (Vc Vp Vn) rfl (jE eZ (za eZ ?_))
  rcases zE H with⟨h20,H⟩|⟨h20,H⟩
  ·refine gDo eZ (cN h20) (ze (m:=2) rfl rfl (gDo rfl (cN h20) (zm (q:=2) (c:=(dI a1.Req)) eZ bZ rfl rfl (gDo rfl (cN h20) ?_))))
   obtain⟨v21,h22,H⟩:=zo H
   refine zM (u:=(oB v21)) eC Cl.fn (zbC h22) (Ec eZ En) (Vc Vp Vn) rfl (gDo rfl (cN h20) (jE eZ (zV rfl (cN h20) eZ (za eZ ?_))))
   rcases zE H with⟨h23,H⟩|⟨h23,H⟩
   ·refine gDo eZ (cN h23) (ze (m:=4) rfl rfl (gDo rfl (cN h23) (zm (q:=4) (c:=(.d (.sl 4 (List.map zd a1.Shares)))) eZ bZ rfl rfl (gDo rfl (cN h23) ?_))))
    obtain⟨v24,h25,H⟩:=zo H
    exact zM (u:=(oB v24)) eC Cl.fn (XX h25) (Ec eZ En) (Vc Vp Vn) rfl (gDo rfl (cN h23) (jE eZ (zV rfl (cN h23) eZ (zj (TQ.qn ⟨(!v24),H,(zn [] (sR rfl rfl) (blR rfl) (bkR rfl rfl rfl))⟩)))))
   ·exact zf eZ (cN (nt h23)) rfl (zf rfl (cN (nt h23)) rfl (zf rfl (cN (nt h23)) rfl (zf rfl (cN (nt h23)) rfl (zL rfl (cN (nt h23)) eC (zj (TQ.qn ⟨true,H,(zn [] (sR rfl rfl) (blR rfl) (bkR rfl rfl rfl))⟩))))))
  ·exact zf eZ (cN (nt h20)) rfl (zf rfl (cN (nt h20)) rfl (zf rfl (cN (nt h20)) rfl (zf rfl (cN (nt h20)) rfl (zL rfl (cN (nt h20)) eC (za eZ (zf eZ rfl rfl (zf rfl rfl rfl (zf rfl rfl rfl (zf rfl rfl rfl (zL rfl rfl eC (zj (TQ.qn ⟨true,H,(zn [] (sR rfl rfl) (blR rfl) (bkR rfl rfl rfl))⟩))))))))))))
theorem XA{a1:zp}{a2:zp}{r:Bool}(H:Qd a1 a2=some r):Fn Try.prog 75 (lent [(.agg (zl a1)),(.ptr (zl a2))]) true [(.bool r)]:=by
 refine f75 (fle rfl) ?_
 rw[zD]
 refine AW.weaken (zn [] (kv 0 (.agg (jc a1)) rfl rfl (SL.cons (v:=(.one (.ptr (.bd (zl a2) 0)))) (eS rfl eZ) rfl (VWk.one CWk.ptr) SL.nil)) BL.nil BK.nil) ?_
 unfold Qd at H
 unfold i75
 refine aV (yX (n:=128) (m:=5) (cs:=(jc a1)) rfl eZ rfl rfl nZ (za eC (xQ (aV (ze (m:=1) rfl rfl (zm (q:=1) (c:=(dI a1.Client)) eZ bZ rfl rfl (qI (m:=1) rfl rfl (qC (e:=(.int .i64 a2.Client)) eZ rfl (Jp rfl eZ (za eZ ?_))))))))))
 rcases zE H with⟨h3,H⟩|⟨h3,H⟩
 ·refine gDo eZ (dT h3) (ze (m:=2) rfl rfl (gDo rfl (dT h3) (zm (q:=2) (c:=(dI a1.Req)) eZ bZ rfl rfl (gDo rfl (dT h3) (qI (m:=2) rfl rfl (gDo rfl (dT h3) (qC (e:=(.int .i64 a2.Req)) eZ rfl (gDo rfl (dT h3) (Jp rfl eZ (zL rfl (dT h3) eZ (za eZ (xQ (AW.weaken (zn [128] (kr 3 rfl rfl SL.nil) (blR rfl) BK.nil) (AW.ret ?_))))))))))))))
  cases H
  exact eE rfl rfl
 ·refine zf eZ (dF h3) rfl (zf rfl (dF h3) rfl (zf rfl (dF h3) rfl (zf rfl (dF h3) rfl (zf rfl (dF h3) rfl (zV rfl (dF h3) eC (za eZ (xQ (AW.weaken (zn [128] (kr 3 rfl rfl SL.nil) (blR rfl) BK.nil) (AW.ret ?_)))))))))
  cases H
  exact eE rfl rfl
theorem QW{a1:(List zp)}{a2:zp}{r:Int}(H:qB a1 a2=some r):Fn Try.prog 67 (lent [(.sl 5 (List.map zl a1)),(.fn 75 [.ptr (zl a2)])]) true [(.int .i64 r)]:=by
 refine f67 (fle rfl) ?_
 rw[zD]
 refine AW.weaken (zn [] (kv 0 (.one (.d (.sl 5 (List.map zl a1)))) rfl rfl (SL.cons (v:=(.one (.fn 75 [(.bd (zl a2) 0)]))) (eS rfl eZ) rfl (VWk.one (CWk.fn (css:=[zl a2]))) SL.nil)) BL.nil BK.nil) ?_
 unfold qB at H
 unfold i67
 refine aV (za eC (xQ (zJ (fun t3:Unit=>qX t3=some r) (fun t3=>mk [] [] noG) ?_ ?_)))
 ·intro t3 H
  unfold qX at H
  refine aV (za eC (xQ (AW.ret ?_)))
  cases H
  exact eE rfl rfl
 ·refine aV (za rfl (zX eZ (n:=a1.length) lm (za eC (xQ (AW.block (AW.iter (fun s5:Int=>mk [(0,(.one (.d (.sl 5 (List.map zl a1))))),(1,(.one (.fn 75 [(.bd (zl a2) 0)]))),(7,(oI (a1.length:Int))),(8,(oI s5))] [] noG) H (zn [] (sR rfl rfl) BL.nil BK.nil) ?_))))))
  intro kb6 s5 H
  unfold qx at H
  refine aV (qJ rfl rfl (xQ (aS ?_)))
  rcases zE H with⟨h7,H⟩|⟨h7,H⟩
  ·refine zi eZ (dT h7) (AW.skip (TQ.qn (aS (AW.block (aV (za rfl (za eZ (xQ (aV (za rfl (za rfl (za rfl ?_))))))))))))
   obtain⟨v8,h9,H⟩:=zo H
   refine je rfl eZ h9 (qG (es:=(jc v8)) eZ rfl ?_)
   obtain⟨v10,h11,H⟩:=zo H
   refine zM (u:=(oB v10)) rfl Cl.fn (XA h11) (Ec eZ En) (Vc (VD.agg rfl) (Vc Xm Vn)) rfl (xQ ?_)
   rcases zE H with⟨h12,H⟩|⟨h12,H⟩
   ·refine zi eZ h12 (aV (za rfl (za eZ (xQ (AW.ret (BQ.qr (TQ.qr (TQ.qr (BQ.qr (TQ.qr ?_))))))))))
    cases H
    exact eE rfl rfl
   ·exact zg eZ (nt h12) (AW.skip (BQ.qn (TQ.qn (aR (qE rfl eC (za eZ (zj (TQ.qn ⟨(IntKind.wrap .i64 (s5+1)),H,(zn [] (sR rfl rfl) BL.nil BK.nil)⟩))))))))
  ·exact zg eZ (dF h7) (AW.exit (TQ.qe (TQ.qe (BQ.qe (TQ.qn ⟨(),H,(zn [] SL.nil BL.nil BK.nil)⟩)))))
theorem Ql{a1:(List zp)}{a2:zp}{r:Bool}(H:z6 a1 a2=some r):Fn Try.prog 74 (lent [(.sl 5 (List.map zl a1)),(.fn 75 [.ptr (zl a2)])]) true [(.bool r)]:=by
 refine f74 (fle rfl) ?_
 rw[zD]
 refine AW.weaken (zn [] (kv 0 (.one (.d (.sl 5 (List.map zl a1)))) rfl rfl (SL.cons (v:=(.one (.fn 75 [(.bd (zl a2) 0)]))) (eS rfl eZ) rfl (VWk.one (CWk.fn (css:=[zl a2]))) SL.nil)) BL.nil BK.nil) ?_
 unfold z6 at H
 unfold i74
 refine aV (za eC (xQ (aV (za rfl (za rfl ?_)))))
 obtain⟨v3,h4,H⟩:=zo H
 refine zM (u:=(oI v3)) eC Cl.fn (QW h4) (Ec rfl (Ec eZ En)) (Vc Vp (Vc (VD.fn (PDs.cons Xm PDs.nil)) Vn)) rfl (Kn eZ eC (za eZ (xQ (AW.ret ?_))))
 cases H
 exact eE rfl rfl
theorem kA{a1:(List Int)}{a2:Int}{r:Int}(H:jX a1 a2=some r):Fn Try.prog 114 (lent [(.sl 1 (List.map zA a1)),(.int .i64 a2)]) true [(.int .i64 r)]:=by
 refine zr2 (fle rfl) ?_
 rw[zD]
 refine AW.weaken (zn [] (kv 0 (.one (.d (.sl 1 (List.map zA a1)))) rfl rfl (kv 1 (oI a2) rfl rfl SL.nil)) BL.nil BK.nil) ?_
 unfold jX at H
 unfold zqQ
 refine aV (za eC (xQ (zJ (fun t3:Unit=>Qm t3=some r) (fun t3=>mk [] [] noG) ?_ ?_)))
 ·intro t3 H
  unfold Qm at H
  refine aV (za eC (xQ (AW.ret ?_)))
  cases H
  exact eE rfl rfl
 ·refine aV (za rfl (zX eZ (n:=a1.length) lm (za eC (xQ (AW.block (AW.iter (fun s5:Int=>mk [(0,(.one (.d (.sl 1 (List.map zA a1))))),(1,(oI a2)),(7,(oI (a1.length:Int))),(8,(oI s5))] [] noG) H (zn [] (sR rfl rfl) BL.nil BK.nil) ?_))))))
  intro kb6 s5 H
  unfold yi at H
  refine aV (qJ rfl rfl (xQ (aS ?_)))
  rcases zE H with⟨h7,H⟩|⟨h7,H⟩
  ·refine zi eZ (dT h7) (AW.skip (TQ.qn (aS (AW.block (aV (za rfl (za eZ (xQ (aV (za rfl (za rfl (za rfl ?_))))))))))))
   obtain⟨v8,h9,H⟩:=zo H
   refine je rfl eZ h9 (qC (e:=(.int .i64 v8)) eZ rfl (Jp rfl eZ (xQ ?_)))
   rcases zE H with⟨h10,H⟩|⟨h10,H⟩
   ·refine zi eZ (dT h10) (aV (za rfl (za eZ (xQ (AW.ret (BQ.qr (TQ.qr (TQ.qr (BQ.qr (TQ.qr ?_))))))))))
    cases H
    exact eE rfl rfl
   ·exact zg eZ (dF h10) (AW.skip (BQ.qn (TQ.qn (aR (qE rfl eC (za eZ (zj (TQ.qn ⟨(IntKind.wrap .i64 (s5+1)),H,(zn [] (sR rfl rfl) BL.nil BK.nil)⟩))))))))
  ·exact zg eZ (dF h7) (AW.exit (TQ.qe (TQ.qe (BQ.qe (TQ.qn ⟨(),H,(zn [] SL.nil BL.nil BK.nil)⟩)))))
theorem xh{a1:(List Int)}{a2:Int}{r:Bool}(H:jp a1 a2=some r):Fn Try.prog 77 (lent [(.sl 1 (List.map zA a1)),(.int .i64 a2)]) true [(.bool r)]:=by
 refine f77 (fle rfl) ?_
 rw[zD]
 refine AW.weaken (zn [] (kv 0 (.one (.d (.sl 1 (List.map zA a1)))) rfl rfl (kv 1 (oI a2) rfl rfl SL.nil)) BL.nil BK.nil) ?_
 unfold jp at H
 unfold i77
 refine aV (za eC (xQ (aV (za rfl (za rfl ?_)))))
 obtain⟨v3,h4,H⟩:=zo H
 refine zM (u:=(oI v3)) eC Cl.fn (kA h4) (Ec rfl (Ec eZ En)) (Vc Vp (Vc Vp Vn)) rfl (Kn eZ eC (za eZ (xQ (AW.ret ?_))))
 cases H
 exact eE rfl rfl
theorem K6{a1:zw}{r:Bool}(H:Zu a1=some r):Fn Try.prog 25 (lent [(.agg (qL a1))]) true [(.bool r)]:=by
 refine f25 (fle rfl) ?_
 rw[zD]
 refine AW.weaken (t:=mk [(0,(.agg (zH a1)))] [] (lk [])) (zn [] (sR rfl rfl) BL.nil BK.nil) ?_
 unfold Zu at H
 unfold i25
 refine aV (yX (n:=64) (m:=2) (cs:=(zH a1)) rfl eZ rfl rfl nZ (za eC (xQ (aS (aV (ze (m:=0) rfl rfl (zm (q:=0) (c:=(.d (.sl 5 (List.map zl a1.Recs)))) eZ bZ rfl rfl (zX eZ (n:=a1.Recs.length) lm (Kj eZ eC (xQ ?_))))))))))
 rcases zE H with⟨h2,H⟩|⟨h2,H⟩
 ·refine zi eZ (dT h2) (aV (za eC (xQ (AW.ret (TQ.qr ?_)))))
  cases H
  exact eE rfl rfl
 ·refine zg eZ (dF h2) (AW.skip (TQ.qn (aV (za eC (xQ (zJ (fun t3:Int=>(QE a1) t3=some r) (fun t3=>mk [(1,(.one (.ptr (.nm 64 0 0)))),(3,(oI t3))] [(64,(.vars 2 (zH a1)))] (lk [])) ?_ ?_))))))
  ·intro t3 H
   unfold QE at H
   refine zJ (fun t5:Unit=>(QM t3 a1) t5=some r) (fun t5=>mk [(1,(.one (.ptr (.nm 64 0 0)))),(3,(oI t3))] [(64,(.vars 2 (zH a1)))] (lk [])) ?_ ?_
   ·intro t5 H
    unfold QM at H
    refine aV (za rfl (ze (m:=1) rfl rfl (zm (q:=1) (c:=(.d (.sl 1 (List.map zA a1.Order)))) eZ bZ rfl rfl (zX eZ (n:=a1.Order.length) lm (Jp rfl eZ (za eZ (xQ (AW.ret ?_))))))))
    cases H
    exact eE rfl rfl
   ·refine aV (ze (m:=1) eZ rfl (zm (q:=1) (c:=(.d (.sl 1 (List.map zA a1.Order)))) eZ bZ rfl rfl (zX eZ (n:=a1.Order.length) lm (za eC (xQ (AW.block (AW.iter (fun s7:Int=>mk [(1,(.one (.ptr (.nm 64 0 0)))),(3,(oI t3)),(45,(.one (.d (.sl 1 (List.map zA a1.Order))))),(46,(oI (a1.Order.length:Int))),(47,(oI s7))] [(64,(.vars 2 (zH a1)))] (lk [])) H (zt [] (sR rfl rfl) (blR rfl) (bkR rfl rfl rfl) GK.nil) ?_)))))))
    intro kb8 s7 H
    unfold QG at H
    refine aV (qJ rfl rfl (xQ (aS ?_)))
    rcases zE H with⟨h9,H⟩|⟨h9,H⟩
    ·refine zi eZ (dT h9) (AW.skip (TQ.qn (aS (AW.block (aV (za rfl ?_))))))
     obtain⟨v10,h11,H⟩:=zo H
     refine je rfl rfl h11 (qC (e:=(.int .i64 v10)) eZ rfl (za rfl (za rfl (xQ (zJ (fun t12:Bool=>(jO kb8 s7) t12=some r) (fun t12=>mk [(1,(.one (.ptr (.nm 64 0 0)))),(3,(oI t3)),(45,(.one (.d (.sl 1 (List.map zA a1.Order))))),(46,(oI (a1.Order.length:Int))),(47,(oI s7)),(75,(oB t12))] [(64,(.vars 2 (zH a1)))] (lk [])) ?_ ?_)))))
     ·intro t12 H
      unfold jO at H
      rcases zE H with⟨h14,H⟩|⟨h14,H⟩
      ·refine zi rfl h14 (aV (za eC (xQ (AW.ret (BQ.qr (TQ.qr (TQ.qr (BQ.qr (TQ.qr ?_)))))))))
       cases H
       exact eE rfl rfl
      ·exact zg rfl (nt h14) (AW.skip (BQ.qn (TQ.qn (aR (qE rfl eC (za eZ (zj (TQ.qn ⟨(IntKind.wrap .i64 (s7+1)),H,(zt [] (sR rfl rfl) (blR rfl) (bkR rfl rfl rfl) GK.nil)⟩))))))))
     ·refine aR (za eZ (ze (m:=0) rfl rfl (zm (q:=0) (c:=(.d (.sl 5 (List.map zl a1.Recs)))) eZ bZ rfl rfl (zX eZ (n:=a1.Recs.length) lm ?_))))
      obtain⟨v15,h16,H⟩:=zo H
      refine zM (u:=(oB v15)) eC Cl.fn (ye h16) (Ec rfl (Ec eC (Ec eZ En))) (Vc Vp (Vc Vp (Vc Vp Vn))) rfl (jE eZ (za eZ ?_))
      rcases zE H with⟨h17,H⟩|⟨h17,H⟩
      ·refine gDo eZ (cN h17) (ze (m:=0) rfl rfl (gDo rfl (cN h17) (zm (q:=0) (c:=(.d (.sl 5 (List.map zl a1.Recs)))) eZ bZ rfl rfl (gDo rfl (cN h17) (za rfl (gDo rfl (cN h17) (kM eZ eC (gDo rfl (cN h17) ?_))))))))
       obtain⟨v18,h19,H⟩:=zo H
       refine je rfl eZ h19 (gDo rfl (cN h17) (qI (m:=3) eZ rfl (gDo rfl (cN h17) (qC (e:=(.int .i64 v18.State)) eZ rfl (gDo rfl (cN h17) (Za eZ eC (zV rfl (cN h17) eZ (za eZ ?_))))))))
       rcases zE H with⟨h20,H⟩|⟨h20,H⟩
       ·exact zf eZ (dT h20) rfl (zf rfl (dT h20) rfl (zf rfl (dT h20) rfl (zf rfl (dT h20) rfl (zf rfl (dT h20) rfl (zf rfl (dT h20) rfl (zL rfl (dT h20) eC (zj (TQ.qn ⟨true,H,(zt [] (sR rfl rfl) (blR rfl) (bkR rfl rfl rfl) GK.nil)⟩))))))))
       ·refine gDo eZ (dF h20) (ze (m:=1) rfl rfl (gDo rfl (dF h20) (zm (q:=1) (c:=(.d (.sl 1 (List.map zA a1.Order)))) eZ bZ rfl rfl (gDo rfl (dF h20) (za rfl (gDo rfl (dF h20) ?_))))))
        obtain⟨v21,h22,H⟩:=zo H
        refine zfj rfl zfJ (n:=(a1.Order.length:Int)) rfl (Bd.at eZ) h22 (gDo rfl (dF h20) (za rfl (gDo rfl (dF h20) ?_)))
        obtain⟨v23,h24,H⟩:=zo H
        exact zM (u:=(oB v23)) eC Cl.fn (xh h24) (Ec rfl (Ec eZ En)) (Vc Vp (Vc Vp Vn)) rfl (zV rfl (dF h20) eZ (zj (TQ.qn ⟨v23,H,(zt [] (sR rfl rfl) (blR rfl) (bkR rfl rfl rfl) GK.nil)⟩)))
      ·exact zf eZ (cN (nt h17)) rfl (zf rfl (cN (nt h17)) rfl (zf rfl (cN (nt h17)) rfl (zf rfl (cN (nt h17)) rfl (zf rfl (cN (nt h17)) rfl (zf rfl (cN (nt h17)) rfl (zf rfl (cN (nt h17)) rfl (zf rfl (cN (nt h17)) rfl (zL rfl (cN (nt h17)) eC (za eZ (zf eZ rfl rfl (zf rfl rfl rfl (zf rfl rfl rfl (zf rfl rfl rfl (zf rfl rfl rfl (zf rfl rfl rfl (zL rfl rfl eC (zj (TQ.qn ⟨true,H,(zt [] (sR rfl rfl) (blR rfl) (bkR rfl rfl rfl) GK.nil)⟩))))))))))))))))))
    ·exact zg eZ (dF h9) (AW.exit (TQ.qe (TQ.qe (BQ.qe (TQ.qn ⟨(),H,(zt [] (sR rfl rfl) (blR rfl) (bkR rfl rfl rfl) GK.nil)⟩)))))
  ·refine aV (ze (m:=0) rfl rfl (zm (q:=0) (c:=(.d (.sl 5 (List.map zl a1.Recs)))) eZ bZ rfl rfl (zX eZ (n:=a1.Recs.length) lm (za eC (xQ (AW.block (AW.iter (fun s25:(Int×Int)=>mk [(1,(.one (.ptr (.nm 64 0 0)))),(3,(oI s25.1)),(13,(.one (.d (.sl 5 (List.map zl a1.Recs))))),(14,(oI (a1.Recs.length:Int))),(15,(oI s25.2))] [(64,(.vars 2 (zH a1)))] (lk [])) H (zt [] (sR rfl rfl) (blR rfl) (bkR rfl rfl rfl) GK.nil) ?_)))))))
   intro kb26 s25 H
   unfold Qg at H
   refine aV (qJ rfl rfl (xQ (aS ?_)))
   rcases zE H with⟨h27,H⟩|⟨h27,H⟩
   ·refine zi eZ (dT h27) (AW.skip (TQ.qn (aS (AW.block (aS (zK (zh (za rfl (zj (zh ?_))))))))))
    obtain⟨v28,h29,H⟩:=zo H
    refine je rfl rfl h29 (zj (zh (qG (es:=(jc v28)) eZ rfl (zj (zh (Qo (n:=320) (m:=5) rfl rfl (nR rfl) (zj (zh (za rfl (zj (zh (zN (es:=(jc v28)) rfl rfl rfl rfl bZ rfl (zj (zR (xQ (aS (zJ (fun t30:Bool=>(jM v28 kb26 s25) t30=some r) (fun t30=>mk [(1,(.one (.ptr (.nm 64 0 0)))),(3,(oI s25.1)),(5,(.one (.ptr (.nm 320 0 0)))),(13,(.one (.d (.sl 5 (List.map zl a1.Recs))))),(14,(oI (a1.Recs.length:Int))),(15,(oI s25.2)),(37,(oB t30))] [(64,(.vars 2 (zH a1))),(320,(.vars 5 (jc v28)))] (lk [])) ?_ ?_)))))))))))))))))
    ·intro t30 H
     unfold jM at H
     rcases zE H with⟨h32,H⟩|⟨h32,H⟩
     ·refine zi rfl h32 (aV (za eC (xQ (AW.ret (TQ.qr (BQ.qr (TQ.qr (TQ.qr (BQ.qr (TQ.qr ?_))))))))))
      cases H
      exact eE rfl rfl
     ·refine zg rfl (nt h32) (AW.skip (TQ.qn (aV (ze (m:=3) rfl rfl (zm (q:=3) (c:=(dI v28.State)) eZ (bR rfl) rfl rfl (Jp eZ eC (xQ ?_)))))))
      rcases zE H with⟨h33,H⟩|⟨h33,H⟩
      ·exact zi eZ (dT h33) (aR (za rfl (qE eZ eC (za eZ (zj (BQ.qn (TQ.qn (aR (qE rfl eC (za eZ (zj (TQ.qn ⟨((IntKind.wrap .i64 (s25.1+1)),(IntKind.wrap .i64 (s25.2+1))),H,(zt [320] (sR rfl rfl) (blR rfl) (bkR rfl rfl rfl) GK.nil)⟩))))))))))))
      ·exact zg eZ (dF h33) (AW.skip (BQ.qn (TQ.qn (aR (qE rfl eC (za eZ (zj (TQ.qn ⟨(s25.1,(IntKind.wrap .i64 (s25.2+1))),H,(zt [320] (sR rfl rfl) (blR rfl) (bkR rfl rfl rfl) GK.nil)⟩))))))))
    ·refine aR (ze (m:=0) rfl rfl (zm (q:=0) (c:=(dI v28.Tx)) eZ bZ rfl rfl (za rfl (qE eZ eC (Za rfl eZ (za eZ ?_))))))
     rcases zE H with⟨h34,H⟩|⟨h34,H⟩
     ·exact zf eZ (dT h34) rfl (zf rfl (dT h34) rfl (zf rfl (dT h34) rfl (zL rfl (dT h34) eC (za eZ (zf eZ rfl rfl (zf rfl rfl rfl (zf rfl rfl rfl (zf rfl rfl rfl (zf rfl rfl rfl (zf rfl rfl rfl (zL rfl rfl eC (zj (TQ.qn ⟨true,H,(zt [] (sR rfl rfl) (blR rfl) (bkR rfl rfl rfl) GK.nil)⟩)))))))))))))
     ·refine gDo eZ (dF h34) (zZ (es:=(jc v28)) rfl bZ rfl (gDo rfl (dF h34) ?_))
      obtain⟨v35,h36,H⟩:=zo H
      refine zM (u:=(oB v35)) eC Cl.fn (zbK h36) (Ec eZ En) (Vc (VD.agg rfl) Vn) rfl (gDo rfl (dF h34) (jE eZ (zV rfl (dF h34) eZ (za eZ ?_))))
      rcases zE H with⟨h37,H⟩|⟨h37,H⟩
      ·refine gDo eZ (cN h37) (ze (m:=0) rfl rfl (gDo rfl (cN h37) (zm (q:=0) (c:=(.d (.sl 5 (List.map zl a1.Recs)))) eZ (bR rfl) rfl rfl (gDo rfl (cN h37) (za rfl (gDo rfl (cN h37) ?_))))))
       obtain⟨v38,h39,H⟩:=zo H
       refine zfj rfl zfJ (n:=(a1.Recs.length:Int)) rfl (Bd.at eZ) h39 (gDo rfl (cN h37) (ze9 (ps:=[(.nm 320 0 0)]) (Ec rfl En) (gDo rfl (cN h37) ?_)))
       obtain⟨v40,h41,H⟩:=zo H
       exact zM (u:=(oB v40)) eC Cl.fn (Ql h41) (Ec rfl (Ec eZ En)) (Vc Vp (Vc (VD.fn (PDs.cons (zbS bZ (CDs.plain (CDs.plain (CDs.plain (CDs.plain (CDs.plain CDs.nil)))))) PDs.nil)) Vn)) rfl (zV rfl (cN h37) eZ (zj (TQ.qn ⟨v40,H,(zt [] (sR rfl rfl) (blR rfl) (bkR rfl rfl rfl) GK.nil)⟩)))
      ·exact zf eZ (cN (nt h37)) rfl (zf rfl (cN (nt h37)) rfl (zf rfl (cN (nt h37)) rfl (zf rfl (cN (nt h37)) rfl (zf rfl (cN (nt h37)) rfl (zf rfl (cN (nt h37)) rfl (zL rfl (cN (nt h37)) eC (zj (TQ.qn ⟨true,H,(zt [] (sR rfl rfl) (blR rfl) (bkR rfl rfl rfl) GK.nil)⟩))))))))
   ·exact zg eZ (dF h27) (AW.exit (TQ.qe (TQ.qe (BQ.qe (TQ.qn ⟨s25.1,H,(zt [] (sR rfl rfl) (blR rfl) (bkR rfl rfl rfl) GK.nil)⟩)))))
theorem ku{a1:(List Int)}{r:(List Int)}(H:jV a1=some r):Fn Try.prog 113 (lent [(.sl 1 (List.map zA a1))]) true [(.sl 1 (List.map zA r))]:=by
 refine zsI (fle rfl) ?_
 rw[zD]
 refine AW.weaken (zn [] (kv 0 (.one (.d (.sl 1 (List.map zA a1)))) rfl rfl SL.nil) BL.nil BK.nil) ?_
 unfold jV at H
 unfold zmL
 refine aV (za eC (xQ (zJ (fun t2:Unit=>(ji a1) t2=some r) (fun t2=>mk [(0,(.one (.d (.sl 1 (List.map zA a1)))))] [] noG) ?_ ?_)))
 ·intro t2 H
  unfold ji at H
  refine aV (JW (m:=320) rfl nZ (za rfl ?_))
  obtain⟨h4,H⟩:=jf H
  refine za9 (f:=zA) (m:=448) (own:=true) (ys:=a1) (q:=a1.length) rfl rfl rfl eZ (El.lent fun _ _=>rfl) rfl h4 (by decide) nZ (za eZ (xQ (AW.ret ?_)))
  obtain rfl:=(Option.some.inj H)
  exact jU (RL.cons (RV.tmp eZ) (VO.sl bZ lm (qq fun _=>rfl)) RL.nil) (by decide)
 ·refine aV (za rfl ?_)
  rcases zE H with⟨h5,H⟩|⟨h5,H⟩
  ·refine zcI eZ h5 (xQ (AW.condU eZ ?_ ?_))
   ·have H:(some ([]:(List Int)))=some r:=by rw[←H];simp[List.eq_nil_of_length_eq_zero h5,ji]
    refine aV (za eC (xQ (AW.ret (TQ.qr ?_))))
    cases H
    exact jU (RL.cons (RV.tmp eZ) VO.zs RL.nil) List.nodup_nil
   ·exact AW.skip (TQ.qn ⟨(),H,(zn [] (sR rfl rfl) BL.nil BK.nil)⟩)
  ·exact ze1 eZ h5 (xQ (zg eZ rfl (AW.skip (TQ.qn ⟨(),H,(zn [] (sR rfl rfl) BL.nil BK.nil)⟩))))
theorem xt{a1:(List zC)}{r:(List zC)}(H:jA a1=some r):Fn Try.prog 119 (lent [(.sl 2 (List.map zx a1))]) true [(.sl 2 (List.map zx r))]:=by
 refine zsN (fle rfl) ?_
 rw[zD]
 refine AW.weaken (zn [] (kv 0 (.one (.d (.sl 2 (List.map zx a1)))) rfl rfl SL.nil) BL.nil BK.nil) ?_
 unfold jA at H
 unfold zo3
 refine aV (za eC (xQ (zJ (fun t2:Unit=>(qS a1) t2=some r) (fun t2=>mk [(0,(.one (.d (.sl 2 (List.map zx a1)))))] [] noG) ?_ ?_)))
 ·intro t2 H
  unfold qS at H
  refine aV (JW (m:=320) rfl nZ (za rfl ?_))
  obtain⟨h4,H⟩:=jf H
  refine za9 (f:=zx) (m:=448) (own:=true) (ys:=a1) (q:=a1.length) rfl rfl rfl eZ (El.lent fun _ _=>rfl) rfl h4 (by decide) nZ (za eZ (xQ (AW.ret ?_)))
  obtain rfl:=(Option.some.inj H)
  exact jU (RL.cons (RV.tmp eZ) (VO.sl bZ lm (qq fun _=>rfl)) RL.nil) (by decide)
 ·refine aV (za rfl ?_)
  rcases zE H with⟨h5,H⟩|⟨h5,H⟩
  ·refine zcI eZ h5 (xQ (AW.condU eZ ?_ ?_))
   ·have H:(some ([]:(List zC)))=some r:=by rw[←H];simp[List.eq_nil_of_length_eq_zero h5,qS]
    refine aV (za eC (xQ (AW.ret (TQ.qr ?_))))
    cases H
    exact jU (RL.cons (RV.tmp eZ) VO.zs RL.nil) List.nodup_nil
   ·exact AW.skip (TQ.qn ⟨(),H,(zn [] (sR rfl rfl) BL.nil BK.nil)⟩)
  ·exact ze1 eZ h5 (xQ (zg eZ rfl (AW.skip (TQ.qn ⟨(),H,(zn [] (sR rfl rfl) BL.nil BK.nil)⟩))))
theorem xG{a1:(List zO)}{r:(List zO)}(H:jB a1=some r):Fn Try.prog 120 (lent [(.sl 2 (List.map zG a1))]) true [(.sl 2 (List.map zG r))]:=by
 refine zsF (fle rfl) ?_
 rw[zD]
 refine AW.weaken (zn [] (kv 0 (.one (.d (.sl 2 (List.map zG a1)))) rfl rfl SL.nil) BL.nil BK.nil) ?_
 unfold jB at H
 unfold zqJ
 refine aV (za eC (xQ (zJ (fun t2:Unit=>(qT a1) t2=some r) (fun t2=>mk [(0,(.one (.d (.sl 2 (List.map zG a1)))))] [] noG) ?_ ?_)))
 ·intro t2 H
  unfold qT at H
  refine aV (JW (m:=320) rfl nZ (za rfl ?_))
  obtain⟨h4,H⟩:=jf H
  refine za9 (f:=zG) (m:=448) (own:=true) (ys:=a1) (q:=a1.length) rfl rfl rfl eZ (El.lent fun _ _=>rfl) rfl h4 (by decide) nZ (za eZ (xQ (AW.ret ?_)))
  obtain rfl:=(Option.some.inj H)
  exact jU (RL.cons (RV.tmp eZ) (VO.sl bZ lm (qq fun _=>rfl)) RL.nil) (by decide)
 ·refine aV (za rfl ?_)
  rcases zE H with⟨h5,H⟩|⟨h5,H⟩
  ·refine zcI eZ h5 (xQ (AW.condU eZ ?_ ?_))
   ·have H:(some ([]:(List zO)))=some r:=by rw[←H];simp[List.eq_nil_of_length_eq_zero h5,qT]
    refine aV (za eC (xQ (AW.ret (TQ.qr ?_))))
    cases H
    exact jU (RL.cons (RV.tmp eZ) VO.zs RL.nil) List.nodup_nil
   ·exact AW.skip (TQ.qn ⟨(),H,(zn [] (sR rfl rfl) BL.nil BK.nil)⟩)
  ·exact ze1 eZ h5 (xQ (zg eZ rfl (AW.skip (TQ.qn ⟨(),H,(zn [] (sR rfl rfl) BL.nil BK.nil)⟩))))
theorem Xg{a1:(List zb)}{r:(List zb)}(H:yb a1=some r):Fn Try.prog 80 (lent [(.sl 4 (List.map zd a1))]) true [(.sl 4 (List.map zd r))]:=by
 refine f80 (fle rfl) ?_
 rw[zD]
 refine AW.weaken (t:=mk [(0,(.one (.d (.sl 4 (List.map zd a1)))))] [] (lk [])) (zn [] (sR rfl rfl) BL.nil BK.nil) ?_
 unfold yb at H
 unfold i80
 refine aV (za eC (xQ (aV (JW (m:=384) rfl nZ (za eZ (xQ (zJ (fun t2:(List zb)=>yQ t2=some r) (fun t2=>mk [(3,(.one (.sl 320128 0 t2.length)))] [(320128,(.data 4 (List.map zd t2) true none))] (lk [])) ?_ ?_)))))))
 ·intro t2 H
  unfold yQ at H
  refine aV (za eZ (za eZ (xQ (AW.ret ?_))))
  obtain rfl:=(Option.some.inj H)
  exact jU (RL.cons (RV.tmp eZ) (jH bZ lm rfl) RL.nil) (by decide)
 ·refine aV (za rfl (zX eZ (n:=a1.length) lm (za eC (xQ (AW.block (AW.iter (fun s4:((List zb)×Int)=>mk [(3,(.one (.sl 320192 0 s4.1.length))),(7,(.one (.d (.sl 4 (List.map zd a1))))),(8,(oI (a1.length:Int))),(9,(oI s4.2))] [(320192,(.data 4 (List.map zd s4.1) true none))] (lk [])) H ((zt [] (SL.cons eZ rfl (VWk.one (CWk.len (by first|(simp;done)|(simp;omega)|omega|(simp only[List.length_map];omega)))) (sR rfl rfl)) (blR rfl) (bkR rfl rfl rfl) GK.nil).trans (zfs 320192 4 3 true rfl nZ)) ?_))))))
  intro kb5 s4 H
  unfold yx at H
  refine aV (qJ rfl rfl (xQ (aS ?_)))
  rcases zE H with⟨h6,H⟩|⟨h6,H⟩
  ·refine zi eZ (dT h6) (AW.skip (TQ.qn (aS (AW.block (aS (zK (zh ?_)))))))
   obtain⟨v7,h8,H⟩:=zo H
   refine je rfl rfl h8 (zj (zh (qG (es:=(ql v7)) eZ rfl (zj (zh (Qo (n:=320) (m:=4) rfl rfl (nR rfl) (zj (zh (zN (es:=(ql v7)) eZ rfl rfl rfl bZ rfl (zj (zR (xQ (AW.regt (za rfl (ze (m:=0) rfl rfl (zm (q:=0) (c:=(dI v7.Group)) eZ (hB rfl bZ) rfl rfl (ze (m:=1) rfl rfl (zm (q:=1) (c:=(.d (.sl 2 (List.map zx v7.Reads)))) eZ bZ rfl rfl ?_))))))))))))))))))
   obtain⟨v9,h10,H⟩:=zo H
   refine Qj (u:=(.one (.sl 1152 0 v9.length))) (bs:=[(1152,(.data 2 (List.map zx v9) true none))]) eC Cl.fn (xt h10) (Ec eZ En) (Vc Vp Vn) (by simp[jR,yV,jn,yd,jz]) rfl (fC (nR rfl) rfl (fC (nR rfl) rfl fN)) (ze (m:=2) rfl rfl (zm (q:=2) (c:=(.d (.sl 2 (List.map zG v7.Writes)))) eZ (hB rfl (bR rfl)) rfl rfl ?_))
   obtain⟨v11,h12,H⟩:=zo H
   refine Qj (u:=(.one (.sl 1344 0 v11.length))) (bs:=[(1344,(.data 2 (List.map zG v11) true none))]) eC Cl.fn (xG h12) (Ec eZ En) (Vc Vp Vn) (by simp[jR,yV,jn,yd,jz]) rfl (fC (nR rfl) rfl (fC (nR rfl) rfl fN)) (ze (m:=3) rfl rfl (zm (q:=3) (c:=(dI v7.Vote)) eZ (hB rfl (bR rfl)) rfl rfl (Kx (cs:=[(dI v7.Group),(.sl 1152 0 v9.length),(.sl 1344 0 v11.length),(dI v7.Vote)]) (J1 rfl (J1 rfl (J1 rfl (J1 eZ xC)))) rfl (x8 (m:=1600) (q:=1) (cs:=[(dI v7.Group),(.sl 1152 0 v9.length),(.sl 1344 0 v11.length),(dI v7.Vote)]) rfl (J1 eZ xC) rfl (List.cons_ne_nil _ _) (by simp) (nR rfl) (zj ?_)))))
   obtain⟨h13,H⟩:=jf H
   exact Xh (f:=zd) (xs:=s4.1) (t:=(zb.mk v7.Group v9 v11 v7.Vote)) (q:=(s4.1++[(zb.mk v7.Group v9 v11 v7.Vote)]).length) (ds:=[(.int .i64 v7.Group),(.sl 2 (List.map zx v9)),(.sl 2 (List.map zG v11)),(.int .i64 v7.Vote)]) (ns:=[1152,1344]) rfl eZ (bR rfl) rfl bZ rfl (VOs.cons (VO.flat rfl) (VOs.cons (VO.sl (bR rfl) lm (qq fun _=>rfl)) (VOs.cons (VO.sl (bR rfl) lm (qq fun _=>rfl)) (VOs.cons (VO.flat rfl) VOs.nil)))) rfl rfl rfl rfl h13 (by decide) (erL.cons (v':=(.one (.sl 1600 0 1))) rfl (erL.cons (v':=(.agg [(dI v7.Group),.any,.any,(dI v7.Vote)])) rfl (erL.cons (v':=(oI v7.Vote)) rfl (erL.cons (v':=(.one (.ptr (.nm 320 0 3)))) rfl (erL.cons (v':=(.one .any)) rfl (erL.cons (v':=(.one (.d (.sl 2 (List.map zG v7.Writes))))) rfl (erL.cons (v':=(.one (.ptr (.nm 320 0 2)))) rfl (erL.cons (v':=(.one .any)) rfl (erL.cons (v':=(.one (.d (.sl 2 (List.map zx v7.Reads))))) rfl (erL.cons (v':=(.one (.ptr (.nm 320 0 1)))) rfl (erL.cons (v':=(oI v7.Group)) rfl (erL.cons (v':=(.one (.ptr (.nm 320 0 0)))) rfl (erL.cons (v':=(.one (.sl 320192 0 s4.1.length))) rfl (erL.cons (v':=(.one (.ptr (.nm 320 0 0)))) rfl (erL.cons (v':=(.agg (ql v7))) rfl (erL.cons (v':=(.one (.ptr (.bd (zd v7) 0)))) rfl (erL.cons (v':=(oB (decide (s4.2 < (a1.length:Int))))) rfl (erL.cons (v':=(.one (.sl 320192 0 s4.1.length))) rfl (erL.cons (v':=(.one (.d (.sl 4 (List.map zd a1))))) rfl (erL.cons (v':=(oI (a1.length:Int))) rfl (erL.cons (v':=(oI s4.2)) rfl erL.nil))))))))))))))))))))) (erH.cons (v':=(.vars 4 [(dI v7.Group),.any,.any,(dI v7.Vote)])) rfl rfl (erH.drop rfl (erH.drop rfl (erH.cons (v':=(.vars 4 (ql v7))) rfl rfl (erH.cons (v':=(.vars 4 [(dI 0),.zs,.zs,(dI 0)])) rfl rfl (erH.cons (v':=(.data 4 (List.map zd s4.1) true none)) rfl rfl erH.nil)))))) erL.nil (erL.cons (v':=(.one (.sl 1600 0 1))) rfl (erL.cons (v':=(.agg [(dI v7.Group),.any,.any,(dI v7.Vote)])) rfl (erL.cons (v':=(oI v7.Vote)) rfl (erL.cons (v':=(.one (.ptr (.nm 320 0 3)))) rfl (erL.cons (v':=(.one .any)) rfl (erL.cons (v':=(.one (.d (.sl 2 (List.map zG v7.Writes))))) rfl (erL.cons (v':=(.one (.ptr (.nm 320 0 2)))) rfl (erL.cons (v':=(.one .any)) rfl (erL.cons (v':=(.one (.d (.sl 2 (List.map zx v7.Reads))))) rfl (erL.cons (v':=(.one (.ptr (.nm 320 0 1)))) rfl (erL.cons (v':=(oI v7.Group)) rfl (erL.cons (v':=(.one (.ptr (.nm 320 0 0)))) rfl (erL.cons (v':=(.one .any)) rfl (erL.cons (v':=(.one (.ptr (.nm 320 0 0)))) rfl (erL.cons (v':=(.agg (ql v7))) rfl (erL.cons (v':=(.one (.ptr (.bd (zd v7) 0)))) rfl (erL.cons (v':=(oB (decide (s4.2 < (a1.length:Int))))) rfl (erL.cons (v':=(.one .any)) rfl (erL.cons (v':=(.one (.d (.sl 4 (List.map zd a1))))) rfl (erL.cons (v':=(oI (a1.length:Int))) rfl (erL.cons (v':=(oI s4.2)) rfl erL.nil))))))))))))))))))))) (erH.cons (v':=(.vars 4 [(dI v7.Group),.any,.any,(dI v7.Vote)])) rfl rfl (erH.cons (v':=(.vars 4 (ql v7))) rfl rfl (erH.cons (v':=(.vars 4 [(dI 0),.zs,.zs,(dI 0)])) rfl rfl (erH.drop rfl erH.nil)))) erL.nil (zR (za eZ (zj (BQ.qn (TQ.qn (AW.weaken (zt [1600,320] (kr 3 rfl rfl (kr 7 rfl rfl (kr 8 rfl rfl (kr 9 rfl rfl SL.nil)))) (blR rfl) (BK.cons (n:=320192) rfl bZ rfl rfl BK.nil) GK.nil) (aR (qE rfl eC (za eZ (zj (TQ.qn ⟨((s4.1++[(zb.mk v7.Group v9 v11 v7.Vote)]),(IntKind.wrap .i64 (s4.2+1))),H,(zt [] (sR rfl rfl) (blR rfl) (bkR rfl rfl rfl) GK.nil)⟩)))))))))))
  ·exact zg eZ (dF h6) (AW.exit (TQ.qe (TQ.qe (BQ.qe (TQ.qn ⟨s4.1,H,((zt [] (sR rfl rfl) (blR rfl) (bkR rfl rfl rfl) GK.nil).trans (yh 320192 320128 rfl rfl (nR rfl) GR.nil))⟩)))))
theorem Xv{a1:zw}{r:zw}(H:yt a1=some r):Fn Try.prog 62 (lent [(.agg (qL a1))]) true [(.agg (qL r))]:=by
 refine f62 (fle rfl) ?_
 rw[zD]
 refine AW.weaken (t:=mk [(0,(.agg (zH a1)))] [] (lk [])) (zn [] (sR rfl rfl) BL.nil BK.nil) ?_
 unfold yt at H
 unfold i62
 refine aV (yX (n:=64) (m:=2) (cs:=(zH a1)) rfl eZ rfl rfl nZ (Qo (n:=128) (m:=2) rfl rfl (nR rfl) (xQ (aS (zK (zh (ze (m:=1) rfl rfl (zj (zh (zm (q:=1) (c:=(.d (.sl 1 (List.map zA a1.Order)))) eZ (bR rfl) rfl rfl (zj (zh ?_))))))))))))
 obtain⟨v2,h3,H⟩:=zo H
 refine Qj (u:=(.one (.sl 512 0 v2.length))) (bs:=[(512,(.data 1 (List.map zA v2) true none))]) eC Cl.fn (ku h3) (Ec eZ En) (Vc Vp Vn) (by simp[jR,yV,jn,yd,jz]) rfl (fC (nR rfl) rfl (fC (nR rfl) rfl fN)) (zj (zh (Kx (cs:=[.zs,(.sl 512 0 v2.length)]) (J1 eZ xC) rfl (zj (zh (Qo (n:=192) (m:=2) rfl rfl (nR rfl) (zj (zh (zN (es:=[.zs,(.sl 512 0 v2.length)]) eZ rfl rfl rfl bZ rfl (zj (zR (xQ (zJ (fun t4:(List zp)=>(Zm v2) t4=some r) (fun t4=>mk [(2,(.one (.ptr (.nm 128 0 0)))),(3,(.one (.ptr (.nm 192 0 0))))] [(128,(.vars 2 [.zs,.zs])),(320128,(.data 5 (List.map zl t4) true none)),(192,(.vars 2 [(.sl 320128 0 t4.length),(.sl 512 0 v2.length)])),(512,(.data 1 (List.map zA v2) true none))] (lk [])) ?_ ?_)))))))))))))
 ·intro t4 H
  unfold Zm at H
  refine aS (zK (zh (zZ (es:=[(.sl 320128 0 t4.length),(.sl 512 0 v2.length)]) rfl (bR rfl) rfl (zj (zh (zN (es:=[(.sl 320128 0 t4.length),(.sl 512 0 v2.length)]) rfl eZ rfl rfl bZ rfl (zj (zR (xQ (AW.ret ?_))))))))))
  cases H
  exact jU (RL.cons (jD (es:=[(.sl 320128 0 t4.length),(.sl 512 0 v2.length)]) rfl bZ rfl) (VO.aggs (VOs.cons (jH (bR rfl) lm rfl) (VOs.cons (VO.sl (bR rfl) lm (qq fun _=>rfl)) VOs.nil))) RL.nil) (by decide)
 ·refine aV (ze (m:=0) rfl rfl (zm (q:=0) (c:=(.d (.sl 5 (List.map zl a1.Recs)))) eZ (bR rfl) rfl rfl (zX eZ (n:=a1.Recs.length) lm (za eC (xQ (AW.block (AW.iter (fun s6:(Int×(List zp))=>mk [(2,(.one (.ptr (.nm 128 0 0)))),(3,(.one (.ptr (.nm 192 0 0)))),(11,(.one (.d (.sl 5 (List.map zl a1.Recs))))),(12,(oI (a1.Recs.length:Int))),(13,(oI s6.1))] [(128,(.vars 2 [.zs,.zs])),(320192,(.data 5 (List.map zl s6.2) true none)),(192,(.vars 2 [(.sl 320192 0 s6.2.length),(.sl 512 0 v2.length)])),(512,(.data 1 (List.map zA v2) true none))] (lk [])) H ((zt [64] (sR rfl rfl) (blR rfl) (BK.cons rfl (bR rfl) rfl rfl (BK.cons rfl (bR rfl) rfl rfl (BK.cons rfl bZ rfl (by first|rfl|simp) (bkR rfl rfl rfl)))) GK.nil).trans (zeP 320192 5 192 0 true bZ rfl (nR rfl))) ?_)))))))
  intro kb7 s6 H
  unfold Zh at H
  refine aV (qJ rfl rfl (xQ (aS ?_)))
  rcases zE H with⟨h8,H⟩|⟨h8,H⟩
  ·refine zi eZ (dT h8) (AW.skip (TQ.qn (aS (AW.block (aS (zK (zh ?_)))))))
   obtain⟨v9,h10,H⟩:=zo H
   refine je rfl rfl h10 (zj (zh (qG (es:=(jc v9)) eZ rfl (zj (zh (Qo (n:=320) (m:=5) rfl rfl (nR rfl) (zj (zh (zN (es:=(jc v9)) eZ rfl rfl rfl bZ rfl (zj (zR (xQ (aS (zK (zh (ze (m:=4) eZ rfl (zj (zh (zm (q:=4) (c:=(.d (.sl 4 (List.map zd v9.Shares)))) eZ bZ rfl rfl (zj (zh ?_)))))))))))))))))))))
   obtain⟨v11,h12,H⟩:=zo H
   refine Qj (u:=(.one (.sl 1216 0 v11.length))) (bs:=[(1216,(.data 4 (List.map zd v11) true none))]) eC Cl.fn (Xg h12) (Ec eZ En) (Vc Vp Vn) (by simp[jR,yV,jn,yd,jz]) rfl (fC (nR rfl) rfl (fC (nR rfl) rfl fN)) (zj (zh (ze (m:=4) rfl rfl (zj (zh (zN (es:=[(dI v9.Tx),(dI v9.Client),(dI v9.Req),(dI v9.State),(.sl 1216 0 v11.length)]) eZ rfl rfl rfl (bR rfl) rfl (zj (zR (xQ (zK (zh (ze (m:=0) rfl rfl (zj (zh (zm (q:=0) (c:=(.sl 320192 0 s6.2.length)) eZ (bR rfl) rfl rfl (zj (zh (zZ (es:=[(dI v9.Tx),(dI v9.Client),(dI v9.Req),(dI v9.State),(.sl 1216 0 v11.length)]) rfl bZ rfl (zj (zh (x8 (m:=1536) (q:=1) (cs:=[(dI v9.Tx),(dI v9.Client),(dI v9.Req),(dI v9.State),(.sl 1216 0 v11.length)]) rfl (J1 eZ xC) rfl (List.cons_ne_nil _ _) (by simp) (nR rfl) (zj ?_))))))))))))))))))))))
   obtain⟨h13,H⟩:=jf H
   exact Xh (f:=zl) (xs:=s6.2) (t:=(zp.mk v9.Tx v9.Client v9.Req v9.State v11)) (q:=(s6.2++[(zp.mk v9.Tx v9.Client v9.Req v9.State v11)]).length) (ds:=[(.int .i64 v9.Tx),(.int .i64 v9.Client),(.int .i64 v9.Req),(.int .i64 v9.State),(.sl 4 (List.map zd v11))]) (ns:=[1216]) rfl eZ (bR rfl) rfl bZ rfl (VOs.cons (VO.flat rfl) (VOs.cons (VO.flat rfl) (VOs.cons (VO.flat rfl) (VOs.cons (VO.flat rfl) (VOs.cons (jH (bR rfl) lm rfl) VOs.nil))))) rfl rfl rfl rfl h13 (by decide) (erL.cons (v':=(.one (.sl 1536 0 1))) rfl (erL.cons (v':=(.agg [(dI v9.Tx),(dI v9.Client),(dI v9.Req),(dI v9.State),.any])) rfl (erL.cons (v':=(.one (.sl 320192 0 s6.2.length))) rfl (erL.cons (v':=(.one (.ptr (.nm 192 0 0)))) rfl (erL.cons (v':=(.one (.ptr (.nm 320 0 4)))) rfl (erL.cons (v':=(.one .any)) rfl (erL.cons (v':=(.one (.d (.sl 4 (List.map zd v9.Shares))))) rfl (erL.cons (v':=(.one (.ptr (.nm 320 0 4)))) rfl (erL.cons (v':=(.one (.ptr (.nm 320 0 0)))) rfl (erL.cons (v':=(.agg (jc v9))) rfl (erL.cons (v':=(.one (.ptr (.bd (zl v9) 0)))) rfl (erL.cons (v':=(oB (decide (s6.1 < (a1.Recs.length:Int))))) rfl (erL.cons (v':=(.one (.ptr (.nm 128 0 0)))) rfl (erL.cons (v':=(.one (.ptr (.nm 192 0 0)))) rfl (erL.cons (v':=(.one (.d (.sl 5 (List.map zl a1.Recs))))) rfl (erL.cons (v':=(oI (a1.Recs.length:Int))) rfl (erL.cons (v':=(oI s6.1)) rfl erL.nil))))))))))))))))) (erH.cons (v':=(.vars 5 [(dI v9.Tx),(dI v9.Client),(dI v9.Req),(dI v9.State),.any])) rfl rfl (erH.cons (v':=(.vars 5 [(dI v9.Tx),(dI v9.Client),(dI v9.Req),(dI v9.State),.any])) rfl rfl (erH.drop rfl (erH.cons (v':=(.vars 5 (jc v9))) rfl rfl (erH.cons (v':=(.vars 5 [(dI 0),(dI 0),(dI 0),(dI 0),.zs])) rfl rfl (erH.cons (v':=(.vars 2 [.zs,.zs])) rfl rfl (erH.cons (v':=(.data 5 (List.map zl s6.2) true none)) rfl rfl (erH.cons (v':=(.vars 2 [(.sl 320192 0 s6.2.length),(.sl 512 0 v2.length)])) rfl rfl (erH.cons (v':=(.data 1 (List.map zA v2) true none)) rfl rfl erH.nil))))))))) erL.nil (erL.cons (v':=(.one (.sl 1536 0 1))) rfl (erL.cons (v':=(.agg [(dI v9.Tx),(dI v9.Client),(dI v9.Req),(dI v9.State),.any])) rfl (erL.cons (v':=(.one .any)) rfl (erL.cons (v':=(.one (.ptr (.nm 192 0 0)))) rfl (erL.cons (v':=(.one (.ptr (.nm 320 0 4)))) rfl (erL.cons (v':=(.one .any)) rfl (erL.cons (v':=(.one (.d (.sl 4 (List.map zd v9.Shares))))) rfl (erL.cons (v':=(.one (.ptr (.nm 320 0 4)))) rfl (erL.cons (v':=(.one (.ptr (.nm 320 0 0)))) rfl (erL.cons (v':=(.agg (jc v9))) rfl (erL.cons (v':=(.one (.ptr (.bd (zl v9) 0)))) rfl (erL.cons (v':=(oB (decide (s6.1 < (a1.Recs.length:Int))))) rfl (erL.cons (v':=(.one (.ptr (.nm 128 0 0)))) rfl (erL.cons (v':=(.one (.ptr (.nm 192 0 0)))) rfl (erL.cons (v':=(.one (.d (.sl 5 (List.map zl a1.Recs))))) rfl (erL.cons (v':=(oI (a1.Recs.length:Int))) rfl (erL.cons (v':=(oI s6.1)) rfl erL.nil))))))))))))))))) (erH.cons (v':=(.vars 5 [(dI v9.Tx),(dI v9.Client),(dI v9.Req),(dI v9.State),.any])) rfl rfl (erH.cons (v':=(.vars 5 [(dI v9.Tx),(dI v9.Client),(dI v9.Req),(dI v9.State),.any])) rfl rfl (erH.cons (v':=(.vars 5 (jc v9))) rfl rfl (erH.cons (v':=(.vars 5 [(dI 0),(dI 0),(dI 0),(dI 0),.zs])) rfl rfl (erH.cons (v':=(.vars 2 [.zs,.zs])) rfl rfl (erH.drop rfl (erH.cons (v':=(.vars 2 [.any,(.sl 512 0 v2.length)])) rfl rfl (erH.cons (v':=(.data 1 (List.map zA v2) true none)) rfl rfl erH.nil)))))))) erL.nil (zh (ze (m:=0) rfl rfl (zj (zh (zN (es:=[(.sl 320192 0 ((s6.2++[(zp.mk v9.Tx v9.Client v9.Req v9.State v11)]).length)),(.sl 512 0 v2.length)]) eZ rfl rfl rfl (bR rfl) rfl (zj (zR (zj (BQ.qn (TQ.qn (AW.weaken (zt [1536,320] (kr 2 rfl rfl (kr 3 rfl rfl (kr 11 rfl rfl (kr 12 rfl rfl (kr 13 rfl rfl SL.nil))))) (blR rfl) (BK.cons (n:=192) rfl bZ rfl rfl (BK.cons (n:=320192) rfl (bR rfl) rfl rfl (BK.cons (n:=128) rfl (bR rfl) rfl rfl (BK.cons (n:=512) rfl (bR rfl) rfl rfl BK.nil)))) GK.nil) (aR (qE rfl eC (za eZ (zj (TQ.qn ⟨((IntKind.wrap .i64 (s6.1+1)),(s6.2++[(zp.mk v9.Tx v9.Client v9.Req v9.State v11)])),H,(zt [] (sR rfl rfl) (blR rfl) (BK.cons rfl (bR rfl) rfl rfl (BK.cons rfl (bR rfl) rfl rfl (BK.cons rfl bZ rfl (by first|rfl|simp) (bkR rfl rfl rfl)))) GK.nil)⟩))))))))))))))))
  ·exact zg eZ (dF h8) (AW.exit (TQ.qe (TQ.qe (BQ.qe (TQ.qn ⟨s6.2,H,((zt [] (sR rfl rfl) (blR rfl) (BK.cons rfl bZ rfl rfl (BK.cons rfl (bR rfl) rfl rfl (BK.cons rfl (bR rfl) rfl (by first|rfl|simp) (bkR rfl rfl rfl)))) GK.nil).trans (yh 320192 320128 rfl rfl (nR rfl) GR.nil))⟩)))))
theorem zbt{a1:zw}{a2:Int}{r:Bool}(H:J6 a1 a2=some r):Fn Try.prog 69 (lent [(.agg (qL a1)),(.int .i64 a2)]) true [(.bool r)]:=by
 refine f69 (fle rfl) ?_
 rw[zD]
 refine AW.weaken (zn [] (kv 0 (.agg (zH a1)) rfl rfl (kv 1 (oI a2) rfl rfl SL.nil)) BL.nil BK.nil) ?_
 unfold J6 at H
 unfold i69
 refine aV (yX (n:=128) (m:=2) (cs:=(zH a1)) rfl eZ rfl rfl nZ (za eC (xQ (aV (za rfl (ze (m:=0) rfl rfl (zm (q:=0) (c:=(.d (.sl 5 (List.map zl a1.Recs)))) eZ bZ rfl rfl (zX eZ (n:=a1.Recs.length) lm ?_))))))))
 obtain⟨v3,h4,H⟩:=zo H
 refine zM (u:=(oB v3)) eC Cl.fn (ye h4) (Ec rfl (Ec eC (Ec eZ En))) (Vc Vp (Vc Vp (Vc Vp Vn))) rfl (za eZ (xQ (AW.ret ?_)))
 cases H
 exact eE rfl rfl
theorem kt{a1:zb}{a2:Int}{r:Bool}(H:yM a1 a2=some r):Fn Try.prog 85 (lent [(.agg (zd a1)),(.ptr (zA a2))]) true [(.bool r)]:=by
 refine f85 (fle rfl) ?_
 rw[zD]
 refine AW.weaken (zn [] (kv 0 (.agg (ql a1)) rfl rfl (SL.cons (v:=(.one (.ptr (.bd (zA a2) 0)))) (eS rfl eZ) rfl (VWk.one CWk.ptr) SL.nil)) BL.nil BK.nil) ?_
 unfold yM at H
 unfold i85
 refine aV (yX (n:=128) (m:=4) (cs:=(ql a1)) rfl eZ rfl rfl nZ (za eC (xQ (aV (ze (m:=0) rfl rfl (zm (q:=0) (c:=(dI a1.Group)) eZ bZ rfl rfl (qC (e:=(.int .i64 a2)) rfl rfl (Jp rfl eZ (za eZ ?_)))))))))
 rcases zE H with⟨h3,H⟩|⟨h3,H⟩
 ·refine gDo eZ (dT h3) (ze (m:=3) rfl rfl (gDo rfl (dT h3) (zm (q:=3) (c:=(dI a1.Vote)) eZ bZ rfl rfl (gDo rfl (dT h3) (Jp eZ eC (zL rfl (dT h3) eZ (za eZ (xQ (AW.ret ?_)))))))))
  cases H
  exact eE rfl rfl
 ·refine zf eZ (dF h3) rfl (zf rfl (dF h3) rfl (zf rfl (dF h3) rfl (zV rfl (dF h3) eC (za eZ (xQ (AW.ret ?_))))))
  cases H
  exact eE rfl rfl
theorem ZH{a1:(List zb)}{a2:Int}{r:Int}(H:z4 a1 a2=some r):Fn Try.prog 84 (lent [(.sl 4 (List.map zd a1)),(.fn 85 [.ptr (zA a2)])]) true [(.int .i64 r)]:=by
 refine f84 (fle rfl) ?_
 rw[zD]
 refine AW.weaken (zn [] (kv 0 (.one (.d (.sl 4 (List.map zd a1)))) rfl rfl (SL.cons (v:=(.one (.fn 85 [(.bd (zA a2) 0)]))) (eS rfl eZ) rfl (VWk.one (CWk.fn (css:=[zA a2]))) SL.nil)) BL.nil BK.nil) ?_
 unfold z4 at H
 unfold i84
 refine aV (za eC (xQ (zJ (fun t3:Unit=>qH t3=some r) (fun t3=>mk [] [] noG) ?_ ?_)))
 ·intro t3 H
  unfold qH at H
  refine aV (za eC (xQ (AW.ret ?_)))
  cases H
  exact eE rfl rfl
 ·refine aV (za rfl (zX eZ (n:=a1.length) lm (za eC (xQ (AW.block (AW.iter (fun s5:Int=>mk [(0,(.one (.d (.sl 4 (List.map zd a1))))),(1,(.one (.fn 85 [(.bd (zA a2) 0)]))),(7,(oI (a1.length:Int))),(8,(oI s5))] [] noG) H (zn [] (sR rfl rfl) BL.nil BK.nil) ?_))))))
  intro kb6 s5 H
  unfold qf at H
  refine aV (qJ rfl rfl (xQ (aS ?_)))
  rcases zE H with⟨h7,H⟩|⟨h7,H⟩
  ·refine zi eZ (dT h7) (AW.skip (TQ.qn (aS (AW.block (aV (za rfl (za eZ (xQ (aV (za rfl (za rfl (za rfl ?_))))))))))))
   obtain⟨v8,h9,H⟩:=zo H
   refine je rfl eZ h9 (qG (es:=(ql v8)) eZ rfl ?_)
   obtain⟨v10,h11,H⟩:=zo H
   refine zM (u:=(oB v10)) rfl Cl.fn (kt h11) (Ec eZ En) (Vc (VD.agg rfl) (Vc Xm Vn)) rfl (xQ ?_)
   rcases zE H with⟨h12,H⟩|⟨h12,H⟩
   ·refine zi eZ h12 (aV (za rfl (za eZ (xQ (AW.ret (BQ.qr (TQ.qr (TQ.qr (BQ.qr (TQ.qr ?_))))))))))
    cases H
    exact eE rfl rfl
   ·exact zg eZ (nt h12) (AW.skip (BQ.qn (TQ.qn (aR (qE rfl eC (za eZ (zj (TQ.qn ⟨(IntKind.wrap .i64 (s5+1)),H,(zn [] (sR rfl rfl) BL.nil BK.nil)⟩))))))))
  ·exact zg eZ (dF h7) (AW.exit (TQ.qe (TQ.qe (BQ.qe (TQ.qn ⟨(),H,(zn [] SL.nil BL.nil BK.nil)⟩)))))
theorem YI{a1:zw}{a2:Int}{a3:Int}{a4:Bool}{r:(zw×Int)}(H:jL a1 a2 a3 a4=some r):Fn Try.prog 29 (lent [(.agg (qL a1)),(.int .i64 a2),(.int .i64 a3),(.bool a4)]) true [(.agg (qL r.1)),(.int .i64 r.2)]:=by
 refine f29 (fle rfl) ?_
 rw[zD]
 refine AW.weaken (t:=mk [(0,(.agg (zH a1))),(1,(oI a2)),(2,(oI a3)),(3,(oB a4))] [] (lk [])) (zn [] (sR rfl rfl) BL.nil BK.nil) ?_
 unfold jL at H
 unfold i29
 refine aV (yX (n:=256) (m:=2) (cs:=(zH a1)) rfl eZ rfl rfl nZ (yX (n:=384) (m:=1) (cs:=[(dI a3)]) rfl rfl rfl rfl (nR rfl) (Qo (n:=512) (m:=2) rfl rfl (nR rfl) (za eC (xQ (aS (aV (zZ (es:=(zH a1)) rfl (bR rfl) rfl ?_))))))))
 obtain⟨v5,h6,H⟩:=zo H
 refine zM (u:=(oB v5)) eC Cl.fn (K6 h6) (Ec eZ En) (Vc (VD.agg rfl) Vn) rfl (jE eZ (xQ ?_))
 rcases zE H with⟨h7,H⟩|⟨h7,H⟩
 ·refine zg eZ (cN h7) (AW.skip (TQ.qn (aS (zK (zh (zZ (es:=(zH a1)) rfl (bR rfl) rfl (zj (zh ?_))))))))
  obtain⟨v8,h9,H⟩:=zo H
  refine Qj (u:=(.agg [(.sl 1152 0 v8.Recs.length),(.sl 1153 0 v8.Order.length)])) (bs:=[(1152,(.data 5 (List.map zl v8.Recs) true none)),(1153,(.data 1 (List.map zA v8.Order) true none))]) eC Cl.fn (Xv h9) (Ec eZ En) (Vc (VD.agg rfl) Vn) (by simp[jR,yV,jn,yd,jz]) rfl (fC (nR rfl) rfl (fC (nR rfl) rfl (fC (nR rfl) rfl fN))) (zj (zh (Qo (n:=640) (m:=2) rfl rfl (nR rfl) (zj (zh (zN (es:=[(.sl 1152 0 v8.Recs.length),(.sl 1153 0 v8.Order.length)]) eZ rfl rfl rfl bZ rfl (zj (zR (xQ (aS (aV (zZ (es:=(zH a1)) rfl (bR rfl) rfl (za rfl ?_)))))))))))))
  obtain⟨v10,h11,H⟩:=zo H
  refine zM (u:=(oB v10)) eC Cl.fn (zbt h11) (Ec rfl (Ec eZ En)) (Vc (VD.agg rfl) (Vc Vp Vn)) rfl (jE eZ (xQ (AW.weaken (zt [256] (kr 22 rfl rfl (kr 10 rfl rfl (kr 8 rfl rfl (kr 6 rfl rfl (kr 1 rfl rfl (kr 3 rfl rfl SL.nil)))))) (blR rfl) (BK.cons (n:=640) rfl bZ rfl rfl (BK.cons (n:=1153) rfl (bR rfl) rfl rfl (BK.cons (n:=1152) rfl (bR rfl) rfl rfl (BK.cons (n:=512) rfl (bR rfl) rfl rfl (BK.cons (n:=384) rfl (bR rfl) rfl rfl BK.nil))))) GK.nil) ?_)))
  rcases zE H with⟨h12,H⟩|⟨h12,H⟩
  ·refine zg eZ (cN h12) (AW.skip (TQ.qn (aV (ze (m:=0) rfl rfl (zm (q:=0) (c:=(.sl 1152 0 v8.Recs.length)) eZ bZ rfl rfl (za rfl (kM eZ eC ?_)))))))
   obtain⟨v13,h14,H⟩:=zo H
   refine Yh rfl eZ (bR rfl) rfl h14 (za eZ (xQ (aV (za eZ (Y6 eZ (ze (m:=4) eZ rfl (zbI (t:=v13) (e:=(.sl 4 (List.map zd v13.Shares))) eZ (bR rfl) (qi h14) rfl rfl (ze9 (ps:=[(.nm 384 0 0)]) (Ec rfl En) ?_))))))))
   obtain⟨v15,h16,H⟩:=zo H
   refine zM (u:=(oI v15)) eC Cl.fn (ZH h16) (Ec rfl (Ec eZ En)) (Vc VD.sub (Vc (VD.fn (PDs.cons (zbS (bR rfl) (CDs.plain CDs.nil)) PDs.nil)) Vn)) rfl (za eZ (xQ (AW.weaken (zt [384] (kr 12 rfl rfl (kr 11 rfl rfl (kr 10 rfl rfl (kr 8 rfl rfl (kr 1 rfl rfl (kr 3 rfl rfl SL.nil)))))) (blR rfl) (BK.cons (n:=640) rfl bZ rfl rfl (BK.cons (n:=1153) rfl (bR rfl) rfl rfl (BK.cons (n:=1152) rfl (bR rfl) rfl rfl (BK.cons (n:=512) rfl (bR rfl) rfl rfl BK.nil)))) GK.nil) (aS (zJ (fun t17:Bool=>(jv v8 a4 v13 v15 a2) t17=some r) (fun t17=>mk [(1,(oI a2)),(3,(oB a4)),(8,(.one (.ptr (.nm 512 0 0)))),(10,(.one (.ptr (.nm 640 0 0)))),(11,(.one (.ptr (.nm 1152 (Int.toNat (IntKind.wrap .i64 (a2 - 1))) 0)))),(12,(oI v15)),(43,(oB t17))] [(512,(.vars 2 [.zs,.zs])),(640,(.vars 2 [(.sl 1152 0 v8.Recs.length),(.sl 1153 0 v8.Order.length)])),(1152,(.data 5 (List.map zl v8.Recs) true none)),(1153,(.data 1 (List.map zA v8.Order) true none))] (lk [])) ?_ ?_)))))
   ·intro t17 H
    unfold jv at H
    rcases zE H with⟨h19,H⟩|⟨h19,H⟩
    ·refine zi rfl h19 (aS (zK (zh (zZ (es:=[(.sl 1152 0 v8.Recs.length),(.sl 1153 0 v8.Order.length)]) rfl (bR rfl) rfl (zj (zh (zN (es:=[(.sl 1152 0 v8.Recs.length),(.sl 1153 0 v8.Order.length)]) rfl eZ rfl rfl bZ rfl (zj (zR (za eC (xQ (AW.ret (TQ.qr ?_)))))))))))))
     cases H
     exact jU (RL.cons (jD (es:=[(.sl 1152 0 v8.Recs.length),(.sl 1153 0 v8.Order.length)]) rfl bZ rfl) (VO.aggs (VOs.cons (jH (bR rfl) lm rfl) (VOs.cons (VO.sl (bR rfl) lm (qq fun _=>rfl)) VOs.nil))) (RL.cons (RV.tmp eZ) (VO.flat rfl) RL.nil)) (by decide)
    ·refine zg rfl (nt h19) (AW.skip (TQ.qn (aS (aV (za rfl (jE eZ (xQ ?_)))))))
     rcases zE H with⟨h20,H⟩|⟨h20,H⟩
     ·refine zg eZ (cN h20) (AW.skip (TQ.qn (aS (zK (zh (za rfl (zj (zh (Y6 eZ (zj (zh (ze (m:=4) eZ rfl (zj (zeQ (n:=1152) (f:=zl) (f':=zd) (i:=(Int.toNat (IntKind.wrap .i64 (a2 - 1)))) (j:=4) (t:=v13) (ys:=v13.Shares) (e:=fun pw21=>[(.int .i64 v13.Tx),(.int .i64 v13.Client),(.int .i64 v13.Req),(.int .i64 v13.State),(.both pw21 (.sl 4 (List.map zd v13.Shares)))]) (bR rfl) (qi h14) rfl (fun _=>rfl) ?_))))))))))))))
      intro pw21
      refine zh (zbI (t:=[(.int .i64 v13.Tx),(.int .i64 v13.Client),(.int .i64 v13.Req),(.int .i64 v13.State),(.both pw21 (.sl 4 (List.map zd v13.Shares)))]) (e:=(.both pw21 (.sl 4 (List.map zd v13.Shares)))) eZ bZ (KP (qi h14)) rfl rfl (zj (zh (za rfl (zj ?_)))))
      obtain⟨v22,h23,H⟩:=zo H
      refine kd (n:=1152) (f:=zl) (f':=zd) (i:=(Int.toNat (IntKind.wrap .i64 (a2 - 1)))) (j:=4) (t:=v13) (ys:=v13.Shares) (u:=v22) (u':=(zb.mk v22.Group v22.Reads v22.Writes 1)) (e:=[(.int .i64 v13.Tx),(.int .i64 v13.Client),(.int .i64 v13.Req),(.int .i64 v13.State),(.both pw21 (.sl 4 (List.map zd v13.Shares)))]) (e':=[(.int .i64 v13.Tx),(.int .i64 v13.Client),(.int .i64 v13.Req),(.int .i64 v13.State),(.both pw21 (.sl 4 (List.map zd (v13.Shares.set (Int.toNat v15) (zb.mk v22.Group v22.Reads v22.Writes 1)))))]) (c:=(.int .i64 1)) rfl eZ h23 bZ (qi h14) rfl rfl eC rfl rfl rfl (erL.cons (v':=(.one .any)) rfl (erL.cons (v':=(.one .any)) rfl (erL.cons (v':=(oI v15)) rfl (erL.cons (v':=(.one .any)) rfl (erL.cons (v':=(.one (.ptr (.nm 1152 (Int.toNat (IntKind.wrap .i64 (a2 - 1))) 4)))) rfl (erL.cons (v':=(.one (.ptr (.nm 1152 (Int.toNat (IntKind.wrap .i64 (a2 - 1))) 0)))) rfl (erL.cons (v':=(.one (.ptr (.nm 1152 (Int.toNat (IntKind.wrap .i64 (a2 - 1))) 0)))) rfl (erL.cons (v':=(oB (!a4))) rfl (erL.cons (v':=(oB a4)) rfl (erL.cons (v':=(oI a2)) rfl (erL.cons (v':=(oB a4)) rfl (erL.cons (v':=(.one (.ptr (.nm 512 0 0)))) rfl (erL.cons (v':=(.one (.ptr (.nm 640 0 0)))) rfl (erL.cons (v':=(.one (.ptr (.nm 1152 (Int.toNat (IntKind.wrap .i64 (a2 - 1))) 0)))) rfl (erL.cons (v':=(oI v15)) rfl (erL.cons (v':=(oB t17)) rfl erL.nil)))))))))))))))) (erH.cons (v':=(.data 5 (List.map kE ((List.map zl v8.Recs).set (Int.toNat (IntKind.wrap .i64 (a2 - 1))) [(.int .i64 v13.Tx),(.int .i64 v13.Client),(.int .i64 v13.Req),(.int .i64 v13.State),(.both pw21 (.sl 4 (List.map zd v13.Shares)))])) true none)) rfl rfl (erH.cons (v':=(.vars 2 [.zs,.zs])) rfl rfl (erH.cons (v':=(.vars 2 [(.sl 1152 0 v8.Recs.length),(.sl 1153 0 v8.Order.length)])) rfl rfl (erH.cons (v':=(.data 5 (List.map zl v8.Recs) true none)) rfl rfl (erH.cons (v':=(.data 1 (List.map zA v8.Order) true none)) rfl rfl erH.nil))))) erL.nil (JT (xB (n:=1152) (f:=zl) (t:=v13) (t':=(zp.mk v13.Tx v13.Client v13.Req v13.State (v13.Shares.set (Int.toNat v15) (zb.mk v22.Group v22.Reads v22.Writes 1)))) (j:=4) bZ (qi h14) rfl rfl rfl) (zR (xQ (AW.weaken (zt [] (kr 1 rfl rfl (kr 8 rfl rfl (kr 10 rfl rfl (kr 11 rfl rfl SL.nil)))) (blR rfl) (BK.cons (n:=1152) rfl bZ rfl rfl (BK.cons (n:=512) rfl (bR rfl) rfl rfl (BK.cons (n:=640) rfl (bR rfl) rfl rfl (BK.cons (n:=1153) rfl (bR rfl) rfl rfl BK.nil)))) GK.nil) (zJ (fun t24:((List zp)×(List Int))=>jW t24=some r) (fun t24=>mk [(8,(.one (.ptr (.nm 512 0 0)))),(10,(.one (.ptr (.nm 640 0 0))))] [(512,(.vars 2 [.zs,.zs])),(320064,(.data 5 (List.map zl t24.1) true none)),(320128,(.data 1 (List.map zA t24.2) true none)),(640,(.vars 2 [(.sl 320064 0 t24.1.length),(.sl 320128 0 t24.2.length)]))] (lk [])) ?_ ?_)))))
      ·intro t24 H
       unfold jW at H
       refine aS (zK (zh (zZ (es:=[(.sl 320064 0 t24.1.length),(.sl 320128 0 t24.2.length)]) rfl (bR rfl) rfl (zj (zh (zN (es:=[(.sl 320064 0 t24.1.length),(.sl 320128 0 t24.2.length)]) rfl eZ rfl rfl bZ rfl (zj (zR (za eC (xQ (AW.ret ?_)))))))))))
       cases H
       exact jU (RL.cons (jD (es:=[(.sl 320064 0 t24.1.length),(.sl 320128 0 t24.2.length)]) rfl bZ rfl) (VO.aggs (VOs.cons (jH (bR rfl) lm rfl) (VOs.cons (VO.sl (bR rfl) lm (qq fun _=>rfl)) VOs.nil))) (RL.cons (RV.tmp eZ) (VO.flat rfl) RL.nil)) (by decide)
      ·refine aV (za rfl (Y6 eZ (ze (m:=4) eZ rfl (zbI (t:=(zp.mk v13.Tx v13.Client v13.Req v13.State (v13.Shares.set (Int.toNat v15) (zb.mk v22.Group v22.Reads v22.Writes 1)))) (e:=(.sl 4 (List.map zd ((zp.mk v13.Tx v13.Client v13.Req v13.State (v13.Shares.set (Int.toNat v15) (zb.mk v22.Group v22.Reads v22.Writes 1))).Shares)))) eZ bZ (zde (qi h14)) rfl rfl ?_))))
       obtain⟨v26,h27,H⟩:=zo H
       refine zM (u:=(oB v26)) eC Cl.fn (Jh h27) (Ec eZ (Ec eC En)) (Vc VD.sub (Vc Vp Vn)) rfl (jE eZ (xQ ?_))
       rcases zE H with⟨h28,H⟩|⟨h28,H⟩
       ·exact zg eZ (cN h28) (AW.skip (TQ.qn ⟨(v8.Recs.set (Int.toNat (IntKind.wrap .i64 (a2 - 1))) (zp.mk v13.Tx v13.Client v13.Req v13.State (v13.Shares.set (Int.toNat v15) (zb.mk v22.Group v22.Reads v22.Writes 1))),v8.Order),H,(Wk.trans (s:=mk [(70,(oB (!v26))),(69,(oB v26)),(68,(.one (.sub 320064 (.sl 4 (List.map zd ((zp.mk v13.Tx v13.Client v13.Req v13.State (v13.Shares.set (Int.toNat v15) (zb.mk v22.Group v22.Reads v22.Writes 1))).Shares)))))),(67,(.one (.ptr (.nm 320064 (Int.toNat (IntKind.wrap .i64 (a2 - 1))) 4)))),(66,(.one (.ptr (.nm 320064 (Int.toNat (IntKind.wrap .i64 (a2 - 1))) 0)))),(65,(.one (.ptr (.nm 320064 (Int.toNat (IntKind.wrap .i64 (a2 - 1))) 0)))),(1,(oI a2)),(8,(.one (.ptr (.nm 512 0 0)))),(10,(.one (.ptr (.nm 640 0 0)))),(11,(.one (.ptr (.nm 320064 (Int.toNat (IntKind.wrap .i64 (a2 - 1))) 0))))] [(320064,(.data 5 (List.map zl (v8.Recs.set (Int.toNat (IntKind.wrap .i64 (a2 - 1))) (zp.mk v13.Tx v13.Client v13.Req v13.State (v13.Shares.set (Int.toNat v15) (zb.mk v22.Group v22.Reads v22.Writes 1))))) true none)),(512,(.vars 2 [.zs,.zs])),(640,(.vars 2 [(.sl 320064 0 v8.Recs.length),(.sl 1153 0 v8.Order.length)])),(1153,(.data 1 (List.map zA v8.Order) true none))] (lk [])) (Wk.trans (s:=mk [(70,(oB (!v26))),(69,(oB v26)),(68,(.one (.sub 320064 (.sl 4 (List.map zd ((zp.mk v13.Tx v13.Client v13.Req v13.State (v13.Shares.set (Int.toNat v15) (zb.mk v22.Group v22.Reads v22.Writes 1))).Shares)))))),(67,(.one (.ptr (.nm 320064 (Int.toNat (IntKind.wrap .i64 (a2 - 1))) 4)))),(66,(.one (.ptr (.nm 320064 (Int.toNat (IntKind.wrap .i64 (a2 - 1))) 0)))),(65,(.one (.ptr (.nm 320064 (Int.toNat (IntKind.wrap .i64 (a2 - 1))) 0)))),(1,(oI a2)),(8,(.one (.ptr (.nm 512 0 0)))),(10,(.one (.ptr (.nm 640 0 0)))),(11,(.one (.ptr (.nm 320064 (Int.toNat (IntKind.wrap .i64 (a2 - 1))) 0))))] [(320064,(.data 5 (List.map zl (v8.Recs.set (Int.toNat (IntKind.wrap .i64 (a2 - 1))) (zp.mk v13.Tx v13.Client v13.Req v13.State (v13.Shares.set (Int.toNat v15) (zb.mk v22.Group v22.Reads v22.Writes 1))))) true none)),(512,(.vars 2 [.zs,.zs])),(640,(.vars 2 [(.sl 320064 0 v8.Recs.length),(.sl 320128 0 v8.Order.length)])),(320128,(.data 1 (List.map zA v8.Order) true none))] (lk [])) (zt [] (sR rfl rfl) (blR rfl) (BK.cons rfl (bR rfl) rfl rfl (BK.cons rfl bZ rfl rfl (BK.cons rfl (bR rfl) rfl rfl (BK.cons rfl (bR rfl) rfl (by first|rfl|simp) BK.nil)))) GK.nil) (yh 1153 320128 rfl rfl (nR rfl) GR.nil)) (yh 1152 320064 rfl rfl (nR rfl) GR.nil))⟩))
       ·refine zi eZ (cN (nt h28)) (aS (zK (zh (za rfl (zj (zh (Y6 eZ (zj (zh (ze (m:=3) eZ rfl (zj (zh (jZ (t:=(zp.mk v13.Tx v13.Client v13.Req v13.State (v13.Shares.set (Int.toNat v15) (zb.mk v22.Group v22.Reads v22.Writes 1)))) (t':=(zp.mk ((zp.mk v13.Tx v13.Client v13.Req v13.State (v13.Shares.set (Int.toNat v15) (zb.mk v22.Group v22.Reads v22.Writes 1))).Tx) ((zp.mk v13.Tx v13.Client v13.Req v13.State (v13.Shares.set (Int.toNat v15) (zb.mk v22.Group v22.Reads v22.Writes 1))).Client) ((zp.mk v13.Tx v13.Client v13.Req v13.State (v13.Shares.set (Int.toNat v15) (zb.mk v22.Group v22.Reads v22.Writes 1))).Req) 3 ((zp.mk v13.Tx v13.Client v13.Req v13.State (v13.Shares.set (Int.toNat v15) (zb.mk v22.Group v22.Reads v22.Writes 1))).Shares))) (es:=[(.int .i64 3)]) eZ eC rfl rfl bZ (zde (qi h14)) rfl rfl (zj (zR (xQ (zK (zh (ze (m:=1) rfl rfl (zj (zh (zm (q:=1) (c:=(.sl 1153 0 v8.Order.length)) eZ (bR rfl) rfl rfl (zj (zh (za rfl (zj (zh (x8 (m:=4928) (q:=1) (cs:=[(dI a2)]) rfl (J1 eZ xC) rfl (List.cons_ne_nil _ _) (by simp) (nR rfl) (zj (zh ?_))))))))))))))))))))))))))))))
        obtain⟨h29,H⟩:=jf H
        exact zfp (f:=zA) (xs:=v8.Order) (ys:=[a2]) (q:=(v8.Order++([a2])).length) rfl eZ (bR rfl) rfl (El.one (f:=zA) (t:=a2) (es:=[(.int .i64 a2)]) bZ rfl rfl rfl) rfl h29 (by decide) (by decide) (erL.cons (v':=(.one (.sl 4928 0 1))) rfl (erL.cons (v':=(oI a2)) rfl (erL.cons (v':=(.one .any)) rfl (erL.cons (v':=(.one (.ptr (.nm 640 0 1)))) rfl (erL.cons (v':=(.one (.ptr (.nm 1152 (Int.toNat (IntKind.wrap .i64 (a2 - 1))) 3)))) rfl (erL.cons (v':=(.one (.ptr (.nm 1152 (Int.toNat (IntKind.wrap .i64 (a2 - 1))) 0)))) rfl (erL.cons (v':=(.one (.ptr (.nm 1152 (Int.toNat (IntKind.wrap .i64 (a2 - 1))) 0)))) rfl (erL.cons (v':=(oB (!v26))) rfl (erL.cons (v':=(oB v26)) rfl (erL.cons (v':=(.one (.sub 1152 (.sl 4 (List.map zd ((zp.mk v13.Tx v13.Client v13.Req v13.State (v13.Shares.set (Int.toNat v15) (zb.mk v22.Group v22.Reads v22.Writes 1))).Shares)))))) rfl (erL.cons (v':=(.one (.ptr (.nm 1152 (Int.toNat (IntKind.wrap .i64 (a2 - 1))) 4)))) rfl (erL.cons (v':=(.one (.ptr (.nm 1152 (Int.toNat (IntKind.wrap .i64 (a2 - 1))) 0)))) rfl (erL.cons (v':=(.one (.ptr (.nm 1152 (Int.toNat (IntKind.wrap .i64 (a2 - 1))) 0)))) rfl (erL.cons (v':=(oI a2)) rfl (erL.cons (v':=(.one (.ptr (.nm 512 0 0)))) rfl (erL.cons (v':=(.one (.ptr (.nm 640 0 0)))) rfl (erL.cons (v':=(.one (.ptr (.nm 1152 (Int.toNat (IntKind.wrap .i64 (a2 - 1))) 0)))) rfl erL.nil))))))))))))))))) (erH.cons (v':=(.vars 1 [(dI a2)])) rfl rfl (erH.cons (v':=(.data 5 (List.map zl ((v8.Recs.set (Int.toNat (IntKind.wrap .i64 (a2 - 1))) (zp.mk v13.Tx v13.Client v13.Req v13.State (v13.Shares.set (Int.toNat v15) (zb.mk v22.Group v22.Reads v22.Writes 1)))).set (Int.toNat (IntKind.wrap .i64 (a2 - 1))) (zp.mk ((zp.mk v13.Tx v13.Client v13.Req v13.State (v13.Shares.set (Int.toNat v15) (zb.mk v22.Group v22.Reads v22.Writes 1))).Tx) ((zp.mk v13.Tx v13.Client v13.Req v13.State (v13.Shares.set (Int.toNat v15) (zb.mk v22.Group v22.Reads v22.Writes 1))).Client) ((zp.mk v13.Tx v13.Client v13.Req v13.State (v13.Shares.set (Int.toNat v15) (zb.mk v22.Group v22.Reads v22.Writes 1))).Req) 3 ((zp.mk v13.Tx v13.Client v13.Req v13.State (v13.Shares.set (Int.toNat v15) (zb.mk v22.Group v22.Reads v22.Writes 1))).Shares)))) true none)) rfl rfl (erH.cons (v':=(.data 5 (List.map zl (v8.Recs.set (Int.toNat (IntKind.wrap .i64 (a2 - 1))) (zp.mk v13.Tx v13.Client v13.Req v13.State (v13.Shares.set (Int.toNat v15) (zb.mk v22.Group v22.Reads v22.Writes 1))))) true none)) rfl rfl (erH.cons (v':=(.vars 2 [.zs,.zs])) rfl rfl (erH.cons (v':=(.vars 2 [(.sl 1152 0 v8.Recs.length),.any])) rfl rfl (erH.drop rfl erH.nil)))))) GK.nil (zj (zh (ze (m:=1) rfl rfl (zj (zh (zN (es:=[(.sl 1152 0 v8.Recs.length),(.sl 1153 0 ((v8.Order++([a2])).length))]) eZ rfl rfl rfl (bR rfl) rfl (zj (zR (zj (TQ.qn ⟨((v8.Recs.set (Int.toNat (IntKind.wrap .i64 (a2 - 1))) (zp.mk v13.Tx v13.Client v13.Req v13.State (v13.Shares.set (Int.toNat v15) (zb.mk v22.Group v22.Reads v22.Writes 1)))).set (Int.toNat (IntKind.wrap .i64 (a2 - 1))) (zp.mk ((zp.mk v13.Tx v13.Client v13.Req v13.State (v13.Shares.set (Int.toNat v15) (zb.mk v22.Group v22.Reads v22.Writes 1))).Tx) ((zp.mk v13.Tx v13.Client v13.Req v13.State (v13.Shares.set (Int.toNat v15) (zb.mk v22.Group v22.Reads v22.Writes 1))).Client) ((zp.mk v13.Tx v13.Client v13.Req v13.State (v13.Shares.set (Int.toNat v15) (zb.mk v22.Group v22.Reads v22.Writes 1))).Req) 3 ((zp.mk v13.Tx v13.Client v13.Req v13.State (v13.Shares.set (Int.toNat v15) (zb.mk v22.Group v22.Reads v22.Writes 1))).Shares)),(v8.Order++([a2]))),H,(Wk.trans (s:=mk [(79,(.one (.ptr (.nm 640 0 1)))),(78,(.one (.sl 1153 0 ((v8.Order++([a2])).length)))),(77,(.one (.sl 4928 0 1))),(76,(oI a2)),(75,(.one .any)),(74,(.one (.ptr (.nm 640 0 1)))),(73,(.one (.ptr (.nm 320064 (Int.toNat (IntKind.wrap .i64 (a2 - 1))) 3)))),(72,(.one (.ptr (.nm 320064 (Int.toNat (IntKind.wrap .i64 (a2 - 1))) 0)))),(71,(.one (.ptr (.nm 320064 (Int.toNat (IntKind.wrap .i64 (a2 - 1))) 0)))),(70,(oB (!v26))),(69,(oB v26)),(68,(.one (.sub 320064 (.sl 4 (List.map zd ((zp.mk v13.Tx v13.Client v13.Req v13.State (v13.Shares.set (Int.toNat v15) (zb.mk v22.Group v22.Reads v22.Writes 1))).Shares)))))),(67,(.one (.ptr (.nm 320064 (Int.toNat (IntKind.wrap .i64 (a2 - 1))) 4)))),(66,(.one (.ptr (.nm 320064 (Int.toNat (IntKind.wrap .i64 (a2 - 1))) 0)))),(65,(.one (.ptr (.nm 320064 (Int.toNat (IntKind.wrap .i64 (a2 - 1))) 0)))),(1,(oI a2)),(8,(.one (.ptr (.nm 512 0 0)))),(10,(.one (.ptr (.nm 640 0 0)))),(11,(.one (.ptr (.nm 320064 (Int.toNat (IntKind.wrap .i64 (a2 - 1))) 0))))] [(640,(.vars 2 [(.sl 320064 0 v8.Recs.length),(.sl 1153 0 ((v8.Order++([a2])).length))])),(1153,(.data 1 (List.map zA (v8.Order++([a2]))) true none)),(4928,(.vars 1 [(dI a2)])),(320064,(.data 5 (List.map zl ((v8.Recs.set (Int.toNat (IntKind.wrap .i64 (a2 - 1))) (zp.mk v13.Tx v13.Client v13.Req v13.State (v13.Shares.set (Int.toNat v15) (zb.mk v22.Group v22.Reads v22.Writes 1)))).set (Int.toNat (IntKind.wrap .i64 (a2 - 1))) (zp.mk ((zp.mk v13.Tx v13.Client v13.Req v13.State (v13.Shares.set (Int.toNat v15) (zb.mk v22.Group v22.Reads v22.Writes 1))).Tx) ((zp.mk v13.Tx v13.Client v13.Req v13.State (v13.Shares.set (Int.toNat v15) (zb.mk v22.Group v22.Reads v22.Writes 1))).Client) ((zp.mk v13.Tx v13.Client v13.Req v13.State (v13.Shares.set (Int.toNat v15) (zb.mk v22.Group v22.Reads v22.Writes 1))).Req) 3 ((zp.mk v13.Tx v13.Client v13.Req v13.State (v13.Shares.set (Int.toNat v15) (zb.mk v22.Group v22.Reads v22.Writes 1))).Shares)))) true none)),(320064,(.data 5 (List.map zl (v8.Recs.set (Int.toNat (IntKind.wrap .i64 (a2 - 1))) (zp.mk v13.Tx v13.Client v13.Req v13.State (v13.Shares.set (Int.toNat v15) (zb.mk v22.Group v22.Reads v22.Writes 1))))) true none)),(512,(.vars 2 [.zs,.zs])),(640,(.vars 2 [(.sl 320064 0 v8.Recs.length),.any]))] (lk [])) (Wk.trans (s:=mk [(79,(.one (.ptr (.nm 640 0 1)))),(78,(.one (.sl 320128 0 ((v8.Order++([a2])).length)))),(77,(.one (.sl 4928 0 1))),(76,(oI a2)),(75,(.one .any)),(74,(.one (.ptr (.nm 640 0 1)))),(73,(.one (.ptr (.nm 320064 (Int.toNat (IntKind.wrap .i64 (a2 - 1))) 3)))),(72,(.one (.ptr (.nm 320064 (Int.toNat (IntKind.wrap .i64 (a2 - 1))) 0)))),(71,(.one (.ptr (.nm 320064 (Int.toNat (IntKind.wrap .i64 (a2 - 1))) 0)))),(70,(oB (!v26))),(69,(oB v26)),(68,(.one (.sub 320064 (.sl 4 (List.map zd ((zp.mk v13.Tx v13.Client v13.Req v13.State (v13.Shares.set (Int.toNat v15) (zb.mk v22.Group v22.Reads v22.Writes 1))).Shares)))))),(67,(.one (.ptr (.nm 320064 (Int.toNat (IntKind.wrap .i64 (a2 - 1))) 4)))),(66,(.one (.ptr (.nm 320064 (Int.toNat (IntKind.wrap .i64 (a2 - 1))) 0)))),(65,(.one (.ptr (.nm 320064 (Int.toNat (IntKind.wrap .i64 (a2 - 1))) 0)))),(1,(oI a2)),(8,(.one (.ptr (.nm 512 0 0)))),(10,(.one (.ptr (.nm 640 0 0)))),(11,(.one (.ptr (.nm 320064 (Int.toNat (IntKind.wrap .i64 (a2 - 1))) 0))))] [(640,(.vars 2 [(.sl 320064 0 v8.Recs.length),(.sl 320128 0 ((v8.Order++([a2])).length))])),(320128,(.data 1 (List.map zA (v8.Order++([a2]))) true none)),(4928,(.vars 1 [(dI a2)])),(320064,(.data 5 (List.map zl ((v8.Recs.set (Int.toNat (IntKind.wrap .i64 (a2 - 1))) (zp.mk v13.Tx v13.Client v13.Req v13.State (v13.Shares.set (Int.toNat v15) (zb.mk v22.Group v22.Reads v22.Writes 1)))).set (Int.toNat (IntKind.wrap .i64 (a2 - 1))) (zp.mk ((zp.mk v13.Tx v13.Client v13.Req v13.State (v13.Shares.set (Int.toNat v15) (zb.mk v22.Group v22.Reads v22.Writes 1))).Tx) ((zp.mk v13.Tx v13.Client v13.Req v13.State (v13.Shares.set (Int.toNat v15) (zb.mk v22.Group v22.Reads v22.Writes 1))).Client) ((zp.mk v13.Tx v13.Client v13.Req v13.State (v13.Shares.set (Int.toNat v15) (zb.mk v22.Group v22.Reads v22.Writes 1))).Req) 3 ((zp.mk v13.Tx v13.Client v13.Req v13.State (v13.Shares.set (Int.toNat v15) (zb.mk v22.Group v22.Reads v22.Writes 1))).Shares)))) true none)),(320064,(.data 5 (List.map zl (v8.Recs.set (Int.toNat (IntKind.wrap .i64 (a2 - 1))) (zp.mk v13.Tx v13.Client v13.Req v13.State (v13.Shares.set (Int.toNat v15) (zb.mk v22.Group v22.Reads v22.Writes 1))))) true none)),(512,(.vars 2 [.zs,.zs])),(640,(.vars 2 [(.sl 320064 0 v8.Recs.length),.any]))] (lk [])) (zt [4928] (sR rfl rfl) (blR rfl) (BK.cons rfl (bR rfl) rfl rfl (BK.cons rfl (bR rfl) rfl rfl (BK.cons rfl (bR rfl) rfl rfl (BK.cons rfl bZ rfl (by first|rfl|simp) BK.nil)))) GK.nil) (yh 1153 320128 rfl rfl (nR rfl) GR.nil)) (yh 1152 320064 rfl rfl (nR rfl) GR.nil))⟩))))))))))
     ·refine zi eZ (cN (nt h20)) (aS (zK (zh (za rfl (zj (zh (Y6 eZ (zj (zh (ze (m:=4) eZ rfl (zj (zeQ (n:=1152) (f:=zl) (f':=zd) (i:=(Int.toNat (IntKind.wrap .i64 (a2 - 1)))) (j:=4) (t:=v13) (ys:=v13.Shares) (e:=fun pw30=>[(.int .i64 v13.Tx),(.int .i64 v13.Client),(.int .i64 v13.Req),(.int .i64 v13.State),(.both pw30 (.sl 4 (List.map zd v13.Shares)))]) (bR rfl) (qi h14) rfl (fun _=>rfl) ?_))))))))))))
      intro pw30
      refine zh (zbI (t:=[(.int .i64 v13.Tx),(.int .i64 v13.Client),(.int .i64 v13.Req),(.int .i64 v13.State),(.both pw30 (.sl 4 (List.map zd v13.Shares)))]) (e:=(.both pw30 (.sl 4 (List.map zd v13.Shares)))) eZ bZ (KP (qi h14)) rfl rfl (zj (zh (za rfl (zj ?_)))))
      obtain⟨v31,h32,H⟩:=zo H
      refine kd (n:=1152) (f:=zl) (f':=zd) (i:=(Int.toNat (IntKind.wrap .i64 (a2 - 1)))) (j:=4) (t:=v13) (ys:=v13.Shares) (u:=v31) (u':=(zb.mk v31.Group v31.Reads v31.Writes 2)) (e:=[(.int .i64 v13.Tx),(.int .i64 v13.Client),(.int .i64 v13.Req),(.int .i64 v13.State),(.both pw30 (.sl 4 (List.map zd v13.Shares)))]) (e':=[(.int .i64 v13.Tx),(.int .i64 v13.Client),(.int .i64 v13.Req),(.int .i64 v13.State),(.both pw30 (.sl 4 (List.map zd (v13.Shares.set (Int.toNat v15) (zb.mk v31.Group v31.Reads v31.Writes 2)))))]) (c:=(.int .i64 2)) rfl eZ h32 bZ (qi h14) rfl rfl eC rfl rfl rfl (erL.cons (v':=(.one .any)) rfl (erL.cons (v':=(.one .any)) rfl (erL.cons (v':=(oI v15)) rfl (erL.cons (v':=(.one .any)) rfl (erL.cons (v':=(.one (.ptr (.nm 1152 (Int.toNat (IntKind.wrap .i64 (a2 - 1))) 4)))) rfl (erL.cons (v':=(.one (.ptr (.nm 1152 (Int.toNat (IntKind.wrap .i64 (a2 - 1))) 0)))) rfl (erL.cons (v':=(.one (.ptr (.nm 1152 (Int.toNat (IntKind.wrap .i64 (a2 - 1))) 0)))) rfl (erL.cons (v':=(oB (!a4))) rfl (erL.cons (v':=(oB a4)) rfl (erL.cons (v':=(oI a2)) rfl (erL.cons (v':=(oB a4)) rfl (erL.cons (v':=(.one (.ptr (.nm 512 0 0)))) rfl (erL.cons (v':=(.one (.ptr (.nm 640 0 0)))) rfl (erL.cons (v':=(.one (.ptr (.nm 1152 (Int.toNat (IntKind.wrap .i64 (a2 - 1))) 0)))) rfl (erL.cons (v':=(oI v15)) rfl (erL.cons (v':=(oB t17)) rfl erL.nil)))))))))))))))) (erH.cons (v':=(.data 5 (List.map kE ((List.map zl v8.Recs).set (Int.toNat (IntKind.wrap .i64 (a2 - 1))) [(.int .i64 v13.Tx),(.int .i64 v13.Client),(.int .i64 v13.Req),(.int .i64 v13.State),(.both pw30 (.sl 4 (List.map zd v13.Shares)))])) true none)) rfl rfl (erH.cons (v':=(.vars 2 [.zs,.zs])) rfl rfl (erH.cons (v':=(.vars 2 [(.sl 1152 0 v8.Recs.length),(.sl 1153 0 v8.Order.length)])) rfl rfl (erH.cons (v':=(.data 5 (List.map zl v8.Recs) true none)) rfl rfl (erH.cons (v':=(.data 1 (List.map zA v8.Order) true none)) rfl rfl erH.nil))))) erL.nil (JT (xB (n:=1152) (f:=zl) (t:=v13) (t':=(zp.mk v13.Tx v13.Client v13.Req v13.State (v13.Shares.set (Int.toNat v15) (zb.mk v31.Group v31.Reads v31.Writes 2)))) (j:=4) bZ (qi h14) rfl rfl rfl) (zR (xQ (AW.weaken (zt [] (kr 8 rfl rfl (kr 10 rfl rfl (kr 11 rfl rfl SL.nil))) (blR rfl) (BK.cons (n:=1152) rfl bZ rfl rfl (BK.cons (n:=512) rfl (bR rfl) rfl rfl (BK.cons (n:=640) rfl (bR rfl) rfl rfl (BK.cons (n:=1153) rfl (bR rfl) rfl rfl BK.nil)))) GK.nil) (aS (zK (zh (za rfl (zj (zh (Y6 eZ (zj (zh (ze (m:=3) eZ rfl (zj (zh (jZ (t:=(zp.mk v13.Tx v13.Client v13.Req v13.State (v13.Shares.set (Int.toNat v15) (zb.mk v31.Group v31.Reads v31.Writes 2)))) (t':=(zp.mk ((zp.mk v13.Tx v13.Client v13.Req v13.State (v13.Shares.set (Int.toNat v15) (zb.mk v31.Group v31.Reads v31.Writes 2))).Tx) ((zp.mk v13.Tx v13.Client v13.Req v13.State (v13.Shares.set (Int.toNat v15) (zb.mk v31.Group v31.Reads v31.Writes 2))).Client) ((zp.mk v13.Tx v13.Client v13.Req v13.State (v13.Shares.set (Int.toNat v15) (zb.mk v31.Group v31.Reads v31.Writes 2))).Req) 4 ((zp.mk v13.Tx v13.Client v13.Req v13.State (v13.Shares.set (Int.toNat v15) (zb.mk v31.Group v31.Reads v31.Writes 2))).Shares))) (es:=[(.int .i64 4)]) eZ eC rfl rfl bZ (zde (qi h14)) rfl rfl (zj (zR (xQ (aS (zK (zh (zZ (es:=[(.sl 1152 0 v8.Recs.length),(.sl 1153 0 v8.Order.length)]) rfl (bR rfl) rfl (zj (zh (zN (es:=[(.sl 1152 0 v8.Recs.length),(.sl 1153 0 v8.Order.length)]) rfl eZ rfl rfl (bR rfl) rfl (zj (zR (za eC (xQ (AW.ret (TQ.qr ?_)))))))))))))))))))))))))))))))))
      cases H
      exact jU (RL.cons (jD (es:=[(.sl 1152 0 v8.Recs.length),(.sl 1153 0 v8.Order.length)]) rfl bZ rfl) (VO.aggs (VOs.cons (jH (bR rfl) (by first|(simp;done)|(simp;omega)|omega|(simp only[List.length_map];omega)) rfl) (VOs.cons (VO.sl (bR rfl) lm (qq fun _=>rfl)) VOs.nil))) (RL.cons (RV.tmp eZ) (VO.flat rfl) RL.nil)) (by decide)
   ·refine aR (za rfl (Y6 eZ (ze (m:=3) eZ rfl (zjr (t:=v13) (e:=(.int .i64 v13.State)) eZ (bR rfl) (qi h14) rfl rfl (Za eZ eC (za eZ ?_))))))
    rcases zE H with⟨h33,H⟩|⟨h33,H⟩
    ·exact zf eZ (dT h33) rfl (zf rfl (dT h33) rfl (zL rfl (dT h33) eC (zj (TQ.qn ⟨true,H,(zt [] (sR rfl rfl) (blR rfl) (BK.cons rfl (bR rfl) rfl rfl (BK.cons rfl bZ rfl (by first|rfl|simp) (bkR rfl rfl rfl))) GK.nil)⟩))))
    ·exact gDo eZ (dF h33) (za rfl (gDo rfl (dF h33) (qJ eZ eC (zV rfl (dF h33) eZ (zj (TQ.qn ⟨(decide (v15 < 0)),H,(zt [] (sR rfl rfl) (blR rfl) (BK.cons rfl (bR rfl) rfl rfl (BK.cons rfl bZ rfl (by first|rfl|simp) (bkR rfl rfl rfl))) GK.nil)⟩))))))
  ·refine zi eZ (cN (nt h12)) (aS (zK (zh (zZ (es:=[(.sl 1152 0 v8.Recs.length),(.sl 1153 0 v8.Order.length)]) rfl bZ rfl (zj (zh (zN (es:=[(.sl 1152 0 v8.Recs.length),(.sl 1153 0 v8.Order.length)]) rfl eZ rfl rfl (bR rfl) rfl (zj (zR (za eC (xQ (AW.ret (TQ.qr ?_)))))))))))))
   cases H
   exact jU (RL.cons (jD (es:=[(.sl 1152 0 v8.Recs.length),(.sl 1153 0 v8.Order.length)]) rfl bZ rfl) (VO.aggs (VOs.cons (jH (bR rfl) lm rfl) (VOs.cons (VO.sl (bR rfl) lm (qq fun _=>rfl)) VOs.nil))) (RL.cons (RV.tmp eZ) (VO.flat rfl) RL.nil)) (by decide)
 ·refine zi eZ (cN (nt h7)) (aS (zK (zh (Kx (cs:=[.zs,.zs]) xC rfl (zj (zh (zN (es:=[.zs,.zs]) rfl eZ rfl rfl bZ rfl (zj (zR (za eC (xQ (AW.ret (TQ.qr ?_)))))))))))))
  cases H
  exact jU (RL.cons (jD (es:=[.zs,.zs]) rfl bZ rfl) (VO.aggs (VOs.cons VO.zs (VOs.cons VO.zs VOs.nil))) (RL.cons (RV.tmp eZ) (VO.flat rfl) RL.nil)) List.nodup_nil
theorem K0{a1:zC}{a2:zC}{r:Bool}(H:Zt a1 a2=some r):Fn Try.prog 186 (lent [(.agg (zx a1)),(.agg (zx a2))]) true [(.bool r)]:=by
 refine zr3 (fle rfl) ?_
 rw[zD]
 refine AW.weaken (zn [] (kv 0 (.agg [(dI a1.Lo),(dI a1.Hi)]) rfl rfl (kv 1 (.agg [(dI a2.Lo),(dI a2.Hi)]) rfl rfl SL.nil)) BL.nil BK.nil) ?_
 unfold Zt at H
 unfold zp7
 refine aV (yX (n:=128) (m:=2) (cs:=[(dI a1.Lo),(dI a1.Hi)]) rfl eZ rfl rfl nZ (yX (n:=192) (m:=2) (cs:=[(dI a2.Lo),(dI a2.Hi)]) rfl rfl rfl rfl (nR rfl) (za eC (xQ (aS (aV (ze (m:=0) rfl rfl (zm (q:=0) (c:=(dI a1.Lo)) eZ (bR rfl) rfl rfl (ze (m:=0) rfl rfl (zm (q:=0) (c:=(dI a2.Lo)) eZ bZ rfl rfl (Za rfl eZ (xQ ?_))))))))))))
 rcases zE H with⟨h3,H⟩|⟨h3,H⟩
 ·refine zi eZ (dT h3) (aV (za eC (xQ (AW.ret (TQ.qr ?_)))))
  cases H
  exact eE rfl rfl
 ·refine zg eZ (dF h3) (AW.skip (TQ.qn (aS (aV (ze (m:=1) rfl rfl (zm (q:=1) (c:=(dI a1.Hi)) eZ (bR rfl) rfl rfl (ze (m:=1) rfl rfl (zm (q:=1) (c:=(dI a2.Hi)) eZ bZ rfl rfl (Za rfl eZ (xQ ?_))))))))))
  rcases zE H with⟨h4,H⟩|⟨h4,H⟩
  ·refine zi eZ (dT h4) (aV (za eC (xQ (AW.weaken (zn [192,128] (kr 4 rfl rfl SL.nil) (blR rfl) BK.nil) (AW.ret (TQ.qr ?_))))))
   cases H
   exact eE rfl rfl
  ·refine zg eZ (dF h4) (AW.skip (TQ.qn (aV (za eC (xQ (AW.weaken (zn [192,128] (kr 4 rfl rfl SL.nil) (blR rfl) BK.nil) (AW.ret ?_)))))))
   cases H
   exact eE rfl rfl
theorem Ki{a1:(List zC)}{a2:(List zC)}{r:Bool}(H:y4 a1 a2=some r):Fn Try.prog 181 (lent [(.sl 2 (List.map zx a1)),(.sl 2 (List.map zx a2))]) true [(.bool r)]:=by
 refine zsP (fle rfl) ?_
 rw[zD]
 refine AW.weaken (zn [] (kv 0 (.one (.d (.sl 2 (List.map zx a1)))) rfl rfl (kv 1 (.one (.d (.sl 2 (List.map zx a2)))) rfl rfl SL.nil)) BL.nil BK.nil) ?_
 unfold y4 at H
 unfold zm3
 refine aV (za eC (xQ (aS (aV (za rfl (zX eZ (n:=a1.length) lm (za rfl (zX eZ (n:=a2.length) lm (Za rfl eZ (xQ ?_))))))))))
 rcases zE H with⟨h3,H⟩|⟨h3,H⟩
 ·refine zi eZ (dT h3) (aV (za eC (xQ (AW.ret (TQ.qr ?_)))))
  cases H
  exact eE rfl rfl
 ·refine zg eZ (dF h3) (AW.skip (TQ.qn (zJ (fun t4:Unit=>JE t4=some r) (fun t4=>mk [] [] noG) ?_ ?_)))
  ·intro t4 H
   unfold JE at H
   refine aV (za eC (xQ (AW.ret ?_)))
   cases H
   exact eE rfl rfl
  ·refine aV (za eC (xQ (AW.block (AW.iter (fun s6:Int=>mk [(0,(.one (.d (.sl 2 (List.map zx a1))))),(1,(.one (.d (.sl 2 (List.map zx a2))))),(5,(oI s6))] [] noG) H (zn [] (sR rfl rfl) BL.nil BK.nil) ?_))))
   intro kb7 s6 H
   unfold Z7 at H
   refine aS (aV (za rfl (za rfl (zX eZ (n:=a1.length) lm (qJ rfl eZ (xQ ?_))))))
   rcases zE H with⟨h8,H⟩|⟨h8,H⟩
   ·refine zi eZ (dT h8) (AW.skip (TQ.qn (aS (AW.block (aS (AW.regd (za rfl (za rfl ?_))))))))
    obtain⟨v9,h10,H⟩:=zo H
    refine je rfl eZ h10 (qG (es:=[(dI v9.Lo),(dI v9.Hi)]) eZ rfl (za rfl (za rfl ?_)))
    obtain⟨v11,h12,H⟩:=zo H
    refine je rfl eZ h12 (qG (es:=[(dI v11.Lo),(dI v11.Hi)]) eZ rfl ?_)
    obtain⟨v13,h14,H⟩:=zo H
    refine zM (u:=(oB v13)) eC Cl.fn (K0 h14) (Ec rfl (Ec eZ En)) (Vc (VD.agg rfl) (Vc (VD.agg rfl) Vn)) rfl (jE eZ (xQ (AW.weaken (zn [] (kr 26 rfl rfl (kr 0 rfl rfl (kr 1 rfl rfl (kr 5 rfl rfl SL.nil)))) BL.nil BK.nil) ?_)))
    rcases zE H with⟨h15,H⟩|⟨h15,H⟩
    ·exact zg eZ (cN h15) (AW.skip (BQ.qn (TQ.qn (aR (za rfl (qE eZ eC (za eZ (zj (TQ.qn ⟨(IntKind.wrap .i64 (s6+1)),H,(zn [] (sR rfl rfl) BL.nil BK.nil)⟩)))))))))
    ·refine zi eZ (cN (nt h15)) (aV (za eC (xQ (AW.ret (BQ.qr (TQ.qr (TQ.qr (BQ.qr (TQ.qr ?_)))))))))
     cases H
     exact eE rfl rfl
   ·exact zg eZ (dF h8) (AW.exit (TQ.qe (TQ.qe (BQ.qe (TQ.qn ⟨(),H,(zn [] SL.nil BL.nil BK.nil)⟩)))))
theorem zat{a1:zO}{a2:zO}{r:Bool}(H:Zp a1 a2=some r):Fn Try.prog 187 (lent [(.agg (zG a1)),(.agg (zG a2))]) true [(.bool r)]:=by
 refine zsi (fle rfl) ?_
 rw[zD]
 refine AW.weaken (zn [] (kv 0 (.agg [(dI a1.Key),(dI a1.Value)]) rfl rfl (kv 1 (.agg [(dI a2.Key),(dI a2.Value)]) rfl rfl SL.nil)) BL.nil BK.nil) ?_
 unfold Zp at H
 unfold zmp
 refine aV (yX (n:=128) (m:=2) (cs:=[(dI a1.Key),(dI a1.Value)]) rfl eZ rfl rfl nZ (yX (n:=192) (m:=2) (cs:=[(dI a2.Key),(dI a2.Value)]) rfl rfl rfl rfl (nR rfl) (za eC (xQ (aS (aV (ze (m:=0) rfl rfl (zm (q:=0) (c:=(dI a1.Key)) eZ (bR rfl) rfl rfl (ze (m:=0) rfl rfl (zm (q:=0) (c:=(dI a2.Key)) eZ bZ rfl rfl (Za rfl eZ (xQ ?_))))))))))))
 rcases zE H with⟨h3,H⟩|⟨h3,H⟩
 ·refine zi eZ (dT h3) (aV (za eC (xQ (AW.ret (TQ.qr ?_)))))
  cases H
  exact eE rfl rfl
 ·refine zg eZ (dF h3) (AW.skip (TQ.qn (aS (aV (ze (m:=1) rfl rfl (zm (q:=1) (c:=(dI a1.Value)) eZ (bR rfl) rfl rfl (ze (m:=1) rfl rfl (zm (q:=1) (c:=(dI a2.Value)) eZ bZ rfl rfl (Za rfl eZ (xQ ?_))))))))))
  rcases zE H with⟨h4,H⟩|⟨h4,H⟩
  ·refine zi eZ (dT h4) (aV (za eC (xQ (AW.weaken (zn [192,128] (kr 4 rfl rfl SL.nil) (blR rfl) BK.nil) (AW.ret (TQ.qr ?_))))))
   cases H
   exact eE rfl rfl
  ·refine zg eZ (dF h4) (AW.skip (TQ.qn (aV (za eC (xQ (AW.weaken (zn [192,128] (kr 4 rfl rfl SL.nil) (blR rfl) BK.nil) (AW.ret ?_)))))))
   cases H
   exact eE rfl rfl
theorem X8{a1:(List zO)}{a2:(List zO)}{r:Bool}(H:y8 a1 a2=some r):Fn Try.prog 182 (lent [(.sl 2 (List.map zG a1)),(.sl 2 (List.map zG a2))]) true [(.bool r)]:=by
 refine zsQ (fle rfl) ?_
 rw[zD]
 refine AW.weaken (zn [] (kv 0 (.one (.d (.sl 2 (List.map zG a1)))) rfl rfl (kv 1 (.one (.d (.sl 2 (List.map zG a2)))) rfl rfl SL.nil)) BL.nil BK.nil) ?_
 unfold y8 at H
 unfold znc
 refine aV (za eC (xQ (aS (aV (za rfl (zX eZ (n:=a1.length) lm (za rfl (zX eZ (n:=a2.length) lm (Za rfl eZ (xQ ?_))))))))))
 rcases zE H with⟨h3,H⟩|⟨h3,H⟩
 ·refine zi eZ (dT h3) (aV (za eC (xQ (AW.ret (TQ.qr ?_)))))
  cases H
  exact eE rfl rfl
 ·refine zg eZ (dF h3) (AW.skip (TQ.qn (zJ (fun t4:Unit=>JB t4=some r) (fun t4=>mk [] [] noG) ?_ ?_)))
  ·intro t4 H
   unfold JB at H
   refine aV (za eC (xQ (AW.ret ?_)))
   cases H
   exact eE rfl rfl
  ·refine aV (za eC (xQ (AW.block (AW.iter (fun s6:Int=>mk [(0,(.one (.d (.sl 2 (List.map zG a1))))),(1,(.one (.d (.sl 2 (List.map zG a2))))),(5,(oI s6))] [] noG) H (zn [] (sR rfl rfl) BL.nil BK.nil) ?_))))
   intro kb7 s6 H
   unfold ZJ at H
   refine aS (aV (za rfl (za rfl (zX eZ (n:=a1.length) lm (qJ rfl eZ (xQ ?_))))))
   rcases zE H with⟨h8,H⟩|⟨h8,H⟩
   ·refine zi eZ (dT h8) (AW.skip (TQ.qn (aS (AW.block (aS (AW.regd (za rfl (za rfl ?_))))))))
    obtain⟨v9,h10,H⟩:=zo H
    refine je rfl eZ h10 (qG (es:=[(dI v9.Key),(dI v9.Value)]) eZ rfl (za rfl (za rfl ?_)))
    obtain⟨v11,h12,H⟩:=zo H
    refine je rfl eZ h12 (qG (es:=[(dI v11.Key),(dI v11.Value)]) eZ rfl ?_)
    obtain⟨v13,h14,H⟩:=zo H
    refine zM (u:=(oB v13)) eC Cl.fn (zat h14) (Ec rfl (Ec eZ En)) (Vc (VD.agg rfl) (Vc (VD.agg rfl) Vn)) rfl (jE eZ (xQ (AW.weaken (zn [] (kr 26 rfl rfl (kr 0 rfl rfl (kr 1 rfl rfl (kr 5 rfl rfl SL.nil)))) BL.nil BK.nil) ?_)))
    rcases zE H with⟨h15,H⟩|⟨h15,H⟩
    ·exact zg eZ (cN h15) (AW.skip (BQ.qn (TQ.qn (aR (za rfl (qE eZ eC (za eZ (zj (TQ.qn ⟨(IntKind.wrap .i64 (s6+1)),H,(zn [] (sR rfl rfl) BL.nil BK.nil)⟩)))))))))
    ·refine zi eZ (cN (nt h15)) (aV (za eC (xQ (AW.ret (BQ.qr (TQ.qr (TQ.qr (BQ.qr (TQ.qr ?_)))))))))
     cases H
     exact eE rfl rfl
   ·exact zg eZ (dF h8) (AW.exit (TQ.qe (TQ.qe (BQ.qe (TQ.qn ⟨(),H,(zn [] SL.nil BL.nil BK.nil)⟩)))))
theorem zac{a1:zb}{a2:zb}{r:Bool}(H:ZA a1 a2=some r):Fn Try.prog 173 (lent [(.agg (zd a1)),(.agg (zd a2))]) true [(.bool r)]:=by
 refine zsD (fle rfl) ?_
 rw[zD]
 refine AW.weaken (zn [] (kv 0 (.agg (ql a1)) rfl rfl (kv 1 (.agg (ql a2)) rfl rfl SL.nil)) BL.nil BK.nil) ?_
 unfold ZA at H
 unfold zoj
 refine aV (yX (n:=128) (m:=4) (cs:=(ql a1)) rfl eZ rfl rfl nZ (yX (n:=192) (m:=4) (cs:=(ql a2)) rfl rfl rfl rfl (nR rfl) (za eC (xQ (aS (aV (ze (m:=0) rfl rfl (zm (q:=0) (c:=(dI a1.Group)) eZ (bR rfl) rfl rfl (ze (m:=0) rfl rfl (zm (q:=0) (c:=(dI a2.Group)) eZ bZ rfl rfl (Za rfl eZ (xQ ?_))))))))))))
 rcases zE H with⟨h3,H⟩|⟨h3,H⟩
 ·refine zi eZ (dT h3) (aV (za eC (xQ (AW.ret (TQ.qr ?_)))))
  cases H
  exact eE rfl rfl
 ·refine zg eZ (dF h3) (AW.skip (TQ.qn (aS (aV (ze (m:=1) rfl rfl (zm (q:=1) (c:=(.d (.sl 2 (List.map zx a1.Reads)))) eZ (bR rfl) rfl rfl (ze (m:=1) rfl rfl (zm (q:=1) (c:=(.d (.sl 2 (List.map zx a2.Reads)))) eZ bZ rfl rfl ?_))))))))
  obtain⟨v4,h5,H⟩:=zo H
  refine zM (u:=(oB v4)) eC Cl.fn (Ki h5) (Ec rfl (Ec eZ En)) (Vc Vp (Vc Vp Vn)) rfl (jE eZ (xQ (AW.weaken (zn [] (kr 15 rfl rfl (kr 3 rfl rfl (kr 2 rfl rfl SL.nil))) (blR rfl) (BK.cons (n:=192) rfl bZ rfl rfl (BK.cons (n:=128) rfl (bR rfl) rfl rfl BK.nil))) ?_)))
  rcases zE H with⟨h6,H⟩|⟨h6,H⟩
  ·refine zg eZ (cN h6) (AW.skip (TQ.qn (aS (aV (ze (m:=2) rfl rfl (zm (q:=2) (c:=(.d (.sl 2 (List.map zG a1.Writes)))) eZ (bR rfl) rfl rfl (ze (m:=2) rfl rfl (zm (q:=2) (c:=(.d (.sl 2 (List.map zG a2.Writes)))) eZ bZ rfl rfl ?_))))))))
   obtain⟨v7,h8,H⟩:=zo H
   refine zM (u:=(oB v7)) eC Cl.fn (X8 h8) (Ec rfl (Ec eZ En)) (Vc Vp (Vc Vp Vn)) rfl (jE eZ (xQ ?_))
   rcases zE H with⟨h9,H⟩|⟨h9,H⟩
   ·refine zg eZ (cN h9) (AW.skip (TQ.qn (aS (aV (ze (m:=3) rfl rfl (zm (q:=3) (c:=(dI a1.Vote)) eZ (bR rfl) rfl rfl (ze (m:=3) rfl rfl (zm (q:=3) (c:=(dI a2.Vote)) eZ bZ rfl rfl (Za rfl eZ (xQ ?_))))))))))
    rcases zE H with⟨h10,H⟩|⟨h10,H⟩
    ·refine zi eZ (dT h10) (aV (za eC (xQ (AW.ret (TQ.qr ?_)))))
     cases H
     exact eE rfl rfl
    ·refine zg eZ (dF h10) (AW.skip (TQ.qn (aV (za eC (xQ (AW.ret ?_))))))
     cases H
     exact eE rfl rfl
   ·refine zi eZ (cN (nt h9)) (aV (za eC (xQ (AW.ret (TQ.qr ?_)))))
    cases H
    exact eE rfl rfl
  ·refine zi eZ (cN (nt h6)) (aV (za eC (xQ (AW.ret (TQ.qr ?_)))))
   cases H
   exact eE rfl rfl
theorem Kc{a1:(List zb)}{a2:(List zb)}{r:Bool}(H:yZ a1 a2=some r):Fn Try.prog 152 (lent [(.sl 4 (List.map zd a1)),(.sl 4 (List.map zd a2))]) true [(.bool r)]:=by
 refine zsf (fle rfl) ?_
 rw[zD]
 refine AW.weaken (zn [] (kv 0 (.one (.d (.sl 4 (List.map zd a1)))) rfl rfl (kv 1 (.one (.d (.sl 4 (List.map zd a2)))) rfl rfl SL.nil)) BL.nil BK.nil) ?_
 unfold yZ at H
 unfold zrD
 refine aV (za eC (xQ (aS (aV (za rfl (zX eZ (n:=a1.length) lm (za rfl (zX eZ (n:=a2.length) lm (Za rfl eZ (xQ ?_))))))))))
 rcases zE H with⟨h3,H⟩|⟨h3,H⟩
 ·refine zi eZ (dT h3) (aV (za eC (xQ (AW.ret (TQ.qr ?_)))))
  cases H
  exact eE rfl rfl
 ·refine zg eZ (dF h3) (AW.skip (TQ.qn (zJ (fun t4:Unit=>JC t4=some r) (fun t4=>mk [] [] noG) ?_ ?_)))
  ·intro t4 H
   unfold JC at H
   refine aV (za eC (xQ (AW.ret ?_)))
   cases H
   exact eE rfl rfl
  ·refine aV (za eC (xQ (AW.block (AW.iter (fun s6:Int=>mk [(0,(.one (.d (.sl 4 (List.map zd a1))))),(1,(.one (.d (.sl 4 (List.map zd a2))))),(5,(oI s6))] [] noG) H (zn [] (sR rfl rfl) BL.nil BK.nil) ?_))))
   intro kb7 s6 H
   unfold ZT at H
   refine aS (aV (za rfl (za rfl (zX eZ (n:=a1.length) lm (qJ rfl eZ (xQ ?_))))))
   rcases zE H with⟨h8,H⟩|⟨h8,H⟩
   ·refine zi eZ (dT h8) (AW.skip (TQ.qn (aS (AW.block (aS (AW.regd (za rfl (za rfl ?_))))))))
    obtain⟨v9,h10,H⟩:=zo H
    refine je rfl eZ h10 (qG (es:=(ql v9)) eZ rfl (za rfl (za rfl ?_)))
    obtain⟨v11,h12,H⟩:=zo H
    refine je rfl eZ h12 (qG (es:=(ql v11)) eZ rfl ?_)
    obtain⟨v13,h14,H⟩:=zo H
    refine zM (u:=(oB v13)) eC Cl.fn (zac h14) (Ec rfl (Ec eZ En)) (Vc (VD.agg rfl) (Vc (VD.agg rfl) Vn)) rfl (jE eZ (xQ (AW.weaken (zn [] (kr 26 rfl rfl (kr 0 rfl rfl (kr 1 rfl rfl (kr 5 rfl rfl SL.nil)))) BL.nil BK.nil) ?_)))
    rcases zE H with⟨h15,H⟩|⟨h15,H⟩
    ·exact zg eZ (cN h15) (AW.skip (BQ.qn (TQ.qn (aR (za rfl (qE eZ eC (za eZ (zj (TQ.qn ⟨(IntKind.wrap .i64 (s6+1)),H,(zn [] (sR rfl rfl) BL.nil BK.nil)⟩)))))))))
    ·refine zi eZ (cN (nt h15)) (aV (za eC (xQ (AW.ret (BQ.qr (TQ.qr (TQ.qr (BQ.qr (TQ.qr ?_)))))))))
     cases H
     exact eE rfl rfl
   ·exact zg eZ (dF h8) (AW.exit (TQ.qe (TQ.qe (BQ.qe (TQ.qn ⟨(),H,(zn [] SL.nil BL.nil BK.nil)⟩)))))
theorem zbP{a1:zp}{a2:zp}{r:Bool}(H:Jl a1 a2=some r):Fn Try.prog 124 (lent [(.agg (zl a1)),(.agg (zl a2))]) true [(.bool r)]:=by
 refine zse (fle rfl) ?_
 rw[zD]
 refine AW.weaken (zn [] (kv 0 (.agg (jc a1)) rfl rfl (kv 1 (.agg (jc a2)) rfl rfl SL.nil)) BL.nil BK.nil) ?_
 unfold Jl at H
 unfold zmR
 refine aV (yX (n:=128) (m:=5) (cs:=(jc a1)) rfl eZ rfl rfl nZ (yX (n:=192) (m:=5) (cs:=(jc a2)) rfl rfl rfl rfl (nR rfl) (za eC (xQ (aS (aV (ze (m:=0) rfl rfl (zm (q:=0) (c:=(dI a1.Tx)) eZ (bR rfl) rfl rfl (ze (m:=0) rfl rfl (zm (q:=0) (c:=(dI a2.Tx)) eZ bZ rfl rfl (Za rfl eZ (xQ ?_))))))))))))
 rcases zE H with⟨h3,H⟩|⟨h3,H⟩
 ·refine zi eZ (dT h3) (aV (za eC (xQ (AW.ret (TQ.qr ?_)))))
  cases H
  exact eE rfl rfl
 ·refine zg eZ (dF h3) (AW.skip (TQ.qn (aS (aV (ze (m:=1) rfl rfl (zm (q:=1) (c:=(dI a1.Client)) eZ (bR rfl) rfl rfl (ze (m:=1) rfl rfl (zm (q:=1) (c:=(dI a2.Client)) eZ bZ rfl rfl (Za rfl eZ (xQ ?_))))))))))
  rcases zE H with⟨h4,H⟩|⟨h4,H⟩
  ·refine zi eZ (dT h4) (aV (za eC (xQ (AW.weaken (zn [192,128] (kr 4 rfl rfl SL.nil) (blR rfl) BK.nil) (AW.ret (TQ.qr ?_))))))
   cases H
   exact eE rfl rfl
  ·refine zg eZ (dF h4) (AW.skip (TQ.qn (aS (aV (ze (m:=2) rfl rfl (zm (q:=2) (c:=(dI a1.Req)) eZ (bR rfl) rfl rfl (ze (m:=2) rfl rfl (zm (q:=2) (c:=(dI a2.Req)) eZ bZ rfl rfl (Za rfl eZ (xQ (AW.weaken (zn [] (kr 19 rfl rfl (kr 3 rfl rfl (kr 2 rfl rfl SL.nil))) (blR rfl) (BK.cons (n:=192) rfl bZ rfl rfl (BK.cons (n:=128) rfl (bR rfl) rfl rfl BK.nil))) ?_)))))))))))
   rcases zE H with⟨h5,H⟩|⟨h5,H⟩
   ·refine zi eZ (dT h5) (aV (za eC (xQ (AW.ret (TQ.qr ?_)))))
    cases H
    exact eE rfl rfl
   ·refine zg eZ (dF h5) (AW.skip (TQ.qn (aS (aV (ze (m:=3) rfl rfl (zm (q:=3) (c:=(dI a1.State)) eZ (bR rfl) rfl rfl (ze (m:=3) rfl rfl (zm (q:=3) (c:=(dI a2.State)) eZ bZ rfl rfl (Za rfl eZ (xQ ?_))))))))))
    rcases zE H with⟨h6,H⟩|⟨h6,H⟩
    ·refine zi eZ (dT h6) (aV (za eC (xQ (AW.ret (TQ.qr ?_)))))
     cases H
     exact eE rfl rfl
    ·refine zg eZ (dF h6) (AW.skip (TQ.qn (aS (aV (ze (m:=4) rfl rfl (zm (q:=4) (c:=(.d (.sl 4 (List.map zd a1.Shares)))) eZ (bR rfl) rfl rfl (ze (m:=4) rfl rfl (zm (q:=4) (c:=(.d (.sl 4 (List.map zd a2.Shares)))) eZ bZ rfl rfl ?_))))))))
     obtain⟨v7,h8,H⟩:=zo H
     refine zM (u:=(oB v7)) eC Cl.fn (Kc h8) (Ec rfl (Ec eZ En)) (Vc Vp (Vc Vp Vn)) rfl (jE eZ (xQ ?_))
     rcases zE H with⟨h9,H⟩|⟨h9,H⟩
     ·refine zg eZ (cN h9) (AW.skip (TQ.qn (aV (za eC (xQ (AW.ret ?_))))))
      cases H
      exact eE rfl rfl
     ·refine zi eZ (cN (nt h9)) (aV (za eC (xQ (AW.ret (TQ.qr ?_)))))
      cases H
      exact eE rfl rfl
theorem zaP{a1:(List zp)}{a2:(List zp)}{r:Bool}(H:Qn a1 a2=some r):Fn Try.prog 91 (lent [(.sl 5 (List.map zl a1)),(.sl 5 (List.map zl a2))]) true [(.bool r)]:=by
 refine f91 (fle rfl) ?_
 rw[zD]
 refine AW.weaken (zn [] (kv 0 (.one (.d (.sl 5 (List.map zl a1)))) rfl rfl (kv 1 (.one (.d (.sl 5 (List.map zl a2)))) rfl rfl SL.nil)) BL.nil BK.nil) ?_
 unfold Qn at H
 unfold i91
 refine aV (za eC (xQ (aS (aV (za rfl (zX eZ (n:=a1.length) lm (za rfl (zX eZ (n:=a2.length) lm (Za rfl eZ (xQ ?_))))))))))
 rcases zE H with⟨h3,H⟩|⟨h3,H⟩
 ·refine zi eZ (dT h3) (aV (za eC (xQ (AW.ret (TQ.qr ?_)))))
  cases H
  exact eE rfl rfl
 ·refine zg eZ (dF h3) (AW.skip (TQ.qn (zJ (fun t4:Unit=>Yl t4=some r) (fun t4=>mk [] [] noG) ?_ ?_)))
  ·intro t4 H
   unfold Yl at H
   refine aV (za eC (xQ (AW.ret ?_)))
   cases H
   exact eE rfl rfl
  ·refine aV (za eC (xQ (AW.block (AW.iter (fun s6:Int=>mk [(0,(.one (.d (.sl 5 (List.map zl a1))))),(1,(.one (.d (.sl 5 (List.map zl a2))))),(5,(oI s6))] [] noG) H (zn [] (sR rfl rfl) BL.nil BK.nil) ?_))))
   intro kb7 s6 H
   unfold Q0 at H
   refine aS (aV (za rfl (za rfl (zX eZ (n:=a1.length) lm (qJ rfl eZ (xQ ?_))))))
   rcases zE H with⟨h8,H⟩|⟨h8,H⟩
   ·refine zi eZ (dT h8) (AW.skip (TQ.qn (aS (AW.block (aS (AW.regd (za rfl (za rfl ?_))))))))
    obtain⟨v9,h10,H⟩:=zo H
    refine je rfl eZ h10 (qG (es:=(jc v9)) eZ rfl (za rfl (za rfl ?_)))
    obtain⟨v11,h12,H⟩:=zo H
    refine je rfl eZ h12 (qG (es:=(jc v11)) eZ rfl ?_)
    obtain⟨v13,h14,H⟩:=zo H
    refine zM (u:=(oB v13)) eC Cl.fn (zbP h14) (Ec rfl (Ec eZ En)) (Vc (VD.agg rfl) (Vc (VD.agg rfl) Vn)) rfl (jE eZ (xQ (AW.weaken (zn [] (kr 26 rfl rfl (kr 0 rfl rfl (kr 1 rfl rfl (kr 5 rfl rfl SL.nil)))) BL.nil BK.nil) ?_)))
    rcases zE H with⟨h15,H⟩|⟨h15,H⟩
    ·exact zg eZ (cN h15) (AW.skip (BQ.qn (TQ.qn (aR (za rfl (qE eZ eC (za eZ (zj (TQ.qn ⟨(IntKind.wrap .i64 (s6+1)),H,(zn [] (sR rfl rfl) BL.nil BK.nil)⟩)))))))))
    ·refine zi eZ (cN (nt h15)) (aV (za eC (xQ (AW.ret (BQ.qr (TQ.qr (TQ.qr (BQ.qr (TQ.qr ?_)))))))))
     cases H
     exact eE rfl rfl
   ·exact zg eZ (dF h8) (AW.exit (TQ.qe (TQ.qe (BQ.qe (TQ.qn ⟨(),H,(zn [] SL.nil BL.nil BK.nil)⟩)))))
theorem zaH{a1:(List Int)}{a2:(List Int)}{r:Bool}(H:Qu a1 a2=some r):Fn Try.prog 92 (lent [(.sl 1 (List.map zA a1)),(.sl 1 (List.map zA a2))]) true [(.bool r)]:=by
 refine f92 (fle rfl) ?_
 rw[zD]
 refine AW.weaken (zn [] (kv 0 (.one (.d (.sl 1 (List.map zA a1)))) rfl rfl (kv 1 (.one (.d (.sl 1 (List.map zA a2)))) rfl rfl SL.nil)) BL.nil BK.nil) ?_
 unfold Qu at H
 unfold i92
 refine aV (za eC (xQ (aS (aV (za rfl (zX eZ (n:=a1.length) lm (za rfl (zX eZ (n:=a2.length) lm (Za rfl eZ (xQ ?_))))))))))
 rcases zE H with⟨h3,H⟩|⟨h3,H⟩
 ·refine zi eZ (dT h3) (aV (za eC (xQ (AW.ret (TQ.qr ?_)))))
  cases H
  exact eE rfl rfl
 ·refine zg eZ (dF h3) (AW.skip (TQ.qn (zJ (fun t4:Unit=>Ys t4=some r) (fun t4=>mk [] [] noG) ?_ ?_)))
  ·intro t4 H
   unfold Ys at H
   refine aV (za eC (xQ (AW.ret ?_)))
   cases H
   exact eE rfl rfl
  ·refine aV (za eC (xQ (AW.block (AW.iter (fun s6:Int=>mk [(0,(.one (.d (.sl 1 (List.map zA a1))))),(1,(.one (.d (.sl 1 (List.map zA a2))))),(5,(oI s6))] [] noG) H (zn [] (sR rfl rfl) BL.nil BK.nil) ?_))))
   intro kb7 s6 H
   unfold QZ at H
   refine aS (aV (za rfl (za rfl (zX eZ (n:=a1.length) lm (qJ rfl eZ (xQ ?_))))))
   rcases zE H with⟨h8,H⟩|⟨h8,H⟩
   ·refine zi eZ (dT h8) (AW.skip (TQ.qn (aS (AW.block (aS (AW.regd (za rfl (za rfl ?_))))))))
    obtain⟨v9,h10,H⟩:=zo H
    refine je rfl eZ h10 (qC (e:=(.int .i64 v9)) eZ rfl (za rfl (za rfl ?_)))
    obtain⟨v11,h12,H⟩:=zo H
    refine je rfl eZ h12 (qC (e:=(.int .i64 v11)) eZ rfl (Za rfl eZ (xQ (AW.weaken (zn [] (kr 25 rfl rfl (kr 0 rfl rfl (kr 1 rfl rfl (kr 5 rfl rfl SL.nil)))) BL.nil BK.nil) ?_))))
    rcases zE H with⟨h13,H⟩|⟨h13,H⟩
    ·refine zi eZ (dT h13) (aV (za eC (xQ (AW.ret (BQ.qr (TQ.qr (TQ.qr (BQ.qr (TQ.qr ?_)))))))))
     cases H
     exact eE rfl rfl
    ·exact zg eZ (dF h13) (AW.skip (BQ.qn (TQ.qn (aR (za rfl (qE eZ eC (za eZ (zj (TQ.qn ⟨(IntKind.wrap .i64 (s6+1)),H,(zn [] (sR rfl rfl) BL.nil BK.nil)⟩)))))))))
   ·exact zg eZ (dF h8) (AW.exit (TQ.qe (TQ.qe (BQ.qe (TQ.qn ⟨(),H,(zn [] SL.nil BL.nil BK.nil)⟩)))))
theorem Jk{a1:zw}{a2:zw}{r:Bool}(H:qU a1 a2=some r):Fn Try.prog 35 (lent [(.agg (qL a1)),(.agg (qL a2))]) true [(.bool r)]:=by
 refine f35 (fle rfl) ?_
 rw[zD]
 refine AW.weaken (zn [] (kv 0 (.agg (zH a1)) rfl rfl (kv 1 (.agg (zH a2)) rfl rfl SL.nil)) BL.nil BK.nil) ?_
 unfold qU at H
 unfold i35
 refine aV (yX (n:=128) (m:=2) (cs:=(zH a1)) rfl eZ rfl rfl nZ (yX (n:=192) (m:=2) (cs:=(zH a2)) rfl rfl rfl rfl (nR rfl) (za eC (xQ (aS (aV (ze (m:=0) rfl rfl (zm (q:=0) (c:=(.d (.sl 5 (List.map zl a1.Recs)))) eZ (bR rfl) rfl rfl (ze (m:=0) rfl rfl (zm (q:=0) (c:=(.d (.sl 5 (List.map zl a2.Recs)))) eZ bZ rfl rfl ?_))))))))))
 obtain⟨v3,h4,H⟩:=zo H
 refine zM (u:=(oB v3)) eC Cl.fn (zaP h4) (Ec rfl (Ec eZ En)) (Vc Vp (Vc Vp Vn)) rfl (jE eZ (xQ ?_))
 rcases zE H with⟨h5,H⟩|⟨h5,H⟩
 ·refine zg eZ (cN h5) (AW.skip (TQ.qn (aS (aV (ze (m:=1) rfl rfl (zm (q:=1) (c:=(.d (.sl 1 (List.map zA a1.Order)))) eZ (bR rfl) rfl rfl (ze (m:=1) rfl rfl (zm (q:=1) (c:=(.d (.sl 1 (List.map zA a2.Order)))) eZ bZ rfl rfl ?_))))))))
  obtain⟨v6,h7,H⟩:=zo H
  refine zM (u:=(oB v6)) eC Cl.fn (zaH h7) (Ec rfl (Ec eZ En)) (Vc Vp (Vc Vp Vn)) rfl (jE eZ (xQ (AW.weaken (zn [192,128] (kr 16 rfl rfl SL.nil) (blR rfl) BK.nil) ?_)))
  rcases zE H with⟨h8,H⟩|⟨h8,H⟩
  ·refine zg eZ (cN h8) (AW.skip (TQ.qn (aV (za eC (xQ (AW.ret ?_))))))
   cases H
   exact eE rfl rfl
  ·refine zi eZ (cN (nt h8)) (aV (za eC (xQ (AW.ret (TQ.qr ?_)))))
   cases H
   exact eE rfl rfl
 ·refine zi eZ (cN (nt h5)) (aV (za eC (xQ (AW.ret (TQ.qr ?_)))))
  cases H
  exact eE rfl rfl
theorem k8{a1:(List zC)}{a2:Int}{r:(Int×(List zC))}(H:j7 a1 a2=some r):Fn Try.prog 153 [⟨(.sl 2 (List.map zx a1)),.m (.sl 2 (List.map zx r.2))⟩,⟨(.int .i64 a2),.b⟩] true [(.int .i64 r.1)]:=by
 refine zr9 (fle rfl) (fC nZ rfl fN) rfl ?_
 rw[YJ]
 refine AW.weaken (t:=mk [(0,(.one (.sl 0 0 a1.length))),(1,(oI a2))] [(0,(.data 2 (List.map zx a1) true none))] (lk [(0,(.one (.sl 0 0 ((List.map zx a1).length))))])) (zt (gl:=[(0,(.one (.sl 0 0 ((List.map zx a1).length))))]) [] (SL.cons (v:=(.one (.sl 0 0 a1.length))) eZ rfl (VWk.one (CWk.len lm)) (kv 1 (oI a2) rfl rfl SL.nil)) (blR rfl) (BK.cons (n:=0) rfl bZ rfl rfl BK.nil) (GK.cons rfl GK.nil)) ?_
 unfold j7 at H
 unfold zod
 refine aV (za eC (xQ (zJ (fun t3:((List zC)×Int)=>(yG a1) t3=some r) (fun t3=>mk [(1,(oI t3.2))] [(0,(.data 2 (List.map zx t3.1) true none))] (lk [(0,(.one (.sl 0 0 ((List.map zx a1).length))))])) ?_ ?_)))
 ·intro t3 H
  unfold yG at H
  refine aV (za eZ (za eZ (xQ (AW.ret ?_))))
  obtain⟨h5,H⟩:=jf H
  cases H
  exact XB (RL.cons (RV.tmp eZ) (VO.flat rfl) RL.nil) (ML.mut eZ (VO.sl bZ (by first|(simp;done)|(simp;omega)|omega|(simp only[List.length_map];omega)) (qq fun _=>rfl)) (ML.lent ML.nil)) (by decide)
 ·refine aV (za eC (xQ (AW.block (AW.iter (fun s6:((List zC)×Int×Int)=>mk [(0,(.one (.sl 0 0 s6.1.length))),(1,(oI s6.2.1)),(5,(oI s6.2.2))] [(0,(.data 2 (List.map zx s6.1) true none))] (lk [(0,(.one (.sl 0 0 ((List.map zx a1).length))))])) H (zt [] (sR rfl rfl) (blR rfl) (bkR rfl rfl rfl) (GK.cons rfl GK.nil)) ?_))))
  intro kb7 s6 H
  unfold yy at H
  refine aS (aV (za rfl (za rfl (zcx eZ (qJ rfl eZ (xQ ?_))))))
  rcases zE H with⟨h8,H⟩|⟨h8,H⟩
  ·refine zi eZ (dT h8) (AW.skip (TQ.qn (aS (AW.block (aV (za rfl (za rfl (za rfl ?_))))))))
   obtain⟨v9,h10,H⟩:=zo H
   refine Yh rfl rfl bZ rfl h10 (ze (m:=0) eZ rfl (jZ (t:=v9) (t':=(zC.mk s6.2.1 v9.Hi)) (es:=[(.int .i64 s6.2.1)]) eZ rfl rfl rfl bZ (qi h10) rfl rfl (xQ (aV (za rfl (qE eZ eC (za eZ (xQ (aV (za rfl (za rfl (za rfl ?_))))))))))))
   obtain⟨v11,h12,H⟩:=zo H
   exact Yh rfl rfl bZ (by first|(simp;done)|(simp;omega)|omega|(simp only[List.length_map];omega)) h12 (ze (m:=1) eZ rfl (jZ (t:=v11) (t':=(zC.mk v11.Lo (IntKind.wrap .i64 (s6.2.1+1)))) (es:=[(.int .i64 (IntKind.wrap .i64 (s6.2.1+1)))]) eZ rfl rfl rfl bZ (qi h12) rfl rfl (xQ (AW.weaken (zt [] (kr 1 rfl rfl (kr 0 rfl rfl (kr 5 rfl rfl SL.nil))) (blR rfl) (BK.cons (n:=0) rfl bZ rfl rfl BK.nil) (GK.cons rfl GK.nil)) (aR (za eZ (qE eZ eC (za eZ (zj (BQ.qn (TQ.qn (aR (za rfl (qE eZ eC (za eZ (zj (TQ.qn ⟨((s6.1.set (Int.toNat s6.2.2) (zC.mk s6.2.1 v9.Hi)).set (Int.toNat s6.2.2) (zC.mk v11.Lo (IntKind.wrap .i64 (s6.2.1+1))),(IntKind.wrap .i64 ((IntKind.wrap .i64 (s6.2.1+1))+1)),(IntKind.wrap .i64 (s6.2.2+1))),H,(zt [] (SL.cons rfl rfl (VWk.one (CWk.len (by first|(simp;done)|(simp;omega)|omega|(simp only[List.length_map];omega)))) (sR rfl rfl)) (blR rfl) (bkR rfl rfl rfl) (GK.cons rfl GK.nil))⟩)))))))))))))))))
  ·exact zg eZ (dF h8) (AW.exit (TQ.qe (TQ.qe (BQ.qe (TQ.qn ⟨(s6.1,s6.2.1),H,(zt [] (sR rfl rfl) (blR rfl) (bkR rfl rfl rfl) (GK.cons rfl GK.nil))⟩)))))
theorem k7{a1:(List zO)}{a2:Int}{r:(Int×(List zO))}(H:j9 a1 a2=some r):Fn Try.prog 154 [⟨(.sl 2 (List.map zG a1)),.m (.sl 2 (List.map zG r.2))⟩,⟨(.int .i64 a2),.b⟩] true [(.int .i64 r.1)]:=by
 refine zsd (fle rfl) (fC nZ rfl fN) rfl ?_
 rw[YJ]
 refine AW.weaken (t:=mk [(0,(.one (.sl 0 0 a1.length))),(1,(oI a2))] [(0,(.data 2 (List.map zG a1) true none))] (lk [(0,(.one (.sl 0 0 ((List.map zG a1).length))))])) (zt (gl:=[(0,(.one (.sl 0 0 ((List.map zG a1).length))))]) [] (SL.cons (v:=(.one (.sl 0 0 a1.length))) eZ rfl (VWk.one (CWk.len lm)) (kv 1 (oI a2) rfl rfl SL.nil)) (blR rfl) (BK.cons (n:=0) rfl bZ rfl rfl BK.nil) (GK.cons rfl GK.nil)) ?_
 unfold j9 at H
 unfold zm9
 refine aV (za eC (xQ (zJ (fun t3:((List zO)×Int)=>(yI a1) t3=some r) (fun t3=>mk [(1,(oI t3.2))] [(0,(.data 2 (List.map zG t3.1) true none))] (lk [(0,(.one (.sl 0 0 ((List.map zG a1).length))))])) ?_ ?_)))
 ·intro t3 H
  unfold yI at H
  refine aV (za eZ (za eZ (xQ (AW.ret ?_))))
  obtain⟨h5,H⟩:=jf H
  cases H
  exact XB (RL.cons (RV.tmp eZ) (VO.flat rfl) RL.nil) (ML.mut eZ (VO.sl bZ (by first|(simp;done)|(simp;omega)|omega|(simp only[List.length_map];omega)) (qq fun _=>rfl)) (ML.lent ML.nil)) (by decide)
 ·refine aV (za eC (xQ (AW.block (AW.iter (fun s6:((List zO)×Int×Int)=>mk [(0,(.one (.sl 0 0 s6.1.length))),(1,(oI s6.2.1)),(5,(oI s6.2.2))] [(0,(.data 2 (List.map zG s6.1) true none))] (lk [(0,(.one (.sl 0 0 ((List.map zG a1).length))))])) H (zt [] (sR rfl rfl) (blR rfl) (bkR rfl rfl rfl) (GK.cons rfl GK.nil)) ?_))))
  intro kb7 s6 H
  unfold yK at H
  refine aS (aV (za rfl (za rfl (zcx eZ (qJ rfl eZ (xQ ?_))))))
  rcases zE H with⟨h8,H⟩|⟨h8,H⟩
  ·refine zi eZ (dT h8) (AW.skip (TQ.qn (aS (AW.block (aV (za rfl (za rfl (za rfl ?_))))))))
   obtain⟨v9,h10,H⟩:=zo H
   refine Yh rfl rfl bZ rfl h10 (ze (m:=0) eZ rfl (jZ (t:=v9) (t':=(zO.mk s6.2.1 v9.Value)) (es:=[(.int .i64 s6.2.1)]) eZ rfl rfl rfl bZ (qi h10) rfl rfl (xQ (aV (za rfl (qE eZ eC (za eZ (xQ (aV (za rfl (za rfl (za rfl ?_))))))))))))
   obtain⟨v11,h12,H⟩:=zo H
   exact Yh rfl rfl bZ (by first|(simp;done)|(simp;omega)|omega|(simp only[List.length_map];omega)) h12 (ze (m:=1) eZ rfl (jZ (t:=v11) (t':=(zO.mk v11.Key (IntKind.wrap .i64 (s6.2.1+1)))) (es:=[(.int .i64 (IntKind.wrap .i64 (s6.2.1+1)))]) eZ rfl rfl rfl bZ (qi h12) rfl rfl (xQ (AW.weaken (zt [] (kr 1 rfl rfl (kr 0 rfl rfl (kr 5 rfl rfl SL.nil))) (blR rfl) (BK.cons (n:=0) rfl bZ rfl rfl BK.nil) (GK.cons rfl GK.nil)) (aR (za eZ (qE eZ eC (za eZ (zj (BQ.qn (TQ.qn (aR (za rfl (qE eZ eC (za eZ (zj (TQ.qn ⟨((s6.1.set (Int.toNat s6.2.2) (zO.mk s6.2.1 v9.Value)).set (Int.toNat s6.2.2) (zO.mk v11.Key (IntKind.wrap .i64 (s6.2.1+1))),(IntKind.wrap .i64 ((IntKind.wrap .i64 (s6.2.1+1))+1)),(IntKind.wrap .i64 (s6.2.2+1))),H,(zt [] (SL.cons rfl rfl (VWk.one (CWk.len (by first|(simp;done)|(simp;omega)|omega|(simp only[List.length_map];omega)))) (sR rfl rfl)) (blR rfl) (bkR rfl rfl rfl) (GK.cons rfl GK.nil))⟩)))))))))))))))))
  ·exact zg eZ (dF h8) (AW.exit (TQ.qe (TQ.qe (BQ.qe (TQ.qn ⟨(s6.1,s6.2.1),H,(zt [] (sR rfl rfl) (blR rfl) (bkR rfl rfl rfl) (GK.cons rfl GK.nil))⟩)))))
theorem kU{a1:(List zb)}{a2:Int}{r:(Int×(List zb))}(H:j6 a1 a2=some r):Fn Try.prog 125 [⟨(.sl 4 (List.map zd a1)),.m (.sl 4 (List.map zd r.2))⟩,⟨(.int .i64 a2),.b⟩] true [(.int .i64 r.1)]:=by
 refine zsB (fle rfl) (fC nZ rfl fN) rfl ?_
 rw[YJ]
 refine AW.weaken (t:=mk [(0,(.one (.sl 0 0 a1.length))),(1,(oI a2))] [(0,(.data 4 (List.map zd a1) true none))] (lk [(0,(.one (.sl 0 0 ((List.map zd a1).length))))])) (zt (gl:=[(0,(.one (.sl 0 0 ((List.map zd a1).length))))]) [] (SL.cons (v:=(.one (.sl 0 0 a1.length))) eZ rfl (VWk.one (CWk.len lm)) (kv 1 (oI a2) rfl rfl SL.nil)) (blR rfl) (BK.cons (n:=0) rfl bZ rfl rfl BK.nil) (GK.cons rfl GK.nil)) ?_
 unfold j6 at H
 unfold zqL
 refine aV (za eC (xQ (zJ (fun t3:((List zb)×Int)=>(yN a1) t3=some r) (fun t3=>mk [(1,(oI t3.2))] [(0,(.data 4 (List.map zd t3.1) true none))] (lk [(0,(.one (.sl 0 0 ((List.map zd a1).length))))])) ?_ ?_)))
 ·intro t3 H
  unfold yN at H
  refine aV (za eZ (za eZ (xQ (AW.ret ?_))))
  obtain⟨h5,H⟩:=jf H
  cases H
  exact XB (RL.cons (RV.tmp eZ) (VO.flat rfl) RL.nil) (ML.mut eZ (jH bZ (by first|(simp;done)|(simp;omega)|omega|(simp only[List.length_map];omega)) rfl) (ML.lent ML.nil)) (by decide)
 ·refine aV (za eC (xQ (AW.block (AW.iter (fun s6:((List zb)×Int×Int)=>mk [(0,(.one (.sl 0 0 s6.1.length))),(1,(oI s6.2.1)),(5,(oI s6.2.2))] [(0,(.data 4 (List.map zd s6.1) true none))] (lk [(0,(.one (.sl 0 0 ((List.map zd a1).length))))])) H (zt [] (sR rfl rfl) (blR rfl) (bkR rfl rfl rfl) (GK.cons rfl GK.nil)) ?_))))
  intro kb7 s6 H
  unfold yE at H
  refine aS (aV (za rfl (za rfl (zcx eZ (qJ rfl eZ (xQ ?_))))))
  rcases zE H with⟨h8,H⟩|⟨h8,H⟩
  ·refine zi eZ (dT h8) (AW.skip (TQ.qn (aS (AW.block (aV (za rfl (za rfl (za rfl ?_))))))))
   obtain⟨v9,h10,H⟩:=zo H
   refine Yh rfl rfl bZ rfl h10 (ze (m:=0) eZ rfl (jZ (t:=v9) (t':=(zb.mk s6.2.1 v9.Reads v9.Writes v9.Vote)) (es:=[(.int .i64 s6.2.1)]) eZ rfl rfl rfl bZ (qi h10) rfl rfl (xQ (aV (za rfl (qE eZ eC (za eZ (xQ (aS (zK (zh (za rfl (zj (zh (za rfl (zj (zh ?_)))))))))))))))))
   obtain⟨v11,h12,H⟩:=zo H
   refine Yh rfl eZ bZ (by first|(simp;done)|(simp;omega)|omega|(simp only[List.length_map];omega)) h12 (zj (zh (ze (m:=1) eZ rfl (zj ?_))))
   obtain⟨v13,h14,H⟩:=zo H
   refine zbr (f:=zd) (f':=zx) (t:=v11) (t':=(zb.mk v11.Group v13.2 v11.Writes v11.Vote)) (ys:=v11.Reads) (ys':=v13.2) eZ bZ (qi h12) rfl rfl rfl rfl rfl (k8 h14) rfl rfl (erL.cons (v':=(oI (IntKind.wrap .i64 (s6.2.1+1)))) rfl (erL.cons (v':=(.one .any)) rfl (erL.cons (v':=(.one (.ptr (.nm 0 (Int.toNat s6.2.2) 1)))) rfl (erL.cons (v':=(.one (.ptr (.nm 0 (Int.toNat s6.2.2) 0)))) rfl (erL.cons (v':=(oI s6.2.2)) rfl (erL.cons (v':=(.one (.sl 0 0 s6.1.length))) rfl (erL.cons (v':=(oI (IntKind.wrap .i64 (s6.2.1+1)))) rfl (erL.cons (v':=(oI (IntKind.wrap .i64 (s6.2.1+1)))) rfl (erL.cons (v':=(oI s6.2.1)) rfl (erL.cons (v':=(.one (.ptr (.nm 0 (Int.toNat s6.2.2) 0)))) rfl (erL.cons (v':=(.one (.ptr (.nm 0 (Int.toNat s6.2.2) 0)))) rfl (erL.cons (v':=(oI s6.2.1)) rfl (erL.cons (v':=(oI s6.2.2)) rfl (erL.cons (v':=(.one (.sl 0 0 s6.1.length))) rfl (erL.cons (v':=(oB (decide (s6.2.2 < ((s6.1.length:Nat):Int))))) rfl (erL.cons (v':=(oI ((s6.1.length:Nat):Int))) rfl (erL.cons (v':=(.one (.sl 0 0 s6.1.length))) rfl (erL.cons (v':=(oI s6.2.2)) rfl (erL.cons (v':=(.one (.sl 0 0 s6.1.length))) rfl (erL.cons (v':=(oI s6.2.1)) rfl (erL.cons (v':=(oI s6.2.2)) rfl erL.nil))))))))))))))))))))) (erH.cons (v':=(.data 4 (List.map zd (s6.1.set (Int.toNat s6.2.2) (zb.mk s6.2.1 v9.Reads v9.Writes v9.Vote))) true none)) rfl rfl (erH.cons (v':=(.data 4 (List.map zd s6.1) true none)) rfl rfl erH.nil)) (erL.cons (v':=(.one (.sl 0 0 ((List.map zd a1).length)))) rfl erL.nil) (zR (za eZ (xQ (AW.weaken (zt [] (kr 1 rfl rfl (kr 0 rfl rfl (kr 5 rfl rfl SL.nil))) (blR rfl) (BK.cons (n:=0) rfl bZ rfl rfl BK.nil) (GK.cons rfl GK.nil)) (aS (zK (zh (za rfl (zj (zh (za rfl (zj (zh ?_)))))))))))))
   obtain⟨v15,h16,H⟩:=zo H
   refine Yh rfl eZ bZ (by first|(simp;done)|(simp;omega)|omega|(simp only[List.length_map];omega)) h16 (zj (zh (ze (m:=2) eZ rfl (zj ?_))))
   obtain⟨v17,h18,H⟩:=zo H
   refine zbr (f:=zd) (f':=zG) (t:=v15) (t':=(zb.mk v15.Group v15.Reads v17.2 v15.Vote)) (ys:=v15.Writes) (ys':=v17.2) eZ bZ (qi h16) rfl rfl rfl rfl rfl (k7 h18) rfl rfl (erL.cons (v':=(oI v13.1)) rfl (erL.cons (v':=(.one .any)) rfl (erL.cons (v':=(.one (.ptr (.nm 0 (Int.toNat s6.2.2) 2)))) rfl (erL.cons (v':=(.one (.ptr (.nm 0 (Int.toNat s6.2.2) 0)))) rfl (erL.cons (v':=(oI s6.2.2)) rfl (erL.cons (v':=(.one (.sl 0 0 s6.1.length))) rfl (erL.cons (v':=(oI v13.1)) rfl (erL.cons (v':=(.one (.sl 0 0 s6.1.length))) rfl (erL.cons (v':=(oI s6.2.2)) rfl erL.nil))))))))) (erH.cons (v':=(.data 4 (List.map zd ((s6.1.set (Int.toNat s6.2.2) (zb.mk s6.2.1 v9.Reads v9.Writes v9.Vote)).set (Int.toNat s6.2.2) (zb.mk v11.Group v13.2 v11.Writes v11.Vote))) true none)) rfl rfl erH.nil) (erL.cons (v':=(.one (.sl 0 0 ((List.map zd a1).length)))) rfl erL.nil) (zR (za eZ (xQ (aV (za rfl (za rfl (za rfl ?_)))))))
   obtain⟨v19,h20,H⟩:=zo H
   exact Yh rfl rfl bZ (by first|(simp;done)|(simp;omega)|omega|(simp only[List.length_map];omega)) h20 (ze (m:=3) eZ rfl (jZ (t:=v19) (t':=(zb.mk v19.Group v19.Reads v19.Writes v17.1)) (es:=[(.int .i64 v17.1)]) eZ rfl rfl rfl bZ (qi h20) rfl rfl (xQ (AW.weaken (zt [] (kr 1 rfl rfl (kr 0 rfl rfl (kr 5 rfl rfl SL.nil))) (blR rfl) (BK.cons (n:=0) rfl bZ rfl rfl BK.nil) (GK.cons rfl GK.nil)) (aR (za eZ (qE eZ eC (za eZ (zj (BQ.qn (TQ.qn (aR (za rfl (qE eZ eC (za eZ (zj (TQ.qn ⟨((((s6.1.set (Int.toNat s6.2.2) (zb.mk s6.2.1 v9.Reads v9.Writes v9.Vote)).set (Int.toNat s6.2.2) (zb.mk v11.Group v13.2 v11.Writes v11.Vote)).set (Int.toNat s6.2.2) (zb.mk v15.Group v15.Reads v17.2 v15.Vote)).set (Int.toNat s6.2.2) (zb.mk v19.Group v19.Reads v19.Writes v17.1),(IntKind.wrap .i64 (v17.1+1)),(IntKind.wrap .i64 (s6.2.2+1))),H,(zt [] (SL.cons rfl rfl (VWk.one (CWk.len (by first|(simp;done)|(simp;omega)|omega|(simp only[List.length_map];omega)))) (sR rfl rfl)) (blR rfl) (bkR rfl rfl rfl) (GK.cons rfl GK.nil))⟩)))))))))))))))))
  ·exact zg eZ (dF h8) (AW.exit (TQ.qe (TQ.qe (BQ.qe (TQ.qn ⟨(s6.1,s6.2.1),H,(zt [] (sR rfl rfl) (blR rfl) (bkR rfl rfl rfl) (GK.cons rfl GK.nil))⟩)))))
end Go.AW
