/- That functions of the program compute what the plain functions say. Conditions: each theorem's own. -/
import Derived.Test.YtpabbbmfcgnhdaaGreatMShardDrop
import Derived.Test.YtpabbbmfcgnhdaaGreatGShardDrop
import Derived.Test.YtpabbbmfcgnhdaaGreatSShardDrop
import Derived.Test.YtpabbbmfcgnhdaaGreatYt
import Derived.KernelRfl
import Derived.Test.YtpabbbmfcgnhdaaGreatDShardDropa
import Derived.Test.YtpabbbmfcgnhdaaGreatDShardDropb
import Derived.Test.YtpabbbmfcgnhdaaGreatDShardDropc
import Derived.Test.YtpabbbmfcgnhdaaGreatDShardDropd
set_option linter.unusedVariables false
set_option linter.unusedSimpArgs false
set_option maxRecDepth 100000
namespace Go.AW
open Go.Proofs
theorem zdy{a1:(List zn)}{a2:Int}{r:Int}(H:Z7 a1 a2=some r):Fn Tryz.prog 213 (lent [(.sl 2 (List.map zj a1)),(.int .i64 a2)]) true [(.int .i64 r)]:=by
 refine zG3 (fle rfl) ?_
 rw[zx]
 refine AW.weaken (zg [] (kv 0 (.one (.d (.sl 2 (List.map zj a1)))) rfl rfl (kv 1 (oI a2) rfl rfl SL.nil)) BL.nil BK.nil) ?_
 unfold Z7 at H
 unfold zDq
 refine aV (za eC (xQ (zE (fun t3:Int=>QX t3=some r) (fun t3=>mk [(1,(oI t3))] [] noG) ?_ ?_)))
 ·intro t3 H
  unfold QX at H
  refine aV (za eZ (za eZ (xQ (AW.ret ?_))))
  cases H
  exact eE rfl rfl
 ·refine aV (za eC (xQ (AW.block (AW.iter (fun s5:(Int×Int)=>mk [(0,(.one (.d (.sl 2 (List.map zj a1))))),(1,(oI s5.1)),(5,(oI s5.2))] [] noG) H (zg [] (sR rfl rfl) BL.nil BK.nil) ?_))))
  intro kb6 s5 H
  unfold Je at H
  refine aS (aV (za rfl (za rfl (zX eZ (n:=a1.length) lm (qi rfl eZ (xQ ?_))))))
  rcases zA H with⟨h7,H⟩|⟨h7,H⟩
  ·refine zi eZ (dT h7) (AW.skip (TQ.qn (aS (AW.block (aS (aV (za rfl (za rfl ?_))))))))
   obtain⟨v8,h9,H⟩:=zk H
   refine qt rfl eZ h9 (qa (m:=0) eZ rfl (zY (e:=(.int .i64 v8.Key)) eZ rfl (za rfl (Qh rfl eZ (xQ ?_)))))
   rcases zA H with⟨h10,H⟩|⟨h10,H⟩
   ·refine zi eZ (dT h10) (aV (za eC (xQ (AW.ret (TQ.qr (BQ.qr (TQ.qr (TQ.qr (BQ.qr (TQ.qr ?_))))))))))
    cases H
    exact eE rfl rfl
   ·refine zh eZ (dF h10) (AW.skip (TQ.qn (aV (za rfl (qg eZ eC (za eZ (xQ (AW.weaken (zg [] (kr 1 rfl rfl (kr 0 rfl rfl (kr 5 rfl rfl SL.nil))) BL.nil BK.nil) (aS (aV (za rfl (za rfl ?_))))))))))))
    obtain⟨v11,h12,H⟩:=zk H
    refine qt rfl eZ h12 (qa (m:=1) eZ rfl (zY (e:=(.int .i64 v11.Value)) eZ rfl (za rfl (Qh rfl eZ (xQ ?_)))))
    rcases zA H with⟨h13,H⟩|⟨h13,H⟩
    ·refine zi eZ (dT h13) (aV (za eC (xQ (AW.ret (TQ.qr (BQ.qr (TQ.qr (TQ.qr (BQ.qr (TQ.qr ?_))))))))))
     cases H
     exact eE rfl rfl
    ·exact zh eZ (dF h13) (AW.skip (TQ.qn (aR (za rfl (qg eZ eC (za eZ (zm (BQ.qn (TQ.qn (aR (za rfl (qg eZ eC (za eZ (zm (TQ.qn ⟨((IntKind.wrap .i64 ((IntKind.wrap .i64 (s5.1+1))+1)),(IntKind.wrap .i64 (s5.2+1))),H,(zg [] (sR rfl rfl) BL.nil BK.nil)⟩)))))))))))))))
  ·exact zh eZ (dF h7) (AW.exit (TQ.qe (TQ.qe (BQ.qe (TQ.qn ⟨s5.1,H,(zg [] (sR rfl rfl) BL.nil BK.nil)⟩)))))
theorem zdU{a1:(List zN)}{a2:Int}{r:Int}(H:Zs a1 a2=some r):Fn Tryz.prog 105 (lent [(.sl 2 (List.map zB a1)),(.int .i64 a2)]) true [(.int .i64 r)]:=by
 refine zHq (fle rfl) ?_
 rw[zx]
 refine AW.weaken (zg [] (kv 0 (.one (.d (.sl 2 (List.map zB a1)))) rfl rfl (kv 1 (oI a2) rfl rfl SL.nil)) BL.nil BK.nil) ?_
 unfold Zs at H
 unfold zzK
 refine aV (za eC (xQ (zE (fun t3:Int=>JI t3=some r) (fun t3=>mk [(1,(oI t3))] [] noG) ?_ ?_)))
 ·intro t3 H
  unfold JI at H
  refine aV (za eZ (za eZ (xQ (AW.ret ?_))))
  cases H
  exact eE rfl rfl
 ·refine aV (za eC (xQ (AW.block (AW.iter (fun s5:(Int×Int)=>mk [(0,(.one (.d (.sl 2 (List.map zB a1))))),(1,(oI s5.1)),(5,(oI s5.2))] [] noG) H (zg [] (sR rfl rfl) BL.nil BK.nil) ?_))))
  intro kb6 s5 H
  unfold JP at H
  refine aS (aV (za rfl (za rfl (zX eZ (n:=a1.length) lm (qi rfl eZ (xQ ?_))))))
  rcases zA H with⟨h7,H⟩|⟨h7,H⟩
  ·refine zi eZ (dT h7) (AW.skip (TQ.qn (aS (AW.block (aS (aV (za rfl (za rfl ?_))))))))
   obtain⟨v8,h9,H⟩:=zk H
   refine qt rfl eZ h9 (qa (m:=0) eZ rfl (zY (e:=(.int .i64 v8.Tx)) eZ rfl (za rfl (Qh rfl eZ (xQ ?_)))))
   rcases zA H with⟨h10,H⟩|⟨h10,H⟩
   ·refine zi eZ (dT h10) (aV (za eC (xQ (AW.ret (TQ.qr (BQ.qr (TQ.qr (TQ.qr (BQ.qr (TQ.qr ?_))))))))))
    cases H
    exact eE rfl rfl
   ·refine zh eZ (dF h10) (AW.skip (TQ.qn (aV (za rfl (qg eZ eC (za eZ (xQ (AW.weaken (zg [] (kr 1 rfl rfl (kr 0 rfl rfl (kr 5 rfl rfl SL.nil))) BL.nil BK.nil) (aV (za rfl (za rfl ?_)))))))))))
    obtain⟨v11,h12,H⟩:=zk H
    refine qt rfl eZ h12 (qa (m:=1) eZ rfl (zY (e:=(.sl 2 (List.map zj v11.Writes))) eZ rfl (za rfl ?_)))
    obtain⟨v13,h14,H⟩:=zk H
    refine zD (u:=(oI v13)) eC Cl.fn (zdy h14) (Ec rfl (Ec eZ En)) (Vc Vp (Vc Vp Vn)) rfl (za eZ (xQ (aV (za eZ (qi eZ eC (xQ ?_))))))
    rcases zA H with⟨h15,H⟩|⟨h15,H⟩
    ·refine zi eZ (dT h15) (aV (za eC (xQ (AW.ret (BQ.qr (TQ.qr (TQ.qr (BQ.qr (TQ.qr ?_)))))))))
     cases H
     exact eE rfl rfl
    ·exact zh eZ (dF h15) (AW.skip (BQ.qn (TQ.qn (aR (za rfl (qg eZ eC (za eZ (zm (TQ.qn ⟨(v13,(IntKind.wrap .i64 (s5.2+1))),H,(zg [] (sR rfl rfl) BL.nil BK.nil)⟩)))))))))
  ·exact zh eZ (dF h7) (AW.exit (TQ.qe (TQ.qe (BQ.qe (TQ.qn ⟨s5.1,H,(zg [] (sR rfl rfl) BL.nil BK.nil)⟩)))))
theorem zbg{a1:(List Int)}{a2:Int}{r:Int}(H:yC a1 a2=some r):Fn Tryz.prog 106 (lent [(.sl 1 (List.map zt a1)),(.int .i64 a2)]) true [(.int .i64 r)]:=by
 refine zHm (fle rfl) ?_
 rw[zx]
 refine AW.weaken (zg [] (kv 0 (.one (.d (.sl 1 (List.map zt a1)))) rfl rfl (kv 1 (oI a2) rfl rfl SL.nil)) BL.nil BK.nil) ?_
 unfold yC at H
 unfold zEo
 refine aV (za eC (xQ (zE (fun t3:Int=>Y4 t3=some r) (fun t3=>mk [(1,(oI t3))] [] noG) ?_ ?_)))
 ·intro t3 H
  unfold Y4 at H
  refine aV (za eZ (za eZ (xQ (AW.ret ?_))))
  cases H
  exact eE rfl rfl
 ·refine aV (za eC (xQ (AW.block (AW.iter (fun s5:(Int×Int)=>mk [(0,(.one (.d (.sl 1 (List.map zt a1))))),(1,(oI s5.1)),(5,(oI s5.2))] [] noG) H (zg [] (sR rfl rfl) BL.nil BK.nil) ?_))))
  intro kb6 s5 H
  unfold YZ at H
  refine aS (aV (za rfl (za rfl (zX eZ (n:=a1.length) lm (qi rfl eZ (xQ ?_))))))
  rcases zA H with⟨h7,H⟩|⟨h7,H⟩
  ·refine zi eZ (dT h7) (AW.skip (TQ.qn (aS (AW.block (aS (aV (za rfl (za rfl ?_))))))))
   obtain⟨v8,h9,H⟩:=zk H
   refine qt rfl eZ h9 (zY (e:=(.int .i64 v8)) eZ rfl (za rfl (Qh rfl eZ (xQ ?_))))
   rcases zA H with⟨h10,H⟩|⟨h10,H⟩
   ·refine zi eZ (dT h10) (aV (za eC (xQ (AW.ret (TQ.qr (BQ.qr (TQ.qr (TQ.qr (BQ.qr (TQ.qr ?_))))))))))
    cases H
    exact eE rfl rfl
   ·exact zh eZ (dF h10) (AW.skip (TQ.qn (aR (za rfl (qg eZ eC (za eZ (zm (BQ.qn (TQ.qn (AW.weaken (zg [] (kr 1 rfl rfl (kr 0 rfl rfl (kr 5 rfl rfl SL.nil))) BL.nil BK.nil) (aR (za rfl (qg eZ eC (za eZ (zm (TQ.qn ⟨((IntKind.wrap .i64 (s5.1+1)),(IntKind.wrap .i64 (s5.2+1))),H,(zg [] (sR rfl rfl) BL.nil BK.nil)⟩))))))))))))))))
  ·exact zh eZ (dF h7) (AW.exit (TQ.qe (TQ.qe (BQ.qe (TQ.qn ⟨s5.1,H,(zg [] (sR rfl rfl) BL.nil BK.nil)⟩)))))
theorem zaI{a1:zo}{a2:Int}{r:Int}(H:Zw a1 a2=some r):Fn Tryz.prog 25 (lent [(.agg (zR a1)),(.int .i64 a2)]) true [(.int .i64 r)]:=by
 refine f25 (fle rfl) ?_
 rw[zx]
 refine AW.weaken (zg [] (kv 0 (.agg (zF a1)) rfl rfl (kv 1 (oI a2) rfl rfl SL.nil)) BL.nil BK.nil) ?_
 unfold Zw at H
 unfold i25
 refine aV (qY (n:=128) (m:=9) (cs:=(zF a1)) rfl eZ rfl rfl nZ (za eC (xQ (aV (zf (m:=1) rfl rfl (zl (q:=1) (c:=(.d (.sl 2 (List.map zd a1.Own)))) eZ bZ rfl rfl (za rfl ?_)))))))
 obtain⟨v3,h4,H⟩:=zk H
 refine zD (u:=(oI v3)) eC Cl.fn (zae h4) (Ec rfl (Ec eZ En)) (Vc Vp (Vc Vp Vn)) rfl (za eZ (xQ (aS (aV (za eZ (qi eZ eC (xQ ?_)))))))
 rcases zA H with⟨h5,H⟩|⟨h5,H⟩
 ·refine zi eZ (dT h5) (aV (za eC (xQ (AW.ret (TQ.qr ?_)))))
  cases H
  exact eE rfl rfl
 ·refine zh eZ (dF h5) (AW.skip (TQ.qn (aV (zf (m:=2) rfl rfl (zl (q:=2) (c:=(.d (.sl 2 (List.map zd a1.Frozen)))) eZ bZ rfl rfl (za rfl ?_))))))
  obtain⟨v6,h7,H⟩:=zk H
  refine zD (u:=(oI v6)) eC Cl.fn (zae h7) (Ec rfl (Ec eZ En)) (Vc Vp (Vc Vp Vn)) rfl (za eZ (xQ (AW.weaken (zg [] (kr 1 rfl rfl (kr 2 rfl rfl SL.nil)) (blR rfl) (BK.cons (n:=128) rfl bZ rfl rfl BK.nil)) (aS (aV (za eZ (qi eZ eC (xQ ?_))))))))
  rcases zA H with⟨h8,H⟩|⟨h8,H⟩
  ·refine zi eZ (dT h8) (aV (za eC (xQ (AW.ret (TQ.qr ?_)))))
   cases H
   exact eE rfl rfl
  ·refine zh eZ (dF h8) (AW.skip (TQ.qn (aV (zf (m:=3) rfl rfl (zl (q:=3) (c:=(.d (.sl 2 (List.map zj a1.Cells)))) eZ bZ rfl rfl (za rfl ?_))))))
   obtain⟨v9,h10,H⟩:=zk H
   refine zD (u:=(oI v9)) eC Cl.fn (zdH h10) (Ec rfl (Ec eZ En)) (Vc Vp (Vc Vp Vn)) rfl (za eZ (xQ (aS (aV (za eZ (qi eZ eC (xQ ?_)))))))
   rcases zA H with⟨h11,H⟩|⟨h11,H⟩
   ·refine zi eZ (dT h11) (aV (za eC (xQ (AW.ret (TQ.qr ?_)))))
    cases H
    exact eE rfl rfl
   ·refine zh eZ (dF h11) (AW.skip (TQ.qn (aV (zf (m:=4) rfl rfl (zl (q:=4) (c:=(.d (.sl 4 (List.map zp a1.Locks)))) eZ bZ rfl rfl (za rfl ?_))))))
    obtain⟨v12,h13,H⟩:=zk H
    refine zD (u:=(oI v12)) eC Cl.fn (zd1 h13) (Ec rfl (Ec eZ En)) (Vc Vp (Vc Vp Vn)) rfl (za eZ (xQ (AW.weaken (zg [] (kr 1 rfl rfl (kr 2 rfl rfl SL.nil)) (blR rfl) (BK.cons (n:=128) rfl bZ rfl rfl BK.nil)) (aS (aV (za eZ (qi eZ eC (xQ ?_))))))))
    rcases zA H with⟨h14,H⟩|⟨h14,H⟩
    ·refine zi eZ (dT h14) (aV (za eC (xQ (AW.ret (TQ.qr ?_)))))
     cases H
     exact eE rfl rfl
    ·refine zh eZ (dF h14) (AW.skip (TQ.qn (aV (zf (m:=5) rfl rfl (zl (q:=5) (c:=(.d (.sl 2 (List.map zB a1.Helds)))) eZ bZ rfl rfl (za rfl ?_))))))
     obtain⟨v15,h16,H⟩:=zk H
     refine zD (u:=(oI v15)) eC Cl.fn (zdU h16) (Ec rfl (Ec eZ En)) (Vc Vp (Vc Vp Vn)) rfl (za eZ (xQ (aS (aV (za eZ (qi eZ eC (xQ ?_)))))))
     rcases zA H with⟨h17,H⟩|⟨h17,H⟩
     ·refine zi eZ (dT h17) (aV (za eC (xQ (AW.ret (TQ.qr ?_)))))
      cases H
      exact eE rfl rfl
     ·refine zh eZ (dF h17) (AW.skip (TQ.qn (aV (zf (m:=6) rfl rfl (zl (q:=6) (c:=(.d (.sl 1 (List.map zt a1.Wounded)))) eZ bZ rfl rfl (za rfl ?_))))))
      obtain⟨v18,h19,H⟩:=zk H
      refine zD (u:=(oI v18)) eC Cl.fn (zbg h19) (Ec rfl (Ec eZ En)) (Vc Vp (Vc Vp Vn)) rfl (za eZ (xQ (AW.weaken (zg [] (kr 1 rfl rfl (kr 2 rfl rfl SL.nil)) (blR rfl) (BK.cons (n:=128) rfl bZ rfl rfl BK.nil)) (aS (aV (za eZ (qi eZ eC (xQ ?_))))))))
      rcases zA H with⟨h20,H⟩|⟨h20,H⟩
      ·refine zi eZ (dT h20) (aV (za eC (xQ (AW.ret (TQ.qr ?_)))))
       cases H
       exact eE rfl rfl
      ·refine zh eZ (dF h20) (AW.skip (TQ.qn (aV (zf (m:=7) rfl rfl (zl (q:=7) (c:=(.d (.sl 1 (List.map zt a1.Ended)))) eZ bZ rfl rfl (za rfl ?_))))))
       obtain⟨v21,h22,H⟩:=zk H
       refine zD (u:=(oI v21)) eC Cl.fn (zbg h22) (Ec rfl (Ec eZ En)) (Vc Vp (Vc Vp Vn)) rfl (za eZ (xQ (aS (aV (za eZ (qi eZ eC (xQ ?_)))))))
       rcases zA H with⟨h23,H⟩|⟨h23,H⟩
       ·refine zi eZ (dT h23) (aV (za eC (xQ (AW.ret (TQ.qr ?_)))))
        cases H
        exact eE rfl rfl
       ·refine zh eZ (dF h23) (AW.skip (TQ.qn (aV (za rfl (za eZ (xQ (AW.ret ?_)))))))
        cases H
        exact eE rfl rfl
theorem zaO{a1:zo}{a2:Int}{a3:ze}{r:Bool}(H:yZ a1 a2 a3=some r):Fn Tryz.prog 5 (lent [(.agg (zR a1)),(.int .i64 a2),(.agg (zd a3))]) true [(.bool r)]:=by
 refine f5 (fle rfl) ?_
 rw[zx]
 refine AW.weaken (t:=mk [(0,(.agg (zF a1))),(1,(oI a2)),(2,(.agg [(dI a3.Lo),(dI a3.Hi)]))] [] (lk [])) (zg [] (sR rfl rfl) BL.nil BK.nil) ?_
 unfold yZ at H
 unfold i5
 refine aV (qY (n:=192) (m:=9) (cs:=(zF a1)) rfl eZ rfl rfl nZ (qY (n:=320) (m:=2) (cs:=[(dI a3.Lo),(dI a3.Hi)]) rfl rfl rfl rfl (nR rfl) (za eC (xQ (aV (za eC (xQ (aV (zM (es:=(zF a1)) rfl (bR rfl) rfl (za rfl ?_))))))))))
 obtain⟨v4,h5,H⟩:=zk H
 refine zD (u:=(oI v4)) eC Cl.fn (zfi h5) (Ec rfl (Ec eZ En)) (Vc (VD.agg rfl) (Vc Vp Vn)) rfl (za eZ (xQ (aS (aV (za eZ (qi eZ eC (xQ ?_)))))))
 rcases zA H with⟨h6,H⟩|⟨h6,H⟩
 ·refine zi eZ (dT h6) (aV (za eC (xQ (AW.ret (TQ.qr ?_)))))
  cases H
  exact eE rfl rfl
 ·refine zh eZ (dF h6) (AW.skip (TQ.qn (aS (AW.regd (zM (es:=(zF a1)) rfl (hB rfl (bR rfl)) rfl ?_)))))
  obtain⟨v7,h8,H⟩:=zk H
  refine zD (u:=(.agg (zF v7))) eC Cl.fn (kK h8) (Ec eZ En) (Vc (VD.agg rfl) Vn) rfl (za rfl (zM (es:=[(dI a3.Lo),(dI a3.Hi)]) rfl (hB rfl bZ) rfl ?_))
  obtain⟨v9,h10,H⟩:=zk H
  refine zD (u:=(.agg [(dI v9.Lo),(dI v9.Hi)])) eC Cl.fn (kY h10) (Ec eZ En) (Vc (VD.agg rfl) Vn) rfl ?_
  obtain⟨v11,h12,H⟩:=zk H
  refine zD (u:=(.tup [(.agg (zF v11.1)),(oI v11.2)])) eC Cl.fn (zeb h12) (Ec rfl (Ec rfl (Ec eZ En))) (Vc (VD.agg rfl) (Vc Vp (Vc (VD.agg rfl) Vn))) rfl (za eZ (kI (v:=(.agg (zF v11.1))) eZ rfl (kI (v:=(oI v11.2)) rfl rfl (Zh (n:=512) (m:=9) rfl rfl (hN (nR rfl)) (zO (es:=(zF v11.1)) eZ rfl rfl rfl bZ rfl (za rfl (xQ (AW.weaken (zI [] (kr 9 rfl rfl (kr 8 rfl rfl (kr 5 rfl rfl (kr 3 rfl rfl (kr 1 rfl rfl SL.nil))))) (blR rfl) (BK.cons (n:=512) rfl bZ rfl rfl (BK.cons (n:=320) rfl (bR rfl) rfl rfl (BK.cons (n:=192) rfl (bR rfl) rfl rfl BK.nil))) GK.nil) (aS (zW (zw (zM (es:=(zF a1)) rfl (bR rfl) rfl (zm (zw ?_))))))))))))))
  obtain⟨v13,h14,H⟩:=zk H
  refine ju (u:=(.agg [(dI v13.Me),(.sl 2113 0 v13.Own.length),(.sl 2114 0 v13.Frozen.length),(.sl 2115 0 v13.Cells.length),(.sl 2116 0 v13.Locks.length),(.sl 2117 0 v13.Helds.length),(.sl 2118 0 v13.Wounded.length),(.sl 2119 0 v13.Ended.length),(dI v13.Rank)])) (bs:=[(2113,(.data 2 (List.map zd v13.Own) true none)),(2114,(.data 2 (List.map zd v13.Frozen) true none)),(2115,(.data 2 (List.map zj v13.Cells) true none)),(2116,(.data 4 (List.map zp v13.Locks) true none)),(2117,(.data 2 (List.map zB v13.Helds) true none)),(2118,(.data 1 (List.map zt v13.Wounded) true none)),(2119,(.data 1 (List.map zt v13.Ended) true none))]) eC Cl.fn (kK h14) (Ec eZ En) (Vc (VD.agg rfl) Vn) (by simp[qZ,jC,qq,jn,qy]) rfl (fC (nR rfl) rfl (fC (nR rfl) rfl (fC (nR rfl) rfl (fC (nR rfl) rfl (fC (nR rfl) rfl (fC (nR rfl) rfl (fC (nR rfl) rfl (fC (nR rfl) rfl fN)))))))) (zm (zw (Zh (n:=640) (m:=9) rfl rfl (nR rfl) (zm (zw (zO (es:=[(dI v13.Me),(.sl 2113 0 v13.Own.length),(.sl 2114 0 v13.Frozen.length),(.sl 2115 0 v13.Cells.length),(.sl 2116 0 v13.Locks.length),(.sl 2117 0 v13.Helds.length),(.sl 2118 0 v13.Wounded.length),(.sl 2119 0 v13.Ended.length),(dI v13.Rank)]) eZ rfl rfl rfl bZ rfl (zm (z7 (xQ (aS (AW.regd (zM (es:=[(dI v13.Me),(.sl 2113 0 v13.Own.length),(.sl 2114 0 v13.Frozen.length),(.sl 2115 0 v13.Cells.length),(.sl 2116 0 v13.Locks.length),(.sl 2117 0 v13.Helds.length),(.sl 2118 0 v13.Wounded.length),(.sl 2119 0 v13.Ended.length),(dI v13.Rank)]) eZ (hB rfl bZ) rfl (za rfl (zM (es:=[(dI a3.Lo),(dI a3.Hi)]) rfl (hB rfl (bR rfl)) rfl ?_))))))))))))))
  obtain⟨v15,h16,H⟩:=zk H
  refine zD (u:=(.agg [(dI v15.Lo),(dI v15.Hi)])) eC Cl.fn (kY h16) (Ec eZ En) (Vc (VD.agg rfl) Vn) rfl ?_
  obtain⟨v17,h18,H⟩:=zk H
  refine ju (u:=(.tup [(.agg [(dI v17.1.Me),(.sl 2497 0 v17.1.Own.length),(.sl 2498 0 v17.1.Frozen.length),(.sl 2499 0 v17.1.Cells.length),(.sl 2500 0 v17.1.Locks.length),(.sl 2501 0 v17.1.Helds.length),(.sl 2502 0 v17.1.Wounded.length),(.sl 2503 0 v17.1.Ended.length),(dI v17.1.Rank)]),(oI v17.2)])) (bs:=[(2497,(.data 2 (List.map zd v17.1.Own) true none)),(2498,(.data 2 (List.map zd v17.1.Frozen) true none)),(2499,(.data 2 (List.map zj v17.1.Cells) true none)),(2500,(.data 4 (List.map zp v17.1.Locks) true none)),(2501,(.data 2 (List.map zB v17.1.Helds) true none)),(2502,(.data 1 (List.map zt v17.1.Wounded) true none)),(2503,(.data 1 (List.map zt v17.1.Ended) true none))]) eC Cl.fn (zaE h18) (Ec rfl (Ec rfl (Ec eZ En))) (Vc (VD.aggs (CDs.plain (CDs.sl (hB rfl (bR rfl)) lm (CDs.sl (hB rfl (bR rfl)) lm (CDs.sl (hB rfl (bR rfl)) lm (CDs.sl (hB rfl (bR rfl)) lm (CDs.sl (hB rfl (bR rfl)) lm (CDs.sl (hB rfl (bR rfl)) lm (CDs.sl (hB rfl (bR rfl)) lm (CDs.plain CDs.nil)))))))))) (Vc Vp (Vc (VD.agg rfl) Vn))) (by simp[qZ,jC,qq,jn,qy]) rfl (fC (hN (nR rfl)) rfl (fC (hN (nR rfl)) rfl (fC (hN (nR rfl)) rfl (fC (hN (nR rfl)) rfl (fC (hN (nR rfl)) rfl (fC (hN (nR rfl)) rfl (fC (hN (nR rfl)) rfl (fC (hN (nR rfl)) rfl fN)))))))) (za eZ (kI (v:=(.agg [(dI v17.1.Me),(.sl 2497 0 v17.1.Own.length),(.sl 2498 0 v17.1.Frozen.length),(.sl 2499 0 v17.1.Cells.length),(.sl 2500 0 v17.1.Locks.length),(.sl 2501 0 v17.1.Helds.length),(.sl 2502 0 v17.1.Wounded.length),(.sl 2503 0 v17.1.Ended.length),(dI v17.1.Rank)])) eZ rfl (kI (v:=(oI v17.2)) rfl rfl (Zh (n:=704) (m:=9) rfl rfl (hN (nR rfl)) (zO (es:=[(dI v17.1.Me),(.sl 2497 0 v17.1.Own.length),(.sl 2498 0 v17.1.Frozen.length),(.sl 2499 0 v17.1.Cells.length),(.sl 2500 0 v17.1.Locks.length),(.sl 2501 0 v17.1.Helds.length),(.sl 2502 0 v17.1.Wounded.length),(.sl 2503 0 v17.1.Ended.length),(dI v17.1.Rank)]) eZ rfl rfl rfl bZ rfl (za rfl (xQ (AW.weaken (zI [] (kr 12 rfl rfl (kr 11 rfl rfl (kr 10 rfl rfl (kr 9 rfl rfl (kr 8 rfl rfl (kr 5 rfl rfl (kr 3 rfl rfl (kr 1 rfl rfl SL.nil)))))))) (blR rfl) (BK.cons (n:=704) rfl bZ rfl rfl (BK.cons (n:=2503) rfl (bR rfl) rfl rfl (BK.cons (n:=2502) rfl (bR rfl) rfl rfl (BK.cons (n:=2501) rfl (bR rfl) rfl rfl (BK.cons (n:=2500) rfl (bR rfl) rfl rfl (BK.cons (n:=2499) rfl (bR rfl) rfl rfl (BK.cons (n:=2498) rfl (bR rfl) rfl rfl (BK.cons (n:=2497) rfl (bR rfl) rfl rfl (BK.cons (n:=640) rfl (bR rfl) rfl rfl (BK.cons (n:=2119) rfl (bR rfl) rfl rfl (BK.cons (n:=2118) rfl (bR rfl) rfl rfl (BK.cons (n:=2117) rfl (bR rfl) rfl rfl (BK.cons (n:=2116) rfl (bR rfl) rfl rfl (BK.cons (n:=2115) rfl (bR rfl) rfl rfl (BK.cons (n:=2114) rfl (bR rfl) rfl rfl (BK.cons (n:=2113) rfl (bR rfl) rfl rfl (BK.cons (n:=512) rfl (bR rfl) rfl rfl (BK.cons (n:=320) rfl (bR rfl) rfl rfl (BK.cons (n:=192) rfl (bR rfl) rfl rfl BK.nil))))))))))))))))))) GK.nil) ?_))))))))
  refine aS (zE (fun t19:Bool=>(jW a1 v13 v17 a3 a2 v11) t19=some r) (fun t19=>mk [(1,(oI a2)),(3,(.one (.ptr (.nm 192 0 0)))),(5,(.one (.ptr (.nm 320 0 0)))),(8,(.one (.ptr (.nm 512 0 0)))),(9,(oI v11.2)),(10,(.one (.ptr (.nm 640 0 0)))),(11,(.one (.ptr (.nm 704 0 0)))),(12,(oI v17.2)),(50,(oB t19))] [(192,(.vars 9 (zF a1))),(320,(.vars 2 [(dI a3.Lo),(dI a3.Hi)])),(512,(.vars 9 (zF v11.1))),(640,(.vars 9 [(dI v13.Me),(.sl 2113 0 v13.Own.length),(.sl 2114 0 v13.Frozen.length),(.sl 2115 0 v13.Cells.length),(.sl 2116 0 v13.Locks.length),(.sl 2117 0 v13.Helds.length),(.sl 2118 0 v13.Wounded.length),(.sl 2119 0 v13.Ended.length),(dI v13.Rank)])),(704,(.vars 9 [(dI v17.1.Me),(.sl 2497 0 v17.1.Own.length),(.sl 2498 0 v17.1.Frozen.length),(.sl 2499 0 v17.1.Cells.length),(.sl 2500 0 v17.1.Locks.length),(.sl 2501 0 v17.1.Helds.length),(.sl 2502 0 v17.1.Wounded.length),(.sl 2503 0 v17.1.Ended.length),(dI v17.1.Rank)])),(2113,(.data 2 (List.map zd v13.Own) true none)),(2114,(.data 2 (List.map zd v13.Frozen) true none)),(2115,(.data 2 (List.map zj v13.Cells) true none)),(2116,(.data 4 (List.map zp v13.Locks) true none)),(2117,(.data 2 (List.map zB v13.Helds) true none)),(2118,(.data 1 (List.map zt v13.Wounded) true none)),(2119,(.data 1 (List.map zt v13.Ended) true none)),(2497,(.data 2 (List.map zd v17.1.Own) true none)),(2498,(.data 2 (List.map zd v17.1.Frozen) true none)),(2499,(.data 2 (List.map zj v17.1.Cells) true none)),(2500,(.data 4 (List.map zp v17.1.Locks) true none)),(2501,(.data 2 (List.map zB v17.1.Helds) true none)),(2502,(.data 1 (List.map zt v17.1.Wounded) true none)),(2503,(.data 1 (List.map zt v17.1.Ended) true none))] (lk [])) ?_ ?_)
  ·intro t19 H
   unfold jW at H
   rcases zA H with⟨h21,H⟩|⟨h21,H⟩
   ·refine zi rfl h21 (aV (za eC (xQ (AW.ret (TQ.qr ?_)))))
    cases H
    exact eE rfl rfl
   ·refine zh rfl (nt h21) (AW.skip (TQ.qn (aS (aS (AW.regd (zM (es:=[(dI v13.Me),(.sl 2113 0 v13.Own.length),(.sl 2114 0 v13.Frozen.length),(.sl 2115 0 v13.Cells.length),(.sl 2116 0 v13.Locks.length),(.sl 2117 0 v13.Helds.length),(.sl 2118 0 v13.Wounded.length),(.sl 2119 0 v13.Ended.length),(dI v13.Rank)]) rfl (hB rfl (bR rfl)) rfl (zM (es:=(zF a1)) rfl bZ rfl ?_)))))))
    obtain⟨v22,h23,H⟩:=zk H
    refine zD (u:=(.agg (zF v22))) eC Cl.fn (kK h23) (Ec eZ En) (Vc (VD.agg rfl) Vn) rfl ?_
    obtain⟨v24,h25,H⟩:=zk H
    refine zD (u:=(oB v24)) eC Cl.fn (Xp h25) (Ec rfl (Ec eZ En)) (Vc (VD.aggs (CDs.plain (CDs.sl (bR rfl) lm (CDs.sl (bR rfl) lm (CDs.sl (bR rfl) lm (CDs.sl (bR rfl) lm (CDs.sl (bR rfl) lm (CDs.sl (bR rfl) lm (CDs.sl (bR rfl) lm (CDs.plain CDs.nil)))))))))) (Vc (VD.agg rfl) Vn)) rfl (qI eZ (xQ ?_))
    rcases zA H with⟨h26,H⟩|⟨h26,H⟩
    ·refine zh eZ (cN h26) (AW.skip (TQ.qn (aV (za eC (xQ (aS (zW (zw (zM (es:=[(dI v13.Me),(.sl 2113 0 v13.Own.length),(.sl 2114 0 v13.Frozen.length),(.sl 2115 0 v13.Cells.length),(.sl 2116 0 v13.Locks.length),(.sl 2117 0 v13.Helds.length),(.sl 2118 0 v13.Wounded.length),(.sl 2119 0 v13.Ended.length),(dI v13.Rank)]) rfl (bR rfl) rfl (zm (zw (za rfl (zm ?_)))))))))))))
     obtain⟨v27,h28,H⟩:=zk H
     obtain⟨h29,H⟩:=z6 H
     obtain⟨h30,H⟩:=z6 H
     obtain⟨h31,H⟩:=z6 H
     obtain⟨h32,H⟩:=z6 H
     obtain⟨h33,H⟩:=z6 H
     obtain⟨h34,H⟩:=z6 H
     obtain⟨h35,H⟩:=z6 H
     refine Xf (ON:=[2113,2114,2115,2116,2117,2118,2119]) (ls:=[]) (G:=[]) (E:=[qk 2113,qk 2114,qk 2115,qk 2116,qk 2117,qk 2118,qk 2119]) (MB:=[(2113,(.data 2 (List.map zd v27.2.Own) true none)),(2114,(.data 2 (List.map zd v27.2.Frozen) true none)),(2115,(.data 2 (List.map zj v27.2.Cells) true none)),(2116,(.data 4 (List.map zp v27.2.Locks) true none)),(2117,(.data 2 (List.map zB v27.2.Helds) true none)),(2118,(.data 1 (List.map zt v27.2.Wounded) true none)),(2119,(.data 1 (List.map zt v27.2.Ended) true none))]) (u:=(oI v27.1)) eC Cl.fn (zaz h28) (Ec rfl (Ec eZ En)) (AO.mut (VO.aggs (VOs.cons (VO.flat rfl) (VOs.cons (VO.sl (bR rfl) lm (zy fun _=>rfl)) (VOs.cons (VO.sl (bR rfl) lm (zy fun _=>rfl)) (VOs.cons (VO.sl (bR rfl) lm (zy fun _=>rfl)) (VOs.cons (VO.sl (bR rfl) lm (zy fun _=>rfl)) (VOs.cons (Qf (bR rfl) lm rfl) (VOs.cons (VO.sl (bR rfl) lm (zy fun _=>rfl)) (VOs.cons (VO.sl (bR rfl) lm (zy fun _=>rfl)) (VOs.cons (VO.flat rfl) VOs.nil)))))))))) (AO.lent Vp rfl AO.nil)) rfl rfl rfl (SZ.cons (bR rfl) (SZ.cons (bR rfl) (SZ.cons (bR rfl) (SZ.cons (bR rfl) (SZ.cons (bR rfl) (SZ.cons (bR rfl) (SZ.cons (bR rfl) SZ.nil))))))) (erL.cons (v':=(oI 1)) rfl (erL.cons (v':=(.agg [(dI v13.Me),(.sl 2113 0 v13.Own.length),(.sl 2114 0 v13.Frozen.length),(.sl 2115 0 v13.Cells.length),(.sl 2116 0 v13.Locks.length),(.sl 2117 0 v13.Helds.length),(.sl 2118 0 v13.Wounded.length),(.sl 2119 0 v13.Ended.length),(dI v13.Rank)])) rfl (erL.cons (v':=(oI 1)) rfl (erL.cons (v':=(oB (!v24))) rfl (erL.cons (v':=(oB v24)) rfl (erL.cons (v':=(.agg (zF v22))) rfl (erL.cons (v':=(.agg (zF a1))) rfl (erL.cons (v':=(.agg [(dI v13.Me),(.sl 2113 0 v13.Own.length),(.sl 2114 0 v13.Frozen.length),(.sl 2115 0 v13.Cells.length),(.sl 2116 0 v13.Locks.length),(.sl 2117 0 v13.Helds.length),(.sl 2118 0 v13.Wounded.length),(.sl 2119 0 v13.Ended.length),(dI v13.Rank)])) rfl (erL.cons (v':=(oI a2)) rfl (erL.cons (v':=(.one (.ptr (.nm 192 0 0)))) rfl (erL.cons (v':=(.one (.ptr (.nm 320 0 0)))) rfl (erL.cons (v':=(.one (.ptr (.nm 512 0 0)))) rfl (erL.cons (v':=(oI v11.2)) rfl (erL.cons (v':=(.one (.ptr (.nm 640 0 0)))) rfl (erL.cons (v':=(.one (.ptr (.nm 704 0 0)))) rfl (erL.cons (v':=(oI v17.2)) rfl (erL.cons (v':=(oB t19)) rfl erL.nil))))))))))))))))) (erH.cons (v':=(.vars 9 (zF a1))) rfl rfl (erH.cons (v':=(.vars 2 [(dI a3.Lo),(dI a3.Hi)])) rfl rfl (erH.cons (v':=(.vars 9 (zF v11.1))) rfl rfl (erH.cons (v':=(.vars 9 [(dI v13.Me),(.sl 2113 0 v13.Own.length),(.sl 2114 0 v13.Frozen.length),(.sl 2115 0 v13.Cells.length),(.sl 2116 0 v13.Locks.length),(.sl 2117 0 v13.Helds.length),(.sl 2118 0 v13.Wounded.length),(.sl 2119 0 v13.Ended.length),(dI v13.Rank)])) rfl rfl (erH.cons (v':=(.vars 9 [(dI v17.1.Me),(.sl 2497 0 v17.1.Own.length),(.sl 2498 0 v17.1.Frozen.length),(.sl 2499 0 v17.1.Cells.length),(.sl 2500 0 v17.1.Locks.length),(.sl 2501 0 v17.1.Helds.length),(.sl 2502 0 v17.1.Wounded.length),(.sl 2503 0 v17.1.Ended.length),(dI v17.1.Rank)])) rfl rfl (erH.cons (v':=(.data 2 (List.map zd v13.Own) true none)) rfl rfl (erH.cons (v':=(.data 2 (List.map zd v13.Frozen) true none)) rfl rfl (erH.cons (v':=(.data 2 (List.map zj v13.Cells) true none)) rfl rfl (erH.cons (v':=(.data 4 (List.map zp v13.Locks) true none)) rfl rfl (erH.cons (v':=(.data 2 (List.map zB v13.Helds) true none)) rfl rfl (erH.cons (v':=(.data 1 (List.map zt v13.Wounded) true none)) rfl rfl (erH.cons (v':=(.data 1 (List.map zt v13.Ended) true none)) rfl rfl (erH.cons (v':=(.data 2 (List.map zd v17.1.Own) true none)) rfl rfl (erH.cons (v':=(.data 2 (List.map zd v17.1.Frozen) true none)) rfl rfl (erH.cons (v':=(.data 2 (List.map zj v17.1.Cells) true none)) rfl rfl (erH.cons (v':=(.data 4 (List.map zp v17.1.Locks) true none)) rfl rfl (erH.cons (v':=(.data 2 (List.map zB v17.1.Helds) true none)) rfl rfl (erH.cons (v':=(.data 1 (List.map zt v17.1.Wounded) true none)) rfl rfl (erH.cons (v':=(.data 1 (List.map zt v17.1.Ended) true none)) rfl rfl erH.nil))))))))))))))))))) erL.nil rfl rfl ?_
     refine z7 (za eZ (xQ (AW.weaken (zI [2119,2118,2117,2116,2115,2114,2113,640] (kr 13 rfl rfl (kr 1 rfl rfl (kr 3 rfl rfl (kr 5 rfl rfl (kr 8 rfl rfl (kr 9 rfl rfl (kr 11 rfl rfl (kr 12 rfl rfl SL.nil)))))))) (blR rfl) (BK.cons (n:=192) rfl (bR rfl) rfl rfl (BK.cons (n:=320) rfl (bR rfl) rfl rfl (BK.cons (n:=512) rfl (bR rfl) rfl rfl (BK.cons (n:=704) rfl (bR rfl) rfl rfl (BK.cons (n:=2497) rfl (bR rfl) rfl rfl (BK.cons (n:=2498) rfl (bR rfl) rfl rfl (BK.cons (n:=2499) rfl (bR rfl) rfl rfl (BK.cons (n:=2500) rfl (bR rfl) rfl rfl (BK.cons (n:=2501) rfl (bR rfl) rfl rfl (BK.cons (n:=2502) rfl (bR rfl) rfl rfl (BK.cons (n:=2503) rfl (bR rfl) rfl rfl BK.nil))))))))))) GK.nil) (aS (zE (fun t36:Bool=>(jv v17 a1 a3 a2 v11) t36=some r) (fun t36=>mk [(1,(oI a2)),(3,(.one (.ptr (.nm 192 0 0)))),(5,(.one (.ptr (.nm 320 0 0)))),(8,(.one (.ptr (.nm 512 0 0)))),(9,(oI v11.2)),(11,(.one (.ptr (.nm 704 0 0)))),(71,(oB t36))] [(192,(.vars 9 (zF a1))),(320,(.vars 2 [(dI a3.Lo),(dI a3.Hi)])),(512,(.vars 9 (zF v11.1))),(704,(.vars 9 [(dI v17.1.Me),(.sl 2497 0 v17.1.Own.length),(.sl 2498 0 v17.1.Frozen.length),(.sl 2499 0 v17.1.Cells.length),(.sl 2500 0 v17.1.Locks.length),(.sl 2501 0 v17.1.Helds.length),(.sl 2502 0 v17.1.Wounded.length),(.sl 2503 0 v17.1.Ended.length),(dI v17.1.Rank)])),(2497,(.data 2 (List.map zd v17.1.Own) true none)),(2498,(.data 2 (List.map zd v17.1.Frozen) true none)),(2499,(.data 2 (List.map zj v17.1.Cells) true none)),(2500,(.data 4 (List.map zp v17.1.Locks) true none)),(2501,(.data 2 (List.map zB v17.1.Helds) true none)),(2502,(.data 1 (List.map zt v17.1.Wounded) true none)),(2503,(.data 1 (List.map zt v17.1.Ended) true none))] (lk [])) ?_ ?_)))))
     ·intro t36 H
      unfold jv at H
      rcases zA H with⟨h38,H⟩|⟨h38,H⟩
      ·refine zi rfl h38 (aV (za eC (xQ (AW.ret (TQ.qr ?_)))))
       cases H
       exact eE rfl rfl
      ·refine zh rfl (nt h38) (AW.skip (TQ.qn (aV (za eC (xQ (aS (zW (zw (zM (es:=[(dI v17.1.Me),(.sl 2497 0 v17.1.Own.length),(.sl 2498 0 v17.1.Frozen.length),(.sl 2499 0 v17.1.Cells.length),(.sl 2500 0 v17.1.Locks.length),(.sl 2501 0 v17.1.Helds.length),(.sl 2502 0 v17.1.Wounded.length),(.sl 2503 0 v17.1.Ended.length),(dI v17.1.Rank)]) rfl (bR rfl) rfl (zm (zw (za rfl (zm ?_)))))))))))))
       obtain⟨v39,h40,H⟩:=zk H
       obtain⟨h41,H⟩:=z6 H
       obtain⟨h42,H⟩:=z6 H
       obtain⟨h43,H⟩:=z6 H
       obtain⟨h44,H⟩:=z6 H
       obtain⟨h45,H⟩:=z6 H
       obtain⟨h46,H⟩:=z6 H
       obtain⟨h47,H⟩:=z6 H
       refine Xf (ON:=[2497,2498,2499,2500,2501,2502,2503]) (ls:=[]) (G:=[]) (E:=[qk 2497,qk 2498,qk 2499,qk 2500,qk 2501,qk 2502,qk 2503]) (MB:=[(2497,(.data 2 (List.map zd v39.2.Own) true none)),(2498,(.data 2 (List.map zd v39.2.Frozen) true none)),(2499,(.data 2 (List.map zj v39.2.Cells) true none)),(2500,(.data 4 (List.map zp v39.2.Locks) true none)),(2501,(.data 2 (List.map zB v39.2.Helds) true none)),(2502,(.data 1 (List.map zt v39.2.Wounded) true none)),(2503,(.data 1 (List.map zt v39.2.Ended) true none))]) (u:=(oI v39.1)) eC Cl.fn (zaz h40) (Ec rfl (Ec eZ En)) (AO.mut (VO.aggs (VOs.cons (VO.flat rfl) (VOs.cons (VO.sl (bR rfl) lm (zy fun _=>rfl)) (VOs.cons (VO.sl (bR rfl) lm (zy fun _=>rfl)) (VOs.cons (VO.sl (bR rfl) lm (zy fun _=>rfl)) (VOs.cons (VO.sl (bR rfl) lm (zy fun _=>rfl)) (VOs.cons (Qf (bR rfl) lm rfl) (VOs.cons (VO.sl (bR rfl) lm (zy fun _=>rfl)) (VOs.cons (VO.sl (bR rfl) lm (zy fun _=>rfl)) (VOs.cons (VO.flat rfl) VOs.nil)))))))))) (AO.lent Vp rfl AO.nil)) rfl rfl rfl (SZ.cons (bR rfl) (SZ.cons (bR rfl) (SZ.cons (bR rfl) (SZ.cons (bR rfl) (SZ.cons (bR rfl) (SZ.cons (bR rfl) (SZ.cons (bR rfl) SZ.nil))))))) (erL.cons (v':=(oI 1)) rfl (erL.cons (v':=(.agg [(dI v17.1.Me),(.sl 2497 0 v17.1.Own.length),(.sl 2498 0 v17.1.Frozen.length),(.sl 2499 0 v17.1.Cells.length),(.sl 2500 0 v17.1.Locks.length),(.sl 2501 0 v17.1.Helds.length),(.sl 2502 0 v17.1.Wounded.length),(.sl 2503 0 v17.1.Ended.length),(dI v17.1.Rank)])) rfl (erL.cons (v':=(oI 1)) rfl (erL.cons (v':=(oI a2)) rfl (erL.cons (v':=(.one (.ptr (.nm 192 0 0)))) rfl (erL.cons (v':=(.one (.ptr (.nm 320 0 0)))) rfl (erL.cons (v':=(.one (.ptr (.nm 512 0 0)))) rfl (erL.cons (v':=(oI v11.2)) rfl (erL.cons (v':=(.one (.ptr (.nm 704 0 0)))) rfl (erL.cons (v':=(oB t36)) rfl erL.nil)))))))))) (erH.cons (v':=(.vars 9 (zF a1))) rfl rfl (erH.cons (v':=(.vars 2 [(dI a3.Lo),(dI a3.Hi)])) rfl rfl (erH.cons (v':=(.vars 9 (zF v11.1))) rfl rfl (erH.cons (v':=(.vars 9 [(dI v17.1.Me),(.sl 2497 0 v17.1.Own.length),(.sl 2498 0 v17.1.Frozen.length),(.sl 2499 0 v17.1.Cells.length),(.sl 2500 0 v17.1.Locks.length),(.sl 2501 0 v17.1.Helds.length),(.sl 2502 0 v17.1.Wounded.length),(.sl 2503 0 v17.1.Ended.length),(dI v17.1.Rank)])) rfl rfl (erH.cons (v':=(.data 2 (List.map zd v17.1.Own) true none)) rfl rfl (erH.cons (v':=(.data 2 (List.map zd v17.1.Frozen) true none)) rfl rfl (erH.cons (v':=(.data 2 (List.map zj v17.1.Cells) true none)) rfl rfl (erH.cons (v':=(.data 4 (List.map zp v17.1.Locks) true none)) rfl rfl (erH.cons (v':=(.data 2 (List.map zB v17.1.Helds) true none)) rfl rfl (erH.cons (v':=(.data 1 (List.map zt v17.1.Wounded) true none)) rfl rfl (erH.cons (v':=(.data 1 (List.map zt v17.1.Ended) true none)) rfl rfl erH.nil))))))))))) erL.nil rfl rfl (z7 (za eZ (xQ (aV (za eC (xQ (aV (zM (es:=[(dI v17.1.Me),(.sl 2497 0 v17.1.Own.length),(.sl 2498 0 v17.1.Frozen.length),(.sl 2499 0 v17.1.Cells.length),(.sl 2500 0 v17.1.Locks.length),(.sl 2501 0 v17.1.Helds.length),(.sl 2502 0 v17.1.Wounded.length),(.sl 2503 0 v17.1.Ended.length),(dI v17.1.Rank)]) rfl (bR rfl) rfl (za rfl ?_)))))))))
       obtain⟨v48,h49,H⟩:=zk H
       refine zD (u:=(oI v48)) eC Cl.fn (zaI h49) (Ec rfl (Ec eZ En)) (Vc (VD.aggs (CDs.plain (CDs.sl (bR rfl) (by first|(simp;done)|(simp;omega)|omega|(simp only[List.length_map];omega)) (CDs.sl (bR rfl) (by first|(simp;done)|(simp;omega)|omega|(simp only[List.length_map];omega)) (CDs.sl (bR rfl) (by first|(simp;done)|(simp;omega)|omega|(simp only[List.length_map];omega)) (CDs.sl (bR rfl) (by first|(simp;done)|(simp;omega)|omega|(simp only[List.length_map];omega)) (CDs.sl (bR rfl) (by first|(simp;done)|(simp;omega)|omega|(simp only[List.length_map];omega)) (CDs.sl (bR rfl) (by first|(simp;done)|(simp;omega)|omega|(simp only[List.length_map];omega)) (CDs.sl bZ (by first|(simp;done)|(simp;omega)|omega|(simp only[List.length_map];omega)) (CDs.plain CDs.nil)))))))))) (Vc Vp Vn)) rfl (za eZ (xQ (AW.weaken (zI [] (kr 15 rfl rfl (kr 14 rfl rfl (kr 1 rfl rfl (kr 3 rfl rfl (kr 5 rfl rfl (kr 8 rfl rfl (kr 9 rfl rfl (kr 11 rfl rfl SL.nil)))))))) (blR rfl) (BK.cons (n:=2503) rfl bZ rfl rfl (BK.cons (n:=2502) rfl (bR rfl) rfl rfl (BK.cons (n:=2501) rfl (bR rfl) rfl rfl (BK.cons (n:=2500) rfl (bR rfl) rfl rfl (BK.cons (n:=2499) rfl (bR rfl) rfl rfl (BK.cons (n:=2498) rfl (bR rfl) rfl rfl (BK.cons (n:=2497) rfl (bR rfl) rfl rfl (BK.cons (n:=192) rfl (bR rfl) rfl rfl (BK.cons (n:=320) rfl (bR rfl) rfl rfl (BK.cons (n:=512) rfl (bR rfl) rfl rfl (BK.cons (n:=704) rfl (bR rfl) rfl rfl BK.nil))))))))))) GK.nil) (aS (aV (za eZ (qi eZ eC (xQ ?_))))))))
       rcases zA H with⟨h50,H⟩|⟨h50,H⟩
       ·refine zi eZ (dT h50) (aV (za eC (xQ (AW.ret (TQ.qr ?_)))))
        cases H
        exact eE rfl rfl
       ·refine zh eZ (dF h50) (AW.skip (TQ.qn (aS (aV (za rfl (za rfl (Qh rfl eZ (xQ ?_))))))))
        rcases zA H with⟨h51,H⟩|⟨h51,H⟩
        ·refine zi eZ (dT h51) (aV (za eC (xQ (AW.ret (TQ.qr ?_)))))
         cases H
         exact eE rfl rfl
        ·refine zh eZ (dF h51) (AW.skip (TQ.qn (aS (AW.regd (zM (es:=(zF a1)) rfl (hB rfl (bR rfl)) rfl ?_)))))
         obtain⟨v52,h53,H⟩:=zk H
         refine zD (u:=(.agg (zF v52))) eC Cl.fn (kK h53) (Ec eZ En) (Vc (VD.agg rfl) Vn) rfl (za rfl (zM (es:=[(dI a3.Lo),(dI a3.Hi)]) rfl (hB rfl (bR rfl)) rfl ?_))
         obtain⟨v54,h55,H⟩:=zk H
         refine zD (u:=(.agg [(dI v54.Lo),(dI v54.Hi)])) eC Cl.fn (kY h55) (Ec eZ En) (Vc (VD.agg rfl) Vn) rfl ?_
         obtain⟨v56,h57,H⟩:=zk H
         refine zD (u:=(.tup [(.agg (zF v56.1)),(oI v56.2)])) eC Cl.fn (zaE h57) (Ec rfl (Ec rfl (Ec eZ En))) (Vc (VD.agg rfl) (Vc Vp (Vc (VD.agg rfl) Vn))) rfl (za eZ (kI (v:=(.agg (zF v56.1))) eZ rfl (kI (v:=(oI v56.2)) rfl rfl (Zh (n:=1024) (m:=9) rfl rfl (hN (nR rfl)) (zO (es:=(zF v56.1)) eZ rfl rfl rfl bZ rfl (za rfl (xQ (AW.weaken (zI [192,320] (kr 17 rfl rfl (kr 16 rfl rfl (kr 14 rfl rfl (kr 8 rfl rfl (kr 9 rfl rfl (kr 11 rfl rfl SL.nil)))))) (blR rfl) (BK.cons (n:=1024) rfl bZ rfl rfl (BK.cons (n:=2503) rfl (bR rfl) rfl rfl (BK.cons (n:=2502) rfl (bR rfl) rfl rfl (BK.cons (n:=2501) rfl (bR rfl) rfl rfl (BK.cons (n:=2500) rfl (bR rfl) rfl rfl (BK.cons (n:=2499) rfl (bR rfl) rfl rfl (BK.cons (n:=2498) rfl (bR rfl) rfl rfl (BK.cons (n:=2497) rfl (bR rfl) rfl rfl (BK.cons (n:=512) rfl (bR rfl) rfl rfl (BK.cons (n:=704) rfl (bR rfl) rfl rfl BK.nil)))))))))) GK.nil) (aS (zE (fun t58:Bool=>(jX v17 v39) t58=some r) (fun t58=>mk [(11,(.one (.ptr (.nm 704 0 0)))),(14,(oI v39.1)),(100,(oB t58))] [(704,(.vars 9 [(dI v17.1.Me),(.sl 2497 0 v17.1.Own.length),(.sl 2498 0 v17.1.Frozen.length),(.sl 2499 0 v17.1.Cells.length),(.sl 2500 0 v17.1.Locks.length),(.sl 2501 0 v17.1.Helds.length),(.sl 2502 0 v17.1.Wounded.length),(.sl 2503 0 v17.1.Ended.length),(dI v17.1.Rank)])),(2497,(.data 2 (List.map zd v39.2.Own) true none)),(2498,(.data 2 (List.map zd v39.2.Frozen) true none)),(2499,(.data 2 (List.map zj v39.2.Cells) true none)),(2500,(.data 4 (List.map zp v39.2.Locks) true none)),(2501,(.data 2 (List.map zB v39.2.Helds) true none)),(2502,(.data 1 (List.map zt v39.2.Wounded) true none)),(2503,(.data 1 (List.map zt v39.2.Ended) true none))] (lk [])) ?_ ?_))))))))))
         ·intro t58 H
          unfold jX at H
          rcases zA H with⟨h60,H⟩|⟨h60,H⟩
          ·refine zi rfl h60 (aV (za eC (xQ (AW.ret (TQ.qr ?_)))))
           cases H
           exact eE rfl rfl
          ·refine zh rfl (nt h60) (AW.skip (TQ.qn (aV (za eC (xQ (aV (zM (es:=[(dI v17.1.Me),(.sl 2497 0 v17.1.Own.length),(.sl 2498 0 v17.1.Frozen.length),(.sl 2499 0 v17.1.Cells.length),(.sl 2500 0 v17.1.Locks.length),(.sl 2501 0 v17.1.Helds.length),(.sl 2502 0 v17.1.Wounded.length),(.sl 2503 0 v17.1.Ended.length),(dI v17.1.Rank)]) rfl bZ rfl (za rfl ?_))))))))
           obtain⟨v61,h62,H⟩:=zk H
           refine zD (u:=(oI v61)) eC Cl.fn (zaI h62) (Ec rfl (Ec eZ En)) (Vc (VD.aggs (CDs.plain (CDs.sl (bR rfl) (by first|(simp;done)|(simp;omega)|omega|(simp only[List.length_map];omega)) (CDs.sl (bR rfl) (by first|(simp;done)|(simp;omega)|omega|(simp only[List.length_map];omega)) (CDs.sl (bR rfl) (by first|(simp;done)|(simp;omega)|omega|(simp only[List.length_map];omega)) (CDs.sl (bR rfl) (by first|(simp;done)|(simp;omega)|omega|(simp only[List.length_map];omega)) (CDs.sl (bR rfl) (by first|(simp;done)|(simp;omega)|omega|(simp only[List.length_map];omega)) (CDs.sl (bR rfl) (by first|(simp;done)|(simp;omega)|omega|(simp only[List.length_map];omega)) (CDs.sl (bR rfl) (by first|(simp;done)|(simp;omega)|omega|(simp only[List.length_map];omega)) (CDs.plain CDs.nil)))))))))) (Vc Vp Vn)) rfl (za eZ (xQ (aS (aV (za eZ (qi eZ eC (xQ ?_)))))))
           rcases zA H with⟨h63,H⟩|⟨h63,H⟩
           ·refine zi eZ (dT h63) (aV (za eC (xQ (AW.ret (TQ.qr ?_)))))
            cases H
            exact eE rfl rfl
           ·refine zh eZ (dF h63) (AW.skip (TQ.qn (aS (aV (za rfl (za rfl (Qh rfl eZ (xQ ?_))))))))
            rcases zA H with⟨h64,H⟩|⟨h64,H⟩
            ·refine zi eZ (dT h64) (aV (za eC (xQ (AW.ret (TQ.qr ?_)))))
             cases H
             exact eE rfl rfl
            ·refine zh eZ (dF h64) (AW.skip (TQ.qn (aV (za eC (xQ (AW.ret ?_))))))
             cases H
             exact eE rfl rfl
         ·refine aR (zM (es:=(zF v56.1)) rfl bZ rfl (zM (es:=(zF v11.1)) rfl (bR rfl) rfl ?_))
          obtain⟨v65,h66,H⟩:=zk H
          refine zD (u:=(oB v65)) eC Cl.fn (Xp h66) (Ec rfl (Ec eZ En)) (Vc (VD.agg rfl) (Vc (VD.agg rfl) Vn)) rfl (qI eZ (za eZ ?_))
          rcases zA H with⟨h67,H⟩|⟨h67,H⟩
          ·exact gDo eZ (cN h67) (za rfl (gDo rfl (cN h67) (za rfl (gDo rfl (cN h67) (Qh rfl eZ (zJ rfl (cN h67) eZ (zm (TQ.qn ⟨(decide (¬v56.2=v11.2)),H,(zI [1024,512] (sR rfl rfl) (blR rfl) (BK.cons rfl (bR rfl) rfl (by first|rfl|simp) (bkR rfl rfl rfl)) GK.nil)⟩))))))))
          ·exact zb eZ (cN (nt h67)) rfl (zb rfl (cN (nt h67)) rfl (zb rfl (cN (nt h67)) rfl (zC rfl (cN (nt h67)) eC (zm (TQ.qn ⟨true,H,(zI [1024,512] (sR rfl rfl) (blR rfl) (BK.cons rfl (bR rfl) rfl (by first|rfl|simp) (bkR rfl rfl rfl)) GK.nil)⟩)))))
     ·refine aR (za eZ (qi eZ eC (za eZ ?_)))
      rcases zA H with⟨h68,H⟩|⟨h68,H⟩
      ·exact zb eZ (dT h68) rfl (zb rfl (dT h68) rfl (zb rfl (dT h68) rfl (zb rfl (dT h68) rfl (zC rfl (dT h68) eC (za eZ (zb eZ rfl rfl (zb rfl rfl rfl (zb rfl rfl rfl (zC rfl rfl eC (zm (TQ.qn ⟨true,H,(zI [] (sR rfl rfl) (blR rfl) (BK.cons rfl bZ rfl rfl (BK.cons rfl (bR rfl) rfl rfl (BK.cons rfl (bR rfl) rfl rfl (BK.cons rfl (bR rfl) rfl (by first|rfl|simp) (bkR rfl rfl rfl))))) GK.nil)⟩)))))))))))
      ·refine gDo eZ (dF h68) (zM (es:=[(dI v17.1.Me),(.sl 2497 0 v17.1.Own.length),(.sl 2498 0 v17.1.Frozen.length),(.sl 2499 0 v17.1.Cells.length),(.sl 2500 0 v17.1.Locks.length),(.sl 2501 0 v17.1.Helds.length),(.sl 2502 0 v17.1.Wounded.length),(.sl 2503 0 v17.1.Ended.length),(dI v17.1.Rank)]) rfl (bR rfl) rfl (gDo rfl (dF h68) (zM (es:=(zF v11.1)) rfl (bR rfl) rfl (gDo rfl (dF h68) ?_))))
       obtain⟨v69,h70,H⟩:=zk H
       refine zD (u:=(oB v69)) eC Cl.fn (Xp h70) (Ec rfl (Ec eZ En)) (Vc (VD.aggs (CDs.plain (CDs.sl (bR rfl) lm (CDs.sl (bR rfl) lm (CDs.sl (bR rfl) lm (CDs.sl (bR rfl) lm (CDs.sl (bR rfl) lm (CDs.sl (bR rfl) lm (CDs.sl (bR rfl) lm (CDs.plain CDs.nil)))))))))) (Vc (VD.agg rfl) Vn)) rfl (gDo rfl (dF h68) (qI eZ (zJ rfl (dF h68) eZ (za eZ ?_))))
       rcases zA H with⟨h71,H⟩|⟨h71,H⟩
       ·exact gDo eZ (cN h71) (za rfl (gDo rfl (cN h71) (za rfl (gDo rfl (cN h71) (Qh rfl eZ (zJ rfl (cN h71) eZ (zm (TQ.qn ⟨(decide (¬v17.2=v11.2)),H,(zI [] (sR rfl rfl) (blR rfl) (BK.cons rfl bZ rfl rfl (BK.cons rfl (bR rfl) rfl rfl (BK.cons rfl (bR rfl) rfl rfl (BK.cons rfl (bR rfl) rfl (by first|rfl|simp) (bkR rfl rfl rfl))))) GK.nil)⟩))))))))
       ·exact zb eZ (cN (nt h71)) rfl (zb rfl (cN (nt h71)) rfl (zb rfl (cN (nt h71)) rfl (zC rfl (cN (nt h71)) eC (zm (TQ.qn ⟨true,H,(zI [] (sR rfl rfl) (blR rfl) (BK.cons rfl bZ rfl rfl (BK.cons rfl (bR rfl) rfl rfl (BK.cons rfl (bR rfl) rfl rfl (BK.cons rfl (bR rfl) rfl (by first|rfl|simp) (bkR rfl rfl rfl))))) GK.nil)⟩)))))
    ·refine zi eZ (cN (nt h26)) (aV (za eC (xQ (AW.ret (TQ.qr ?_)))))
     cases H
     exact eE rfl rfl
  ·refine aR (zM (es:=[(dI v17.1.Me),(.sl 2497 0 v17.1.Own.length),(.sl 2498 0 v17.1.Frozen.length),(.sl 2499 0 v17.1.Cells.length),(.sl 2500 0 v17.1.Locks.length),(.sl 2501 0 v17.1.Helds.length),(.sl 2502 0 v17.1.Wounded.length),(.sl 2503 0 v17.1.Ended.length),(dI v17.1.Rank)]) rfl bZ rfl (zM (es:=(zF v11.1)) rfl (bR rfl) rfl ?_))
   obtain⟨v72,h73,H⟩:=zk H
   refine zD (u:=(oB v72)) eC Cl.fn (Xp h73) (Ec rfl (Ec eZ En)) (Vc (VD.aggs (CDs.plain (CDs.sl (bR rfl) lm (CDs.sl (bR rfl) lm (CDs.sl (bR rfl) lm (CDs.sl (bR rfl) lm (CDs.sl (bR rfl) lm (CDs.sl (bR rfl) lm (CDs.sl (bR rfl) lm (CDs.plain CDs.nil)))))))))) (Vc (VD.agg rfl) Vn)) rfl (qI eZ (za eZ ?_))
   rcases zA H with⟨h74,H⟩|⟨h74,H⟩
   ·exact gDo eZ (cN h74) (za rfl (gDo rfl (cN h74) (za rfl (gDo rfl (cN h74) (Qh rfl eZ (zJ rfl (cN h74) eZ (zm (TQ.qn ⟨(decide (¬v17.2=v11.2)),H,(zI [] (sR rfl rfl) (blR rfl) (BK.cons rfl (bR rfl) rfl rfl (BK.cons rfl (bR rfl) rfl rfl (BK.cons rfl (bR rfl) rfl rfl (BK.cons rfl (bR rfl) rfl (by first|rfl|simp) (BK.cons rfl bZ rfl (by first|rfl|simp) (bkR rfl rfl rfl)))))) GK.nil)⟩))))))))
   ·exact zb eZ (cN (nt h74)) rfl (zb rfl (cN (nt h74)) rfl (zb rfl (cN (nt h74)) rfl (zC rfl (cN (nt h74)) eC (zm (TQ.qn ⟨true,H,(zI [] (sR rfl rfl) (blR rfl) (BK.cons rfl (bR rfl) rfl rfl (BK.cons rfl (bR rfl) rfl rfl (BK.cons rfl (bR rfl) rfl rfl (BK.cons rfl (bR rfl) rfl (by first|rfl|simp) (BK.cons rfl bZ rfl (by first|rfl|simp) (bkR rfl rfl rfl)))))) GK.nil)⟩)))))
end Go.AW
