/- That functions of the program compute what the plain functions say. Conditions: each theorem's own. -/
import Derived.Test.YtpabbbmfcgnhdaaGreatMShardThaw
import Derived.Test.YtpabbbmfcgnhdaaGreatGShardThaw
import Derived.Test.YtpabbbmfcgnhdaaGreatSShardThaw
import Derived.Test.YtpabbbmfcgnhdaaGreatYt
import Derived.KernelRfl
import Derived.Test.YtpabbbmfcgnhdaaGreatDShardThawa
set_option linter.unusedVariables false
set_option linter.unusedSimpArgs false
set_option maxRecDepth 100000
namespace Go.AW
open Go.Proofs
theorem zef{a1:zn}{r:Bool}(H:Jv a1=some r):Fn Tryz.prog 115 (lent [(.agg (zR a1))]) true [(.bool r)]:=by
 refine zEx (fle rfl) ?_
 rw[zx]
 refine AW.weaken (zg [] (kv 0 (.agg (zE a1)) rfl rfl SL.nil) BL.nil BK.nil) ?_
 unfold Jv at H
 unfold zxH
 refine aV (jh (n:=64) (m:=9) (cs:=(zE a1)) rfl eZ rfl rfl nZ (za eC (xQ (aS (zF (fun t2:Bool=>(jy a1) t2=some r) (fun t2=>mk [(1,(.one (.ptr (.nm 64 0 0)))),(41,(oB t2))] [(64,(.vars 9 (zE a1)))] noG) ?_ ?_)))))
 ·intro t2 H
  unfold jy at H
  rcases zC H with⟨h4,H⟩|⟨h4,H⟩
  ·refine zi rfl h4 (aV (za eC (xQ (AW.ret (TQ.qr ?_)))))
   cases H
   exact eE rfl rfl
  ·refine zh rfl (nt h4) (AW.skip (TQ.qn (aS (zF (fun t5:Bool=>(jz a1) t5=some r) (fun t5=>mk [(1,(.one (.ptr (.nm 64 0 0)))),(69,(oB t5))] [(64,(.vars 9 (zE a1)))] noG) ?_ ?_))))
   ·intro t5 H
    unfold jz at H
    rcases zC H with⟨h7,H⟩|⟨h7,H⟩
    ·refine zi rfl h7 (aV (za eC (xQ (AW.ret (TQ.qr ?_)))))
     cases H
     exact eE rfl rfl
    ·refine zh rfl (nt h7) (AW.skip (TQ.qn (zF (fun t8:Unit=>(Q1 a1) t8=some r) (fun t8=>mk [(1,(.one (.ptr (.nm 64 0 0))))] [(64,(.vars 9 (zE a1)))] noG) ?_ ?_)))
     ·intro t8 H
      unfold Q1 at H
      refine zF (fun t10:Unit=>(Qa a1) t10=some r) (fun t10=>mk [(1,(.one (.ptr (.nm 64 0 0))))] [(64,(.vars 9 (zE a1)))] noG) ?_ ?_
      ·intro t10 H
       unfold Qa at H
       refine zF (fun t12:Unit=>(Z2 a1) t12=some r) (fun t12=>mk [(1,(.one (.ptr (.nm 64 0 0))))] [(64,(.vars 9 (zE a1)))] noG) ?_ ?_
       ·intro t12 H
        unfold Z2 at H
        refine zF (fun t14:Unit=>(ZY a1) t14=some r) (fun t14=>mk [(1,(.one (.ptr (.nm 64 0 0))))] [(64,(.vars 9 (zE a1)))] noG) ?_ ?_
        ·intro t14 H
         unfold ZY at H
         refine aS (AW.regd (zN (es:=(zE a1)) eZ bZ rfl ?_))
         obtain⟨v16,h17,H⟩:=zk H
         refine zD (u:=(oB v16)) eC Cl.fn (zcx h17) (Ec eZ En) (Vc (VD.agg rfl) Vn) rfl (za eZ ?_)
         rcases zC H with⟨h18,H⟩|⟨h18,H⟩
         ·refine gDo eZ h18 (zf (m:=3) rfl rfl (gDo rfl h18 (zl (q:=3) (c:=(.d (.sl 2 (List.map zj a1.Cells)))) eZ (hB rfl bZ) rfl rfl (gDo rfl h18 (zX eZ (n:=a1.Cells.length) lm (gDo rfl h18 (zN (es:=(zE a1)) rfl bZ rfl (gDo rfl h18 ?_))))))))
          obtain⟨v19,h20,H⟩:=zk H
          refine zD (u:=(oI v19)) eC Cl.fn (zfu h20) (Ec eZ En) (Vc (VD.agg rfl) Vn) rfl (gDo rfl h18 (qj rfl eZ (gDo rfl h18 (zay eZ eC (zB rfl h18 eZ (za eZ (xQ (AW.ret ?_))))))))
          cases H
          exact eE rfl rfl
         ·refine zb eZ (nt h18) rfl (zb rfl (nt h18) rfl (zb rfl (nt h18) rfl (zb rfl (nt h18) rfl (zb rfl (nt h18) rfl (zb rfl (nt h18) rfl (zb rfl (nt h18) rfl (zJ rfl (nt h18) eC (za eZ (xQ (AW.ret ?_))))))))))
          cases H
          exact eE rfl rfl
        ·refine aV (za eC (xQ (AW.block (AW.iter (fun s21:Int=>mk [(1,(.one (.ptr (.nm 64 0 0)))),(7,(oI s21))] [(64,(.vars 9 (zE a1)))] noG) H (zg [] (sR rfl rfl) (blR rfl) (bkR rfl rfl rfl)) ?_))))
         intro kb22 s21 H
         unfold YL at H
         refine aS (aV (za rfl (zf (m:=6) rfl rfl (zl (q:=6) (c:=(.d (.sl 1 (List.map zt a1.Wounded)))) eZ bZ rfl rfl (zX eZ (n:=a1.Wounded.length) lm (qh rfl eZ (xQ ?_)))))))
         rcases zC H with⟨h23,H⟩|⟨h23,H⟩
         ·refine zi eZ (dT h23) (AW.skip (TQ.qn (aS (AW.block (aS (AW.regd (zf (m:=7) rfl rfl (zl (q:=7) (c:=(.d (.sl 1 (List.map zt a1.Ended)))) eZ bZ rfl rfl (zf (m:=6) rfl rfl (zl (q:=6) (c:=(.d (.sl 1 (List.map zt a1.Wounded)))) eZ bZ rfl rfl (za rfl ?_)))))))))))
          obtain⟨v24,h25,H⟩:=zk H
          refine qy rfl eZ h25 (zY (e:=(.int .i64 v24)) eZ rfl ?_)
          obtain⟨v26,h27,H⟩:=zk H
          refine zD (u:=(oB v26)) eC Cl.fn (Y7 h27) (Ec rfl (Ec eZ En)) (Vc Vp (Vc Vp Vn)) rfl (xQ ?_)
          rcases zC H with⟨h28,H⟩|⟨h28,H⟩
          ·refine zi eZ h28 (aV (za eC (xQ (AW.weaken (zg [64] (kr 2 rfl rfl SL.nil) (blR rfl) BK.nil) (AW.ret (BQ.qr (TQ.qr (TQ.qr (BQ.qr (TQ.qr ?_))))))))))
           cases H
           exact eE rfl rfl
          ·exact zh eZ (nt h28) (AW.skip (BQ.qn (TQ.qn (aR (za rfl (qj eZ eC (za eZ (zm (TQ.qn ⟨(IntKind.wrap .i64 (s21+1)),H,(zg [] (sR rfl rfl) (blR rfl) (bkR rfl rfl rfl))⟩)))))))))
         ·exact zh eZ (dF h23) (AW.exit (TQ.qe (TQ.qe (BQ.qe (TQ.qn ⟨(),H,(zg [] (sR rfl rfl) (blR rfl) (bkR rfl rfl rfl))⟩)))))
       ·refine aV (za eC (xQ (AW.block (AW.iter (fun s29:Int=>mk [(1,(.one (.ptr (.nm 64 0 0)))),(5,(oI s29))] [(64,(.vars 9 (zE a1)))] noG) H (zg [] (sR rfl rfl) (blR rfl) (bkR rfl rfl rfl)) ?_))))
        intro kb30 s29 H
        unfold Yr at H
        refine aS (aV (za rfl (zf (m:=4) rfl rfl (zl (q:=4) (c:=(.d (.sl 4 (List.map zp a1.Locks)))) eZ bZ rfl rfl (zX eZ (n:=a1.Locks.length) lm (qh rfl eZ (xQ ?_)))))))
        rcases zC H with⟨h31,H⟩|⟨h31,H⟩
        ·refine zi eZ (dT h31) (AW.skip (TQ.qn (aS (AW.block (aV (zf (m:=4) rfl rfl (zl (q:=4) (c:=(.d (.sl 4 (List.map zp a1.Locks)))) eZ bZ rfl rfl (za rfl ?_))))))))
         obtain⟨v32,h33,H⟩:=zk H
         refine qy rfl eZ h33 (qf (es:=(qo v32)) eZ rfl (Zl (n:=384) (m:=4) rfl rfl (nR rfl) (zP (es:=(qo v32)) eZ rfl rfl rfl bZ rfl (xQ (zF (fun t34:Bool=>(Zi kb30 s29) t34=some r) (fun t34=>mk [(1,(.one (.ptr (.nm 64 0 0)))),(5,(oI s29)),(135,(oB t34))] [(64,(.vars 9 (zE a1)))] noG) ?_ ?_)))))
         ·intro t34 H
          unfold Zi at H
          rcases zC H with⟨h36,H⟩|⟨h36,H⟩
          ·refine zi rfl h36 (aV (za eC (xQ (AW.ret (BQ.qr (TQ.qr (TQ.qr (BQ.qr (TQ.qr ?_)))))))))
           cases H
           exact eE rfl rfl
          ·exact zh rfl (nt h36) (AW.skip (BQ.qn (TQ.qn (aR (za rfl (qj eZ eC (za eZ (zm (TQ.qn ⟨(IntKind.wrap .i64 (s29+1)),H,(zg [] (sR rfl rfl) (blR rfl) (bkR rfl rfl rfl))⟩)))))))))
         ·refine AW.regd (zf (m:=1) rfl rfl (zl (q:=1) (c:=(.d (.sl 2 (List.map zd a1.Own)))) eZ (hB rfl (bR rfl)) rfl rfl (zN (es:=(qo v32)) rfl bZ rfl ?_)))
          obtain⟨v37,h38,H⟩:=zk H
          refine zD (u:=(.agg [(dI v37.Lo),(dI v37.Hi)])) eC Cl.fn (QY h38) (Ec eZ En) (Vc (VD.agg rfl) Vn) rfl ?_
          obtain⟨v39,h40,H⟩:=zk H
          refine zD (u:=(oB v39)) eC Cl.fn (Jd h40) (Ec rfl (Ec eZ En)) (Vc Vp (Vc (VD.agg rfl) Vn)) rfl (qG eZ (za eZ ?_))
          rcases zC H with⟨h41,H⟩|⟨h41,H⟩
          ·refine gDo eZ (cN h41) (zf (m:=6) rfl rfl (gDo rfl (cN h41) (zl (q:=6) (c:=(.d (.sl 1 (List.map zt a1.Wounded)))) eZ (bR rfl) rfl rfl (gDo rfl (cN h41) (zf (m:=0) rfl rfl (gDo rfl (cN h41) (zl (q:=0) (c:=(dI v32.Tx)) eZ bZ rfl rfl (gDo rfl (cN h41) ?_))))))))
           obtain⟨v42,h43,H⟩:=zk H
           refine zD (u:=(oB v42)) eC Cl.fn (Y7 h43) (Ec rfl (Ec eZ En)) (Vc Vp (Vc Vp Vn)) rfl (zJ rfl (cN h41) eZ (za eZ ?_))
           rcases zC H with⟨h44,H⟩|⟨h44,H⟩
           ·exact zb eZ h44 rfl (zb rfl h44 rfl (zb rfl h44 rfl (zb rfl h44 rfl (zb rfl h44 rfl (zB rfl h44 eC (zm (TQ.qn ⟨true,H,(zg [384] (sR rfl rfl) (blR rfl) (bkR rfl rfl rfl))⟩)))))))
           ·refine gDo eZ (nt h44) (zf (m:=7) rfl rfl (gDo rfl (nt h44) (zl (q:=7) (c:=(.d (.sl 1 (List.map zt a1.Ended)))) eZ (bR rfl) rfl rfl (gDo rfl (nt h44) (zf (m:=0) rfl rfl (gDo rfl (nt h44) (zl (q:=0) (c:=(dI v32.Tx)) eZ bZ rfl rfl (gDo rfl (nt h44) ?_))))))))
            obtain⟨v45,h46,H⟩:=zk H
            exact zD (u:=(oB v45)) eC Cl.fn (Y7 h46) (Ec rfl (Ec eZ En)) (Vc Vp (Vc Vp Vn)) rfl (zJ rfl (nt h44) eZ (zm (TQ.qn ⟨v45,H,(zg [384] (sR rfl rfl) (blR rfl) (bkR rfl rfl rfl))⟩)))
          ·exact zb eZ (cN (nt h41)) rfl (zb rfl (cN (nt h41)) rfl (zb rfl (cN (nt h41)) rfl (zb rfl (cN (nt h41)) rfl (zb rfl (cN (nt h41)) rfl (zB rfl (cN (nt h41)) eC (za eZ (zb eZ rfl rfl (zb rfl rfl rfl (zb rfl rfl rfl (zb rfl rfl rfl (zb rfl rfl rfl (zB rfl rfl eC (zm (TQ.qn ⟨true,H,(zg [384] (sR rfl rfl) (blR rfl) (bkR rfl rfl rfl))⟩))))))))))))))
        ·exact zh eZ (dF h31) (AW.exit (TQ.qe (TQ.qe (BQ.qe (TQ.qn ⟨(),H,(zg [] (sR rfl rfl) (blR rfl) (bkR rfl rfl rfl))⟩)))))
      ·refine aV (za eC (xQ (AW.block (AW.iter (fun s47:Int=>mk [(1,(.one (.ptr (.nm 64 0 0)))),(4,(oI s47))] [(64,(.vars 9 (zE a1)))] noG) H (zg [] (sR rfl rfl) (blR rfl) (bkR rfl rfl rfl)) ?_))))
       intro kb48 s47 H
       unfold YN at H
       refine aS (aV (za rfl (zf (m:=3) rfl rfl (zl (q:=3) (c:=(.d (.sl 2 (List.map zj a1.Cells)))) eZ bZ rfl rfl (zX eZ (n:=a1.Cells.length) lm (qh rfl eZ (xQ ?_)))))))
       rcases zC H with⟨h49,H⟩|⟨h49,H⟩
       ·refine zi eZ (dT h49) (AW.skip (TQ.qn (aS (AW.block (aS (AW.regd (zf (m:=1) rfl rfl (zl (q:=1) (c:=(.d (.sl 2 (List.map zd a1.Own)))) eZ (hB rfl bZ) rfl rfl (zf (m:=3) rfl rfl (zl (q:=3) (c:=(.d (.sl 2 (List.map zj a1.Cells)))) eZ bZ rfl rfl (za rfl ?_)))))))))))
        obtain⟨v50,h51,H⟩:=zk H
        refine qy rfl eZ h51 (z6 (m:=0) eZ rfl (zY (e:=(.int .i64 v50.Key)) eZ rfl ?_))
        obtain⟨v52,h53,H⟩:=zk H
        refine zD (u:=(.agg [(dI v52.Lo),(dI v52.Hi)])) eC Cl.fn (zbH h53) (Ec eZ En) (Vc Vp Vn) rfl ?_
        obtain⟨v54,h55,H⟩:=zk H
        refine zD (u:=(oB v54)) eC Cl.fn (Jd h55) (Ec rfl (Ec eZ En)) (Vc Vp (Vc (VD.agg rfl) Vn)) rfl (qG eZ (xQ (AW.weaken (zg [] (kr 103 rfl rfl (kr 1 rfl rfl (kr 4 rfl rfl SL.nil))) (blR rfl) (BK.cons (n:=64) rfl bZ rfl rfl BK.nil)) ?_)))
        rcases zC H with⟨h56,H⟩|⟨h56,H⟩
        ·exact zh eZ (cN h56) (AW.skip (BQ.qn (TQ.qn (aR (za rfl (qj eZ eC (za eZ (zm (TQ.qn ⟨(IntKind.wrap .i64 (s47+1)),H,(zg [] (sR rfl rfl) (blR rfl) (bkR rfl rfl rfl))⟩)))))))))
        ·refine zi eZ (cN (nt h56)) (aV (za eC (xQ (AW.ret (BQ.qr (TQ.qr (TQ.qr (BQ.qr (TQ.qr ?_)))))))))
         cases H
         exact eE rfl rfl
       ·exact zh eZ (dF h49) (AW.exit (TQ.qe (TQ.qe (BQ.qe (TQ.qn ⟨(),H,(zg [] (sR rfl rfl) (blR rfl) (bkR rfl rfl rfl))⟩)))))
     ·refine aV (za eC (xQ (AW.block (AW.iter (fun s57:Int=>mk [(1,(.one (.ptr (.nm 64 0 0)))),(3,(oI s57))] [(64,(.vars 9 (zE a1)))] noG) H (zg [] (sR rfl rfl) (blR rfl) (bkR rfl rfl rfl)) ?_))))
      intro kb58 s57 H
      unfold YI at H
      refine aS (aV (za rfl (zf (m:=2) rfl rfl (zl (q:=2) (c:=(.d (.sl 2 (List.map zd a1.Frozen)))) eZ bZ rfl rfl (zX eZ (n:=a1.Frozen.length) lm (qh rfl eZ (xQ ?_)))))))
      rcases zC H with⟨h59,H⟩|⟨h59,H⟩
      ·refine zi eZ (dT h59) (AW.skip (TQ.qn (aS (AW.block (aS (AW.regd (zf (m:=1) rfl rfl (zl (q:=1) (c:=(.d (.sl 2 (List.map zd a1.Own)))) eZ bZ rfl rfl (zf (m:=2) rfl rfl (zl (q:=2) (c:=(.d (.sl 2 (List.map zd a1.Frozen)))) eZ bZ rfl rfl (za rfl ?_)))))))))))
       obtain⟨v60,h61,H⟩:=zk H
       refine qy rfl eZ h61 (qf (es:=[(dI v60.Lo),(dI v60.Hi)]) eZ rfl ?_)
       obtain⟨v62,h63,H⟩:=zk H
       refine zD (u:=(oB v62)) eC Cl.fn (Jd h63) (Ec rfl (Ec eZ En)) (Vc Vp (Vc (VD.agg rfl) Vn)) rfl (qG eZ (xQ (AW.weaken (zg [] (kr 85 rfl rfl (kr 1 rfl rfl (kr 3 rfl rfl SL.nil))) (blR rfl) (BK.cons (n:=64) rfl bZ rfl rfl BK.nil)) ?_)))
       rcases zC H with⟨h64,H⟩|⟨h64,H⟩
       ·exact zh eZ (cN h64) (AW.skip (BQ.qn (TQ.qn (aR (za rfl (qj eZ eC (za eZ (zm (TQ.qn ⟨(IntKind.wrap .i64 (s57+1)),H,(zg [] (sR rfl rfl) (blR rfl) (bkR rfl rfl rfl))⟩)))))))))
       ·refine zi eZ (cN (nt h64)) (aV (za eC (xQ (AW.ret (BQ.qr (TQ.qr (TQ.qr (BQ.qr (TQ.qr ?_)))))))))
        cases H
        exact eE rfl rfl
      ·exact zh eZ (dF h59) (AW.exit (TQ.qe (TQ.qe (BQ.qe (TQ.qn ⟨(),H,(zg [] (sR rfl rfl) (blR rfl) (bkR rfl rfl rfl))⟩)))))
   ·refine aR (zf (m:=5) eZ rfl (zl (q:=5) (c:=(.d (.sl 2 (List.map zA a1.Helds)))) eZ bZ rfl rfl (zX eZ (n:=a1.Helds.length) lm (KN eZ eC (za eZ ?_)))))
    rcases zC H with⟨h65,H⟩|⟨h65,H⟩
    ·exact zb eZ (dT h65) rfl (zb rfl (dT h65) rfl (zb rfl (dT h65) rfl (zb rfl (dT h65) rfl (zB rfl (dT h65) eC (za eZ (zb eZ rfl rfl (zb rfl rfl rfl (zb rfl rfl rfl (zb rfl rfl rfl (zB rfl rfl eC (za eZ (zb eZ rfl rfl (zb rfl rfl rfl (zb rfl rfl rfl (zb rfl rfl rfl (zB rfl rfl eC (za eZ (zb eZ rfl rfl (zb rfl rfl rfl (zb rfl rfl rfl (zb rfl rfl rfl (zB rfl rfl eC (zm (TQ.qn ⟨true,H,(zg [] (sR rfl rfl) (blR rfl) (bkR rfl rfl rfl))⟩))))))))))))))))))))))))
    ·refine gDo eZ (dF h65) (zf (m:=6) rfl rfl (gDo rfl (dF h65) (zl (q:=6) (c:=(.d (.sl 1 (List.map zt a1.Wounded)))) eZ bZ rfl rfl (gDo rfl (dF h65) (zX eZ (n:=a1.Wounded.length) lm (gDo rfl (dF h65) (KN eZ eC (zJ rfl (dF h65) eZ (za eZ ?_)))))))))
     rcases zC H with⟨h66,H⟩|⟨h66,H⟩
     ·exact zb eZ (dT h66) rfl (zb rfl (dT h66) rfl (zb rfl (dT h66) rfl (zb rfl (dT h66) rfl (zB rfl (dT h66) eC (za eZ (zb eZ rfl rfl (zb rfl rfl rfl (zb rfl rfl rfl (zb rfl rfl rfl (zB rfl rfl eC (za eZ (zb eZ rfl rfl (zb rfl rfl rfl (zb rfl rfl rfl (zb rfl rfl rfl (zB rfl rfl eC (zm (TQ.qn ⟨true,H,(zg [] (sR rfl rfl) (blR rfl) (bkR rfl rfl rfl))⟩))))))))))))))))))
     ·refine gDo eZ (dF h66) (zf (m:=7) rfl rfl (gDo rfl (dF h66) (zl (q:=7) (c:=(.d (.sl 1 (List.map zt a1.Ended)))) eZ bZ rfl rfl (gDo rfl (dF h66) (zX eZ (n:=a1.Ended.length) lm (gDo rfl (dF h66) (KN eZ eC (zJ rfl (dF h66) eZ (za eZ ?_)))))))))
      rcases zC H with⟨h67,H⟩|⟨h67,H⟩
      ·exact zb eZ (dT h67) rfl (zb rfl (dT h67) rfl (zb rfl (dT h67) rfl (zb rfl (dT h67) rfl (zB rfl (dT h67) eC (za eZ (zb eZ rfl rfl (zb rfl rfl rfl (zb rfl rfl rfl (zb rfl rfl rfl (zB rfl rfl eC (zm (TQ.qn ⟨true,H,(zg [] (sR rfl rfl) (blR rfl) (bkR rfl rfl rfl))⟩))))))))))))
      ·refine gDo eZ (dF h67) (zf (m:=6) rfl rfl (gDo rfl (dF h67) (zl (q:=6) (c:=(.d (.sl 1 (List.map zt a1.Wounded)))) eZ bZ rfl rfl (gDo rfl (dF h67) ?_))))
       obtain⟨v68,h69,H⟩:=zk H
       refine zD (u:=(oB v68)) eC Cl.fn (zbD h69) (Ec eZ En) (Vc Vp Vn) rfl (gDo rfl (dF h67) (qG eZ (zJ rfl (dF h67) eZ (za eZ ?_))))
       rcases zC H with⟨h70,H⟩|⟨h70,H⟩
       ·refine gDo eZ (cN h70) (zf (m:=7) rfl rfl (gDo rfl (cN h70) (zl (q:=7) (c:=(.d (.sl 1 (List.map zt a1.Ended)))) eZ bZ rfl rfl (gDo rfl (cN h70) ?_))))
        obtain⟨v71,h72,H⟩:=zk H
        exact zD (u:=(oB v71)) eC Cl.fn (zbD h72) (Ec eZ En) (Vc Vp Vn) rfl (gDo rfl (cN h70) (qG eZ (zJ rfl (cN h70) eZ (zm (TQ.qn ⟨(!v71),H,(zg [] (sR rfl rfl) (blR rfl) (bkR rfl rfl rfl))⟩)))))
       ·exact zb eZ (cN (nt h70)) rfl (zb rfl (cN (nt h70)) rfl (zb rfl (cN (nt h70)) rfl (zb rfl (cN (nt h70)) rfl (zB rfl (cN (nt h70)) eC (zm (TQ.qn ⟨true,H,(zg [] (sR rfl rfl) (blR rfl) (bkR rfl rfl rfl))⟩))))))
 ·refine aR (zf (m:=0) rfl rfl (zl (q:=0) (c:=(dI a1.Me)) eZ bZ rfl rfl ?_))
  obtain⟨v73,h74,H⟩:=zk H
  refine zD (u:=(oB v73)) eC Cl.fn (JT h74) (Ec eZ (Ec eC (Ec eC En))) (Vc Vp (Vc Vp (Vc Vp Vn))) rfl (qG eZ (za eZ ?_))
  rcases zC H with⟨h75,H⟩|⟨h75,H⟩
  ·refine gDo eZ (cN h75) (zf (m:=1) rfl rfl (gDo rfl (cN h75) (zl (q:=1) (c:=(.d (.sl 2 (List.map zd a1.Own)))) eZ bZ rfl rfl (gDo rfl (cN h75) ?_))))
   obtain⟨v76,h77,H⟩:=zk H
   refine zD (u:=(oB v76)) eC Cl.fn (xD h77) (Ec eZ En) (Vc Vp Vn) rfl (gDo rfl (cN h75) (qG eZ (zJ rfl (cN h75) eZ (za eZ ?_))))
   rcases zC H with⟨h78,H⟩|⟨h78,H⟩
   ·refine gDo eZ (cN h78) (zf (m:=2) rfl rfl (gDo rfl (cN h78) (zl (q:=2) (c:=(.d (.sl 2 (List.map zd a1.Frozen)))) eZ bZ rfl rfl (gDo rfl (cN h78) ?_))))
    obtain⟨v79,h80,H⟩:=zk H
    refine zD (u:=(oB v79)) eC Cl.fn (xD h80) (Ec eZ En) (Vc Vp Vn) rfl (gDo rfl (cN h78) (qG eZ (zJ rfl (cN h78) eZ (za eZ ?_))))
    rcases zC H with⟨h81,H⟩|⟨h81,H⟩
    ·refine gDo eZ (cN h81) (zf (m:=3) rfl rfl (gDo rfl (cN h81) (zl (q:=3) (c:=(.d (.sl 2 (List.map zj a1.Cells)))) eZ bZ rfl rfl (gDo rfl (cN h81) ?_))))
     obtain⟨v82,h83,H⟩:=zk H
     refine zD (u:=(oB v82)) eC Cl.fn (zaS h83) (Ec eZ En) (Vc Vp Vn) rfl (gDo rfl (cN h81) (qG eZ (zJ rfl (cN h81) eZ (za eZ ?_))))
     rcases zC H with⟨h84,H⟩|⟨h84,H⟩
     ·refine gDo eZ (cN h84) (zf (m:=4) rfl rfl (gDo rfl (cN h84) (zl (q:=4) (c:=(.d (.sl 4 (List.map zp a1.Locks)))) eZ bZ rfl rfl (gDo rfl (cN h84) ?_))))
      obtain⟨v85,h86,H⟩:=zk H
      refine zD (u:=(oB v85)) eC Cl.fn (zfi h86) (Ec eZ En) (Vc Vp Vn) rfl (gDo rfl (cN h84) (qG eZ (zJ rfl (cN h84) eZ (za eZ ?_))))
      rcases zC H with⟨h87,H⟩|⟨h87,H⟩
      ·refine gDo eZ (cN h87) (zf (m:=8) rfl rfl (gDo rfl (cN h87) (zl (q:=8) (c:=(dI a1.Rank)) eZ bZ rfl rfl (gDo rfl (cN h87) ?_))))
       obtain⟨v88,h89,H⟩:=zk H
       exact zD (u:=(oB v88)) eC Cl.fn (JT h89) (Ec eZ (Ec eC (Ec eC En))) (Vc Vp (Vc Vp (Vc Vp Vn))) rfl (gDo rfl (cN h87) (qG eZ (zJ rfl (cN h87) eZ (zm (TQ.qn ⟨(!v88),H,(zg [] (sR rfl rfl) (blR rfl) (bkR rfl rfl rfl))⟩)))))
      ·exact zb eZ (cN (nt h87)) rfl (zb rfl (cN (nt h87)) rfl (zb rfl (cN (nt h87)) rfl (zb rfl (cN (nt h87)) rfl (zB rfl (cN (nt h87)) eC (zm (TQ.qn ⟨true,H,(zg [] (sR rfl rfl) (blR rfl) (bkR rfl rfl rfl))⟩))))))
     ·exact zb eZ (cN (nt h84)) rfl (zb rfl (cN (nt h84)) rfl (zb rfl (cN (nt h84)) rfl (zb rfl (cN (nt h84)) rfl (zB rfl (cN (nt h84)) eC (za eZ (zb eZ rfl rfl (zb rfl rfl rfl (zb rfl rfl rfl (zb rfl rfl rfl (zB rfl rfl eC (zm (TQ.qn ⟨true,H,(zg [] (sR rfl rfl) (blR rfl) (bkR rfl rfl rfl))⟩))))))))))))
    ·exact zb eZ (cN (nt h81)) rfl (zb rfl (cN (nt h81)) rfl (zb rfl (cN (nt h81)) rfl (zb rfl (cN (nt h81)) rfl (zB rfl (cN (nt h81)) eC (za eZ (zb eZ rfl rfl (zb rfl rfl rfl (zb rfl rfl rfl (zb rfl rfl rfl (zB rfl rfl eC (za eZ (zb eZ rfl rfl (zb rfl rfl rfl (zb rfl rfl rfl (zb rfl rfl rfl (zB rfl rfl eC (zm (TQ.qn ⟨true,H,(zg [] (sR rfl rfl) (blR rfl) (bkR rfl rfl rfl))⟩))))))))))))))))))
   ·exact zb eZ (cN (nt h78)) rfl (zb rfl (cN (nt h78)) rfl (zb rfl (cN (nt h78)) rfl (zb rfl (cN (nt h78)) rfl (zB rfl (cN (nt h78)) eC (za eZ (zb eZ rfl rfl (zb rfl rfl rfl (zb rfl rfl rfl (zb rfl rfl rfl (zB rfl rfl eC (za eZ (zb eZ rfl rfl (zb rfl rfl rfl (zb rfl rfl rfl (zb rfl rfl rfl (zB rfl rfl eC (za eZ (zb eZ rfl rfl (zb rfl rfl rfl (zb rfl rfl rfl (zb rfl rfl rfl (zB rfl rfl eC (zm (TQ.qn ⟨true,H,(zg [] (sR rfl rfl) (blR rfl) (bkR rfl rfl rfl))⟩))))))))))))))))))))))))
  ·exact zb eZ (cN (nt h75)) rfl (zb rfl (cN (nt h75)) rfl (zb rfl (cN (nt h75)) rfl (zb rfl (cN (nt h75)) rfl (zB rfl (cN (nt h75)) eC (za eZ (zb eZ rfl rfl (zb rfl rfl rfl (zb rfl rfl rfl (zb rfl rfl rfl (zB rfl rfl eC (za eZ (zb eZ rfl rfl (zb rfl rfl rfl (zb rfl rfl rfl (zb rfl rfl rfl (zB rfl rfl eC (za eZ (zb eZ rfl rfl (zb rfl rfl rfl (zb rfl rfl rfl (zb rfl rfl rfl (zB rfl rfl eC (za eZ (zb eZ rfl rfl (zb rfl rfl rfl (zb rfl rfl rfl (zb rfl rfl rfl (zB rfl rfl eC (zm (TQ.qn ⟨true,H,(zg [] (sR rfl rfl) (blR rfl) (bkR rfl rfl rfl))⟩))))))))))))))))))))))))))))))
theorem zeB{a1:zn}{a2:Int}{a3:ze}{r:Int}(H:JF a1 a2 a3=some r):Fn Tryz.prog 78 (lent [(.agg (zR a1)),(.int .i64 a2),(.agg (zd a3))]) true [(.int .i64 r)]:=by
 refine f78 (fle rfl) ?_
 rw[zx]
 refine AW.weaken (zg [] (kv 0 (.agg (zE a1)) rfl rfl (kv 1 (oI a2) rfl rfl (kv 2 (.agg [(dI a3.Lo),(dI a3.Hi)]) rfl rfl SL.nil))) BL.nil BK.nil) ?_
 unfold JF at H
 unfold i78
 refine aV (jh (n:=192) (m:=9) (cs:=(zE a1)) rfl eZ rfl rfl nZ (jh (n:=320) (m:=2) (cs:=[(dI a3.Lo),(dI a3.Hi)]) rfl rfl rfl rfl (nR rfl) (za eC (xQ (aS (AW.block (zF (fun t4:Bool=>(Zt a2 a1) t4=some r) (fun t4=>mk [(1,(oI a2)),(3,(.one (.ptr (.nm 192 0 0)))),(7,(oB t4))] [(192,(.vars 9 (zE a1)))] noG) ?_ ?_)))))))
 ·intro t4 H
  unfold Zt at H
  rcases zC H with⟨h6,H⟩|⟨h6,H⟩
  ·refine zi rfl h6 (aV (za eC (xQ (AW.ret (BQ.qr (TQ.qr ?_))))))
   cases H
   exact eE rfl rfl
  ·refine zh rfl (nt h6) (aV (za eZ (zf (m:=8) rfl rfl (zl (q:=8) (c:=(dI a1.Rank)) eZ bZ rfl rfl (qh rfl eZ (za eZ (xQ ?_)))))))
   rcases zC H with⟨h7,H⟩|⟨h7,H⟩
   ·refine zi eZ (dT h7) (aV (za eC (xQ (AW.ret (BQ.qr (TQ.qr ?_))))))
    cases H
    exact eE rfl rfl
   ·refine zh eZ (dF h7) (AW.skip (BQ.qn (TQ.qn (aV (za eC (xQ (AW.ret ?_)))))))
    cases H
    exact eE rfl rfl
 ·refine aR (zN (es:=(zE a1)) rfl (bR rfl) rfl ?_)
  obtain⟨v8,h9,H⟩:=zk H
  refine zD (u:=(oB v8)) eC Cl.fn (zef h9) (Ec eZ En) (Vc (VD.agg rfl) Vn) rfl (qG eZ (za eZ ?_))
  rcases zC H with⟨h10,H⟩|⟨h10,H⟩
  ·refine gDo eZ (cN h10) (za rfl (gDo rfl (cN h10) ?_))
   obtain⟨v11,h12,H⟩:=zk H
   refine zD (u:=(oB v11)) eC Cl.fn (JT h12) (Ec eZ (Ec eC (Ec eC En))) (Vc Vp (Vc Vp (Vc Vp Vn))) rfl (gDo rfl (cN h10) (qG eZ (zJ rfl (cN h10) eZ (za eZ ?_))))
   rcases zC H with⟨h13,H⟩|⟨h13,H⟩
   ·refine gDo eZ (cN h13) (zN (es:=[(dI a3.Lo),(dI a3.Hi)]) rfl bZ rfl (gDo rfl (cN h13) ?_))
    obtain⟨v14,h15,H⟩:=zk H
    exact zD (u:=(oB v14)) eC Cl.fn (jT h15) (Ec eZ En) (Vc (VD.agg rfl) Vn) rfl (gDo rfl (cN h13) (qG eZ (zJ rfl (cN h13) eZ (za eZ (zm (TQ.qn ⟨(!v14),H,(zg [320] (sR rfl rfl) (blR rfl) (bkR rfl rfl rfl))⟩))))))
   ·exact zb eZ (cN (nt h13)) rfl (zb rfl (cN (nt h13)) rfl (zb rfl (cN (nt h13)) rfl (zB rfl (cN (nt h13)) eC (za eZ (zm (TQ.qn ⟨true,H,(zg [320] (sR rfl rfl) (blR rfl) (bkR rfl rfl rfl))⟩))))))
  ·exact zb eZ (cN (nt h10)) rfl (zb rfl (cN (nt h10)) rfl (zb rfl (cN (nt h10)) rfl (zB rfl (cN (nt h10)) eC (za eZ (zb eZ rfl rfl (zb rfl rfl rfl (zb rfl rfl rfl (zB rfl rfl eC (za eZ (zm (TQ.qn ⟨true,H,(zg [320] (sR rfl rfl) (blR rfl) (bkR rfl rfl rfl))⟩)))))))))))
theorem zaW{a1:zn}{r:zn}(H:Ql a1=some r):Fn Tryz.prog 80 (lent [(.agg (zR a1))]) true [(.agg (zR r))]:=by
 refine f80 (fle rfl) ?_
 rw[zx]
 refine AW.weaken (t:=mk [(0,(.agg (zE a1)))] [] (lk [])) (zg [] (sR rfl rfl) BL.nil BK.nil) ?_
 unfold Ql at H
 unfold i80
 refine aV (jh (n:=64) (m:=9) (cs:=(zE a1)) rfl eZ rfl rfl nZ (Zl (n:=128) (m:=9) rfl rfl (nR rfl) (xQ (aS (zW (zw (zf (m:=0) rfl rfl (zm (zw (zl (q:=0) (c:=(dI a1.Me)) eZ (bR rfl) rfl rfl (zm (zw (zf (m:=8) rfl rfl (zm (zw (zl (q:=8) (c:=(dI a1.Rank)) eZ (bR rfl) rfl rfl (zm (zw (Xa (cs:=[(dI a1.Me),.zs,.zs,.zs,.zs,.zs,.zs,.zs,(dI a1.Rank)]) (jO rfl (jO eZ kF)) rfl (zm (zw (Zl (n:=192) (m:=9) rfl rfl (nR rfl) (zm (zw (zP (es:=[(dI a1.Me),.zs,.zs,.zs,.zs,.zs,.zs,.zs,(dI a1.Rank)]) eZ rfl rfl rfl bZ rfl (zm (qc (xQ (aS (zW (zw (yw (m:=704) rfl (nR rfl) (zm (zw (zf (m:=1) rfl rfl (zm ?_))))))))))))))))))))))))))))))))))))
 refine zw (zl (q:=1) (c:=(.d (.sl 2 (List.map zd a1.Own)))) eZ (bR rfl) rfl rfl (zm (zw ?_)))
 obtain⟨h2,H⟩:=qa H
 refine zau (f:=zd) (m:=896) (own:=true) (ys:=a1.Own) (q:=a1.Own.length) rfl rfl rfl eZ (El.lent fun _ _=>rfl) rfl h2 (by decide) (nR rfl) (zm (zw (zf (m:=1) rfl rfl (zm (zw (zP (es:=[(dI a1.Me),(.sl 896 0 a1.Own.length),.zs,.zs,.zs,.zs,.zs,.zs,(dI a1.Rank)]) eZ rfl rfl rfl (bR rfl) rfl (zm (qc (xQ (aS (zW (zw (yw (m:=1024) rfl (nR rfl) (zm (zw (zf (m:=2) rfl rfl (zm (zw (zl (q:=2) (c:=(.d (.sl 2 (List.map zd a1.Frozen)))) eZ (bR rfl) rfl rfl (zm (zw ?_)))))))))))))))))))))
 obtain⟨h3,H⟩:=qa H
 refine zau (f:=zd) (m:=1216) (own:=true) (ys:=a1.Frozen) (q:=a1.Frozen.length) rfl rfl rfl eZ (El.lent fun _ _=>rfl) rfl h3 (by decide) (nR rfl) (zm (zw (zf (m:=2) rfl rfl (zm (zw (zP (es:=[(dI a1.Me),(.sl 896 0 a1.Own.length),(.sl 1216 0 a1.Frozen.length),.zs,.zs,.zs,.zs,.zs,(dI a1.Rank)]) eZ rfl rfl rfl (bR rfl) rfl (zm (qc (xQ (AW.weaken (zM [] (kr 3 rfl rfl (kr 2 rfl rfl (kr 1 rfl rfl SL.nil))) (blR rfl) (BK.cons (n:=192) rfl bZ rfl rfl (BK.cons (n:=1216) rfl (bR rfl) rfl rfl (BK.cons (n:=896) rfl (bR rfl) rfl rfl (BK.cons (n:=128) rfl (bR rfl) rfl rfl (BK.cons (n:=64) rfl (bR rfl) rfl rfl BK.nil))))) GK.nil) (aS (zW (zw (yw (m:=1344) rfl (nR rfl) (zm (zw (zf (m:=3) rfl rfl (zm (zw (zl (q:=3) (c:=(.d (.sl 2 (List.map zj a1.Cells)))) eZ (bR rfl) rfl rfl (zm (zw ?_))))))))))))))))))))))
 obtain⟨h4,H⟩:=qa H
 refine zau (f:=zj) (m:=1536) (own:=true) (ys:=a1.Cells) (q:=a1.Cells.length) rfl rfl rfl eZ (El.lent fun _ _=>rfl) rfl h4 (by decide) (nR rfl) (zm (zw (zf (m:=3) rfl rfl (zm (zw (zP (es:=[(dI a1.Me),(.sl 896 0 a1.Own.length),(.sl 1216 0 a1.Frozen.length),(.sl 1536 0 a1.Cells.length),.zs,.zs,.zs,.zs,(dI a1.Rank)]) eZ rfl rfl rfl (bR rfl) rfl (zm (qc (xQ (aS (zW (zw (yw (m:=1664) rfl (nR rfl) (zm (zw (zf (m:=4) rfl rfl (zm (zw (zl (q:=4) (c:=(.d (.sl 4 (List.map zp a1.Locks)))) eZ (bR rfl) rfl rfl (zm (zw ?_)))))))))))))))))))))
 obtain⟨h5,H⟩:=qa H
 refine zau (f:=zp) (m:=1856) (own:=true) (ys:=a1.Locks) (q:=a1.Locks.length) rfl rfl rfl eZ (El.lent fun _ _=>rfl) rfl h5 (by decide) (nR rfl) (zm (zw (zf (m:=4) rfl rfl (zm (zw (zP (es:=[(dI a1.Me),(.sl 896 0 a1.Own.length),(.sl 1216 0 a1.Frozen.length),(.sl 1536 0 a1.Cells.length),(.sl 1856 0 a1.Locks.length),.zs,.zs,.zs,(dI a1.Rank)]) eZ rfl rfl rfl (bR rfl) rfl (zm (qc (xQ (zF (fun t6:(List zL)=>(xq a1) t6=some r) (fun t6=>mk [(1,(.one (.ptr (.nm 64 0 0)))),(2,(.one (.ptr (.nm 128 0 0)))),(3,(.one (.ptr (.nm 192 0 0))))] [(64,(.vars 9 (zE a1))),(128,(.vars 9 [(dI 0),.zs,.zs,.zs,.zs,.zs,.zs,.zs,(dI 0)])),(320128,(.data 2 (List.map zA t6) true none)),(192,(.vars 9 [(dI a1.Me),(.sl 896 0 a1.Own.length),(.sl 1216 0 a1.Frozen.length),(.sl 1536 0 a1.Cells.length),(.sl 1856 0 a1.Locks.length),(.sl 320128 0 t6.length),.zs,.zs,(dI a1.Rank)])),(896,(.data 2 (List.map zd a1.Own) true none)),(1216,(.data 2 (List.map zd a1.Frozen) true none)),(1536,(.data 2 (List.map zj a1.Cells) true none)),(1856,(.data 4 (List.map zp a1.Locks) true none))] (lk [])) ?_ ?_))))))))))
 ·intro t6 H
  unfold xq at H
  refine aS (zW (zw (yw (m:=3456) rfl (nR rfl) (zm (zw (zf (m:=6) rfl rfl (zm (zw (zl (q:=6) (c:=(.d (.sl 1 (List.map zt a1.Wounded)))) eZ bZ rfl rfl (zm (zw ?_)))))))))))
  obtain⟨h8,H⟩:=qa H
  refine zau (f:=zt) (m:=3648) (own:=true) (ys:=a1.Wounded) (q:=a1.Wounded.length) rfl rfl rfl eZ (El.lent fun _ _=>rfl) rfl h8 (by decide) (nR rfl) (zm (zw (zf (m:=6) rfl rfl (zm (zw (zP (es:=[(dI a1.Me),(.sl 896 0 a1.Own.length),(.sl 1216 0 a1.Frozen.length),(.sl 1536 0 a1.Cells.length),(.sl 1856 0 a1.Locks.length),(.sl 320128 0 t6.length),(.sl 3648 0 a1.Wounded.length),.zs,(dI a1.Rank)]) eZ rfl rfl rfl (bR rfl) rfl (zm (qc (xQ (aS (zW (zw (yw (m:=3776) rfl (nR rfl) (zm (zw (zf (m:=7) rfl rfl (zm (zw (zl (q:=7) (c:=(.d (.sl 1 (List.map zt a1.Ended)))) eZ (bR rfl) rfl rfl (zm (zw ?_)))))))))))))))))))))
  obtain⟨h9,H⟩:=qa H
  refine zau (f:=zt) (m:=3968) (own:=true) (ys:=a1.Ended) (q:=a1.Ended.length) rfl rfl rfl eZ (El.lent fun _ _=>rfl) rfl h9 (by decide) (nR rfl) (zm (zw (zf (m:=7) rfl rfl (zm (zw (zP (es:=[(dI a1.Me),(.sl 896 0 a1.Own.length),(.sl 1216 0 a1.Frozen.length),(.sl 1536 0 a1.Cells.length),(.sl 1856 0 a1.Locks.length),(.sl 320128 0 t6.length),(.sl 3648 0 a1.Wounded.length),(.sl 3968 0 a1.Ended.length),(dI a1.Rank)]) eZ rfl rfl rfl (bR rfl) rfl (zm (qc (xQ (aS (zW (zw (zN (es:=[(dI a1.Me),(.sl 896 0 a1.Own.length),(.sl 1216 0 a1.Frozen.length),(.sl 1536 0 a1.Cells.length),(.sl 1856 0 a1.Locks.length),(.sl 320128 0 t6.length),(.sl 3648 0 a1.Wounded.length),(.sl 3968 0 a1.Ended.length),(dI a1.Rank)]) rfl bZ rfl (zm (zw (zP (es:=[(dI a1.Me),(.sl 896 0 a1.Own.length),(.sl 1216 0 a1.Frozen.length),(.sl 1536 0 a1.Cells.length),(.sl 1856 0 a1.Locks.length),(.sl 320128 0 t6.length),(.sl 3648 0 a1.Wounded.length),(.sl 3968 0 a1.Ended.length),(dI a1.Rank)]) rfl eZ rfl rfl (bR rfl) rfl (zm (qc (xQ (AW.ret ?_))))))))))))))))))))
  cases H
  exact qI (RL.cons (qS (es:=[(dI a1.Me),(.sl 896 0 a1.Own.length),(.sl 1216 0 a1.Frozen.length),(.sl 1536 0 a1.Cells.length),(.sl 1856 0 a1.Locks.length),(.sl 320128 0 t6.length),(.sl 3648 0 a1.Wounded.length),(.sl 3968 0 a1.Ended.length),(dI a1.Rank)]) rfl bZ rfl) (VO.aggs (VOs.cons (VO.flat rfl) (VOs.cons (VO.sl (bR rfl) lm (zy fun _=>rfl)) (VOs.cons (VO.sl (bR rfl) lm (zy fun _=>rfl)) (VOs.cons (VO.sl (bR rfl) lm (zy fun _=>rfl)) (VOs.cons (VO.sl (bR rfl) lm (zy fun _=>rfl)) (VOs.cons (ZN (bR rfl) lm rfl) (VOs.cons (VO.sl (bR rfl) lm (zy fun _=>rfl)) (VOs.cons (VO.sl (bR rfl) lm (zy fun _=>rfl)) (VOs.cons (VO.flat rfl) VOs.nil)))))))))) RL.nil) (by decide)
 ·refine aV (za eC (xQ (AW.block (AW.iter (fun s10:(Int×(List zL))=>mk [(1,(.one (.ptr (.nm 64 0 0)))),(2,(.one (.ptr (.nm 128 0 0)))),(3,(.one (.ptr (.nm 192 0 0)))),(4,(oI s10.1))] [(64,(.vars 9 (zE a1))),(128,(.vars 9 [(dI 0),.zs,.zs,.zs,.zs,.zs,.zs,.zs,(dI 0)])),(320192,(.data 2 (List.map zA s10.2) true none)),(192,(.vars 9 [(dI a1.Me),(.sl 896 0 a1.Own.length),(.sl 1216 0 a1.Frozen.length),(.sl 1536 0 a1.Cells.length),(.sl 1856 0 a1.Locks.length),(.sl 320192 0 s10.2.length),.zs,.zs,(dI a1.Rank)])),(896,(.data 2 (List.map zd a1.Own) true none)),(1216,(.data 2 (List.map zd a1.Frozen) true none)),(1536,(.data 2 (List.map zj a1.Cells) true none)),(1856,(.data 4 (List.map zp a1.Locks) true none))] (lk [])) H ((zM [] (sR rfl rfl) (blR rfl) (BK.cons rfl (bR rfl) rfl rfl (BK.cons rfl (bR rfl) rfl rfl (BK.cons rfl (bR rfl) rfl rfl (BK.cons rfl bZ rfl (by first|rfl|simp) (bkR rfl rfl rfl))))) GK.nil).trans (zkB 320192 2 192 5 true bZ rfl (nR rfl))) ?_))))
  intro kb11 s10 H
  unfold YS at H
  refine aS (aV (za rfl (zf (m:=5) rfl rfl (zl (q:=5) (c:=(.d (.sl 2 (List.map zA a1.Helds)))) eZ bZ rfl rfl (zX eZ (n:=a1.Helds.length) lm (qh rfl eZ (xQ ?_)))))))
  rcases zC H with⟨h12,H⟩|⟨h12,H⟩
  ·refine zi eZ (dT h12) (AW.skip (TQ.qn (aS (AW.block (aS (zW (zw (zf (m:=5) rfl rfl (zm (zw (zl (q:=5) (c:=(.d (.sl 2 (List.map zA a1.Helds)))) eZ bZ rfl rfl (zm (zw (za rfl (zm (zw ?_))))))))))))))))
   obtain⟨v13,h14,H⟩:=zk H
   refine qy rfl eZ h14 (zm (zw (qf (es:=(jE v13)) eZ rfl (zm (zw (Zl (n:=320) (m:=2) rfl rfl (nR rfl) (zm (zw (zP (es:=(jE v13)) eZ rfl rfl rfl bZ rfl (zm (qc (xQ (aS (zW (zw (yw (m:=2752) rfl (nR rfl) (zm (zw (zf (m:=1) rfl rfl (zm (zw (zl (q:=1) (c:=(.d (.sl 2 (List.map zj v13.Writes)))) eZ bZ rfl rfl (zm (zw ?_))))))))))))))))))))))))
   obtain⟨h15,H⟩:=qa H
   refine zau (f:=zj) (m:=2944) (own:=true) (ys:=v13.Writes) (q:=v13.Writes.length) rfl rfl rfl eZ (El.lent fun _ _=>rfl) rfl h15 (by decide) (nR rfl) (zm (zw (zf (m:=1) rfl rfl (zm (zw (zP (es:=[(dI v13.Tx),(.sl 2944 0 v13.Writes.length)]) eZ rfl rfl rfl (bR rfl) rfl (zm (qc (xQ (AW.weaken (zM [] (kr 5 rfl rfl (kr 1 rfl rfl (kr 2 rfl rfl (kr 3 rfl rfl (kr 4 rfl rfl SL.nil))))) (blR rfl) (BK.cons (n:=320) rfl bZ rfl rfl (BK.cons (n:=2944) rfl (bR rfl) rfl rfl (BK.cons (n:=64) rfl (bR rfl) rfl rfl (BK.cons (n:=128) rfl (bR rfl) rfl rfl (BK.cons (n:=320192) rfl (bR rfl) rfl rfl (BK.cons (n:=192) rfl (bR rfl) rfl rfl (BK.cons (n:=896) rfl (bR rfl) rfl rfl (BK.cons (n:=1216) rfl (bR rfl) rfl rfl (BK.cons (n:=1536) rfl (bR rfl) rfl rfl (BK.cons (n:=1856) rfl (bR rfl) rfl rfl BK.nil)))))))))) GK.nil) (zW (zw (zf (m:=5) rfl rfl (zm (zw (zl (q:=5) (c:=(.sl 320192 0 s10.2.length)) eZ (bR rfl) rfl rfl (zm (zw (zN (es:=[(dI v13.Tx),(.sl 2944 0 v13.Writes.length)]) rfl bZ rfl (zm (zw (zbt (m:=3264) (q:=1) (cs:=[(dI v13.Tx),(.sl 2944 0 v13.Writes.length)]) rfl (jO eZ kF) rfl (List.cons_ne_nil _ _) (by simp) (nR rfl) (zm ?_)))))))))))))))))))))))
   obtain⟨h16,H⟩:=qa H
   exact zg3 (f:=zA) (xs:=s10.2) (t:=v13) (q:=(s10.2++[v13]).length) (ds:=[(.int .i64 v13.Tx),(.sl 2 (List.map zj v13.Writes))]) (ns:=[2944]) rfl eZ (bR rfl) rfl bZ rfl (VOs.cons (VO.flat rfl) (VOs.cons (VO.sl (bR rfl) lm (zy fun _=>rfl)) VOs.nil)) rfl rfl rfl rfl h16 (by decide) (erL.cons (v':=(.one (.sl 3264 0 1))) rfl (erL.cons (v':=(.agg [(dI v13.Tx),.any])) rfl (erL.cons (v':=(.one (.sl 320192 0 s10.2.length))) rfl (erL.cons (v':=(.one (.ptr (.nm 192 0 5)))) rfl (erL.cons (v':=(.one (.ptr (.nm 320 0 0)))) rfl (erL.cons (v':=(.one (.ptr (.nm 64 0 0)))) rfl (erL.cons (v':=(.one (.ptr (.nm 128 0 0)))) rfl (erL.cons (v':=(.one (.ptr (.nm 192 0 0)))) rfl (erL.cons (v':=(oI s10.1)) rfl erL.nil))))))))) (erH.cons (v':=(.vars 2 [(dI v13.Tx),.any])) rfl rfl (erH.cons (v':=(.vars 2 [(dI v13.Tx),.any])) rfl rfl (erH.drop rfl (erH.cons (v':=(.vars 9 (zE a1))) rfl rfl (erH.cons (v':=(.vars 9 [(dI 0),.zs,.zs,.zs,.zs,.zs,.zs,.zs,(dI 0)])) rfl rfl (erH.cons (v':=(.data 2 (List.map zA s10.2) true none)) rfl rfl (erH.cons (v':=(.vars 9 [(dI a1.Me),(.sl 896 0 a1.Own.length),(.sl 1216 0 a1.Frozen.length),(.sl 1536 0 a1.Cells.length),(.sl 1856 0 a1.Locks.length),(.sl 320192 0 s10.2.length),.zs,.zs,(dI a1.Rank)])) rfl rfl (erH.cons (v':=(.data 2 (List.map zd a1.Own) true none)) rfl rfl (erH.cons (v':=(.data 2 (List.map zd a1.Frozen) true none)) rfl rfl (erH.cons (v':=(.data 2 (List.map zj a1.Cells) true none)) rfl rfl (erH.cons (v':=(.data 4 (List.map zp a1.Locks) true none)) rfl rfl erH.nil))))))))))) erL.nil (erL.cons (v':=(.one (.sl 3264 0 1))) rfl (erL.cons (v':=(.agg [(dI v13.Tx),.any])) rfl (erL.cons (v':=(.one .any)) rfl (erL.cons (v':=(.one (.ptr (.nm 192 0 5)))) rfl (erL.cons (v':=(.one (.ptr (.nm 320 0 0)))) rfl (erL.cons (v':=(.one (.ptr (.nm 64 0 0)))) rfl (erL.cons (v':=(.one (.ptr (.nm 128 0 0)))) rfl (erL.cons (v':=(.one (.ptr (.nm 192 0 0)))) rfl (erL.cons (v':=(oI s10.1)) rfl erL.nil))))))))) (erH.cons (v':=(.vars 2 [(dI v13.Tx),.any])) rfl rfl (erH.cons (v':=(.vars 2 [(dI v13.Tx),.any])) rfl rfl (erH.cons (v':=(.vars 9 (zE a1))) rfl rfl (erH.cons (v':=(.vars 9 [(dI 0),.zs,.zs,.zs,.zs,.zs,.zs,.zs,(dI 0)])) rfl rfl (erH.drop rfl (erH.cons (v':=(.vars 9 [(dI a1.Me),(.sl 896 0 a1.Own.length),(.sl 1216 0 a1.Frozen.length),(.sl 1536 0 a1.Cells.length),(.sl 1856 0 a1.Locks.length),.any,.zs,.zs,(dI a1.Rank)])) rfl rfl (erH.cons (v':=(.data 2 (List.map zd a1.Own) true none)) rfl rfl (erH.cons (v':=(.data 2 (List.map zd a1.Frozen) true none)) rfl rfl (erH.cons (v':=(.data 2 (List.map zj a1.Cells) true none)) rfl rfl (erH.cons (v':=(.data 4 (List.map zp a1.Locks) true none)) rfl rfl erH.nil)))))))))) erL.nil (zw (zf (m:=5) rfl rfl (zm (zw (zP (es:=[(dI a1.Me),(.sl 896 0 a1.Own.length),(.sl 1216 0 a1.Frozen.length),(.sl 1536 0 a1.Cells.length),(.sl 1856 0 a1.Locks.length),(.sl 320192 0 ((s10.2++[v13]).length)),.zs,.zs,(dI a1.Rank)]) eZ rfl rfl rfl (bR rfl) rfl (zm (qc (zm (BQ.qn (TQ.qn (aR (za rfl (qj eZ eC (za eZ (zm (TQ.qn ⟨((IntKind.wrap .i64 (s10.1+1)),(s10.2++[v13])),H,(zM [3264,320] (sR rfl rfl) (blR rfl) (BK.cons rfl (bR rfl) rfl rfl (BK.cons rfl (bR rfl) rfl rfl (BK.cons rfl (bR rfl) rfl rfl (BK.cons rfl bZ rfl (by first|rfl|simp) (bkR rfl rfl rfl))))) GK.nil)⟩))))))))))))))))
  ·exact zh eZ (dF h12) (AW.exit (TQ.qe (TQ.qe (BQ.qe (TQ.qn ⟨s10.2,H,((zM [] (sR rfl rfl) (blR rfl) (BK.cons rfl bZ rfl rfl (BK.cons rfl (bR rfl) rfl rfl (BK.cons rfl (bR rfl) rfl rfl (BK.cons rfl (bR rfl) rfl (by first|rfl|simp) (bkR rfl rfl rfl))))) GK.nil).trans (zai 320192 320128 rfl rfl (nR rfl) GR.nil))⟩)))))
theorem zcm{a1:zn}{a2:Int}{r:zn}(H:ZI a1 a2=some r):Fn Tryz.prog 79 (lent [(.agg (zR a1)),(.int .i64 a2)]) true [(.agg (zR r))]:=by
 refine f79 (fle rfl) ?_
 rw[zx]
 refine AW.weaken (t:=mk [(0,(.agg (zE a1))),(1,(oI a2))] [] (lk [])) (zg [] (sR rfl rfl) BL.nil BK.nil) ?_
 unfold ZI at H
 unfold i79
 refine aV (jh (n:=128) (m:=9) (cs:=(zE a1)) rfl eZ rfl rfl nZ (Zl (n:=256) (m:=9) rfl rfl (nR rfl) (xQ (aS (aV (za rfl (Kl eZ eC (xQ ?_))))))))
 rcases zC H with⟨h3,H⟩|⟨h3,H⟩
 ·refine zi eZ (dT h3) (aS (zW (zw (Xa (cs:=[(dI 0),.zs,.zs,.zs,.zs,.zs,.zs,.zs,(dI 0)]) kF rfl (zm (zw (zP (es:=[(dI 0),.zs,.zs,.zs,.zs,.zs,.zs,.zs,(dI 0)]) rfl eZ rfl rfl bZ rfl (zm (qc (xQ (AW.ret (TQ.qr ?_))))))))))))
  cases H
  exact qI (RL.cons (qS (es:=[(dI 0),.zs,.zs,.zs,.zs,.zs,.zs,.zs,(dI 0)]) rfl bZ rfl) (VO.aggs (VOs.cons (VO.flat rfl) (VOs.cons VO.zs (VOs.cons VO.zs (VOs.cons VO.zs (VOs.cons VO.zs (VOs.cons VO.zs (VOs.cons VO.zs (VOs.cons VO.zs (VOs.cons (VO.flat rfl) VOs.nil)))))))))) RL.nil) List.nodup_nil
 ·refine zh eZ (dF h3) (AW.skip (TQ.qn (aS (zW (zw (zN (es:=(zE a1)) rfl (bR rfl) rfl (zm (zw ?_))))))))
  obtain⟨v4,h5,H⟩:=zk H
  refine jK (u:=(.agg [(dI v4.Me),(.sl 577 0 v4.Own.length),(.sl 578 0 v4.Frozen.length),(.sl 579 0 v4.Cells.length),(.sl 580 0 v4.Locks.length),(.sl 581 0 v4.Helds.length),(.sl 582 0 v4.Wounded.length),(.sl 583 0 v4.Ended.length),(dI v4.Rank)])) (bs:=[(577,(.data 2 (List.map zd v4.Own) true none)),(578,(.data 2 (List.map zd v4.Frozen) true none)),(579,(.data 2 (List.map zj v4.Cells) true none)),(580,(.data 4 (List.map zp v4.Locks) true none)),(581,(.data 2 (List.map zA v4.Helds) true none)),(582,(.data 1 (List.map zt v4.Wounded) true none)),(583,(.data 1 (List.map zt v4.Ended) true none))]) eC Cl.fn (zaW h5) (Ec eZ En) (Vc (VD.agg rfl) Vn) (by simp[jr,jV,qF,jx,qK]) rfl (fC (nR rfl) rfl (fC (nR rfl) rfl (fC (nR rfl) rfl (fC (nR rfl) rfl (fC (nR rfl) rfl (fC (nR rfl) rfl (fC (nR rfl) rfl (fC (nR rfl) rfl fN)))))))) (zm (zw (zP (es:=[(dI v4.Me),(.sl 577 0 v4.Own.length),(.sl 578 0 v4.Frozen.length),(.sl 579 0 v4.Cells.length),(.sl 580 0 v4.Locks.length),(.sl 581 0 v4.Helds.length),(.sl 582 0 v4.Wounded.length),(.sl 583 0 v4.Ended.length),(dI v4.Rank)]) rfl eZ rfl rfl (bR rfl) rfl (zm (qc (xQ (AW.ret ?_)))))))
  obtain rfl:=(Option.some.inj H)
  exact qI (RL.cons (qS (es:=[(dI v4.Me),(.sl 577 0 v4.Own.length),(.sl 578 0 v4.Frozen.length),(.sl 579 0 v4.Cells.length),(.sl 580 0 v4.Locks.length),(.sl 581 0 v4.Helds.length),(.sl 582 0 v4.Wounded.length),(.sl 583 0 v4.Ended.length),(dI v4.Rank)]) rfl bZ rfl) (VO.aggs (VOs.cons (VO.flat rfl) (VOs.cons (VO.sl (bR rfl) lm (zy fun _=>rfl)) (VOs.cons (VO.sl (bR rfl) lm (zy fun _=>rfl)) (VOs.cons (VO.sl (bR rfl) lm (zy fun _=>rfl)) (VOs.cons (VO.sl (bR rfl) lm (zy fun _=>rfl)) (VOs.cons (ZN (bR rfl) lm rfl) (VOs.cons (VO.sl (bR rfl) lm (zy fun _=>rfl)) (VOs.cons (VO.sl (bR rfl) lm (zy fun _=>rfl)) (VOs.cons (VO.flat rfl) VOs.nil)))))))))) RL.nil) (by decide)
theorem zdU{a1:(List ze)}{a2:ze}{r:Bool}(H:Q2 a1 a2=some r):Fn Tryz.prog 81 (lent [(.sl 2 (List.map zd a1)),(.agg (zd a2))]) true [(.bool r)]:=by
 refine f81 (fle rfl) ?_
 rw[zx]
 refine AW.weaken (zg [] (kv 0 (.one (.d (.sl 2 (List.map zd a1)))) rfl rfl (kv 1 (.agg [(dI a2.Lo),(dI a2.Hi)]) rfl rfl SL.nil)) BL.nil BK.nil) ?_
 unfold Q2 at H
 unfold i81
 refine aV (jh (n:=192) (m:=2) (cs:=[(dI a2.Lo),(dI a2.Hi)]) rfl rfl rfl rfl nZ (za eC (xQ (zF (fun t3:Unit=>kY t3=some r) (fun t3=>mk [] [] noG) ?_ ?_))))
 ·intro t3 H
  unfold kY at H
  refine aV (za eC (xQ (AW.ret ?_)))
  cases H
  exact eE rfl rfl
 ·refine aV (za eC (xQ (AW.block (AW.iter (fun s5:Int=>mk [(0,(.one (.d (.sl 2 (List.map zd a1))))),(3,(.one (.ptr (.nm 192 0 0)))),(5,(oI s5))] [(192,(.vars 2 [(dI a2.Lo),(dI a2.Hi)]))] noG) H (zg [] (sR rfl rfl) (blR rfl) (bkR rfl rfl rfl)) ?_))))
  intro kb6 s5 H
  unfold Yv at H
  refine aS (aV (za rfl (za rfl (zX eZ (n:=a1.length) lm (qh rfl eZ (xQ ?_))))))
  rcases zC H with⟨h7,H⟩|⟨h7,H⟩
  ·refine zi eZ (dT h7) (AW.skip (TQ.qn (aS (AW.block (aS (AW.regd (za rfl (za rfl ?_))))))))
   obtain⟨v8,h9,H⟩:=zk H
   refine qy rfl eZ h9 (qf (es:=[(dI v8.Lo),(dI v8.Hi)]) eZ rfl (zN (es:=[(dI a2.Lo),(dI a2.Hi)]) rfl (hB rfl bZ) rfl ?_))
   obtain⟨v10,h11,H⟩:=zk H
   refine zD (u:=(.tup [(.agg [(dI v10.1.Lo),(dI v10.1.Hi)]),(oB v10.2)])) eC Cl.fn (KY h11) (Ec rfl (Ec eZ En)) (Vc (VD.agg rfl) (Vc (VD.agg rfl) Vn)) rfl (za eZ (XO (v:=(.agg [(dI v10.1.Lo),(dI v10.1.Hi)])) eZ rfl (XO (v:=(oB v10.2)) rfl rfl (Zl (n:=384) (m:=2) rfl rfl (hN (nR rfl)) (zP (es:=[(dI v10.1.Lo),(dI v10.1.Hi)]) eZ rfl rfl rfl bZ rfl (za rfl (xQ (AW.weaken (zg [384] (kr 7 rfl rfl (kr 0 rfl rfl (kr 3 rfl rfl (kr 5 rfl rfl SL.nil)))) (blR rfl) (BK.cons (n:=192) rfl (bR rfl) rfl rfl BK.nil)) (aV (za eZ (xQ ?_)))))))))))
   rcases zC H with⟨h12,H⟩|⟨h12,H⟩
   ·refine zi eZ h12 (aV (za eC (xQ (AW.ret (BQ.qr (TQ.qr (TQ.qr (BQ.qr (TQ.qr ?_)))))))))
    cases H
    exact eE rfl rfl
   ·exact zh eZ (nt h12) (AW.skip (BQ.qn (TQ.qn (aR (za rfl (qj eZ eC (za eZ (zm (TQ.qn ⟨(IntKind.wrap .i64 (s5+1)),H,(zg [] (sR rfl rfl) (blR rfl) (bkR rfl rfl rfl))⟩)))))))))
  ·exact zh eZ (dF h7) (AW.exit (TQ.qe (TQ.qe (BQ.qe (TQ.qn ⟨(),H,(zg [192] SL.nil (blR rfl) BK.nil)⟩)))))
theorem zeL{a1:(List ze)}{a2:ze}{a3:Bool}{r:((List ze)×Bool)}(H:Jw a1 a2 a3=some r):Fn Tryz.prog 197 (lent [(.sl 2 (List.map zd a1)),(.agg (zd a2)),(.bool a3)]) true [(.sl 2 (List.map zd r.1)),(.bool r.2)]:=by
 refine zD7 (fle rfl) ?_
 rw[zx]
 refine AW.weaken (zg [] (kv 0 (.one (.d (.sl 2 (List.map zd a1)))) rfl rfl (kv 1 (.agg [(dI a2.Lo),(dI a2.Hi)]) rfl rfl (kv 2 (oB a3) rfl rfl SL.nil))) BL.nil BK.nil) ?_
 unfold Jw at H
 unfold zyv
 refine aV (jh (n:=256) (m:=2) (cs:=[(dI a2.Lo),(dI a2.Hi)]) rfl rfl rfl rfl nZ (za eC (za eC (xQ (aS (zF (fun t4:Bool=>(yL a1 a2 a3) t4=some r) (fun t4=>mk [(0,(.one (.d (.sl 2 (List.map zd a1))))),(2,(oB a3)),(4,(.one (.ptr (.nm 256 0 0)))),(22,(oB t4))] [(256,(.vars 2 [(dI a2.Lo),(dI a2.Hi)]))] noG) ?_ ?_))))))
 ·intro t4 H
  unfold yL at H
  rcases zC H with⟨h6,H⟩|⟨h6,H⟩
  ·refine zi rfl h6 (aV (yw (m:=1472) rfl (nR rfl) (za eZ (za eC (xQ (AW.ret (TQ.qr ?_)))))))
   cases H
   exact qI (RL.cons (RV.tmp rfl) VO.zs (RL.cons (RV.tmp eZ) (VO.flat rfl) RL.nil)) List.nodup_nil
  ·refine zh rfl (nt h6) (AW.skip (TQ.qn (aV ?_)))
   obtain⟨h7,H⟩:=qa H
   refine zfY (f:=Qf) (zv:=false) (own:=true) (m:=1536) (q:=(Int.toNat 1001)) rfl rfl eC eC h7.1 h7.2 rfl (by decide) rfl (nR rfl) (za eZ (xQ (zF (fun t8:(List Bool)=>(xg a2 a3) t8=some r) (fun t8=>mk [(2,(oB a3)),(4,(.one (.ptr (.nm 256 0 0)))),(8,(.one (.sl 320704 0 t8.length)))] [(320704,(.data 1 (List.map Qf t8) true none)),(256,(.vars 2 [(dI a2.Lo),(dI a2.Hi)]))] noG) ?_ ?_)))
   ·intro t8 H
    unfold xg at H
    refine zF (fun t10:(List Bool)=>Z4 t10=some r) (fun t10=>mk [(8,(.one (.sl 320832 0 t10.length)))] [(320832,(.data 1 (List.map Qf t10) true none))] noG) ?_ ?_
    ·intro t10 H
     unfold Z4 at H
     refine aV (yw (m:=3840) rfl (nR rfl) (za eZ (xQ (aV (za eC (xQ (zF (fun t12:(List ze)=>Zh t12=some r) (fun t12=>mk [(12,(.one (.sl 320960 0 t12.length)))] [(320960,(.data 2 (List.map zd t12) true none))] noG) ?_ ?_)))))))
     ·intro t12 H
      unfold Zh at H
      refine aS (aV (za eZ (zbL eZ (KN eZ eC (xQ ?_)))))
      rcases zC H with⟨h14,H⟩|⟨h14,H⟩
      ·refine zi eZ (dT h14) (aV (yw (m:=5888) rfl (nR rfl) (za eZ (za eC (xQ (AW.ret (TQ.qr ?_)))))))
       cases H
       exact qI (RL.cons (RV.tmp rfl) VO.zs (RL.cons (RV.tmp eZ) (VO.flat rfl) RL.nil)) List.nodup_nil
      ·refine zh eZ (dF h14) (AW.skip (TQ.qn (aV (za rfl (za eZ (za eC (xQ (AW.ret ?_))))))))
       cases H
       exact qI (RL.cons (RV.tmp rfl) (VO.sl bZ lm (zy fun _=>rfl)) (RL.cons (RV.tmp eZ) (VO.flat rfl) RL.nil)) (by decide)
     ·refine aV (za eC (xQ (AW.block (AW.iter (fun s15:((List ze)×Int×Int)=>mk [(8,(.one (.sl 320832 0 t10.length))),(12,(.one (.sl 321024 0 s15.1.length))),(13,(oI s15.2.1)),(14,(oI s15.2.2))] [(321024,(.data 2 (List.map zd s15.1) true none)),(320832,(.data 1 (List.map Qf t10) true none))] noG) H ((zg [] (kR rfl rfl (SL.cons eZ rfl (VWk.one (CWk.len (by first|(simp;done)|(simp;omega)|omega|(simp only[List.length_map];omega)))) (sR rfl rfl))) (blR rfl) (bkR rfl rfl rfl)).trans (zmI 321024 2 12 true rfl (nR rfl))) ?_))))
      intro kb16 s15 H
      unfold Qd at H
      refine aS (aV (za rfl (zay eZ eC (xQ ?_))))
      rcases zC H with⟨h17,H⟩|⟨h17,H⟩
      ·refine zi eZ (dT h17) (AW.skip (TQ.qn (aS (AW.block (zF (fun t18:Int=>(Zf t10 s15 kb16) t18=some r) (fun t18=>mk [(8,(.one (.sl 320832 0 t10.length))),(12,(.one (.sl 321024 0 s15.1.length))),(13,(oI t18)),(14,(oI s15.2.2))] [(320832,(.data 1 (List.map Qf t10) true none)),(321024,(.data 2 (List.map zd s15.1) true none))] noG) ?_ ?_)))))
       ·intro t18 H
        unfold Zf at H
        refine zF (fun t20:Bool=>(Z0 s15 t18 kb16) t20=some r) (fun t20=>mk [(8,(.one (.sl 320832 0 t10.length))),(12,(.one (.sl 321024 0 s15.1.length))),(13,(oI t18)),(14,(oI s15.2.2)),(82,(oB t20))] [(320832,(.data 1 (List.map Qf t10) true none)),(321024,(.data 2 (List.map zd s15.1) true none))] noG) ?_ ?_
        ·intro t20 H
         unfold Z0 at H
         rcases zC H with⟨h22,H⟩|⟨h22,H⟩
         ·refine zi rfl h22 (aV (za rfl (za rfl (za rfl (Xa (cs:=[(dI t18),(dI s15.2.2)]) (jO rfl (jO eZ kF)) rfl (zbt (m:=5568) (q:=1) (cs:=[(dI t18),(dI s15.2.2)]) rfl (jO eZ kF) rfl (List.cons_ne_nil _ _) (by simp) (nR rfl) ?_))))))
          obtain⟨h23,H⟩:=qa H
          exact zmA (f:=zd) (xs:=s15.1) (ys:=[(ze.mk t18 s15.2.2)]) (q:=(s15.1++([(ze.mk t18 s15.2.2)])).length) rfl eZ (bR rfl) rfl (El.one (f:=zd) (t:=(ze.mk t18 s15.2.2)) (es:=[(.int .i64 t18),(.int .i64 s15.2.2)]) bZ rfl rfl rfl) rfl h23 (by decide) (by decide) (erL.cons (v':=(.one (.sl 5568 0 1))) rfl (erL.cons (v':=(.agg [(dI t18),(dI s15.2.2)])) rfl (erL.cons (v':=(oI s15.2.2)) rfl (erL.cons (v':=(oI t18)) rfl (erL.cons (v':=(.one .any)) rfl (erL.cons (v':=(.one (.sl 320832 0 t10.length))) rfl (erL.cons (v':=(.one .any)) rfl (erL.cons (v':=(oI t18)) rfl (erL.cons (v':=(oI s15.2.2)) rfl (erL.cons (v':=(oB t20)) rfl erL.nil)))))))))) (erH.cons (v':=(.vars 2 [(dI t18),(dI s15.2.2)])) rfl rfl (erH.cons (v':=(.data 1 (List.map Qf t10) true none)) rfl rfl (erH.drop rfl erH.nil))) (za eZ (xQ (aR (za eC (zm (BQ.qn (TQ.qn (aR (za rfl (qj eZ eC (za eZ (zm (TQ.qn ⟨((s15.1++([(ze.mk t18 s15.2.2)])),(-1),(IntKind.wrap .i64 (s15.2.2+1))),H,(zg [5568] (sR rfl rfl) (blR rfl) (bkR rfl rfl rfl))⟩)))))))))))))
         ·exact zh rfl (nt h22) (AW.skip (BQ.qn (TQ.qn (aR (za rfl (qj eZ eC (za eZ (zm (TQ.qn ⟨(s15.1,t18,(IntKind.wrap .i64 (s15.2.2+1))),H,(zg [] (sR rfl rfl) (blR rfl) (bkR rfl rfl rfl))⟩)))))))))
        ·refine aR (za eZ (za rfl ?_))
         obtain⟨v24,h25,H⟩:=zk H
         refine Xt rfl eZ bZ rfl h25 (zgF (t:=v24) (e:=(.bool v24)) eZ bZ (yu h25) rfl rfl (qG eZ (za eZ ?_)))
         rcases zC H with⟨h26,H⟩|⟨h26,H⟩
         ·exact zb eZ (cN h26) rfl (zb rfl (cN h26) rfl (zJ rfl (cN h26) eC (zm (TQ.qn ⟨false,H,(zg [] (sR rfl rfl) (blR rfl) (bkR rfl rfl rfl))⟩))))
         ·exact gDo eZ (cN (nt h26)) (za rfl (gDo rfl (cN (nt h26)) (Xr eZ eC (zB rfl (cN (nt h26)) eZ (zm (TQ.qn ⟨(decide (0≤t18)),H,(zg [] (sR rfl rfl) (blR rfl) (bkR rfl rfl rfl))⟩))))))
       ·refine zF (fun t27:Bool=>(Qm (Zf t10 s15 kb16) s15) t27=some r) (fun t27=>mk [(8,(.one (.sl 320832 0 t10.length))),(12,(.one (.sl 321024 0 s15.1.length))),(13,(oI s15.2.1)),(14,(oI s15.2.2)),(72,(oB t27))] [(320832,(.data 1 (List.map Qf t10) true none)),(321024,(.data 2 (List.map zd s15.1) true none))] noG) ?_ ?_
        ·intro t27 H
         unfold Qm at H
         rcases zC H with⟨h29,H⟩|⟨h29,H⟩
         ·exact zi rfl h29 (aR (za rfl (za eZ (zm (TQ.qn ⟨s15.2.2,H,(zg [] (sR rfl rfl) (blR rfl) (bkR rfl rfl rfl))⟩)))))
         ·exact zh rfl (nt h29) (AW.skip (TQ.qn ⟨s15.2.1,H,(zg [] (sR rfl rfl) (blR rfl) (bkR rfl rfl rfl))⟩))
        ·refine aR (za rfl (za rfl ?_))
         obtain⟨v30,h31,H⟩:=zk H
         refine Xt rfl eZ (bR rfl) rfl h31 (zgF (t:=v30) (e:=(.bool v30)) eZ (bR rfl) (yu h31) rfl rfl (za eZ ?_))
         rcases zC H with⟨h32,H⟩|⟨h32,H⟩
         ·exact gDo eZ h32 (za rfl (gDo rfl h32 (qh eZ eC (zB rfl h32 eZ (zm (TQ.qn ⟨(decide (s15.2.1 < 0)),H,(zg [] (sR rfl rfl) (blR rfl) (bkR rfl rfl rfl))⟩))))))
         ·exact zb eZ (nt h32) rfl (zb rfl (nt h32) rfl (zJ rfl (nt h32) eC (zm (TQ.qn ⟨false,H,(zg [] (sR rfl rfl) (blR rfl) (bkR rfl rfl rfl))⟩))))
      ·exact zh eZ (dF h17) (AW.exit (TQ.qe (TQ.qe (BQ.qe (TQ.qn ⟨s15.1,H,((zg [320832] (sR rfl rfl) (blR rfl) (bkR rfl rfl rfl)).trans (Qv 321024 320960 rfl rfl (nR rfl)))⟩)))))
    ·refine aV (zf (m:=0) rfl rfl (zl (q:=0) (c:=(dI a2.Lo)) eZ (bR rfl) rfl rfl (za eZ (xQ (AW.block (AW.iter (fun s33:((List Bool)×Int)=>mk [(2,(oB a3)),(4,(.one (.ptr (.nm 256 0 0)))),(8,(.one (.sl 321088 0 s33.1.length))),(11,(oI s33.2))] [(321088,(.data 1 (List.map Qf s33.1) true none)),(256,(.vars 2 [(dI a2.Lo),(dI a2.Hi)]))] noG) H ((zg [] (sR rfl rfl) (blR rfl) (bkR rfl rfl rfl)).trans (Qv 320704 321088 rfl rfl (nR rfl))) ?_))))))
     intro kb34 s33 H
     unfold YP at H
     refine aS (aV (za rfl (zf (m:=1) rfl rfl (zl (q:=1) (c:=(dI a2.Hi)) eZ (bR rfl) rfl rfl (qh rfl eZ (xQ ?_))))))
     rcases zC H with⟨h35,H⟩|⟨h35,H⟩
     ·refine zi eZ (dT h35) (AW.skip (TQ.qn (aS (AW.block (aR (za rfl (za rfl (za rfl ?_))))))))
      obtain⟨v36,h37,H⟩:=zk H
      exact Xt rfl rfl bZ rfl h37 (yF (t:=v36) (t':=a3) (es:=[(.bool a3)]) eZ rfl rfl rfl bZ (yu h37) rfl rfl (zm (BQ.qn (TQ.qn (aR (za rfl (qj eZ eC (za eZ (zm (TQ.qn ⟨(s33.1.set (Int.toNat s33.2) a3,(IntKind.wrap .i64 (s33.2+1))),H,(zg [] (kR rfl rfl (kR rfl rfl (SL.cons (eR rfl) rfl (VWk.one (CWk.len (by first|(simp;done)|(simp;omega)|omega|(simp only[List.length_map];omega)))) (sR rfl rfl)))) (blR rfl) (bkR rfl rfl rfl))⟩))))))))))
     ·exact zh eZ (dF h35) (AW.exit (TQ.qe (TQ.qe (BQ.qe (TQ.qn ⟨s33.1,H,((zg [256] (sR rfl rfl) (blR rfl) (bkR rfl rfl rfl)).trans (Qv 321088 320832 rfl rfl (nR rfl)))⟩)))))
   ·refine aV (za eC (xQ (AW.block (AW.iter (fun s38:((List Bool)×Int)=>mk [(0,(.one (.d (.sl 2 (List.map zd a1))))),(2,(oB a3)),(4,(.one (.ptr (.nm 256 0 0)))),(8,(.one (.sl 321344 0 s38.1.length))),(9,(oI s38.2))] [(321344,(.data 1 (List.map Qf s38.1) true none)),(256,(.vars 2 [(dI a2.Lo),(dI a2.Hi)]))] noG) H ((zg [] (kR rfl rfl (kR rfl rfl (kR rfl rfl (SL.cons (eR rfl) rfl (VWk.one (CWk.len (by first|(simp;done)|(simp;omega)|omega|(simp only[List.length_map];omega)))) (sR rfl rfl))))) (blR rfl) (bkR rfl rfl rfl)).trans (Qv 1536 321344 rfl rfl (nR rfl))) ?_))))
    intro kb39 s38 H
    unfold Qe at H
    refine aS (aV (za rfl (za rfl (zX eZ (n:=a1.length) lm (qh rfl eZ (xQ ?_))))))
    rcases zC H with⟨h40,H⟩|⟨h40,H⟩
    ·refine zi eZ (dT h40) (AW.skip (TQ.qn (zF (fun t41:(List Bool)=>(Qg kb39 s38) t41=some r) (fun t41=>mk [(0,(.one (.d (.sl 2 (List.map zd a1))))),(2,(oB a3)),(4,(.one (.ptr (.nm 256 0 0)))),(8,(.one (.sl 321664 0 t41.length))),(9,(oI s38.2))] [(321664,(.data 1 (List.map Qf t41) true none)),(256,(.vars 2 [(dI a2.Lo),(dI a2.Hi)]))] noG) ?_ ?_)))
     ·intro t41 H
      unfold Qg at H
      exact aR (za rfl (qj eZ eC (za eZ (zm (TQ.qn ⟨(t41,(IntKind.wrap .i64 (s38.2+1))),H,((zg [] (sR rfl rfl) (blR rfl) (bkR rfl rfl rfl)).trans (Qv 321664 321344 rfl rfl (nR rfl)))⟩)))))
     ·refine AW.block (aV (za rfl (za rfl ?_)))
      obtain⟨v43,h44,H⟩:=zk H
      refine qy rfl eZ h44 (z6 (m:=0) eZ rfl (zY (e:=(.int .i64 v43.Lo)) eZ rfl (za eZ (xQ (AW.block (AW.iter (fun s45:((List Bool)×Int)=>mk [(0,(.one (.d (.sl 2 (List.map zd a1))))),(2,(oB a3)),(4,(.one (.ptr (.nm 256 0 0)))),(8,(.one (.sl 321728 0 s45.1.length))),(9,(oI s38.2)),(10,(oI s45.2))] [(321728,(.data 1 (List.map Qf s45.1) true none)),(256,(.vars 2 [(dI a2.Lo),(dI a2.Hi)]))] noG) H ((zg [] (sR rfl rfl) (blR rfl) (bkR rfl rfl rfl)).trans (Qv 321344 321728 rfl rfl (nR rfl))) ?_))))))
      intro kb46 s45 H
      unfold Yi at H
      refine aS (aV (za rfl (za rfl (za rfl ?_))))
      obtain⟨v47,h48,H⟩:=zk H
      refine qy rfl eZ h48 (z6 (m:=1) eZ rfl (zY (e:=(.int .i64 v47.Hi)) eZ rfl (qh rfl eZ (xQ ?_))))
      rcases zC H with⟨h49,H⟩|⟨h49,H⟩
      ·refine zi eZ (dT h49) (AW.skip (TQ.qn (aS (AW.block (aR (za rfl (za rfl ?_)))))))
       obtain⟨v50,h51,H⟩:=zk H
       exact Xt rfl eZ bZ rfl h51 (yF (t:=v50) (t':=true) (es:=[(.bool true)]) eZ eC rfl rfl bZ (yu h51) rfl rfl (zm (BQ.qn (TQ.qn (AW.weaken (zg [] (kr 0 rfl rfl (kr 2 rfl rfl (kr 4 rfl rfl (kr 8 rfl rfl (kr 9 rfl rfl (kr 10 rfl rfl SL.nil)))))) (blR rfl) (BK.cons (n:=321728) rfl bZ rfl rfl (BK.cons (n:=256) rfl (bR rfl) rfl rfl BK.nil))) (aR (za rfl (qj eZ eC (za eZ (zm (TQ.qn ⟨(s45.1.set (Int.toNat s45.2) true,(IntKind.wrap .i64 (s45.2+1))),H,(zg [] (kR rfl rfl (kR rfl rfl (kR rfl rfl (SL.cons (eR rfl) rfl (VWk.one (CWk.len (by first|(simp;done)|(simp;omega)|omega|(simp only[List.length_map];omega)))) (sR rfl rfl))))) (blR rfl) (bkR rfl rfl rfl))⟩)))))))))))
      ·exact zh eZ (dF h49) (AW.exit (TQ.qe (TQ.qe (BQ.qe (BQ.qn (TQ.qn ⟨s45.1,H,((zg [] (sR rfl rfl) (blR rfl) (bkR rfl rfl rfl)).trans (Qv 321728 321664 rfl rfl (nR rfl)))⟩))))))
    ·exact zh eZ (dF h40) (AW.exit (TQ.qe (TQ.qe (BQ.qe (TQ.qn ⟨s38.1,H,((zg [] (sR rfl rfl) (blR rfl) (bkR rfl rfl rfl)).trans (Qv 321344 320704 rfl rfl (nR rfl)))⟩)))))
 ·refine aR (za rfl ?_)
  obtain⟨v52,h53,H⟩:=zk H
  refine zD (u:=(oB v52)) eC Cl.fn (xD h53) (Ec eZ En) (Vc Vp Vn) rfl (qG eZ (za eZ ?_))
  rcases zC H with⟨h54,H⟩|⟨h54,H⟩
  ·refine gDo eZ (cN h54) (zN (es:=[(dI a2.Lo),(dI a2.Hi)]) rfl bZ rfl (gDo rfl (cN h54) ?_))
   obtain⟨v55,h56,H⟩:=zk H
   exact zD (u:=(oB v55)) eC Cl.fn (jT h56) (Ec eZ En) (Vc (VD.agg rfl) Vn) rfl (gDo rfl (cN h54) (qG eZ (zJ rfl (cN h54) eZ (zm (TQ.qn ⟨(!v55),H,(zg [] (sR rfl rfl) (blR rfl) (bkR rfl rfl rfl))⟩)))))
  ·exact zb eZ (cN (nt h54)) rfl (zb rfl (cN (nt h54)) rfl (zb rfl (cN (nt h54)) rfl (zB rfl (cN (nt h54)) eC (zm (TQ.qn ⟨true,H,(zg [] (sR rfl rfl) (blR rfl) (bkR rfl rfl rfl))⟩)))))
theorem zcU{a1:(List ze)}{a2:ze}{r:((List ze)×Bool)}(H:ZL a1 a2=some r):Fn Tryz.prog 83 (lent [(.sl 2 (List.map zd a1)),(.agg (zd a2))]) true [(.sl 2 (List.map zd r.1)),(.bool r.2)]:=by
 refine f83 (fle rfl) ?_
 rw[zx]
 refine AW.weaken (zg [] (kv 0 (.one (.d (.sl 2 (List.map zd a1)))) rfl rfl (kv 1 (.agg [(dI a2.Lo),(dI a2.Hi)]) rfl rfl SL.nil)) BL.nil BK.nil) ?_
 unfold ZL at H
 unfold i83
 refine aV (jh (n:=192) (m:=2) (cs:=[(dI a2.Lo),(dI a2.Hi)]) rfl rfl rfl rfl nZ (za eC (za eC (xQ (aV (za rfl (zN (es:=[(dI a2.Lo),(dI a2.Hi)]) rfl bZ rfl ?_)))))))
 obtain⟨v3,h4,H⟩:=zk H
 refine jK (u:=(.tup [(.one (.sl 704 0 v3.1.length)),(oB v3.2)])) (bs:=[(704,(.data 2 (List.map zd v3.1) true none))]) eC Cl.fn (zeL h4) (Ec rfl (Ec eZ (Ec eC En))) (Vc Vp (Vc (VD.agg rfl) (Vc Vp Vn))) (by simp[jr,jV,qF,jx,qK]) rfl (fC (nR rfl) rfl (fC (nR rfl) rfl fN)) (za eZ (XO (v:=(.one (.sl 704 0 v3.1.length))) eZ rfl (XO (v:=(oB v3.2)) rfl rfl (za rfl (za rfl (xQ (aV (za rfl (za rfl (za rfl (za rfl (xQ (AW.weaken (zg [192] (kr 5 rfl rfl (kr 4 rfl rfl SL.nil)) (blR rfl) (BK.cons (n:=704) rfl bZ rfl rfl BK.nil)) (AW.ret ?_))))))))))))))
 cases H
 exact qI (RL.cons (RV.tmp rfl) (VO.sl bZ lm (zy fun _=>rfl)) (RL.cons (RV.tmp eZ) (VO.flat rfl) RL.nil)) (by decide)
theorem zc7{a1:zn}{a2:Int}{a3:ze}{r:(zn×Int)}(H:ZW a1 a2 a3=some r):Fn Tryz.prog 19 (lent [(.agg (zR a1)),(.int .i64 a2),(.agg (zd a3))]) true [(.agg (zR r.1)),(.int .i64 r.2)]:=by
 refine f19 (fle rfl) ?_
 rw[zx]
 refine AW.weaken (t:=mk [(0,(.agg (zE a1))),(1,(oI a2)),(2,(.agg [(dI a3.Lo),(dI a3.Hi)]))] [] (lk [])) (zg [] (sR rfl rfl) BL.nil BK.nil) ?_
 unfold ZW at H
 unfold i19
 refine aV (jh (n:=192) (m:=9) (cs:=(zE a1)) rfl eZ rfl rfl nZ (jh (n:=320) (m:=2) (cs:=[(dI a3.Lo),(dI a3.Hi)]) rfl rfl rfl rfl (nR rfl) (Zl (n:=384) (m:=9) rfl rfl (nR rfl) (za eC (xQ (aV (zN (es:=(zE a1)) rfl (bR rfl) rfl (za rfl (zN (es:=[(dI a3.Lo),(dI a3.Hi)]) rfl (bR rfl) rfl ?_)))))))))
 obtain⟨v4,h5,H⟩:=zk H
 refine zD (u:=(oI v4)) eC Cl.fn (zeB h5) (Ec rfl (Ec rfl (Ec eZ En))) (Vc (VD.agg rfl) (Vc Vp (Vc (VD.agg rfl) Vn))) rfl (za eZ (xQ (aS (aV (za eZ (ZO eZ eC (xQ ?_)))))))
 rcases zC H with⟨h6,H⟩|⟨h6,H⟩
 ·refine zi eZ (dT h6) (aS (zW (zw (zN (es:=(zE a1)) rfl (bR rfl) rfl (zm (zw (za rfl (zm (zw ?_)))))))))
  obtain⟨v7,h8,H⟩:=zk H
  refine jK (u:=(.agg [(dI v7.Me),(.sl 1281 0 v7.Own.length),(.sl 1282 0 v7.Frozen.length),(.sl 1283 0 v7.Cells.length),(.sl 1284 0 v7.Locks.length),(.sl 1285 0 v7.Helds.length),(.sl 1286 0 v7.Wounded.length),(.sl 1287 0 v7.Ended.length),(dI v7.Rank)])) (bs:=[(1281,(.data 2 (List.map zd v7.Own) true none)),(1282,(.data 2 (List.map zd v7.Frozen) true none)),(1283,(.data 2 (List.map zj v7.Cells) true none)),(1284,(.data 4 (List.map zp v7.Locks) true none)),(1285,(.data 2 (List.map zA v7.Helds) true none)),(1286,(.data 1 (List.map zt v7.Wounded) true none)),(1287,(.data 1 (List.map zt v7.Ended) true none))]) eC Cl.fn (zcm h8) (Ec rfl (Ec eZ En)) (Vc (VD.agg rfl) (Vc Vp Vn)) (by simp[jr,jV,qF,jx,qK]) rfl (fC (nR rfl) rfl (fC (nR rfl) rfl (fC (nR rfl) rfl (fC (nR rfl) rfl (fC (nR rfl) rfl (fC (nR rfl) rfl (fC (nR rfl) rfl (fC (nR rfl) rfl fN)))))))) (zm (zw (za rfl (zm (zw (zP (es:=[(dI v7.Me),(.sl 1281 0 v7.Own.length),(.sl 1282 0 v7.Frozen.length),(.sl 1283 0 v7.Cells.length),(.sl 1284 0 v7.Locks.length),(.sl 1285 0 v7.Helds.length),(.sl 1286 0 v7.Wounded.length),(.sl 1287 0 v7.Ended.length),(dI v7.Rank)]) rfl rfl rfl rfl (bR rfl) rfl (zm (qc (za eZ (xQ (AW.weaken (zM [320,192] (kr 7 rfl rfl (kr 6 rfl rfl SL.nil)) (blR rfl) (BK.cons (n:=384) rfl bZ rfl rfl (BK.cons (n:=1287) rfl (bR rfl) rfl rfl (BK.cons (n:=1286) rfl (bR rfl) rfl rfl (BK.cons (n:=1285) rfl (bR rfl) rfl rfl (BK.cons (n:=1284) rfl (bR rfl) rfl rfl (BK.cons (n:=1283) rfl (bR rfl) rfl rfl (BK.cons (n:=1282) rfl (bR rfl) rfl rfl (BK.cons (n:=1281) rfl (bR rfl) rfl rfl BK.nil)))))))) GK.nil) (AW.ret (TQ.qr ?_)))))))))))))
  cases H
  exact qI (RL.cons (qS (es:=[(dI v7.Me),(.sl 1281 0 v7.Own.length),(.sl 1282 0 v7.Frozen.length),(.sl 1283 0 v7.Cells.length),(.sl 1284 0 v7.Locks.length),(.sl 1285 0 v7.Helds.length),(.sl 1286 0 v7.Wounded.length),(.sl 1287 0 v7.Ended.length),(dI v7.Rank)]) rfl bZ rfl) (VO.aggs (VOs.cons (VO.flat rfl) (VOs.cons (VO.sl (bR rfl) lm (zy fun _=>rfl)) (VOs.cons (VO.sl (bR rfl) lm (zy fun _=>rfl)) (VOs.cons (VO.sl (bR rfl) lm (zy fun _=>rfl)) (VOs.cons (VO.sl (bR rfl) lm (zy fun _=>rfl)) (VOs.cons (ZN (bR rfl) lm rfl) (VOs.cons (VO.sl (bR rfl) lm (zy fun _=>rfl)) (VOs.cons (VO.sl (bR rfl) lm (zy fun _=>rfl)) (VOs.cons (VO.flat rfl) VOs.nil)))))))))) (RL.cons (RV.tmp eZ) (VO.flat rfl) RL.nil)) (by decide)
 ·refine zh eZ (dF h6) (AW.skip (TQ.qn (aS (zW (zw (zN (es:=(zE a1)) rfl (bR rfl) rfl (zm (zw ?_))))))))
  obtain⟨v9,h10,H⟩:=zk H
  refine jK (u:=(.agg [(dI v9.Me),(.sl 1473 0 v9.Own.length),(.sl 1474 0 v9.Frozen.length),(.sl 1475 0 v9.Cells.length),(.sl 1476 0 v9.Locks.length),(.sl 1477 0 v9.Helds.length),(.sl 1478 0 v9.Wounded.length),(.sl 1479 0 v9.Ended.length),(dI v9.Rank)])) (bs:=[(1473,(.data 2 (List.map zd v9.Own) true none)),(1474,(.data 2 (List.map zd v9.Frozen) true none)),(1475,(.data 2 (List.map zj v9.Cells) true none)),(1476,(.data 4 (List.map zp v9.Locks) true none)),(1477,(.data 2 (List.map zA v9.Helds) true none)),(1478,(.data 1 (List.map zt v9.Wounded) true none)),(1479,(.data 1 (List.map zt v9.Ended) true none))]) eC Cl.fn (zaW h10) (Ec eZ En) (Vc (VD.agg rfl) Vn) (by simp[jr,jV,qF,jx,qK]) rfl (fC (nR rfl) rfl (fC (nR rfl) rfl (fC (nR rfl) rfl (fC (nR rfl) rfl (fC (nR rfl) rfl (fC (nR rfl) rfl (fC (nR rfl) rfl (fC (nR rfl) rfl fN)))))))) (zm (zw (Zl (n:=576) (m:=9) rfl rfl (nR rfl) (zm (zw (zP (es:=[(dI v9.Me),(.sl 1473 0 v9.Own.length),(.sl 1474 0 v9.Frozen.length),(.sl 1475 0 v9.Cells.length),(.sl 1476 0 v9.Locks.length),(.sl 1477 0 v9.Helds.length),(.sl 1478 0 v9.Wounded.length),(.sl 1479 0 v9.Ended.length),(dI v9.Rank)]) eZ rfl rfl rfl bZ rfl (zm (qc (xQ (AW.weaken (zM [] (kr 9 rfl rfl (kr 6 rfl rfl (kr 5 rfl rfl (kr 3 rfl rfl (kr 1 rfl rfl SL.nil))))) (blR rfl) (BK.cons (n:=576) rfl bZ rfl rfl (BK.cons (n:=1479) rfl (bR rfl) rfl rfl (BK.cons (n:=1478) rfl (bR rfl) rfl rfl (BK.cons (n:=1477) rfl (bR rfl) rfl rfl (BK.cons (n:=1476) rfl (bR rfl) rfl rfl (BK.cons (n:=1475) rfl (bR rfl) rfl rfl (BK.cons (n:=1474) rfl (bR rfl) rfl rfl (BK.cons (n:=1473) rfl (bR rfl) rfl rfl (BK.cons (n:=384) rfl (bR rfl) rfl rfl (BK.cons (n:=320) rfl (bR rfl) rfl rfl (BK.cons (n:=192) rfl (bR rfl) rfl rfl BK.nil))))))))))) GK.nil) (aS (zF (fun t11:Bool=>(Zo v9 a1 a3 a2) t11=some r) (fun t11=>mk [(1,(oI a2)),(3,(.one (.ptr (.nm 192 0 0)))),(5,(.one (.ptr (.nm 320 0 0)))),(6,(.one (.ptr (.nm 384 0 0)))),(9,(.one (.ptr (.nm 576 0 0)))),(34,(oB t11))] [(192,(.vars 9 (zE a1))),(320,(.vars 2 [(dI a3.Lo),(dI a3.Hi)])),(384,(.vars 9 [(dI 0),.zs,.zs,.zs,.zs,.zs,.zs,.zs,(dI 0)])),(576,(.vars 9 [(dI v9.Me),(.sl 1473 0 v9.Own.length),(.sl 1474 0 v9.Frozen.length),(.sl 1475 0 v9.Cells.length),(.sl 1476 0 v9.Locks.length),(.sl 1477 0 v9.Helds.length),(.sl 1478 0 v9.Wounded.length),(.sl 1479 0 v9.Ended.length),(dI v9.Rank)])),(1473,(.data 2 (List.map zd v9.Own) true none)),(1474,(.data 2 (List.map zd v9.Frozen) true none)),(1475,(.data 2 (List.map zj v9.Cells) true none)),(1476,(.data 4 (List.map zp v9.Locks) true none)),(1477,(.data 2 (List.map zA v9.Helds) true none)),(1478,(.data 1 (List.map zt v9.Wounded) true none)),(1479,(.data 1 (List.map zt v9.Ended) true none))] (lk [])) ?_ ?_))))))))))))
  ·intro t11 H
   unfold Zo at H
   rcases zC H with⟨h13,H⟩|⟨h13,H⟩
   ·refine zi rfl h13 (aS (zW (zw (zN (es:=[(dI v9.Me),(.sl 1473 0 v9.Own.length),(.sl 1474 0 v9.Frozen.length),(.sl 1475 0 v9.Cells.length),(.sl 1476 0 v9.Locks.length),(.sl 1477 0 v9.Helds.length),(.sl 1478 0 v9.Wounded.length),(.sl 1479 0 v9.Ended.length),(dI v9.Rank)]) rfl (bR rfl) rfl (zm (zw (zP (es:=[(dI v9.Me),(.sl 1473 0 v9.Own.length),(.sl 1474 0 v9.Frozen.length),(.sl 1475 0 v9.Cells.length),(.sl 1476 0 v9.Locks.length),(.sl 1477 0 v9.Helds.length),(.sl 1478 0 v9.Wounded.length),(.sl 1479 0 v9.Ended.length),(dI v9.Rank)]) rfl eZ rfl rfl (bR rfl) rfl (zm (qc (za eC (xQ (AW.ret (TQ.qr ?_)))))))))))))
    cases H
    exact qI (RL.cons (qS (es:=[(dI v9.Me),(.sl 1473 0 v9.Own.length),(.sl 1474 0 v9.Frozen.length),(.sl 1475 0 v9.Cells.length),(.sl 1476 0 v9.Locks.length),(.sl 1477 0 v9.Helds.length),(.sl 1478 0 v9.Wounded.length),(.sl 1479 0 v9.Ended.length),(dI v9.Rank)]) rfl bZ rfl) (VO.aggs (VOs.cons (VO.flat rfl) (VOs.cons (VO.sl (bR rfl) lm (zy fun _=>rfl)) (VOs.cons (VO.sl (bR rfl) lm (zy fun _=>rfl)) (VOs.cons (VO.sl (bR rfl) lm (zy fun _=>rfl)) (VOs.cons (VO.sl (bR rfl) lm (zy fun _=>rfl)) (VOs.cons (ZN (bR rfl) lm rfl) (VOs.cons (VO.sl (bR rfl) lm (zy fun _=>rfl)) (VOs.cons (VO.sl (bR rfl) lm (zy fun _=>rfl)) (VOs.cons (VO.flat rfl) VOs.nil)))))))))) (RL.cons (RV.tmp eZ) (VO.flat rfl) RL.nil)) (by decide)
   ·refine zh rfl (nt h13) (AW.skip (TQ.qn (aS (aV (zf (m:=2) rfl rfl (zl (q:=2) (c:=(.d (.sl 2 (List.map zd a1.Frozen)))) eZ bZ rfl rfl (zN (es:=[(dI a3.Lo),(dI a3.Hi)]) rfl (bR rfl) rfl ?_)))))))
    obtain⟨v14,h15,H⟩:=zk H
    refine zD (u:=(oB v14)) eC Cl.fn (Jd h15) (Ec rfl (Ec eZ En)) (Vc Vp (Vc (VD.agg rfl) Vn)) rfl (qG eZ (xQ ?_))
    rcases zC H with⟨h16,H⟩|⟨h16,H⟩
    ·refine zh eZ (cN h16) (AW.skip (TQ.qn (aV (zf (m:=2) rfl rfl (zl (q:=2) (c:=(.d (.sl 2 (List.map zd a1.Frozen)))) eZ bZ rfl rfl (zN (es:=[(dI a3.Lo),(dI a3.Hi)]) rfl (bR rfl) rfl ?_))))))
     obtain⟨v17,h18,H⟩:=zk H
     refine jK (u:=(.tup [(.one (.sl 2944 0 v17.1.length)),(oB v17.2)])) (bs:=[(2944,(.data 2 (List.map zd v17.1) true none))]) eC Cl.fn (zcU h18) (Ec rfl (Ec eZ En)) (Vc Vp (Vc (VD.agg rfl) Vn)) (by simp[jr,jV,qF,jx,qK]) rfl (fC (nR rfl) rfl (fC (nR rfl) rfl fN)) (za eZ (XO (v:=(.one (.sl 2944 0 v17.1.length))) eZ rfl (XO (v:=(oB v17.2)) rfl rfl (za rfl (za rfl (xQ (AW.weaken (zM [192,320] (kr 11 rfl rfl (kr 10 rfl rfl (kr 1 rfl rfl (kr 6 rfl rfl (kr 9 rfl rfl SL.nil))))) (blR rfl) (BK.cons (n:=2944) rfl bZ rfl rfl (BK.cons (n:=384) rfl (bR rfl) rfl rfl (BK.cons (n:=576) rfl (bR rfl) rfl rfl (BK.cons (n:=1473) rfl (bR rfl) rfl rfl (BK.cons (n:=1474) rfl (bR rfl) rfl rfl (BK.cons (n:=1475) rfl (bR rfl) rfl rfl (BK.cons (n:=1476) rfl (bR rfl) rfl rfl (BK.cons (n:=1477) rfl (bR rfl) rfl rfl (BK.cons (n:=1478) rfl (bR rfl) rfl rfl (BK.cons (n:=1479) rfl (bR rfl) rfl rfl BK.nil)))))))))) GK.nil) (aS (aV (za eZ (qG eZ (xQ ?_))))))))))))
     rcases zC H with⟨h19,H⟩|⟨h19,H⟩
     ·refine zh eZ (cN h19) (AW.skip (TQ.qn (aS (zW (zw (za rfl (zm (zw (zf (m:=2) rfl rfl (zm (zw (zP (es:=[(dI v9.Me),(.sl 1473 0 v9.Own.length),(.sl 2944 0 v17.1.length),(.sl 1475 0 v9.Cells.length),(.sl 1476 0 v9.Locks.length),(.sl 1477 0 v9.Helds.length),(.sl 1478 0 v9.Wounded.length),(.sl 1479 0 v9.Ended.length),(dI v9.Rank)]) eZ rfl rfl rfl (bR rfl) rfl (zm (qc (xQ (aV (za rfl (zf (m:=8) rfl rfl (zP (es:=[(dI v9.Me),(.sl 1473 0 v9.Own.length),(.sl 2944 0 v17.1.length),(.sl 1475 0 v9.Cells.length),(.sl 1476 0 v9.Locks.length),(.sl 1477 0 v9.Helds.length),(.sl 1478 0 v9.Wounded.length),(.sl 1479 0 v9.Ended.length),(dI a2)]) eZ rfl rfl rfl bZ rfl (xQ (aS (zW (zw (zN (es:=[(dI v9.Me),(.sl 1473 0 v9.Own.length),(.sl 2944 0 v17.1.length),(.sl 1475 0 v9.Cells.length),(.sl 1476 0 v9.Locks.length),(.sl 1477 0 v9.Helds.length),(.sl 1478 0 v9.Wounded.length),(.sl 1479 0 v9.Ended.length),(dI a2)]) rfl bZ rfl (zm (zw (zP (es:=[(dI v9.Me),(.sl 1473 0 v9.Own.length),(.sl 2944 0 v17.1.length),(.sl 1475 0 v9.Cells.length),(.sl 1476 0 v9.Locks.length),(.sl 1477 0 v9.Helds.length),(.sl 1478 0 v9.Wounded.length),(.sl 1479 0 v9.Ended.length),(dI a2)]) rfl eZ rfl rfl (bR rfl) rfl (zm (qc (za eC (xQ (AW.ret ?_))))))))))))))))))))))))))))))))
      cases H
      exact qI (RL.cons (qS (es:=[(dI v9.Me),(.sl 1473 0 v9.Own.length),(.sl 2944 0 v17.1.length),(.sl 1475 0 v9.Cells.length),(.sl 1476 0 v9.Locks.length),(.sl 1477 0 v9.Helds.length),(.sl 1478 0 v9.Wounded.length),(.sl 1479 0 v9.Ended.length),(dI a2)]) rfl bZ rfl) (VO.aggs (VOs.cons (VO.flat rfl) (VOs.cons (VO.sl (bR rfl) lm (zy fun _=>rfl)) (VOs.cons (VO.sl (bR rfl) lm (zy fun _=>rfl)) (VOs.cons (VO.sl (bR rfl) lm (zy fun _=>rfl)) (VOs.cons (VO.sl (bR rfl) lm (zy fun _=>rfl)) (VOs.cons (ZN (bR rfl) lm rfl) (VOs.cons (VO.sl (bR rfl) lm (zy fun _=>rfl)) (VOs.cons (VO.sl (bR rfl) lm (zy fun _=>rfl)) (VOs.cons (VO.flat rfl) VOs.nil)))))))))) (RL.cons (RV.tmp eZ) (VO.flat rfl) RL.nil)) (by decide)
     ·refine zi eZ (cN (nt h19)) (aS (zW (zw (zN (es:=[(dI v9.Me),(.sl 1473 0 v9.Own.length),(.sl 1474 0 v9.Frozen.length),(.sl 1475 0 v9.Cells.length),(.sl 1476 0 v9.Locks.length),(.sl 1477 0 v9.Helds.length),(.sl 1478 0 v9.Wounded.length),(.sl 1479 0 v9.Ended.length),(dI v9.Rank)]) rfl (bR rfl) rfl (zm (zw (zP (es:=[(dI v9.Me),(.sl 1473 0 v9.Own.length),(.sl 1474 0 v9.Frozen.length),(.sl 1475 0 v9.Cells.length),(.sl 1476 0 v9.Locks.length),(.sl 1477 0 v9.Helds.length),(.sl 1478 0 v9.Wounded.length),(.sl 1479 0 v9.Ended.length),(dI v9.Rank)]) rfl eZ rfl rfl (bR rfl) rfl (zm (qc (za eC (xQ (AW.ret (TQ.qr ?_)))))))))))))
      cases H
      exact qI (RL.cons (qS (es:=[(dI v9.Me),(.sl 1473 0 v9.Own.length),(.sl 1474 0 v9.Frozen.length),(.sl 1475 0 v9.Cells.length),(.sl 1476 0 v9.Locks.length),(.sl 1477 0 v9.Helds.length),(.sl 1478 0 v9.Wounded.length),(.sl 1479 0 v9.Ended.length),(dI v9.Rank)]) rfl bZ rfl) (VO.aggs (VOs.cons (VO.flat rfl) (VOs.cons (VO.sl (bR rfl) lm (zy fun _=>rfl)) (VOs.cons (VO.sl (bR rfl) lm (zy fun _=>rfl)) (VOs.cons (VO.sl (bR rfl) lm (zy fun _=>rfl)) (VOs.cons (VO.sl (bR rfl) lm (zy fun _=>rfl)) (VOs.cons (ZN (bR rfl) lm rfl) (VOs.cons (VO.sl (bR rfl) lm (zy fun _=>rfl)) (VOs.cons (VO.sl (bR rfl) lm (zy fun _=>rfl)) (VOs.cons (VO.flat rfl) VOs.nil)))))))))) (RL.cons (RV.tmp eZ) (VO.flat rfl) RL.nil)) (by decide)
    ·refine zi eZ (cN (nt h16)) (aS (zW (zw (zN (es:=[(dI v9.Me),(.sl 1473 0 v9.Own.length),(.sl 1474 0 v9.Frozen.length),(.sl 1475 0 v9.Cells.length),(.sl 1476 0 v9.Locks.length),(.sl 1477 0 v9.Helds.length),(.sl 1478 0 v9.Wounded.length),(.sl 1479 0 v9.Ended.length),(dI v9.Rank)]) rfl (bR rfl) rfl (zm (zw (zP (es:=[(dI v9.Me),(.sl 1473 0 v9.Own.length),(.sl 1474 0 v9.Frozen.length),(.sl 1475 0 v9.Cells.length),(.sl 1476 0 v9.Locks.length),(.sl 1477 0 v9.Helds.length),(.sl 1478 0 v9.Wounded.length),(.sl 1479 0 v9.Ended.length),(dI v9.Rank)]) rfl eZ rfl rfl (bR rfl) rfl (zm (qc (za eC (xQ (AW.ret (TQ.qr ?_)))))))))))))
     cases H
     exact qI (RL.cons (qS (es:=[(dI v9.Me),(.sl 1473 0 v9.Own.length),(.sl 1474 0 v9.Frozen.length),(.sl 1475 0 v9.Cells.length),(.sl 1476 0 v9.Locks.length),(.sl 1477 0 v9.Helds.length),(.sl 1478 0 v9.Wounded.length),(.sl 1479 0 v9.Ended.length),(dI v9.Rank)]) rfl bZ rfl) (VO.aggs (VOs.cons (VO.flat rfl) (VOs.cons (VO.sl (bR rfl) lm (zy fun _=>rfl)) (VOs.cons (VO.sl (bR rfl) lm (zy fun _=>rfl)) (VOs.cons (VO.sl (bR rfl) lm (zy fun _=>rfl)) (VOs.cons (VO.sl (bR rfl) lm (zy fun _=>rfl)) (VOs.cons (ZN (bR rfl) lm rfl) (VOs.cons (VO.sl (bR rfl) lm (zy fun _=>rfl)) (VOs.cons (VO.sl (bR rfl) lm (zy fun _=>rfl)) (VOs.cons (VO.flat rfl) VOs.nil)))))))))) (RL.cons (RV.tmp eZ) (VO.flat rfl) RL.nil)) (by decide)
  ·refine aR (za rfl (zf (m:=8) rfl rfl (zl (q:=8) (c:=(dI a1.Rank)) eZ (bR rfl) rfl rfl (Kl rfl eZ (za eZ ?_)))))
   rcases zC H with⟨h20,H⟩|⟨h20,H⟩
   ·refine gDo eZ (dT h20) (zf (m:=2) rfl rfl (gDo rfl (dT h20) (zl (q:=2) (c:=(.d (.sl 2 (List.map zd a1.Frozen)))) eZ (bR rfl) rfl rfl (gDo rfl (dT h20) (zN (es:=[(dI a3.Lo),(dI a3.Hi)]) rfl (bR rfl) rfl (gDo rfl (dT h20) ?_))))))
    obtain⟨v21,h22,H⟩:=zk H
    exact zD (u:=(oB v21)) eC Cl.fn (zdU h22) (Ec rfl (Ec eZ En)) (Vc Vp (Vc (VD.agg rfl) Vn)) rfl (gDo rfl (dT h20) (qG eZ (zB rfl (dT h20) eZ (zm (TQ.qn ⟨(!v21),H,(zM [] (sR rfl rfl) (blR rfl) (BK.cons rfl (bR rfl) rfl rfl (BK.cons rfl (bR rfl) rfl rfl (BK.cons rfl (bR rfl) rfl rfl (BK.cons rfl bZ rfl (by first|rfl|simp) (bkR rfl rfl rfl))))) GK.nil)⟩)))))
   ·exact zb eZ (dF h20) rfl (zb rfl (dF h20) rfl (zb rfl (dF h20) rfl (zb rfl (dF h20) rfl (zb rfl (dF h20) rfl (zJ rfl (dF h20) eC (zm (TQ.qn ⟨false,H,(zM [] (sR rfl rfl) (blR rfl) (BK.cons rfl (bR rfl) rfl rfl (BK.cons rfl (bR rfl) rfl rfl (BK.cons rfl (bR rfl) rfl rfl (BK.cons rfl bZ rfl (by first|rfl|simp) (bkR rfl rfl rfl))))) GK.nil)⟩)))))))
theorem Qs{a1:Int}{a2:Int}{a3:Int}{r:Bool}(H:yh a1 a2 a3=some r):Fn Tryz.prog 179 (lent [(.int .i64 a1),(.int .i64 a2),(.int .i64 a3)]) true [(.bool r)]:=by
 refine zE2 (fle rfl) ?_
 rw[zx]
 refine AW.weaken (zg [] (kv 0 (oI a1) rfl rfl (kv 1 (oI a2) rfl rfl (kv 2 (oI a3) rfl rfl SL.nil))) BL.nil BK.nil) ?_
 unfold yh at H
 unfold zzU
 refine aV (za eC (xQ (aV (za rfl (za rfl (Xr rfl eZ (za eZ ?_)))))))
 rcases zC H with⟨h4,H⟩|⟨h4,H⟩
 ·refine gDo eZ (dT h4) (za rfl (gDo rfl (dT h4) (za rfl (gDo rfl (dT h4) (zay rfl eZ (zB rfl (dT h4) eZ (za eZ (xQ (AW.ret ?_)))))))))
  cases H
  exact eE rfl rfl
 ·refine zb eZ (dF h4) rfl (zb rfl (dF h4) rfl (zb rfl (dF h4) rfl (zJ rfl (dF h4) eC (za eZ (xQ (AW.ret ?_))))))
  cases H
  exact eE rfl rfl
theorem zea{a1:Int}{r:Bool}(H:JP a1=some r):Fn Tryz.prog 225 (lent [(.int .i64 a1)]) true [(.bool r)]:=by
 refine zD6 (fle rfl) ?_
 rw[zx]
 refine AW.weaken (zg [] (kv 0 (oI a1) rfl rfl SL.nil) BL.nil BK.nil) ?_
 unfold JP at H
 unfold zzJ
 refine aV (za eC (xQ (aV (za rfl ?_))))
 obtain⟨v2,h3,H⟩:=zk H
 refine zD (u:=(oB v2)) eC Cl.fn (Qs h3) (Ec eZ (Ec eC (Ec eC En))) (Vc Vp (Vc Vp (Vc Vp Vn))) rfl (za eZ (xQ (AW.ret ?_)))
 cases H
 exact eE rfl rfl
theorem J6{a1:ze}{r:Bool}(H:ye a1=some r):Fn Tryz.prog 141 (lent [(.agg (zd a1))]) true [(.bool r)]:=by
 refine zE1 (fle rfl) ?_
 rw[zx]
 refine AW.weaken (zg [] (kv 0 (.agg [(dI a1.Lo),(dI a1.Hi)]) rfl rfl SL.nil) BL.nil BK.nil) ?_
 unfold ye at H
 unfold zyD
 refine aV (jh (n:=64) (m:=2) (cs:=[(dI a1.Lo),(dI a1.Hi)]) rfl eZ rfl rfl nZ (za eC (xQ (aV (zf (m:=0) rfl rfl (zl (q:=0) (c:=(dI a1.Lo)) eZ bZ rfl rfl (Xr eZ eC (za eZ ?_))))))))
 rcases zC H with⟨h2,H⟩|⟨h2,H⟩
 ·refine gDo eZ (dT h2) (zf (m:=0) rfl rfl (gDo rfl (dT h2) (zl (q:=0) (c:=(dI a1.Lo)) eZ bZ rfl rfl (gDo rfl (dT h2) (zf (m:=1) rfl rfl (gDo rfl (dT h2) (zl (q:=1) (c:=(dI a1.Hi)) eZ bZ rfl rfl (gDo rfl (dT h2) (qh rfl eZ (zB rfl (dT h2) eZ (za eZ ?_)))))))))))
  rcases zC H with⟨h3,H⟩|⟨h3,H⟩
  ·refine gDo eZ (dT h3) (zf (m:=1) rfl rfl (gDo rfl (dT h3) (zl (q:=1) (c:=(dI a1.Hi)) eZ bZ rfl rfl (gDo rfl (dT h3) (zay eZ eC (zB rfl (dT h3) eZ (za eZ (xQ (AW.weaken (zg [64] (kr 2 rfl rfl SL.nil) (blR rfl) BK.nil) (AW.ret ?_))))))))))
   cases H
   exact eE rfl rfl
  ·refine zb eZ (dF h3) rfl (zb rfl (dF h3) rfl (zb rfl (dF h3) rfl (zJ rfl (dF h3) eC (za eZ (xQ (AW.weaken (zg [64] (kr 2 rfl rfl SL.nil) (blR rfl) BK.nil) (AW.ret ?_)))))))
   cases H
   exact eE rfl rfl
 ·refine zb eZ (dF h2) rfl (zb rfl (dF h2) rfl (zb rfl (dF h2) rfl (zb rfl (dF h2) rfl (zb rfl (dF h2) rfl (zJ rfl (dF h2) eC (za eZ (zb eZ rfl rfl (zb rfl rfl rfl (zb rfl rfl rfl (zJ rfl rfl eC (za eZ (xQ (AW.weaken (zg [64] (kr 2 rfl rfl SL.nil) (blR rfl) BK.nil) (AW.ret ?_))))))))))))))
  cases H
  exact eE rfl rfl
theorem XG{a1:(List ze)}{r:Bool}(H:yQ a1=some r):Fn Tryz.prog 226 (lent [(.sl 2 (List.map zd a1))]) true [(.bool r)]:=by
 refine zFw (fle rfl) ?_
 rw[zx]
 refine AW.weaken (zg [] (kv 0 (.one (.d (.sl 2 (List.map zd a1)))) rfl rfl SL.nil) BL.nil BK.nil) ?_
 unfold yQ at H
 unfold zAK
 refine aV (za eC (xQ (zF (fun t2:Unit=>(Yz a1) t2=some r) (fun t2=>mk [(0,(.one (.d (.sl 2 (List.map zd a1)))))] [] noG) ?_ ?_)))
 ·intro t2 H
  unfold Yz at H
  refine aV (za eZ (zX eZ (n:=a1.length) lm (zay eZ eC (za eZ (xQ (AW.ret ?_))))))
  cases H
  exact eE rfl rfl
 ·refine aV (za rfl (zX eZ (n:=a1.length) lm (za eC (xQ (AW.block (AW.iter (fun s4:Int=>mk [(0,(.one (.d (.sl 2 (List.map zd a1))))),(5,(.one (.d (.sl 2 (List.map zd a1))))),(6,(oI (a1.length:Int))),(7,(oI s4))] [] noG) H (zg [] (sR rfl rfl) BL.nil BK.nil) ?_))))))
  intro kb5 s4 H
  unfold YA at H
  refine aV (qh rfl rfl (xQ (aS ?_)))
  rcases zC H with⟨h6,H⟩|⟨h6,H⟩
  ·refine zi eZ (dT h6) (AW.skip (TQ.qn (aS (AW.block (aV (za rfl ?_))))))
   obtain⟨v7,h8,H⟩:=zk H
   refine qy rfl rfl h8 (qf (es:=[(dI v7.Lo),(dI v7.Hi)]) eZ rfl (Zl (n:=256) (m:=2) rfl rfl nZ (za rfl (zP (es:=[(dI v7.Lo),(dI v7.Hi)]) rfl rfl rfl rfl bZ rfl (xQ (zF (fun t9:Bool=>(y5 kb5 s4) t9=some r) (fun t9=>mk [(0,(.one (.d (.sl 2 (List.map zd a1))))),(5,(.one (.d (.sl 2 (List.map zd a1))))),(6,(oI (a1.length:Int))),(7,(oI s4)),(29,(oB t9))] [] noG) ?_ ?_))))))
   ·intro t9 H
    unfold y5 at H
    rcases zC H with⟨h11,H⟩|⟨h11,H⟩
    ·refine zi rfl h11 (aV (za eC (xQ (AW.ret (BQ.qr (TQ.qr (TQ.qr (BQ.qr (TQ.qr ?_)))))))))
     cases H
     exact eE rfl rfl
    ·exact zh rfl (nt h11) (AW.skip (BQ.qn (TQ.qn (aR (qj rfl eC (za eZ (zm (TQ.qn ⟨(IntKind.wrap .i64 (s4+1)),H,(zg [] (sR rfl rfl) BL.nil BK.nil)⟩))))))))
   ·refine AW.regd (zN (es:=[(dI v7.Lo),(dI v7.Hi)]) rfl bZ rfl ?_)
    obtain⟨v12,h13,H⟩:=zk H
    refine zD (u:=(oB v12)) eC Cl.fn (J6 h13) (Ec eZ En) (Vc (VD.agg rfl) Vn) rfl (qG eZ (za eZ ?_))
    rcases zC H with⟨h14,H⟩|⟨h14,H⟩
    ·refine gDo eZ (cN h14) (za rfl (gDo rfl (cN h14) (KN eZ eC (gDo rfl (cN h14) (za eZ ?_)))))
     rcases zC H with⟨h15,H⟩|⟨h15,H⟩
     ·refine gDo eZ (dT h15) (zf (m:=0) rfl rfl (gDo rfl (dT h15) (zl (q:=0) (c:=(dI v7.Lo)) eZ bZ rfl rfl (gDo rfl (dT h15) (za rfl (gDo rfl (dT h15) (za rfl (gDo rfl (dT h15) (zac eZ eC (gDo rfl (dT h15) ?_))))))))))
      obtain⟨v16,h17,H⟩:=zk H
      exact qy rfl eZ h17 (gDo rfl (dT h15) (z6 (m:=1) eZ rfl (gDo rfl (dT h15) (zY (e:=(.int .i64 v16.Hi)) eZ rfl (gDo rfl (dT h15) (qh rfl eZ (gDo rfl (cN h14) (zB rfl (dT h15) eZ (zJ rfl (cN h14) eZ (zm (TQ.qn ⟨(decide (v7.Lo < v16.Hi)),H,(zg [256] (sR rfl rfl) (blR rfl) BK.nil)⟩)))))))))))
     ·exact zb eZ (dF h15) rfl (zb rfl (dF h15) rfl (zb rfl (dF h15) rfl (zb rfl (dF h15) rfl (zb rfl (dF h15) rfl (zb rfl (dF h15) rfl (zb rfl (dF h15) rfl (zb rfl (dF h15) rfl (zb rfl (dF h15) rfl (gDo rfl (cN h14) (zJ rfl (dF h15) eC (zJ rfl (cN h14) eZ (zm (TQ.qn ⟨false,H,(zg [256] (sR rfl rfl) (blR rfl) BK.nil)⟩)))))))))))))
    ·exact zb eZ (cN (nt h14)) rfl (zb rfl (cN (nt h14)) rfl (zb rfl (cN (nt h14)) rfl (zG eZ rfl (zG rfl rfl (zG rfl rfl (zG rfl rfl (zG rfl rfl (zG rfl rfl (zG rfl rfl (zG rfl rfl (zG rfl rfl (zb rfl (cN (nt h14)) rfl (zB rfl (cN (nt h14)) eC (zm (TQ.qn ⟨true,H,(zg [256] (sR rfl rfl) (blR rfl) BK.nil)⟩)))))))))))))))
  ·exact zh eZ (dF h6) (AW.exit (TQ.qe (TQ.qe (BQ.qe (TQ.qn ⟨(),H,(zg [] (sR rfl rfl) BL.nil BK.nil)⟩)))))
theorem zcE{a1:Int}{r:Bool}(H:YT a1=some r):Fn Tryz.prog 296 (lent [(.int .i64 a1)]) true [(.bool r)]:=by
 refine f296 (fle rfl) ?_
 rw[zx]
 refine AW.weaken (zg [] (kv 0 (oI a1) rfl rfl SL.nil) BL.nil BK.nil) ?_
 unfold YT at H
 unfold zBJ
 refine aV (za eC (xQ (aV (za rfl ?_))))
 obtain⟨v2,h3,H⟩:=zk H
 refine zD (u:=(oB v2)) eC Cl.fn (Qs h3) (Ec eZ (Ec eC (Ec eC En))) (Vc Vp (Vc Vp (Vc Vp Vn))) rfl (za eZ (xQ (AW.ret ?_)))
 cases H
 exact eE rfl rfl
theorem zeQ{a1:Int}{r:Bool}(H:JR a1=some r):Fn Tryz.prog 180 (lent [(.int .i64 a1)]) true [(.bool r)]:=by
 refine zEs (fle rfl) ?_
 rw[zx]
 refine AW.weaken (zg [] (kv 0 (oI a1) rfl rfl SL.nil) BL.nil BK.nil) ?_
 unfold JR at H
 unfold zyG
 refine aV (za eC (xQ (aV (za rfl ?_))))
 obtain⟨v2,h3,H⟩:=zk H
 refine zD (u:=(oB v2)) eC Cl.fn (Qs h3) (Ec eZ (Ec eC (Ec eC En))) (Vc Vp (Vc Vp (Vc Vp Vn))) rfl (za eZ (xQ (AW.ret ?_)))
 cases H
 exact eE rfl rfl
theorem za0{a1:(List zu)}{r:Bool}(H:Qo a1=some r):Fn Tryz.prog 227 (lent [(.sl 2 (List.map zj a1))]) true [(.bool r)]:=by
 refine zFy (fle rfl) ?_
 rw[zx]
 refine AW.weaken (zg [] (kv 0 (.one (.d (.sl 2 (List.map zj a1)))) rfl rfl SL.nil) BL.nil BK.nil) ?_
 unfold Qo at H
 unfold zBV
 refine aV (za eC (xQ (zF (fun t2:Unit=>(xz a1) t2=some r) (fun t2=>mk [(0,(.one (.d (.sl 2 (List.map zj a1)))))] [] noG) ?_ ?_)))
 ·intro t2 H
  unfold xz at H
  refine aV (za eZ (zX eZ (n:=a1.length) lm (zay eZ eC (za eZ (xQ (AW.ret ?_))))))
  cases H
  exact eE rfl rfl
 ·refine aV (za rfl (zX eZ (n:=a1.length) lm (za eC (xQ (AW.block (AW.iter (fun s4:Int=>mk [(0,(.one (.d (.sl 2 (List.map zj a1))))),(5,(.one (.d (.sl 2 (List.map zj a1))))),(6,(oI (a1.length:Int))),(7,(oI s4))] [] noG) H (zg [] (sR rfl rfl) BL.nil BK.nil) ?_))))))
  intro kb5 s4 H
  unfold xE at H
  refine aV (qh rfl rfl (xQ (aS ?_)))
  rcases zC H with⟨h6,H⟩|⟨h6,H⟩
  ·refine zi eZ (dT h6) (AW.skip (TQ.qn (aS (AW.block (aV (za rfl ?_))))))
   obtain⟨v7,h8,H⟩:=zk H
   refine qy rfl rfl h8 (qf (es:=[(dI v7.Key),(dI v7.Value)]) eZ rfl (Zl (n:=256) (m:=2) rfl rfl nZ (za rfl (zP (es:=[(dI v7.Key),(dI v7.Value)]) rfl rfl rfl rfl bZ rfl (xQ (zF (fun t9:Bool=>(yM kb5 s4) t9=some r) (fun t9=>mk [(0,(.one (.d (.sl 2 (List.map zj a1))))),(5,(.one (.d (.sl 2 (List.map zj a1))))),(6,(oI (a1.length:Int))),(7,(oI s4)),(36,(oB t9))] [] noG) ?_ ?_))))))
   ·intro t9 H
    unfold yM at H
    rcases zC H with⟨h11,H⟩|⟨h11,H⟩
    ·refine zi rfl h11 (aV (za eC (xQ (AW.ret (BQ.qr (TQ.qr (TQ.qr (BQ.qr (TQ.qr ?_)))))))))
     cases H
     exact eE rfl rfl
    ·exact zh rfl (nt h11) (AW.skip (BQ.qn (TQ.qn (aR (qj rfl eC (za eZ (zm (TQ.qn ⟨(IntKind.wrap .i64 (s4+1)),H,(zg [] (sR rfl rfl) BL.nil BK.nil)⟩))))))))
   ·refine AW.regd (zf (m:=0) rfl rfl (zl (q:=0) (c:=(dI v7.Key)) eZ bZ rfl rfl ?_))
    obtain⟨v12,h13,H⟩:=zk H
    refine zD (u:=(oB v12)) eC Cl.fn (zcE h13) (Ec eZ En) (Vc Vp Vn) rfl (qG eZ (za eZ ?_))
    rcases zC H with⟨h14,H⟩|⟨h14,H⟩
    ·refine gDo eZ (cN h14) (zf (m:=1) rfl rfl (gDo rfl (cN h14) (zl (q:=1) (c:=(dI v7.Value)) eZ bZ rfl rfl (gDo rfl (cN h14) ?_))))
     obtain⟨v15,h16,H⟩:=zk H
     refine zD (u:=(oB v15)) eC Cl.fn (zeQ h16) (Ec eZ En) (Vc Vp Vn) rfl (gDo rfl (cN h14) (qG eZ (zJ rfl (cN h14) eZ (za eZ ?_))))
     rcases zC H with⟨h17,H⟩|⟨h17,H⟩
     ·refine gDo eZ (cN h17) (za rfl (gDo rfl (cN h17) (KN eZ eC (gDo rfl (cN h17) (za eZ ?_)))))
      rcases zC H with⟨h18,H⟩|⟨h18,H⟩
      ·refine gDo eZ (dT h18) (za rfl (gDo rfl (dT h18) (za rfl (gDo rfl (dT h18) (zac eZ eC (gDo rfl (dT h18) ?_))))))
       obtain⟨v19,h20,H⟩:=zk H
       exact qy rfl eZ h20 (gDo rfl (dT h18) (z6 (m:=0) eZ rfl (gDo rfl (dT h18) (zY (e:=(.int .i64 v19.Key)) eZ rfl (gDo rfl (dT h18) (zf (m:=0) rfl rfl (gDo rfl (dT h18) (zl (q:=0) (c:=(dI v7.Key)) eZ bZ rfl rfl (gDo rfl (dT h18) (Xr rfl eZ (gDo rfl (cN h17) (zB rfl (dT h18) eZ (zJ rfl (cN h17) eZ (zm (TQ.qn ⟨(decide (v7.Key≤v19.Key)),H,(zg [256] (sR rfl rfl) (blR rfl) BK.nil)⟩)))))))))))))))
      ·exact zb eZ (dF h18) rfl (zb rfl (dF h18) rfl (zb rfl (dF h18) rfl (zb rfl (dF h18) rfl (zb rfl (dF h18) rfl (zb rfl (dF h18) rfl (zb rfl (dF h18) rfl (zb rfl (dF h18) rfl (zb rfl (dF h18) rfl (gDo rfl (cN h17) (zJ rfl (dF h18) eC (zJ rfl (cN h17) eZ (zm (TQ.qn ⟨false,H,(zg [256] (sR rfl rfl) (blR rfl) BK.nil)⟩)))))))))))))
     ·exact zb eZ (cN (nt h17)) rfl (zb rfl (cN (nt h17)) rfl (zb rfl (cN (nt h17)) rfl (zG eZ rfl (zG rfl rfl (zG rfl rfl (zG rfl rfl (zG rfl rfl (zG rfl rfl (zG rfl rfl (zG rfl rfl (zG rfl rfl (zb rfl (cN (nt h17)) rfl (zB rfl (cN (nt h17)) eC (zm (TQ.qn ⟨true,H,(zg [256] (sR rfl rfl) (blR rfl) BK.nil)⟩)))))))))))))))
    ·exact zb eZ (cN (nt h14)) rfl (zb rfl (cN (nt h14)) rfl (zb rfl (cN (nt h14)) rfl (zb rfl (cN (nt h14)) rfl (zB rfl (cN (nt h14)) eC (za eZ (zb eZ rfl rfl (zb rfl rfl rfl (zb rfl rfl rfl (zG eZ rfl (zG rfl rfl (zG rfl rfl (zG rfl rfl (zG rfl rfl (zG rfl rfl (zG rfl rfl (zG rfl rfl (zG rfl rfl (zb rfl rfl rfl (zB rfl rfl eC (zm (TQ.qn ⟨true,H,(zg [256] (sR rfl rfl) (blR rfl) BK.nil)⟩)))))))))))))))))))))
  ·exact zh eZ (dF h6) (AW.exit (TQ.qe (TQ.qe (BQ.qe (TQ.qn ⟨(),H,(zg [] (sR rfl rfl) BL.nil BK.nil)⟩)))))
theorem zdK{a1:Int}{r:Bool}(H:xR a1=some r):Fn Tryz.prog 123 (lent [(.int .i64 a1)]) true [(.bool r)]:=by
 refine zFz (fle rfl) ?_
 rw[zx]
 refine AW.weaken (zg [] (kv 0 (oI a1) rfl rfl SL.nil) BL.nil BK.nil) ?_
 unfold xR at H
 unfold zCj
 refine aV (za eC (xQ (aV (za rfl ?_))))
 obtain⟨v2,h3,H⟩:=zk H
 refine zD (u:=(oB v2)) eC Cl.fn (Qs h3) (Ec eZ (Ec eC (Ec eC En))) (Vc Vp (Vc Vp (Vc Vp Vn))) rfl (za eZ (xQ (AW.ret ?_)))
 cases H
 exact eE rfl rfl
theorem y6{a1:zK}{r:ze}(H:qZ a1=some r):Fn Tryz.prog 113 (lent [(.agg (zp a1))]) true [(.agg (zd r))]:=by
 refine zFb (fle rfl) ?_
 rw[zx]
 refine AW.weaken (zg [] (kv 0 (.agg (qo a1)) rfl rfl SL.nil) BL.nil BK.nil) ?_
 unfold qZ at H
 unfold zCq
 refine aV (jh (n:=64) (m:=4) (cs:=(qo a1)) rfl eZ rfl rfl nZ (Zl (n:=128) (m:=2) rfl rfl (nR rfl) (xQ (aV (zf (m:=1) rfl rfl (zl (q:=1) (c:=(dI a1.Lo)) eZ (bR rfl) rfl rfl (zf (m:=2) rfl rfl (zl (q:=2) (c:=(dI a1.Hi)) eZ (bR rfl) rfl rfl (Xa (cs:=[(dI a1.Lo),(dI a1.Hi)]) (jO rfl (jO eZ kF)) rfl (zP (es:=[(dI a1.Lo),(dI a1.Hi)]) rfl eZ rfl rfl bZ rfl (xQ (AW.ret ?_))))))))))))
 cases H
 exact qI (RL.cons (qS (es:=[(dI a1.Lo),(dI a1.Hi)]) rfl bZ rfl) (VO.agg (ds:=[(.int .i64 a1.Lo),(.int .i64 a1.Hi)]) rfl rfl) RL.nil) List.nodup_nil
theorem zbN{a1:Int}{r:Bool}(H:Q6 a1=some r):Fn Tryz.prog 297 (lent [(.int .i64 a1)]) true [(.bool r)]:=by
 refine f297 (fle rfl) ?_
 rw[zx]
 refine AW.weaken (zg [] (kv 0 (oI a1) rfl rfl SL.nil) BL.nil BK.nil) ?_
 unfold Q6 at H
 unfold zBn
 refine aV (za eC (xQ (aV (za rfl (Kl eZ eC (za eZ ?_))))))
 rcases zC H with⟨h2,H⟩|⟨h2,H⟩
 ·refine zb eZ (dT h2) rfl (zb rfl (dT h2) rfl (zB rfl (dT h2) eC (za eZ (xQ (AW.ret ?_)))))
  cases H
  exact eE rfl rfl
 ·refine gDo eZ (dF h2) (za rfl (gDo rfl (dF h2) (Kl eZ eC (zJ rfl (dF h2) eZ (za eZ (xQ (AW.ret ?_)))))))
  cases H
  exact eE rfl rfl
theorem zaa{a1:ze}{a2:ze}{r:Bool}(H:Qt a1 a2=some r):Fn Tryz.prog 112 (lent [(.agg (zd a1)),(.agg (zd a2))]) true [(.bool r)]:=by
 refine zFs (fle rfl) ?_
 rw[zx]
 refine AW.weaken (zg [] (kv 0 (.agg [(dI a1.Lo),(dI a1.Hi)]) rfl rfl (kv 1 (.agg [(dI a2.Lo),(dI a2.Hi)]) rfl rfl SL.nil)) BL.nil BK.nil) ?_
 unfold Qt at H
 unfold zCr
 refine aV (jh (n:=128) (m:=2) (cs:=[(dI a1.Lo),(dI a1.Hi)]) rfl eZ rfl rfl nZ (jh (n:=192) (m:=2) (cs:=[(dI a2.Lo),(dI a2.Hi)]) rfl rfl rfl rfl (nR rfl) (za eC (xQ (aV (zf (m:=0) rfl rfl (zl (q:=0) (c:=(dI a1.Lo)) eZ (bR rfl) rfl rfl (zf (m:=1) rfl rfl (zl (q:=1) (c:=(dI a2.Hi)) eZ bZ rfl rfl (qh rfl eZ (za eZ ?_)))))))))))
 rcases zC H with⟨h3,H⟩|⟨h3,H⟩
 ·refine gDo eZ (dT h3) (zf (m:=0) rfl rfl (gDo rfl (dT h3) (zl (q:=0) (c:=(dI a2.Lo)) eZ bZ rfl rfl (gDo rfl (dT h3) (zf (m:=1) rfl rfl (gDo rfl (dT h3) (zl (q:=1) (c:=(dI a1.Hi)) eZ (bR rfl) rfl rfl (gDo rfl (dT h3) (qh rfl eZ (zB rfl (dT h3) eZ (za eZ (xQ (AW.weaken (zg [192,128] (kr 4 rfl rfl SL.nil) (blR rfl) BK.nil) (AW.ret ?_))))))))))))))
  cases H
  exact eE rfl rfl
 ·refine zb eZ (dF h3) rfl (zb rfl (dF h3) rfl (zb rfl (dF h3) rfl (zb rfl (dF h3) rfl (zb rfl (dF h3) rfl (zJ rfl (dF h3) eC (za eZ (xQ (AW.weaken (zg [192,128] (kr 4 rfl rfl SL.nil) (blR rfl) BK.nil) (AW.ret ?_)))))))))
  cases H
  exact eE rfl rfl
theorem zgj{a1:zK}{a2:zK}{r:Bool}(H:kp a1 a2=some r):Fn Tryz.prog 299 (lent [(.agg (zp a1)),(.agg (zp a2))]) true [(.bool r)]:=by
 refine f299 (fle rfl) ?_
 rw[zx]
 refine AW.weaken (zg [] (kv 0 (.agg (qo a1)) rfl rfl (kv 1 (.agg (qo a2)) rfl rfl SL.nil)) BL.nil BK.nil) ?_
 unfold kp at H
 unfold zBN
 refine aV (jh (n:=128) (m:=4) (cs:=(qo a1)) rfl eZ rfl rfl nZ (jh (n:=192) (m:=4) (cs:=(qo a2)) rfl rfl rfl rfl (nR rfl) (za eC (xQ (aS (AW.regd (zf (m:=0) rfl rfl (zl (q:=0) (c:=(dI a1.Tx)) eZ (bR rfl) rfl rfl (zf (m:=0) rfl rfl (zl (q:=0) (c:=(dI a2.Tx)) eZ bZ rfl rfl (ZO rfl eZ (za eZ ?_))))))))))))
 rcases zC H with⟨h3,H⟩|⟨h3,H⟩
 ·refine gDo eZ (dT h3) (zf (m:=3) rfl rfl (gDo rfl (dT h3) (zl (q:=3) (c:=(dI a1.Mode)) eZ (bR rfl) rfl rfl (gDo rfl (dT h3) (Kl eZ eC (gDo rfl (dT h3) (za eZ ?_)))))))
  rcases zC H with⟨h4,H⟩|⟨h4,H⟩
  ·refine zb eZ (dT h4) rfl (zb rfl (dT h4) rfl (zb rfl (dT h4) rfl (gDo rfl (dT h3) (zB rfl (dT h4) eC (zB rfl (dT h3) eZ (za eZ (gDo eZ rfl (zN (es:=(qo a1)) rfl (bR rfl) rfl (gDo rfl rfl ?_)))))))))
   obtain⟨v5,h6,H⟩:=zk H
   refine zD (u:=(.agg [(dI v5.Lo),(dI v5.Hi)])) eC Cl.fn (y6 h6) (Ec eZ En) (Vc (VD.agg rfl) Vn) rfl (gDo rfl rfl (zN (es:=(qo a2)) rfl (hB rfl bZ) rfl (gDo rfl rfl ?_)))
   obtain⟨v7,h8,H⟩:=zk H
   refine zD (u:=(.agg [(dI v7.Lo),(dI v7.Hi)])) eC Cl.fn (y6 h8) (Ec eZ En) (Vc (VD.agg rfl) Vn) rfl (gDo rfl rfl ?_)
   obtain⟨v9,h10,H⟩:=zk H
   refine zD (u:=(oB v9)) eC Cl.fn (zaa h10) (Ec rfl (Ec eZ En)) (Vc (VD.agg rfl) (Vc (VD.agg rfl) Vn)) rfl (zB rfl rfl eZ (za eZ (xQ (AW.weaken (zg [192,128] (kr 4 rfl rfl SL.nil) (blR rfl) BK.nil) (AW.ret ?_)))))
   cases H
   exact eE rfl rfl
  ·refine gDo eZ (dF h4) (zf (m:=3) rfl rfl (gDo rfl (dF h4) (zl (q:=3) (c:=(dI a2.Mode)) eZ bZ rfl rfl (gDo rfl (dF h4) (Kl eZ eC (gDo rfl (dT h3) (zJ rfl (dF h4) eZ (zB rfl (dT h3) eZ (za eZ ?_)))))))))
   rcases zC H with⟨h11,H⟩|⟨h11,H⟩
   ·refine gDo eZ (dT h11) (zN (es:=(qo a1)) rfl (bR rfl) rfl (gDo rfl (dT h11) ?_))
    obtain⟨v12,h13,H⟩:=zk H
    refine zD (u:=(.agg [(dI v12.Lo),(dI v12.Hi)])) eC Cl.fn (y6 h13) (Ec eZ En) (Vc (VD.agg rfl) Vn) rfl (gDo rfl (dT h11) (zN (es:=(qo a2)) rfl (hB rfl bZ) rfl (gDo rfl (dT h11) ?_)))
    obtain⟨v14,h15,H⟩:=zk H
    refine zD (u:=(.agg [(dI v14.Lo),(dI v14.Hi)])) eC Cl.fn (y6 h15) (Ec eZ En) (Vc (VD.agg rfl) Vn) rfl (gDo rfl (dT h11) ?_)
    obtain⟨v16,h17,H⟩:=zk H
    refine zD (u:=(oB v16)) eC Cl.fn (zaa h17) (Ec rfl (Ec eZ En)) (Vc (VD.agg rfl) (Vc (VD.agg rfl) Vn)) rfl (zB rfl (dT h11) eZ (za eZ (xQ (AW.weaken (zg [192,128] (kr 4 rfl rfl SL.nil) (blR rfl) BK.nil) (AW.ret ?_)))))
    cases H
    exact eE rfl rfl
   ·refine zb eZ (dF h11) rfl (zb rfl (dF h11) rfl (zb rfl (dF h11) rfl (zb rfl (dF h11) rfl (zb rfl (dF h11) rfl (zJ rfl (dF h11) eC (za eZ (xQ (AW.weaken (zg [192,128] (kr 4 rfl rfl SL.nil) (blR rfl) BK.nil) (AW.ret ?_)))))))))
    cases H
    exact eE rfl rfl
 ·refine zb eZ (dF h3) rfl (zb rfl (dF h3) rfl (zb rfl (dF h3) rfl (zb rfl (dF h3) rfl (zG eZ rfl (zG rfl rfl (zG rfl rfl (zb rfl (dF h3) rfl (zJ rfl (dF h3) eC (za eZ (zb eZ rfl rfl (zb rfl rfl rfl (zb rfl rfl rfl (zb rfl rfl rfl (zb rfl rfl rfl (zJ rfl rfl eC (za eZ (xQ (AW.weaken (zg [192,128] (kr 4 rfl rfl SL.nil) (blR rfl) BK.nil) (AW.ret ?_)))))))))))))))))))
  cases H
  exact eE rfl rfl
theorem zdp{a1:zK}{a2:zK}{r:Bool}(H:Z9 a1 a2=some r):Fn Tryz.prog 298 (lent [(.agg (zp a1)),(.ptr (zp a2))]) true [(.bool r)]:=by
 refine f298 (fle rfl) ?_
 rw[zx]
 refine AW.weaken (zg [] (kv 0 (.agg (qo a1)) rfl rfl (SL.cons (v:=(.one (.ptr (.bd (zp a2) 0)))) (eS rfl eZ) rfl (VWk.one CWk.ptr) SL.nil)) BL.nil BK.nil) ?_
 unfold Z9 at H
 unfold zDp
 refine aV (jh (n:=128) (m:=4) (cs:=(qo a1)) rfl eZ rfl rfl nZ (za eC (xQ (aV (qf (es:=(qo a2)) rfl rfl (zN (es:=(qo a1)) rfl bZ rfl ?_))))))
 obtain⟨v3,h4,H⟩:=zk H
 refine zD (u:=(oB v3)) eC Cl.fn (zgj h4) (Ec rfl (Ec eZ En)) (Vc (VD.agg rfl) (Vc (VD.agg rfl) Vn)) rfl (za eZ (xQ (AW.ret ?_)))
 cases H
 exact eE rfl rfl
theorem xN{a1:(List zK)}{a2:zK}{r:Int}(H:jk a1 a2=some r):Fn Tryz.prog 216 (lent [(.sl 4 (List.map zp a1)),(.fn 298 [.ptr (zp a2)])]) true [(.int .i64 r)]:=by
 refine f216 (fle rfl) ?_
 rw[zx]
 refine AW.weaken (zg [] (kv 0 (.one (.d (.sl 4 (List.map zp a1)))) rfl rfl (SL.cons (v:=(.one (.fn 298 [(.bd (zp a2) 0)]))) (eS rfl eZ) rfl (VWk.one (CWk.fn (css:=[zp a2]))) SL.nil)) BL.nil BK.nil) ?_
 unfold jk at H
 unfold zmu
 refine aV (za eC (xQ (zF (fun t3:Unit=>jW t3=some r) (fun t3=>mk [] [] noG) ?_ ?_)))
 ·intro t3 H
  unfold jW at H
  refine aV (za eC (xQ (AW.ret ?_)))
  cases H
  exact eE rfl rfl
 ·refine aV (za rfl (zX eZ (n:=a1.length) lm (za eC (xQ (AW.block (AW.iter (fun s5:Int=>mk [(0,(.one (.d (.sl 4 (List.map zp a1))))),(1,(.one (.fn 298 [(.bd (zp a2) 0)]))),(7,(oI (a1.length:Int))),(8,(oI s5))] [] noG) H (zg [] (sR rfl rfl) BL.nil BK.nil) ?_))))))
  intro kb6 s5 H
  unfold je at H
  refine aV (qh rfl rfl (xQ (aS ?_)))
  rcases zC H with⟨h7,H⟩|⟨h7,H⟩
  ·refine zi eZ (dT h7) (AW.skip (TQ.qn (aS (AW.block (aV (za rfl (za eZ (xQ (aV (za rfl (za rfl (za rfl ?_))))))))))))
   obtain⟨v8,h9,H⟩:=zk H
   refine qy rfl eZ h9 (qf (es:=(qo v8)) eZ rfl ?_)
   obtain⟨v10,h11,H⟩:=zk H
   refine zD (u:=(oB v10)) rfl Cl.fn (zdp h11) (Ec eZ En) (Vc (VD.agg rfl) (Vc jG Vn)) rfl (xQ ?_)
   rcases zC H with⟨h12,H⟩|⟨h12,H⟩
   ·refine zi eZ h12 (aV (za rfl (za eZ (xQ (AW.ret (BQ.qr (TQ.qr (TQ.qr (BQ.qr (TQ.qr ?_))))))))))
    cases H
    exact eE rfl rfl
   ·exact zh eZ (nt h12) (AW.skip (BQ.qn (TQ.qn (aR (qj rfl eC (za eZ (zm (TQ.qn ⟨(IntKind.wrap .i64 (s5+1)),H,(zg [] (sR rfl rfl) BL.nil BK.nil)⟩))))))))
  ·exact zh eZ (dF h7) (AW.exit (TQ.qe (TQ.qe (BQ.qe (TQ.qn ⟨(),H,(zg [] SL.nil BL.nil BK.nil)⟩)))))
theorem Yg{a1:(List zK)}{a2:zK}{r:Bool}(H:qw a1 a2=some r):Fn Tryz.prog 110 (lent [(.sl 4 (List.map zp a1)),(.fn 298 [.ptr (zp a2)])]) true [(.bool r)]:=by
 refine zw0 (fle rfl) ?_
 rw[zx]
 refine AW.weaken (zg [] (kv 0 (.one (.d (.sl 4 (List.map zp a1)))) rfl rfl (SL.cons (v:=(.one (.fn 298 [(.bd (zp a2) 0)]))) (eS rfl eZ) rfl (VWk.one (CWk.fn (css:=[zp a2]))) SL.nil)) BL.nil BK.nil) ?_
 unfold qw at H
 unfold zld
 refine aV (za eC (xQ (aV (za rfl (za rfl ?_)))))
 obtain⟨v3,h4,H⟩:=zk H
 refine zD (u:=(oI v3)) eC Cl.fn (xN h4) (Ec rfl (Ec eZ En)) (Vc Vp (Vc (VD.fn (PDs.cons jG PDs.nil)) Vn)) rfl (Xr eZ eC (za eZ (xQ (AW.ret ?_))))
 cases H
 exact eE rfl rfl
theorem zbb{a1:(List zK)}{r:Bool}(H:Z7 a1=some r):Fn Tryz.prog 228 (lent [(.sl 4 (List.map zp a1))]) true [(.bool r)]:=by
 refine zD5 (fle rfl) ?_
 rw[zx]
 refine AW.weaken (zg [] (kv 0 (.one (.d (.sl 4 (List.map zp a1)))) rfl rfl SL.nil) BL.nil BK.nil) ?_
 unfold Z7 at H
 unfold zy1
 refine aV (za eC (xQ (zF (fun t2:Unit=>(xA a1) t2=some r) (fun t2=>mk [(0,(.one (.d (.sl 4 (List.map zp a1)))))] [] noG) ?_ ?_)))
 ·intro t2 H
  unfold xA at H
  refine aV (za eZ (zX eZ (n:=a1.length) lm (zay eZ eC (za eZ (xQ (AW.ret ?_))))))
  cases H
  exact eE rfl rfl
 ·refine aV (za rfl (zX eZ (n:=a1.length) lm (za eC (xQ (AW.block (AW.iter (fun s4:Int=>mk [(0,(.one (.d (.sl 4 (List.map zp a1))))),(5,(.one (.d (.sl 4 (List.map zp a1))))),(6,(oI (a1.length:Int))),(7,(oI s4))] [] noG) H (zg [] (sR rfl rfl) BL.nil BK.nil) ?_))))))
  intro kb5 s4 H
  unfold xn at H
  refine aV (qh rfl rfl (xQ (aS ?_)))
  rcases zC H with⟨h6,H⟩|⟨h6,H⟩
  ·refine zi eZ (dT h6) (AW.skip (TQ.qn (aS (AW.block (aV (za rfl ?_))))))
   obtain⟨v7,h8,H⟩:=zk H
   refine qy rfl rfl h8 (qf (es:=(qo v7)) eZ rfl (Zl (n:=256) (m:=4) rfl rfl nZ (za rfl (zP (es:=(qo v7)) rfl rfl rfl rfl bZ rfl (xQ (zF (fun t9:Bool=>(yP kb5 s4) t9=some r) (fun t9=>mk [(0,(.one (.d (.sl 4 (List.map zp a1))))),(5,(.one (.d (.sl 4 (List.map zp a1))))),(6,(oI (a1.length:Int))),(7,(oI s4)),(34,(oB t9))] [] noG) ?_ ?_))))))
   ·intro t9 H
    unfold yP at H
    rcases zC H with⟨h11,H⟩|⟨h11,H⟩
    ·refine zi rfl h11 (aV (za eC (xQ (AW.ret (BQ.qr (TQ.qr (TQ.qr (BQ.qr (TQ.qr ?_)))))))))
     cases H
     exact eE rfl rfl
    ·exact zh rfl (nt h11) (AW.skip (BQ.qn (TQ.qn (aR (qj rfl eC (za eZ (zm (TQ.qn ⟨(IntKind.wrap .i64 (s4+1)),H,(zg [] (sR rfl rfl) BL.nil BK.nil)⟩))))))))
   ·refine aR (zf (m:=0) rfl rfl (zl (q:=0) (c:=(dI v7.Tx)) eZ bZ rfl rfl ?_))
    obtain⟨v12,h13,H⟩:=zk H
    refine zD (u:=(oB v12)) eC Cl.fn (zdK h13) (Ec eZ En) (Vc Vp Vn) rfl (qG eZ (za eZ ?_))
    rcases zC H with⟨h14,H⟩|⟨h14,H⟩
    ·refine gDo eZ (cN h14) (zN (es:=(qo v7)) rfl bZ rfl (gDo rfl (cN h14) ?_))
     obtain⟨v15,h16,H⟩:=zk H
     refine zD (u:=(.agg [(dI v15.Lo),(dI v15.Hi)])) eC Cl.fn (y6 h16) (Ec eZ En) (Vc (VD.agg rfl) Vn) rfl (gDo rfl (cN h14) ?_)
     obtain⟨v17,h18,H⟩:=zk H
     refine zD (u:=(oB v17)) eC Cl.fn (J6 h18) (Ec eZ En) (Vc (VD.agg rfl) Vn) rfl (gDo rfl (cN h14) (qG eZ (zJ rfl (cN h14) eZ (za eZ ?_))))
     rcases zC H with⟨h19,H⟩|⟨h19,H⟩
     ·refine gDo eZ (cN h19) (zf (m:=3) rfl rfl (gDo rfl (cN h19) (zl (q:=3) (c:=(dI v7.Mode)) eZ bZ rfl rfl (gDo rfl (cN h19) ?_))))
      obtain⟨v20,h21,H⟩:=zk H
      refine zD (u:=(oB v20)) eC Cl.fn (zbN h21) (Ec eZ En) (Vc Vp Vn) rfl (gDo rfl (cN h19) (qG eZ (zJ rfl (cN h19) eZ (za eZ ?_))))
      rcases zC H with⟨h22,H⟩|⟨h22,H⟩
      ·refine gDo eZ (cN h22) (za rfl (gDo rfl (cN h22) (za rfl (gDo rfl (cN h22) ?_))))
       obtain⟨v23,h24,H⟩:=zk H
       refine zAS rfl zD1 (n:=(a1.length:Int)) rfl (Bd.at eZ) h24 (gDo rfl (cN h22) (zcj (ps:=[(.nm 256 0 0)]) (Ec rfl En) (gDo rfl (cN h22) ?_)))
       obtain⟨v25,h26,H⟩:=zk H
       exact zD (u:=(oB v25)) eC Cl.fn (Yg h26) (Ec rfl (Ec eZ En)) (Vc Vp (Vc (VD.fn (PDs.cons (QO bZ (CDs.plain (CDs.plain (CDs.plain (CDs.plain CDs.nil))))) PDs.nil)) Vn)) rfl (zJ rfl (cN h22) eZ (zm (TQ.qn ⟨v25,H,(zg [256] (sR rfl rfl) (blR rfl) BK.nil)⟩)))
      ·exact zb eZ (cN (nt h22)) rfl (zb rfl (cN (nt h22)) rfl (zb rfl (cN (nt h22)) rfl (zb rfl (cN (nt h22)) rfl (zb rfl (cN (nt h22)) rfl (zB rfl (cN (nt h22)) eC (zm (TQ.qn ⟨true,H,(zg [256] (sR rfl rfl) (blR rfl) BK.nil)⟩)))))))
     ·exact zb eZ (cN (nt h19)) rfl (zb rfl (cN (nt h19)) rfl (zb rfl (cN (nt h19)) rfl (zb rfl (cN (nt h19)) rfl (zB rfl (cN (nt h19)) eC (za eZ (zb eZ rfl rfl (zb rfl rfl rfl (zb rfl rfl rfl (zb rfl rfl rfl (zb rfl rfl rfl (zB rfl rfl eC (zm (TQ.qn ⟨true,H,(zg [256] (sR rfl rfl) (blR rfl) BK.nil)⟩)))))))))))))
    ·exact zb eZ (cN (nt h14)) rfl (zb rfl (cN (nt h14)) rfl (zb rfl (cN (nt h14)) rfl (zb rfl (cN (nt h14)) rfl (zB rfl (cN (nt h14)) eC (za eZ (zb eZ rfl rfl (zb rfl rfl rfl (zb rfl rfl rfl (zb rfl rfl rfl (zB rfl rfl eC (za eZ (zb eZ rfl rfl (zb rfl rfl rfl (zb rfl rfl rfl (zb rfl rfl rfl (zb rfl rfl rfl (zB rfl rfl eC (zm (TQ.qn ⟨true,H,(zg [256] (sR rfl rfl) (blR rfl) BK.nil)⟩)))))))))))))))))))
  ·exact zh eZ (dF h6) (AW.exit (TQ.qe (TQ.qe (BQ.qe (TQ.qn ⟨(),H,(zg [] (sR rfl rfl) BL.nil BK.nil)⟩)))))
theorem zd3{a1:Int}{r:Bool}(H:QX a1=some r):Fn Tryz.prog 260 (lent [(.int .i64 a1)]) true [(.bool r)]:=by
 refine zFq (fle rfl) ?_
 rw[zx]
 refine AW.weaken (zg [] (kv 0 (oI a1) rfl rfl SL.nil) BL.nil BK.nil) ?_
 unfold QX at H
 unfold zAz
 refine aV (za eC (xQ (aV (za rfl ?_))))
 obtain⟨v2,h3,H⟩:=zk H
 refine zD (u:=(oB v2)) eC Cl.fn (Qs h3) (Ec eZ (Ec eC (Ec eC En))) (Vc Vp (Vc Vp (Vc Vp Vn))) rfl (za eZ (xQ (AW.ret ?_)))
 cases H
 exact eE rfl rfl
theorem zar{a1:(List zu)}{r:Bool}(H:Zu a1=some r):Fn Tryz.prog 240 (lent [(.sl 2 (List.map zj a1))]) true [(.bool r)]:=by
 refine zFj (fle rfl) ?_
 rw[zx]
 refine AW.weaken (zg [] (kv 0 (.one (.d (.sl 2 (List.map zj a1)))) rfl rfl SL.nil) BL.nil BK.nil) ?_
 unfold Zu at H
 unfold zAF
 refine aV (za eC (xQ (zF (fun t2:Unit=>(YC a1) t2=some r) (fun t2=>mk [(0,(.one (.d (.sl 2 (List.map zj a1)))))] [] noG) ?_ ?_)))
 ·intro t2 H
  unfold YC at H
  refine aV (za eZ (zX eZ (n:=a1.length) lm (zay eZ eC (za eZ (xQ (AW.ret ?_))))))
  cases H
  exact eE rfl rfl
 ·refine aV (za rfl (zX eZ (n:=a1.length) lm (za eC (xQ (AW.block (AW.iter (fun s4:Int=>mk [(0,(.one (.d (.sl 2 (List.map zj a1))))),(5,(.one (.d (.sl 2 (List.map zj a1))))),(6,(oI (a1.length:Int))),(7,(oI s4))] [] noG) H (zg [] (sR rfl rfl) BL.nil BK.nil) ?_))))))
  intro kb5 s4 H
  unfold Ym at H
  refine aV (qh rfl rfl (xQ (aS ?_)))
  rcases zC H with⟨h6,H⟩|⟨h6,H⟩
  ·refine zi eZ (dT h6) (AW.skip (TQ.qn (aS (AW.block (aV (za rfl ?_))))))
   obtain⟨v7,h8,H⟩:=zk H
   refine qy rfl rfl h8 (qf (es:=[(dI v7.Key),(dI v7.Value)]) eZ rfl (Zl (n:=256) (m:=2) rfl rfl nZ (za rfl (zP (es:=[(dI v7.Key),(dI v7.Value)]) rfl rfl rfl rfl bZ rfl (xQ (zF (fun t9:Bool=>(yo kb5 s4) t9=some r) (fun t9=>mk [(0,(.one (.d (.sl 2 (List.map zj a1))))),(5,(.one (.d (.sl 2 (List.map zj a1))))),(6,(oI (a1.length:Int))),(7,(oI s4)),(36,(oB t9))] [] noG) ?_ ?_))))))
   ·intro t9 H
    unfold yo at H
    rcases zC H with⟨h11,H⟩|⟨h11,H⟩
    ·refine zi rfl h11 (aV (za eC (xQ (AW.ret (BQ.qr (TQ.qr (TQ.qr (BQ.qr (TQ.qr ?_)))))))))
     cases H
     exact eE rfl rfl
    ·exact zh rfl (nt h11) (AW.skip (BQ.qn (TQ.qn (aR (qj rfl eC (za eZ (zm (TQ.qn ⟨(IntKind.wrap .i64 (s4+1)),H,(zg [] (sR rfl rfl) BL.nil BK.nil)⟩))))))))
   ·refine AW.regd (zf (m:=0) rfl rfl (zl (q:=0) (c:=(dI v7.Key)) eZ bZ rfl rfl ?_))
    obtain⟨v12,h13,H⟩:=zk H
    refine zD (u:=(oB v12)) eC Cl.fn (zcE h13) (Ec eZ En) (Vc Vp Vn) rfl (qG eZ (za eZ ?_))
    rcases zC H with⟨h14,H⟩|⟨h14,H⟩
    ·refine gDo eZ (cN h14) (zf (m:=1) rfl rfl (gDo rfl (cN h14) (zl (q:=1) (c:=(dI v7.Value)) eZ bZ rfl rfl (gDo rfl (cN h14) ?_))))
     obtain⟨v15,h16,H⟩:=zk H
     refine zD (u:=(oB v15)) eC Cl.fn (zd3 h16) (Ec eZ En) (Vc Vp Vn) rfl (gDo rfl (cN h14) (qG eZ (zJ rfl (cN h14) eZ (za eZ ?_))))
     rcases zC H with⟨h17,H⟩|⟨h17,H⟩
     ·refine gDo eZ (cN h17) (za rfl (gDo rfl (cN h17) (KN eZ eC (gDo rfl (cN h17) (za eZ ?_)))))
      rcases zC H with⟨h18,H⟩|⟨h18,H⟩
      ·refine gDo eZ (dT h18) (za rfl (gDo rfl (dT h18) (za rfl (gDo rfl (dT h18) (zac eZ eC (gDo rfl (dT h18) ?_))))))
       obtain⟨v19,h20,H⟩:=zk H
       exact qy rfl eZ h20 (gDo rfl (dT h18) (z6 (m:=0) eZ rfl (gDo rfl (dT h18) (zY (e:=(.int .i64 v19.Key)) eZ rfl (gDo rfl (dT h18) (zf (m:=0) rfl rfl (gDo rfl (dT h18) (zl (q:=0) (c:=(dI v7.Key)) eZ bZ rfl rfl (gDo rfl (dT h18) (Xr rfl eZ (gDo rfl (cN h17) (zB rfl (dT h18) eZ (zJ rfl (cN h17) eZ (zm (TQ.qn ⟨(decide (v7.Key≤v19.Key)),H,(zg [256] (sR rfl rfl) (blR rfl) BK.nil)⟩)))))))))))))))
      ·exact zb eZ (dF h18) rfl (zb rfl (dF h18) rfl (zb rfl (dF h18) rfl (zb rfl (dF h18) rfl (zb rfl (dF h18) rfl (zb rfl (dF h18) rfl (zb rfl (dF h18) rfl (zb rfl (dF h18) rfl (zb rfl (dF h18) rfl (gDo rfl (cN h17) (zJ rfl (dF h18) eC (zJ rfl (cN h17) eZ (zm (TQ.qn ⟨false,H,(zg [256] (sR rfl rfl) (blR rfl) BK.nil)⟩)))))))))))))
     ·exact zb eZ (cN (nt h17)) rfl (zb rfl (cN (nt h17)) rfl (zb rfl (cN (nt h17)) rfl (zG eZ rfl (zG rfl rfl (zG rfl rfl (zG rfl rfl (zG rfl rfl (zG rfl rfl (zG rfl rfl (zG rfl rfl (zG rfl rfl (zb rfl (cN (nt h17)) rfl (zB rfl (cN (nt h17)) eC (zm (TQ.qn ⟨true,H,(zg [256] (sR rfl rfl) (blR rfl) BK.nil)⟩)))))))))))))))
    ·exact zb eZ (cN (nt h14)) rfl (zb rfl (cN (nt h14)) rfl (zb rfl (cN (nt h14)) rfl (zb rfl (cN (nt h14)) rfl (zB rfl (cN (nt h14)) eC (za eZ (zb eZ rfl rfl (zb rfl rfl rfl (zb rfl rfl rfl (zG eZ rfl (zG rfl rfl (zG rfl rfl (zG rfl rfl (zG rfl rfl (zG rfl rfl (zG rfl rfl (zG rfl rfl (zG rfl rfl (zb rfl rfl rfl (zB rfl rfl eC (zm (TQ.qn ⟨true,H,(zg [256] (sR rfl rfl) (blR rfl) BK.nil)⟩)))))))))))))))))))))
  ·exact zh eZ (dF h6) (AW.exit (TQ.qe (TQ.qe (BQ.qe (TQ.qn ⟨(),H,(zg [] (sR rfl rfl) BL.nil BK.nil)⟩)))))
theorem zeZ{a1:Int}{r:ze}(H:X5 a1=some r):Fn Tryz.prog 234 (lent [(.int .i64 a1)]) true [(.agg (zd r))]:=by
 refine zFo (fle rfl) ?_
 rw[zx]
 refine AW.weaken (zg [] (kv 0 (oI a1) rfl rfl SL.nil) BL.nil BK.nil) ?_
 unfold X5 at H
 unfold zC2
 refine aV (Zl (n:=128) (m:=2) rfl rfl nZ (xQ (aV (za rfl (za rfl (qj eZ eC (Xa (cs:=[(dI a1),(dI (IntKind.wrap .i64 (a1+1)))]) (jO rfl (jO eZ kF)) rfl (zP (es:=[(dI a1),(dI (IntKind.wrap .i64 (a1+1)))]) rfl eZ rfl rfl bZ rfl (xQ (AW.ret ?_))))))))))
 cases H
 exact qI (RL.cons (qS (es:=[(dI a1),(dI (IntKind.wrap .i64 (a1+1)))]) rfl bZ rfl) (VO.agg (ds:=[(.int .i64 a1),(.int .i64 (IntKind.wrap .i64 (a1+1)))]) rfl rfl) RL.nil) List.nodup_nil
theorem zb3{a1:zK}{a2:Int}{a3:Int}{a4:ze}{r:Bool}(H:Zp a1 a2 a3 a4=some r):Fn Tryz.prog 348 (lent [(.agg (zp a1)),(.ptr (zt a2)),(.ptr (zt a3)),(.ptr (zd a4))]) true [(.bool r)]:=by
 refine zFr (fle rfl) ?_
 rw[zx]
 refine AW.weaken (zg [] (kv 0 (.agg (qo a1)) rfl rfl (SL.cons (v:=(.one (.ptr (.bd (zt a2) 0)))) (eS rfl eZ) rfl (VWk.one CWk.ptr) (SL.cons (v:=(.one (.ptr (.bd (zt a3) 0)))) (eS rfl (eS rfl eZ)) rfl (VWk.one CWk.ptr) (SL.cons (v:=(.one (.ptr (.bd (zd a4) 0)))) (eS rfl (eS rfl (eS rfl eZ))) rfl (VWk.one CWk.ptr) SL.nil)))) BL.nil BK.nil) ?_
 unfold Zp at H
 unfold zBK
 refine aV (jh (n:=256) (m:=4) (cs:=(qo a1)) rfl eZ rfl rfl nZ (za eC (xQ (aV (zf (m:=0) rfl rfl (zl (q:=0) (c:=(dI a1.Tx)) eZ bZ rfl rfl (zY (e:=(.int .i64 a2)) rfl rfl (Kl rfl eZ (za eZ ?_)))))))))
 rcases zC H with⟨h5,H⟩|⟨h5,H⟩
 ·refine gDo eZ (dT h5) (zf (m:=3) rfl rfl (gDo rfl (dT h5) (zl (q:=3) (c:=(dI a1.Mode)) eZ bZ rfl rfl (gDo rfl (dT h5) (zY (e:=(.int .i64 a3)) rfl rfl (gDo rfl (dT h5) (Kl rfl eZ (gDo rfl (dT h5) (za eZ ?_)))))))))
  rcases zC H with⟨h6,H⟩|⟨h6,H⟩
  ·refine zb eZ (dT h6) rfl (zb rfl (dT h6) rfl (zb rfl (dT h6) rfl (gDo rfl (dT h5) (zB rfl (dT h6) eC (zB rfl (dT h5) eZ (za eZ (gDo eZ rfl (zf (m:=1) rfl rfl (gDo rfl rfl (zl (q:=1) (c:=(dI a1.Lo)) eZ bZ rfl rfl (gDo rfl rfl (z6 (m:=0) rfl rfl (gDo rfl rfl (zY (e:=(.int .i64 a4.Lo)) eZ rfl (gDo rfl rfl (zay rfl eZ (zB rfl rfl eZ (za eZ ?_))))))))))))))))))
   rcases zC H with⟨h7,H⟩|⟨h7,H⟩
   ·refine gDo eZ (dT h7) (z6 (m:=1) rfl rfl (gDo rfl (dT h7) (zY (e:=(.int .i64 a4.Hi)) eZ rfl (gDo rfl (dT h7) (zf (m:=2) rfl rfl (gDo rfl (dT h7) (zl (q:=2) (c:=(dI a1.Hi)) eZ bZ rfl rfl (gDo rfl (dT h7) (zay rfl eZ (zB rfl (dT h7) eZ (za eZ (xQ (AW.weaken (zg [256] (kr 5 rfl rfl SL.nil) (blR rfl) BK.nil) (AW.ret ?_))))))))))))))
    cases H
    exact eE rfl rfl
   ·refine zb eZ (dF h7) rfl (zb rfl (dF h7) rfl (zb rfl (dF h7) rfl (zb rfl (dF h7) rfl (zb rfl (dF h7) rfl (zJ rfl (dF h7) eC (za eZ (xQ (AW.weaken (zg [256] (kr 5 rfl rfl SL.nil) (blR rfl) BK.nil) (AW.ret ?_)))))))))
    cases H
    exact eE rfl rfl
  ·refine gDo eZ (dF h6) (zf (m:=3) rfl rfl (gDo rfl (dF h6) (zl (q:=3) (c:=(dI a1.Mode)) eZ bZ rfl rfl (gDo rfl (dF h6) (Kl eZ eC (gDo rfl (dT h5) (zJ rfl (dF h6) eZ (zB rfl (dT h5) eZ (za eZ ?_)))))))))
   rcases zC H with⟨h8,H⟩|⟨h8,H⟩
   ·refine gDo eZ (dT h8) (zf (m:=1) rfl rfl (gDo rfl (dT h8) (zl (q:=1) (c:=(dI a1.Lo)) eZ bZ rfl rfl (gDo rfl (dT h8) (z6 (m:=0) rfl rfl (gDo rfl (dT h8) (zY (e:=(.int .i64 a4.Lo)) eZ rfl (gDo rfl (dT h8) (zay rfl eZ (zB rfl (dT h8) eZ (za eZ ?_)))))))))))
    rcases zC H with⟨h9,H⟩|⟨h9,H⟩
    ·refine gDo eZ (dT h9) (z6 (m:=1) rfl rfl (gDo rfl (dT h9) (zY (e:=(.int .i64 a4.Hi)) eZ rfl (gDo rfl (dT h9) (zf (m:=2) rfl rfl (gDo rfl (dT h9) (zl (q:=2) (c:=(dI a1.Hi)) eZ bZ rfl rfl (gDo rfl (dT h9) (zay rfl eZ (zB rfl (dT h9) eZ (za eZ (xQ (AW.weaken (zg [256] (kr 5 rfl rfl SL.nil) (blR rfl) BK.nil) (AW.ret ?_))))))))))))))
     cases H
     exact eE rfl rfl
    ·refine zb eZ (dF h9) rfl (zb rfl (dF h9) rfl (zb rfl (dF h9) rfl (zb rfl (dF h9) rfl (zb rfl (dF h9) rfl (zJ rfl (dF h9) eC (za eZ (xQ (AW.weaken (zg [256] (kr 5 rfl rfl SL.nil) (blR rfl) BK.nil) (AW.ret ?_)))))))))
     cases H
     exact eE rfl rfl
   ·refine zb eZ (dF h8) rfl (zb rfl (dF h8) rfl (zb rfl (dF h8) rfl (zb rfl (dF h8) rfl (zb rfl (dF h8) rfl (zJ rfl (dF h8) eC (za eZ (zb eZ rfl rfl (zb rfl rfl rfl (zb rfl rfl rfl (zb rfl rfl rfl (zb rfl rfl rfl (zJ rfl rfl eC (za eZ (xQ (AW.weaken (zg [256] (kr 5 rfl rfl SL.nil) (blR rfl) BK.nil) (AW.ret ?_))))))))))))))))
    cases H
    exact eE rfl rfl
 ·refine zb eZ (dF h5) rfl (zb rfl (dF h5) rfl (zb rfl (dF h5) rfl (zb rfl (dF h5) rfl (zb rfl (dF h5) rfl (zG eZ rfl (zG rfl rfl (zG rfl rfl (zb rfl (dF h5) rfl (zJ rfl (dF h5) eC (za eZ (zb eZ rfl rfl (zb rfl rfl rfl (zb rfl rfl rfl (zb rfl rfl rfl (zb rfl rfl rfl (zJ rfl rfl eC (za eZ (zb eZ rfl rfl (zb rfl rfl rfl (zb rfl rfl rfl (zb rfl rfl rfl (zb rfl rfl rfl (zJ rfl rfl eC (za eZ (xQ (AW.weaken (zg [256] (kr 5 rfl rfl SL.nil) (blR rfl) BK.nil) (AW.ret ?_)))))))))))))))))))))))))))
  cases H
  exact eE rfl rfl
theorem YX{a1:(List zK)}{a2:Int}{a3:Int}{a4:ze}{r:Int}(H:qX a1 a2 a3 a4=some r):Fn Tryz.prog 216 (lent [(.sl 4 (List.map zp a1)),(.fn 348 [.ptr (zt a2),.ptr (zt a3),.ptr (zd a4)])]) true [(.int .i64 r)]:=by
 refine f216 (fle rfl) ?_
 rw[zx]
 refine AW.weaken (zg [] (kv 0 (.one (.d (.sl 4 (List.map zp a1)))) rfl rfl (SL.cons (v:=(.one (.fn 348 [(.bd (zt a2) 0),(.bd (zt a3) 0),(.bd (zd a4) 0)]))) (eS rfl eZ) rfl (VWk.one (CWk.fn (css:=[zt a2,zt a3,zd a4]))) SL.nil)) BL.nil BK.nil) ?_
 unfold qX at H
 unfold zmu
 refine aV (za eC (xQ (zF (fun t5:Unit=>jF t5=some r) (fun t5=>mk [] [] noG) ?_ ?_)))
 ·intro t5 H
  unfold jF at H
  refine aV (za eC (xQ (AW.ret ?_)))
  cases H
  exact eE rfl rfl
 ·refine aV (za rfl (zX eZ (n:=a1.length) lm (za eC (xQ (AW.block (AW.iter (fun s7:Int=>mk [(0,(.one (.d (.sl 4 (List.map zp a1))))),(1,(.one (.fn 348 [(.bd (zt a2) 0),(.bd (zt a3) 0),(.bd (zd a4) 0)]))),(7,(oI (a1.length:Int))),(8,(oI s7))] [] noG) H (zg [] (sR rfl rfl) BL.nil BK.nil) ?_))))))
  intro kb8 s7 H
  unfold qQ at H
  refine aV (qh rfl rfl (xQ (aS ?_)))
  rcases zC H with⟨h9,H⟩|⟨h9,H⟩
  ·refine zi eZ (dT h9) (AW.skip (TQ.qn (aS (AW.block (aV (za rfl (za eZ (xQ (aV (za rfl (za rfl (za rfl ?_))))))))))))
   obtain⟨v10,h11,H⟩:=zk H
   refine qy rfl eZ h11 (qf (es:=(qo v10)) eZ rfl ?_)
   obtain⟨v12,h13,H⟩:=zk H
   refine zD (u:=(oB v12)) rfl Cl.fn (zb3 h13) (Ec eZ En) (Vc (VD.agg rfl) (Vc jG (Vc jG (Vc jG Vn)))) rfl (xQ ?_)
   rcases zC H with⟨h14,H⟩|⟨h14,H⟩
   ·refine zi eZ h14 (aV (za rfl (za eZ (xQ (AW.ret (BQ.qr (TQ.qr (TQ.qr (BQ.qr (TQ.qr ?_))))))))))
    cases H
    exact eE rfl rfl
   ·exact zh eZ (nt h14) (AW.skip (BQ.qn (TQ.qn (aR (qj rfl eC (za eZ (zm (TQ.qn ⟨(IntKind.wrap .i64 (s7+1)),H,(zg [] (sR rfl rfl) BL.nil BK.nil)⟩))))))))
  ·exact zh eZ (dF h9) (AW.exit (TQ.qe (TQ.qe (BQ.qe (TQ.qn ⟨(),H,(zg [] SL.nil BL.nil BK.nil)⟩)))))
theorem Jr{a1:(List zK)}{a2:Int}{a3:Int}{a4:ze}{r:Bool}(H:qm a1 a2 a3 a4=some r):Fn Tryz.prog 110 (lent [(.sl 4 (List.map zp a1)),(.fn 348 [.ptr (zt a2),.ptr (zt a3),.ptr (zd a4)])]) true [(.bool r)]:=by
 refine zw0 (fle rfl) ?_
 rw[zx]
 refine AW.weaken (zg [] (kv 0 (.one (.d (.sl 4 (List.map zp a1)))) rfl rfl (SL.cons (v:=(.one (.fn 348 [(.bd (zt a2) 0),(.bd (zt a3) 0),(.bd (zd a4) 0)]))) (eS rfl eZ) rfl (VWk.one (CWk.fn (css:=[zt a2,zt a3,zd a4]))) SL.nil)) BL.nil BK.nil) ?_
 unfold qm at H
 unfold zld
 refine aV (za eC (xQ (aV (za rfl (za rfl ?_)))))
 obtain⟨v5,h6,H⟩:=zk H
 refine zD (u:=(oI v5)) eC Cl.fn (YX h6) (Ec rfl (Ec eZ En)) (Vc Vp (Vc (VD.fn (PDs.cons jG (PDs.cons jG (PDs.cons jG PDs.nil)))) Vn)) rfl (Xr eZ eC (za eZ (xQ (AW.ret ?_))))
 cases H
 exact eE rfl rfl
end Go.AW
