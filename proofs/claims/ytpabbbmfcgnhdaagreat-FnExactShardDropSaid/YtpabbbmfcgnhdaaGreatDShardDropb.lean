/- That functions of the program compute what the plain functions say. Conditions: each theorem's own. -/
import Derived.Test.YtpabbbmfcgnhdaaGreatMShardDrop
import Derived.Test.YtpabbbmfcgnhdaaGreatGShardDrop
import Derived.Test.YtpabbbmfcgnhdaaGreatSShardDrop
import Derived.Test.YtpabbbmfcgnhdaaGreatYt
import Derived.KernelRfl
import Derived.Test.YtpabbbmfcgnhdaaGreatDShardDropa
set_option linter.unusedVariables false
set_option linter.unusedSimpArgs false
set_option maxRecDepth 100000
namespace Go.AW
open Go.Proofs
theorem zeW{a1:zo}{r:Bool}(H:Yx a1=some r):Fn Tryz.prog 115 (lent [(.agg (zR a1))]) true [(.bool r)]:=by
 refine zGt (fle rfl) ?_
 rw[zx]
 refine AW.weaken (zg [] (kv 0 (.agg (zF a1)) rfl rfl SL.nil) BL.nil BK.nil) ?_
 unfold Yx at H
 unfold zza
 refine aV (qY (n:=64) (m:=9) (cs:=(zF a1)) rfl eZ rfl rfl nZ (za eC (xQ (aS (zE (fun t2:Bool=>(jK a1) t2=some r) (fun t2=>mk [(1,(.one (.ptr (.nm 64 0 0)))),(41,(oB t2))] [(64,(.vars 9 (zF a1)))] noG) ?_ ?_)))))
 ·intro t2 H
  unfold jK at H
  rcases zA H with⟨h4,H⟩|⟨h4,H⟩
  ·refine zi rfl h4 (aV (za eC (xQ (AW.ret (TQ.qr ?_)))))
   cases H
   exact eE rfl rfl
  ·refine zh rfl (nt h4) (AW.skip (TQ.qn (aS (zE (fun t5:Bool=>(jL a1) t5=some r) (fun t5=>mk [(1,(.one (.ptr (.nm 64 0 0)))),(69,(oB t5))] [(64,(.vars 9 (zF a1)))] noG) ?_ ?_))))
   ·intro t5 H
    unfold jL at H
    rcases zA H with⟨h7,H⟩|⟨h7,H⟩
    ·refine zi rfl h7 (aV (za eC (xQ (AW.ret (TQ.qr ?_)))))
     cases H
     exact eE rfl rfl
    ·refine zh rfl (nt h7) (AW.skip (TQ.qn (zE (fun t8:Unit=>(Jg a1) t8=some r) (fun t8=>mk [(1,(.one (.ptr (.nm 64 0 0))))] [(64,(.vars 9 (zF a1)))] noG) ?_ ?_)))
     ·intro t8 H
      unfold Jg at H
      refine zE (fun t10:Unit=>(QM a1) t10=some r) (fun t10=>mk [(1,(.one (.ptr (.nm 64 0 0))))] [(64,(.vars 9 (zF a1)))] noG) ?_ ?_
      ·intro t10 H
       unfold QM at H
       refine zE (fun t12:Unit=>(QD a1) t12=some r) (fun t12=>mk [(1,(.one (.ptr (.nm 64 0 0))))] [(64,(.vars 9 (zF a1)))] noG) ?_ ?_
       ·intro t12 H
        unfold QD at H
        refine zE (fun t14:Unit=>(QG a1) t14=some r) (fun t14=>mk [(1,(.one (.ptr (.nm 64 0 0))))] [(64,(.vars 9 (zF a1)))] noG) ?_ ?_
        ·intro t14 H
         unfold QG at H
         refine aS (AW.regd (zM (es:=(zF a1)) eZ bZ rfl ?_))
         obtain⟨v16,h17,H⟩:=zk H
         refine zD (u:=(oB v16)) eC Cl.fn (zdj h17) (Ec eZ En) (Vc (VD.agg rfl) Vn) rfl (za eZ ?_)
         rcases zA H with⟨h18,H⟩|⟨h18,H⟩
         ·refine gDo eZ h18 (zf (m:=3) rfl rfl (gDo rfl h18 (zl (q:=3) (c:=(.d (.sl 2 (List.map zj a1.Cells)))) eZ (hB rfl bZ) rfl rfl (gDo rfl h18 (zX eZ (n:=a1.Cells.length) lm (gDo rfl h18 (zM (es:=(zF a1)) rfl bZ rfl (gDo rfl h18 ?_))))))))
          obtain⟨v19,h20,H⟩:=zk H
          refine zD (u:=(oI v19)) eC Cl.fn (zgk h20) (Ec eZ En) (Vc (VD.agg rfl) Vn) rfl (gDo rfl h18 (qg rfl eZ (gDo rfl h18 (zbj eZ eC (zC rfl h18 eZ (za eZ (xQ (AW.ret ?_))))))))
          cases H
          exact eE rfl rfl
         ·refine zb eZ (nt h18) rfl (zb rfl (nt h18) rfl (zb rfl (nt h18) rfl (zb rfl (nt h18) rfl (zb rfl (nt h18) rfl (zb rfl (nt h18) rfl (zb rfl (nt h18) rfl (zJ rfl (nt h18) eC (za eZ (xQ (AW.ret ?_))))))))))
          cases H
          exact eE rfl rfl
        ·refine aV (za eC (xQ (AW.block (AW.iter (fun s21:Int=>mk [(1,(.one (.ptr (.nm 64 0 0)))),(7,(oI s21))] [(64,(.vars 9 (zF a1)))] noG) H (zg [] (sR rfl rfl) (blR rfl) (bkR rfl rfl rfl)) ?_))))
         intro kb22 s21 H
         unfold xd at H
         refine aS (aV (za rfl (zf (m:=6) rfl rfl (zl (q:=6) (c:=(.d (.sl 1 (List.map zt a1.Wounded)))) eZ bZ rfl rfl (zX eZ (n:=a1.Wounded.length) lm (qi rfl eZ (xQ ?_)))))))
         rcases zA H with⟨h23,H⟩|⟨h23,H⟩
         ·refine zi eZ (dT h23) (AW.skip (TQ.qn (aS (AW.block (aS (AW.regd (zf (m:=7) rfl rfl (zl (q:=7) (c:=(.d (.sl 1 (List.map zt a1.Ended)))) eZ bZ rfl rfl (zf (m:=6) rfl rfl (zl (q:=6) (c:=(.d (.sl 1 (List.map zt a1.Wounded)))) eZ bZ rfl rfl (za rfl ?_)))))))))))
          obtain⟨v24,h25,H⟩:=zk H
          refine qt rfl eZ h25 (zY (e:=(.int .i64 v24)) eZ rfl ?_)
          obtain⟨v26,h27,H⟩:=zk H
          refine zD (u:=(oB v26)) eC Cl.fn (xF h27) (Ec rfl (Ec eZ En)) (Vc Vp (Vc Vp Vn)) rfl (xQ ?_)
          rcases zA H with⟨h28,H⟩|⟨h28,H⟩
          ·refine zi eZ h28 (aV (za eC (xQ (AW.weaken (zg [64] (kr 2 rfl rfl SL.nil) (blR rfl) BK.nil) (AW.ret (BQ.qr (TQ.qr (TQ.qr (BQ.qr (TQ.qr ?_))))))))))
           cases H
           exact eE rfl rfl
          ·exact zh eZ (nt h28) (AW.skip (BQ.qn (TQ.qn (aR (za rfl (qg eZ eC (za eZ (zm (TQ.qn ⟨(IntKind.wrap .i64 (s21+1)),H,(zg [] (sR rfl rfl) (blR rfl) (bkR rfl rfl rfl))⟩)))))))))
         ·exact zh eZ (dF h23) (AW.exit (TQ.qe (TQ.qe (BQ.qe (TQ.qn ⟨(),H,(zg [] (sR rfl rfl) (blR rfl) (bkR rfl rfl rfl))⟩)))))
       ·refine aV (za eC (xQ (AW.block (AW.iter (fun s29:Int=>mk [(1,(.one (.ptr (.nm 64 0 0)))),(5,(oI s29))] [(64,(.vars 9 (zF a1)))] noG) H (zg [] (sR rfl rfl) (blR rfl) (bkR rfl rfl rfl)) ?_))))
        intro kb30 s29 H
        unfold xj at H
        refine aS (aV (za rfl (zf (m:=4) rfl rfl (zl (q:=4) (c:=(.d (.sl 4 (List.map zp a1.Locks)))) eZ bZ rfl rfl (zX eZ (n:=a1.Locks.length) lm (qi rfl eZ (xQ ?_)))))))
        rcases zA H with⟨h31,H⟩|⟨h31,H⟩
        ·refine zi eZ (dT h31) (AW.skip (TQ.qn (aS (AW.block (aV (zf (m:=4) rfl rfl (zl (q:=4) (c:=(.d (.sl 4 (List.map zp a1.Locks)))) eZ bZ rfl rfl (za rfl ?_))))))))
         obtain⟨v32,h33,H⟩:=zk H
         refine qt rfl eZ h33 (zZ (es:=(qj v32)) eZ rfl (Zh (n:=384) (m:=4) rfl rfl (nR rfl) (zO (es:=(qj v32)) eZ rfl rfl rfl bZ rfl (xQ (zE (fun t34:Bool=>(ZG kb30 s29) t34=some r) (fun t34=>mk [(1,(.one (.ptr (.nm 64 0 0)))),(5,(oI s29)),(135,(oB t34))] [(64,(.vars 9 (zF a1)))] noG) ?_ ?_)))))
         ·intro t34 H
          unfold ZG at H
          rcases zA H with⟨h36,H⟩|⟨h36,H⟩
          ·refine zi rfl h36 (aV (za eC (xQ (AW.ret (BQ.qr (TQ.qr (TQ.qr (BQ.qr (TQ.qr ?_)))))))))
           cases H
           exact eE rfl rfl
          ·exact zh rfl (nt h36) (AW.skip (BQ.qn (TQ.qn (aR (za rfl (qg eZ eC (za eZ (zm (TQ.qn ⟨(IntKind.wrap .i64 (s29+1)),H,(zg [] (sR rfl rfl) (blR rfl) (bkR rfl rfl rfl))⟩)))))))))
         ·refine AW.regd (zf (m:=1) rfl rfl (zl (q:=1) (c:=(.d (.sl 2 (List.map zd a1.Own)))) eZ (hB rfl (bR rfl)) rfl rfl (zM (es:=(qj v32)) rfl bZ rfl ?_)))
          obtain⟨v37,h38,H⟩:=zk H
          refine zD (u:=(.agg [(dI v37.Lo),(dI v37.Hi)])) eC Cl.fn (ZX h38) (Ec eZ En) (Vc (VD.agg rfl) Vn) rfl ?_
          obtain⟨v39,h40,H⟩:=zk H
          refine zD (u:=(oB v39)) eC Cl.fn (JQ h40) (Ec rfl (Ec eZ En)) (Vc Vp (Vc (VD.agg rfl) Vn)) rfl (qI eZ (za eZ ?_))
          rcases zA H with⟨h41,H⟩|⟨h41,H⟩
          ·refine gDo eZ (cN h41) (zf (m:=6) rfl rfl (gDo rfl (cN h41) (zl (q:=6) (c:=(.d (.sl 1 (List.map zt a1.Wounded)))) eZ (bR rfl) rfl rfl (gDo rfl (cN h41) (zf (m:=0) rfl rfl (gDo rfl (cN h41) (zl (q:=0) (c:=(dI v32.Tx)) eZ bZ rfl rfl (gDo rfl (cN h41) ?_))))))))
           obtain⟨v42,h43,H⟩:=zk H
           refine zD (u:=(oB v42)) eC Cl.fn (xF h43) (Ec rfl (Ec eZ En)) (Vc Vp (Vc Vp Vn)) rfl (zJ rfl (cN h41) eZ (za eZ ?_))
           rcases zA H with⟨h44,H⟩|⟨h44,H⟩
           ·exact zb eZ h44 rfl (zb rfl h44 rfl (zb rfl h44 rfl (zb rfl h44 rfl (zb rfl h44 rfl (zC rfl h44 eC (zm (TQ.qn ⟨true,H,(zg [384] (sR rfl rfl) (blR rfl) (bkR rfl rfl rfl))⟩)))))))
           ·refine gDo eZ (nt h44) (zf (m:=7) rfl rfl (gDo rfl (nt h44) (zl (q:=7) (c:=(.d (.sl 1 (List.map zt a1.Ended)))) eZ (bR rfl) rfl rfl (gDo rfl (nt h44) (zf (m:=0) rfl rfl (gDo rfl (nt h44) (zl (q:=0) (c:=(dI v32.Tx)) eZ bZ rfl rfl (gDo rfl (nt h44) ?_))))))))
            obtain⟨v45,h46,H⟩:=zk H
            exact zD (u:=(oB v45)) eC Cl.fn (xF h46) (Ec rfl (Ec eZ En)) (Vc Vp (Vc Vp Vn)) rfl (zJ rfl (nt h44) eZ (zm (TQ.qn ⟨v45,H,(zg [384] (sR rfl rfl) (blR rfl) (bkR rfl rfl rfl))⟩)))
          ·exact zb eZ (cN (nt h41)) rfl (zb rfl (cN (nt h41)) rfl (zb rfl (cN (nt h41)) rfl (zb rfl (cN (nt h41)) rfl (zb rfl (cN (nt h41)) rfl (zC rfl (cN (nt h41)) eC (za eZ (zb eZ rfl rfl (zb rfl rfl rfl (zb rfl rfl rfl (zb rfl rfl rfl (zb rfl rfl rfl (zC rfl rfl eC (zm (TQ.qn ⟨true,H,(zg [384] (sR rfl rfl) (blR rfl) (bkR rfl rfl rfl))⟩))))))))))))))
        ·exact zh eZ (dF h31) (AW.exit (TQ.qe (TQ.qe (BQ.qe (TQ.qn ⟨(),H,(zg [] (sR rfl rfl) (blR rfl) (bkR rfl rfl rfl))⟩)))))
      ·refine aV (za eC (xQ (AW.block (AW.iter (fun s47:Int=>mk [(1,(.one (.ptr (.nm 64 0 0)))),(4,(oI s47))] [(64,(.vars 9 (zF a1)))] noG) H (zg [] (sR rfl rfl) (blR rfl) (bkR rfl rfl rfl)) ?_))))
       intro kb48 s47 H
       unfold YN at H
       refine aS (aV (za rfl (zf (m:=3) rfl rfl (zl (q:=3) (c:=(.d (.sl 2 (List.map zj a1.Cells)))) eZ bZ rfl rfl (zX eZ (n:=a1.Cells.length) lm (qi rfl eZ (xQ ?_)))))))
       rcases zA H with⟨h49,H⟩|⟨h49,H⟩
       ·refine zi eZ (dT h49) (AW.skip (TQ.qn (aS (AW.block (aS (AW.regd (zf (m:=1) rfl rfl (zl (q:=1) (c:=(.d (.sl 2 (List.map zd a1.Own)))) eZ (hB rfl bZ) rfl rfl (zf (m:=3) rfl rfl (zl (q:=3) (c:=(.d (.sl 2 (List.map zj a1.Cells)))) eZ bZ rfl rfl (za rfl ?_)))))))))))
        obtain⟨v50,h51,H⟩:=zk H
        refine qt rfl eZ h51 (qa (m:=0) eZ rfl (zY (e:=(.int .i64 v50.Key)) eZ rfl ?_))
        obtain⟨v52,h53,H⟩:=zk H
        refine zD (u:=(.agg [(dI v52.Lo),(dI v52.Hi)])) eC Cl.fn (zcm h53) (Ec eZ En) (Vc Vp Vn) rfl ?_
        obtain⟨v54,h55,H⟩:=zk H
        refine zD (u:=(oB v54)) eC Cl.fn (JQ h55) (Ec rfl (Ec eZ En)) (Vc Vp (Vc (VD.agg rfl) Vn)) rfl (qI eZ (xQ (AW.weaken (zg [] (kr 103 rfl rfl (kr 1 rfl rfl (kr 4 rfl rfl SL.nil))) (blR rfl) (BK.cons (n:=64) rfl bZ rfl rfl BK.nil)) ?_)))
        rcases zA H with⟨h56,H⟩|⟨h56,H⟩
        ·exact zh eZ (cN h56) (AW.skip (BQ.qn (TQ.qn (aR (za rfl (qg eZ eC (za eZ (zm (TQ.qn ⟨(IntKind.wrap .i64 (s47+1)),H,(zg [] (sR rfl rfl) (blR rfl) (bkR rfl rfl rfl))⟩)))))))))
        ·refine zi eZ (cN (nt h56)) (aV (za eC (xQ (AW.ret (BQ.qr (TQ.qr (TQ.qr (BQ.qr (TQ.qr ?_)))))))))
         cases H
         exact eE rfl rfl
       ·exact zh eZ (dF h49) (AW.exit (TQ.qe (TQ.qe (BQ.qe (TQ.qn ⟨(),H,(zg [] (sR rfl rfl) (blR rfl) (bkR rfl rfl rfl))⟩)))))
     ·refine aV (za eC (xQ (AW.block (AW.iter (fun s57:Int=>mk [(1,(.one (.ptr (.nm 64 0 0)))),(3,(oI s57))] [(64,(.vars 9 (zF a1)))] noG) H (zg [] (sR rfl rfl) (blR rfl) (bkR rfl rfl rfl)) ?_))))
      intro kb58 s57 H
      unfold YM at H
      refine aS (aV (za rfl (zf (m:=2) rfl rfl (zl (q:=2) (c:=(.d (.sl 2 (List.map zd a1.Frozen)))) eZ bZ rfl rfl (zX eZ (n:=a1.Frozen.length) lm (qi rfl eZ (xQ ?_)))))))
      rcases zA H with⟨h59,H⟩|⟨h59,H⟩
      ·refine zi eZ (dT h59) (AW.skip (TQ.qn (aS (AW.block (aS (AW.regd (zf (m:=1) rfl rfl (zl (q:=1) (c:=(.d (.sl 2 (List.map zd a1.Own)))) eZ bZ rfl rfl (zf (m:=2) rfl rfl (zl (q:=2) (c:=(.d (.sl 2 (List.map zd a1.Frozen)))) eZ bZ rfl rfl (za rfl ?_)))))))))))
       obtain⟨v60,h61,H⟩:=zk H
       refine qt rfl eZ h61 (zZ (es:=[(dI v60.Lo),(dI v60.Hi)]) eZ rfl ?_)
       obtain⟨v62,h63,H⟩:=zk H
       refine zD (u:=(oB v62)) eC Cl.fn (JQ h63) (Ec rfl (Ec eZ En)) (Vc Vp (Vc (VD.agg rfl) Vn)) rfl (qI eZ (xQ (AW.weaken (zg [] (kr 85 rfl rfl (kr 1 rfl rfl (kr 3 rfl rfl SL.nil))) (blR rfl) (BK.cons (n:=64) rfl bZ rfl rfl BK.nil)) ?_)))
       rcases zA H with⟨h64,H⟩|⟨h64,H⟩
       ·exact zh eZ (cN h64) (AW.skip (BQ.qn (TQ.qn (aR (za rfl (qg eZ eC (za eZ (zm (TQ.qn ⟨(IntKind.wrap .i64 (s57+1)),H,(zg [] (sR rfl rfl) (blR rfl) (bkR rfl rfl rfl))⟩)))))))))
       ·refine zi eZ (cN (nt h64)) (aV (za eC (xQ (AW.ret (BQ.qr (TQ.qr (TQ.qr (BQ.qr (TQ.qr ?_)))))))))
        cases H
        exact eE rfl rfl
      ·exact zh eZ (dF h59) (AW.exit (TQ.qe (TQ.qe (BQ.qe (TQ.qn ⟨(),H,(zg [] (sR rfl rfl) (blR rfl) (bkR rfl rfl rfl))⟩)))))
   ·refine aR (zf (m:=5) eZ rfl (zl (q:=5) (c:=(.d (.sl 2 (List.map zB a1.Helds)))) eZ bZ rfl rfl (zX eZ (n:=a1.Helds.length) lm (zaB eZ eC (za eZ ?_)))))
    rcases zA H with⟨h65,H⟩|⟨h65,H⟩
    ·exact zb eZ (dT h65) rfl (zb rfl (dT h65) rfl (zb rfl (dT h65) rfl (zb rfl (dT h65) rfl (zC rfl (dT h65) eC (za eZ (zb eZ rfl rfl (zb rfl rfl rfl (zb rfl rfl rfl (zb rfl rfl rfl (zC rfl rfl eC (za eZ (zb eZ rfl rfl (zb rfl rfl rfl (zb rfl rfl rfl (zb rfl rfl rfl (zC rfl rfl eC (za eZ (zb eZ rfl rfl (zb rfl rfl rfl (zb rfl rfl rfl (zb rfl rfl rfl (zC rfl rfl eC (zm (TQ.qn ⟨true,H,(zg [] (sR rfl rfl) (blR rfl) (bkR rfl rfl rfl))⟩))))))))))))))))))))))))
    ·refine gDo eZ (dF h65) (zf (m:=6) rfl rfl (gDo rfl (dF h65) (zl (q:=6) (c:=(.d (.sl 1 (List.map zt a1.Wounded)))) eZ bZ rfl rfl (gDo rfl (dF h65) (zX eZ (n:=a1.Wounded.length) lm (gDo rfl (dF h65) (zaB eZ eC (zJ rfl (dF h65) eZ (za eZ ?_)))))))))
     rcases zA H with⟨h66,H⟩|⟨h66,H⟩
     ·exact zb eZ (dT h66) rfl (zb rfl (dT h66) rfl (zb rfl (dT h66) rfl (zb rfl (dT h66) rfl (zC rfl (dT h66) eC (za eZ (zb eZ rfl rfl (zb rfl rfl rfl (zb rfl rfl rfl (zb rfl rfl rfl (zC rfl rfl eC (za eZ (zb eZ rfl rfl (zb rfl rfl rfl (zb rfl rfl rfl (zb rfl rfl rfl (zC rfl rfl eC (zm (TQ.qn ⟨true,H,(zg [] (sR rfl rfl) (blR rfl) (bkR rfl rfl rfl))⟩))))))))))))))))))
     ·refine gDo eZ (dF h66) (zf (m:=7) rfl rfl (gDo rfl (dF h66) (zl (q:=7) (c:=(.d (.sl 1 (List.map zt a1.Ended)))) eZ bZ rfl rfl (gDo rfl (dF h66) (zX eZ (n:=a1.Ended.length) lm (gDo rfl (dF h66) (zaB eZ eC (zJ rfl (dF h66) eZ (za eZ ?_)))))))))
      rcases zA H with⟨h67,H⟩|⟨h67,H⟩
      ·exact zb eZ (dT h67) rfl (zb rfl (dT h67) rfl (zb rfl (dT h67) rfl (zb rfl (dT h67) rfl (zC rfl (dT h67) eC (za eZ (zb eZ rfl rfl (zb rfl rfl rfl (zb rfl rfl rfl (zb rfl rfl rfl (zC rfl rfl eC (zm (TQ.qn ⟨true,H,(zg [] (sR rfl rfl) (blR rfl) (bkR rfl rfl rfl))⟩))))))))))))
      ·refine gDo eZ (dF h67) (zf (m:=6) rfl rfl (gDo rfl (dF h67) (zl (q:=6) (c:=(.d (.sl 1 (List.map zt a1.Wounded)))) eZ bZ rfl rfl (gDo rfl (dF h67) ?_))))
       obtain⟨v68,h69,H⟩:=zk H
       refine zD (u:=(oB v68)) eC Cl.fn (zco h69) (Ec eZ En) (Vc Vp Vn) rfl (gDo rfl (dF h67) (qI eZ (zJ rfl (dF h67) eZ (za eZ ?_))))
       rcases zA H with⟨h70,H⟩|⟨h70,H⟩
       ·refine gDo eZ (cN h70) (zf (m:=7) rfl rfl (gDo rfl (cN h70) (zl (q:=7) (c:=(.d (.sl 1 (List.map zt a1.Ended)))) eZ bZ rfl rfl (gDo rfl (cN h70) ?_))))
        obtain⟨v71,h72,H⟩:=zk H
        exact zD (u:=(oB v71)) eC Cl.fn (zco h72) (Ec eZ En) (Vc Vp Vn) rfl (gDo rfl (cN h70) (qI eZ (zJ rfl (cN h70) eZ (zm (TQ.qn ⟨(!v71),H,(zg [] (sR rfl rfl) (blR rfl) (bkR rfl rfl rfl))⟩)))))
       ·exact zb eZ (cN (nt h70)) rfl (zb rfl (cN (nt h70)) rfl (zb rfl (cN (nt h70)) rfl (zb rfl (cN (nt h70)) rfl (zC rfl (cN (nt h70)) eC (zm (TQ.qn ⟨true,H,(zg [] (sR rfl rfl) (blR rfl) (bkR rfl rfl rfl))⟩))))))
 ·refine aR (zf (m:=0) rfl rfl (zl (q:=0) (c:=(dI a1.Me)) eZ bZ rfl rfl ?_))
  obtain⟨v73,h74,H⟩:=zk H
  refine zD (u:=(oB v73)) eC Cl.fn (QU h74) (Ec eZ (Ec eC (Ec eC En))) (Vc Vp (Vc Vp (Vc Vp Vn))) rfl (qI eZ (za eZ ?_))
  rcases zA H with⟨h75,H⟩|⟨h75,H⟩
  ·refine gDo eZ (cN h75) (zf (m:=1) rfl rfl (gDo rfl (cN h75) (zl (q:=1) (c:=(.d (.sl 2 (List.map zd a1.Own)))) eZ bZ rfl rfl (gDo rfl (cN h75) ?_))))
   obtain⟨v76,h77,H⟩:=zk H
   refine zD (u:=(oB v76)) eC Cl.fn (kj h77) (Ec eZ En) (Vc Vp Vn) rfl (gDo rfl (cN h75) (qI eZ (zJ rfl (cN h75) eZ (za eZ ?_))))
   rcases zA H with⟨h78,H⟩|⟨h78,H⟩
   ·refine gDo eZ (cN h78) (zf (m:=2) rfl rfl (gDo rfl (cN h78) (zl (q:=2) (c:=(.d (.sl 2 (List.map zd a1.Frozen)))) eZ bZ rfl rfl (gDo rfl (cN h78) ?_))))
    obtain⟨v79,h80,H⟩:=zk H
    refine zD (u:=(oB v79)) eC Cl.fn (kj h80) (Ec eZ En) (Vc Vp Vn) rfl (gDo rfl (cN h78) (qI eZ (zJ rfl (cN h78) eZ (za eZ ?_))))
    rcases zA H with⟨h81,H⟩|⟨h81,H⟩
    ·refine gDo eZ (cN h81) (zf (m:=3) rfl rfl (gDo rfl (cN h81) (zl (q:=3) (c:=(.d (.sl 2 (List.map zj a1.Cells)))) eZ bZ rfl rfl (gDo rfl (cN h81) ?_))))
     obtain⟨v82,h83,H⟩:=zk H
     refine zD (u:=(oB v82)) eC Cl.fn (KO h83) (Ec eZ En) (Vc Vp Vn) rfl (gDo rfl (cN h81) (qI eZ (zJ rfl (cN h81) eZ (za eZ ?_))))
     rcases zA H with⟨h84,H⟩|⟨h84,H⟩
     ·refine gDo eZ (cN h84) (zf (m:=4) rfl rfl (gDo rfl (cN h84) (zl (q:=4) (c:=(.d (.sl 4 (List.map zp a1.Locks)))) eZ bZ rfl rfl (gDo rfl (cN h84) ?_))))
      obtain⟨v85,h86,H⟩:=zk H
      refine zD (u:=(oB v85)) eC Cl.fn (zft h86) (Ec eZ En) (Vc Vp Vn) rfl (gDo rfl (cN h84) (qI eZ (zJ rfl (cN h84) eZ (za eZ ?_))))
      rcases zA H with⟨h87,H⟩|⟨h87,H⟩
      ·refine gDo eZ (cN h87) (zf (m:=8) rfl rfl (gDo rfl (cN h87) (zl (q:=8) (c:=(dI a1.Rank)) eZ bZ rfl rfl (gDo rfl (cN h87) ?_))))
       obtain⟨v88,h89,H⟩:=zk H
       exact zD (u:=(oB v88)) eC Cl.fn (QU h89) (Ec eZ (Ec eC (Ec eC En))) (Vc Vp (Vc Vp (Vc Vp Vn))) rfl (gDo rfl (cN h87) (qI eZ (zJ rfl (cN h87) eZ (zm (TQ.qn ⟨(!v88),H,(zg [] (sR rfl rfl) (blR rfl) (bkR rfl rfl rfl))⟩)))))
      ·exact zb eZ (cN (nt h87)) rfl (zb rfl (cN (nt h87)) rfl (zb rfl (cN (nt h87)) rfl (zb rfl (cN (nt h87)) rfl (zC rfl (cN (nt h87)) eC (zm (TQ.qn ⟨true,H,(zg [] (sR rfl rfl) (blR rfl) (bkR rfl rfl rfl))⟩))))))
     ·exact zb eZ (cN (nt h84)) rfl (zb rfl (cN (nt h84)) rfl (zb rfl (cN (nt h84)) rfl (zb rfl (cN (nt h84)) rfl (zC rfl (cN (nt h84)) eC (za eZ (zb eZ rfl rfl (zb rfl rfl rfl (zb rfl rfl rfl (zb rfl rfl rfl (zC rfl rfl eC (zm (TQ.qn ⟨true,H,(zg [] (sR rfl rfl) (blR rfl) (bkR rfl rfl rfl))⟩))))))))))))
    ·exact zb eZ (cN (nt h81)) rfl (zb rfl (cN (nt h81)) rfl (zb rfl (cN (nt h81)) rfl (zb rfl (cN (nt h81)) rfl (zC rfl (cN (nt h81)) eC (za eZ (zb eZ rfl rfl (zb rfl rfl rfl (zb rfl rfl rfl (zb rfl rfl rfl (zC rfl rfl eC (za eZ (zb eZ rfl rfl (zb rfl rfl rfl (zb rfl rfl rfl (zb rfl rfl rfl (zC rfl rfl eC (zm (TQ.qn ⟨true,H,(zg [] (sR rfl rfl) (blR rfl) (bkR rfl rfl rfl))⟩))))))))))))))))))
   ·exact zb eZ (cN (nt h78)) rfl (zb rfl (cN (nt h78)) rfl (zb rfl (cN (nt h78)) rfl (zb rfl (cN (nt h78)) rfl (zC rfl (cN (nt h78)) eC (za eZ (zb eZ rfl rfl (zb rfl rfl rfl (zb rfl rfl rfl (zb rfl rfl rfl (zC rfl rfl eC (za eZ (zb eZ rfl rfl (zb rfl rfl rfl (zb rfl rfl rfl (zb rfl rfl rfl (zC rfl rfl eC (za eZ (zb eZ rfl rfl (zb rfl rfl rfl (zb rfl rfl rfl (zb rfl rfl rfl (zC rfl rfl eC (zm (TQ.qn ⟨true,H,(zg [] (sR rfl rfl) (blR rfl) (bkR rfl rfl rfl))⟩))))))))))))))))))))))))
  ·exact zb eZ (cN (nt h75)) rfl (zb rfl (cN (nt h75)) rfl (zb rfl (cN (nt h75)) rfl (zb rfl (cN (nt h75)) rfl (zC rfl (cN (nt h75)) eC (za eZ (zb eZ rfl rfl (zb rfl rfl rfl (zb rfl rfl rfl (zb rfl rfl rfl (zC rfl rfl eC (za eZ (zb eZ rfl rfl (zb rfl rfl rfl (zb rfl rfl rfl (zb rfl rfl rfl (zC rfl rfl eC (za eZ (zb eZ rfl rfl (zb rfl rfl rfl (zb rfl rfl rfl (zb rfl rfl rfl (zC rfl rfl eC (za eZ (zb eZ rfl rfl (zb rfl rfl rfl (zb rfl rfl rfl (zb rfl rfl rfl (zC rfl rfl eC (zm (TQ.qn ⟨true,H,(zg [] (sR rfl rfl) (blR rfl) (bkR rfl rfl rfl))⟩))))))))))))))))))))))))))))))
theorem zfh{a1:zo}{a2:Int}{a3:ze}{r:Int}(H:Yw a1 a2 a3=some r):Fn Tryz.prog 78 (lent [(.agg (zR a1)),(.int .i64 a2),(.agg (zd a3))]) true [(.int .i64 r)]:=by
 refine f78 (fle rfl) ?_
 rw[zx]
 refine AW.weaken (zg [] (kv 0 (.agg (zF a1)) rfl rfl (kv 1 (oI a2) rfl rfl (kv 2 (.agg [(dI a3.Lo),(dI a3.Hi)]) rfl rfl SL.nil))) BL.nil BK.nil) ?_
 unfold Yw at H
 unfold i78
 refine aV (qY (n:=192) (m:=9) (cs:=(zF a1)) rfl eZ rfl rfl nZ (qY (n:=320) (m:=2) (cs:=[(dI a3.Lo),(dI a3.Hi)]) rfl rfl rfl rfl (nR rfl) (za eC (xQ (aS (AW.block (zE (fun t4:Bool=>(ZT a2 a1) t4=some r) (fun t4=>mk [(1,(oI a2)),(3,(.one (.ptr (.nm 192 0 0)))),(7,(oB t4))] [(192,(.vars 9 (zF a1)))] noG) ?_ ?_)))))))
 ·intro t4 H
  unfold ZT at H
  rcases zA H with⟨h6,H⟩|⟨h6,H⟩
  ·refine zi rfl h6 (aV (za eC (xQ (AW.ret (BQ.qr (TQ.qr ?_))))))
   cases H
   exact eE rfl rfl
  ·refine zh rfl (nt h6) (aV (za eZ (zf (m:=8) rfl rfl (zl (q:=8) (c:=(dI a1.Rank)) eZ bZ rfl rfl (qi rfl eZ (za eZ (xQ ?_)))))))
   rcases zA H with⟨h7,H⟩|⟨h7,H⟩
   ·refine zi eZ (dT h7) (aV (za eC (xQ (AW.ret (BQ.qr (TQ.qr ?_))))))
    cases H
    exact eE rfl rfl
   ·refine zh eZ (dF h7) (AW.skip (BQ.qn (TQ.qn (aV (za eC (xQ (AW.ret ?_)))))))
    cases H
    exact eE rfl rfl
 ·refine aR (zM (es:=(zF a1)) rfl (bR rfl) rfl ?_)
  obtain⟨v8,h9,H⟩:=zk H
  refine zD (u:=(oB v8)) eC Cl.fn (zeW h9) (Ec eZ En) (Vc (VD.agg rfl) Vn) rfl (qI eZ (za eZ ?_))
  rcases zA H with⟨h10,H⟩|⟨h10,H⟩
  ·refine gDo eZ (cN h10) (za rfl (gDo rfl (cN h10) ?_))
   obtain⟨v11,h12,H⟩:=zk H
   refine zD (u:=(oB v11)) eC Cl.fn (QU h12) (Ec eZ (Ec eC (Ec eC En))) (Vc Vp (Vc Vp (Vc Vp Vn))) rfl (gDo rfl (cN h10) (qI eZ (zJ rfl (cN h10) eZ (za eZ ?_))))
   rcases zA H with⟨h13,H⟩|⟨h13,H⟩
   ·refine gDo eZ (cN h13) (zM (es:=[(dI a3.Lo),(dI a3.Hi)]) rfl bZ rfl (gDo rfl (cN h13) ?_))
    obtain⟨v14,h15,H⟩:=zk H
    exact zD (u:=(oB v14)) eC Cl.fn (jG h15) (Ec eZ En) (Vc (VD.agg rfl) Vn) rfl (gDo rfl (cN h13) (qI eZ (zJ rfl (cN h13) eZ (za eZ (zm (TQ.qn ⟨(!v14),H,(zg [320] (sR rfl rfl) (blR rfl) (bkR rfl rfl rfl))⟩))))))
   ·exact zb eZ (cN (nt h13)) rfl (zb rfl (cN (nt h13)) rfl (zb rfl (cN (nt h13)) rfl (zC rfl (cN (nt h13)) eC (za eZ (zm (TQ.qn ⟨true,H,(zg [320] (sR rfl rfl) (blR rfl) (bkR rfl rfl rfl))⟩))))))
  ·exact zb eZ (cN (nt h10)) rfl (zb rfl (cN (nt h10)) rfl (zb rfl (cN (nt h10)) rfl (zC rfl (cN (nt h10)) eC (za eZ (zb eZ rfl rfl (zb rfl rfl rfl (zb rfl rfl rfl (zC rfl rfl eC (za eZ (zm (TQ.qn ⟨true,H,(zg [320] (sR rfl rfl) (blR rfl) (bkR rfl rfl rfl))⟩)))))))))))
theorem zbS{a1:zo}{r:zo}(H:QH a1=some r):Fn Tryz.prog 80 (lent [(.agg (zR a1))]) true [(.agg (zR r))]:=by
 refine f80 (fle rfl) ?_
 rw[zx]
 refine AW.weaken (t:=mk [(0,(.agg (zF a1)))] [] (lk [])) (zg [] (sR rfl rfl) BL.nil BK.nil) ?_
 unfold QH at H
 unfold i80
 refine aV (qY (n:=64) (m:=9) (cs:=(zF a1)) rfl eZ rfl rfl nZ (Zh (n:=128) (m:=9) rfl rfl (nR rfl) (xQ (aS (zW (zw (zf (m:=0) rfl rfl (zm (zw (zl (q:=0) (c:=(dI a1.Me)) eZ (bR rfl) rfl rfl (zm (zw (zf (m:=8) rfl rfl (zm (zw (zl (q:=8) (c:=(dI a1.Rank)) eZ (bR rfl) rfl rfl (zm (zw (Xv (cs:=[(dI a1.Me),.zs,.zs,.zs,.zs,.zs,.zs,.zs,(dI a1.Rank)]) (jN rfl (jN eZ kD)) rfl (zm (zw (Zh (n:=192) (m:=9) rfl rfl (nR rfl) (zm (zw (zO (es:=[(dI a1.Me),.zs,.zs,.zs,.zs,.zs,.zs,.zs,(dI a1.Rank)]) eZ rfl rfl rfl bZ rfl (zm (z7 (xQ (aS (zW (zw (yF (m:=704) rfl (nR rfl) (zm (zw (zf (m:=1) rfl rfl (zm ?_))))))))))))))))))))))))))))))))))))
 refine zw (zl (q:=1) (c:=(.d (.sl 2 (List.map zd a1.Own)))) eZ (bR rfl) rfl rfl (zm (zw ?_)))
 obtain⟨h2,H⟩:=z6 H
 refine zbf (f:=zd) (m:=896) (own:=true) (ys:=a1.Own) (q:=a1.Own.length) rfl rfl rfl eZ (El.lent fun _ _=>rfl) rfl h2 (by decide) (nR rfl) (zm (zw (zf (m:=1) rfl rfl (zm (zw (zO (es:=[(dI a1.Me),(.sl 896 0 a1.Own.length),.zs,.zs,.zs,.zs,.zs,.zs,(dI a1.Rank)]) eZ rfl rfl rfl (bR rfl) rfl (zm (z7 (xQ (aS (zW (zw (yF (m:=1024) rfl (nR rfl) (zm (zw (zf (m:=2) rfl rfl (zm (zw (zl (q:=2) (c:=(.d (.sl 2 (List.map zd a1.Frozen)))) eZ (bR rfl) rfl rfl (zm (zw ?_)))))))))))))))))))))
 obtain⟨h3,H⟩:=z6 H
 refine zbf (f:=zd) (m:=1216) (own:=true) (ys:=a1.Frozen) (q:=a1.Frozen.length) rfl rfl rfl eZ (El.lent fun _ _=>rfl) rfl h3 (by decide) (nR rfl) (zm (zw (zf (m:=2) rfl rfl (zm (zw (zO (es:=[(dI a1.Me),(.sl 896 0 a1.Own.length),(.sl 1216 0 a1.Frozen.length),.zs,.zs,.zs,.zs,.zs,(dI a1.Rank)]) eZ rfl rfl rfl (bR rfl) rfl (zm (z7 (xQ (AW.weaken (zI [] (kr 3 rfl rfl (kr 2 rfl rfl (kr 1 rfl rfl SL.nil))) (blR rfl) (BK.cons (n:=192) rfl bZ rfl rfl (BK.cons (n:=1216) rfl (bR rfl) rfl rfl (BK.cons (n:=896) rfl (bR rfl) rfl rfl (BK.cons (n:=128) rfl (bR rfl) rfl rfl (BK.cons (n:=64) rfl (bR rfl) rfl rfl BK.nil))))) GK.nil) (aS (zW (zw (yF (m:=1344) rfl (nR rfl) (zm (zw (zf (m:=3) rfl rfl (zm (zw (zl (q:=3) (c:=(.d (.sl 2 (List.map zj a1.Cells)))) eZ (bR rfl) rfl rfl (zm (zw ?_))))))))))))))))))))))
 obtain⟨h4,H⟩:=z6 H
 refine zbf (f:=zj) (m:=1536) (own:=true) (ys:=a1.Cells) (q:=a1.Cells.length) rfl rfl rfl eZ (El.lent fun _ _=>rfl) rfl h4 (by decide) (nR rfl) (zm (zw (zf (m:=3) rfl rfl (zm (zw (zO (es:=[(dI a1.Me),(.sl 896 0 a1.Own.length),(.sl 1216 0 a1.Frozen.length),(.sl 1536 0 a1.Cells.length),.zs,.zs,.zs,.zs,(dI a1.Rank)]) eZ rfl rfl rfl (bR rfl) rfl (zm (z7 (xQ (aS (zW (zw (yF (m:=1664) rfl (nR rfl) (zm (zw (zf (m:=4) rfl rfl (zm (zw (zl (q:=4) (c:=(.d (.sl 4 (List.map zp a1.Locks)))) eZ (bR rfl) rfl rfl (zm (zw ?_)))))))))))))))))))))
 obtain⟨h5,H⟩:=z6 H
 refine zbf (f:=zp) (m:=1856) (own:=true) (ys:=a1.Locks) (q:=a1.Locks.length) rfl rfl rfl eZ (El.lent fun _ _=>rfl) rfl h5 (by decide) (nR rfl) (zm (zw (zf (m:=4) rfl rfl (zm (zw (zO (es:=[(dI a1.Me),(.sl 896 0 a1.Own.length),(.sl 1216 0 a1.Frozen.length),(.sl 1536 0 a1.Cells.length),(.sl 1856 0 a1.Locks.length),.zs,.zs,.zs,(dI a1.Rank)]) eZ rfl rfl rfl (bR rfl) rfl (zm (z7 (xQ (zE (fun t6:(List zN)=>(ko a1) t6=some r) (fun t6=>mk [(1,(.one (.ptr (.nm 64 0 0)))),(2,(.one (.ptr (.nm 128 0 0)))),(3,(.one (.ptr (.nm 192 0 0))))] [(64,(.vars 9 (zF a1))),(128,(.vars 9 [(dI 0),.zs,.zs,.zs,.zs,.zs,.zs,.zs,(dI 0)])),(320128,(.data 2 (List.map zB t6) true none)),(192,(.vars 9 [(dI a1.Me),(.sl 896 0 a1.Own.length),(.sl 1216 0 a1.Frozen.length),(.sl 1536 0 a1.Cells.length),(.sl 1856 0 a1.Locks.length),(.sl 320128 0 t6.length),.zs,.zs,(dI a1.Rank)])),(896,(.data 2 (List.map zd a1.Own) true none)),(1216,(.data 2 (List.map zd a1.Frozen) true none)),(1536,(.data 2 (List.map zj a1.Cells) true none)),(1856,(.data 4 (List.map zp a1.Locks) true none))] (lk [])) ?_ ?_))))))))))
 ·intro t6 H
  unfold ko at H
  refine aS (zW (zw (yF (m:=3456) rfl (nR rfl) (zm (zw (zf (m:=6) rfl rfl (zm (zw (zl (q:=6) (c:=(.d (.sl 1 (List.map zt a1.Wounded)))) eZ bZ rfl rfl (zm (zw ?_)))))))))))
  obtain⟨h8,H⟩:=z6 H
  refine zbf (f:=zt) (m:=3648) (own:=true) (ys:=a1.Wounded) (q:=a1.Wounded.length) rfl rfl rfl eZ (El.lent fun _ _=>rfl) rfl h8 (by decide) (nR rfl) (zm (zw (zf (m:=6) rfl rfl (zm (zw (zO (es:=[(dI a1.Me),(.sl 896 0 a1.Own.length),(.sl 1216 0 a1.Frozen.length),(.sl 1536 0 a1.Cells.length),(.sl 1856 0 a1.Locks.length),(.sl 320128 0 t6.length),(.sl 3648 0 a1.Wounded.length),.zs,(dI a1.Rank)]) eZ rfl rfl rfl (bR rfl) rfl (zm (z7 (xQ (aS (zW (zw (yF (m:=3776) rfl (nR rfl) (zm (zw (zf (m:=7) rfl rfl (zm (zw (zl (q:=7) (c:=(.d (.sl 1 (List.map zt a1.Ended)))) eZ (bR rfl) rfl rfl (zm (zw ?_)))))))))))))))))))))
  obtain⟨h9,H⟩:=z6 H
  refine zbf (f:=zt) (m:=3968) (own:=true) (ys:=a1.Ended) (q:=a1.Ended.length) rfl rfl rfl eZ (El.lent fun _ _=>rfl) rfl h9 (by decide) (nR rfl) (zm (zw (zf (m:=7) rfl rfl (zm (zw (zO (es:=[(dI a1.Me),(.sl 896 0 a1.Own.length),(.sl 1216 0 a1.Frozen.length),(.sl 1536 0 a1.Cells.length),(.sl 1856 0 a1.Locks.length),(.sl 320128 0 t6.length),(.sl 3648 0 a1.Wounded.length),(.sl 3968 0 a1.Ended.length),(dI a1.Rank)]) eZ rfl rfl rfl (bR rfl) rfl (zm (z7 (xQ (aS (zW (zw (zM (es:=[(dI a1.Me),(.sl 896 0 a1.Own.length),(.sl 1216 0 a1.Frozen.length),(.sl 1536 0 a1.Cells.length),(.sl 1856 0 a1.Locks.length),(.sl 320128 0 t6.length),(.sl 3648 0 a1.Wounded.length),(.sl 3968 0 a1.Ended.length),(dI a1.Rank)]) rfl bZ rfl (zm (zw (zO (es:=[(dI a1.Me),(.sl 896 0 a1.Own.length),(.sl 1216 0 a1.Frozen.length),(.sl 1536 0 a1.Cells.length),(.sl 1856 0 a1.Locks.length),(.sl 320128 0 t6.length),(.sl 3648 0 a1.Wounded.length),(.sl 3968 0 a1.Ended.length),(dI a1.Rank)]) rfl eZ rfl rfl (bR rfl) rfl (zm (z7 (xQ (AW.ret ?_))))))))))))))))))))
  cases H
  exact qK (RL.cons (jg (es:=[(dI a1.Me),(.sl 896 0 a1.Own.length),(.sl 1216 0 a1.Frozen.length),(.sl 1536 0 a1.Cells.length),(.sl 1856 0 a1.Locks.length),(.sl 320128 0 t6.length),(.sl 3648 0 a1.Wounded.length),(.sl 3968 0 a1.Ended.length),(dI a1.Rank)]) rfl bZ rfl) (VO.aggs (VOs.cons (VO.flat rfl) (VOs.cons (VO.sl (bR rfl) lm (zy fun _=>rfl)) (VOs.cons (VO.sl (bR rfl) lm (zy fun _=>rfl)) (VOs.cons (VO.sl (bR rfl) lm (zy fun _=>rfl)) (VOs.cons (VO.sl (bR rfl) lm (zy fun _=>rfl)) (VOs.cons (Qf (bR rfl) lm rfl) (VOs.cons (VO.sl (bR rfl) lm (zy fun _=>rfl)) (VOs.cons (VO.sl (bR rfl) lm (zy fun _=>rfl)) (VOs.cons (VO.flat rfl) VOs.nil)))))))))) RL.nil) (by decide)
 ·refine aV (za eC (xQ (AW.block (AW.iter (fun s10:(Int×(List zN))=>mk [(1,(.one (.ptr (.nm 64 0 0)))),(2,(.one (.ptr (.nm 128 0 0)))),(3,(.one (.ptr (.nm 192 0 0)))),(4,(oI s10.1))] [(64,(.vars 9 (zF a1))),(128,(.vars 9 [(dI 0),.zs,.zs,.zs,.zs,.zs,.zs,.zs,(dI 0)])),(320192,(.data 2 (List.map zB s10.2) true none)),(192,(.vars 9 [(dI a1.Me),(.sl 896 0 a1.Own.length),(.sl 1216 0 a1.Frozen.length),(.sl 1536 0 a1.Cells.length),(.sl 1856 0 a1.Locks.length),(.sl 320192 0 s10.2.length),.zs,.zs,(dI a1.Rank)])),(896,(.data 2 (List.map zd a1.Own) true none)),(1216,(.data 2 (List.map zd a1.Frozen) true none)),(1536,(.data 2 (List.map zj a1.Cells) true none)),(1856,(.data 4 (List.map zp a1.Locks) true none))] (lk [])) H ((zI [] (sR rfl rfl) (blR rfl) (BK.cons rfl (bR rfl) rfl rfl (BK.cons rfl (bR rfl) rfl rfl (BK.cons rfl (bR rfl) rfl rfl (BK.cons rfl bZ rfl (by first|rfl|simp) (bkR rfl rfl rfl))))) GK.nil).trans (zlw 320192 2 192 5 true bZ rfl (nR rfl))) ?_))))
  intro kb11 s10 H
  unfold YL at H
  refine aS (aV (za rfl (zf (m:=5) rfl rfl (zl (q:=5) (c:=(.d (.sl 2 (List.map zB a1.Helds)))) eZ bZ rfl rfl (zX eZ (n:=a1.Helds.length) lm (qi rfl eZ (xQ ?_)))))))
  rcases zA H with⟨h12,H⟩|⟨h12,H⟩
  ·refine zi eZ (dT h12) (AW.skip (TQ.qn (aS (AW.block (aS (zW (zw (zf (m:=5) rfl rfl (zm (zw (zl (q:=5) (c:=(.d (.sl 2 (List.map zB a1.Helds)))) eZ bZ rfl rfl (zm (zw (za rfl (zm (zw ?_))))))))))))))))
   obtain⟨v13,h14,H⟩:=zk H
   refine qt rfl eZ h14 (zm (zw (zZ (es:=(jQ v13)) eZ rfl (zm (zw (Zh (n:=320) (m:=2) rfl rfl (nR rfl) (zm (zw (zO (es:=(jQ v13)) eZ rfl rfl rfl bZ rfl (zm (z7 (xQ (aS (zW (zw (yF (m:=2752) rfl (nR rfl) (zm (zw (zf (m:=1) rfl rfl (zm (zw (zl (q:=1) (c:=(.d (.sl 2 (List.map zj v13.Writes)))) eZ bZ rfl rfl (zm (zw ?_))))))))))))))))))))))))
   obtain⟨h15,H⟩:=z6 H
   refine zbf (f:=zj) (m:=2944) (own:=true) (ys:=v13.Writes) (q:=v13.Writes.length) rfl rfl rfl eZ (El.lent fun _ _=>rfl) rfl h15 (by decide) (nR rfl) (zm (zw (zf (m:=1) rfl rfl (zm (zw (zO (es:=[(dI v13.Tx),(.sl 2944 0 v13.Writes.length)]) eZ rfl rfl rfl (bR rfl) rfl (zm (z7 (xQ (AW.weaken (zI [] (kr 5 rfl rfl (kr 1 rfl rfl (kr 2 rfl rfl (kr 3 rfl rfl (kr 4 rfl rfl SL.nil))))) (blR rfl) (BK.cons (n:=320) rfl bZ rfl rfl (BK.cons (n:=2944) rfl (bR rfl) rfl rfl (BK.cons (n:=64) rfl (bR rfl) rfl rfl (BK.cons (n:=128) rfl (bR rfl) rfl rfl (BK.cons (n:=320192) rfl (bR rfl) rfl rfl (BK.cons (n:=192) rfl (bR rfl) rfl rfl (BK.cons (n:=896) rfl (bR rfl) rfl rfl (BK.cons (n:=1216) rfl (bR rfl) rfl rfl (BK.cons (n:=1536) rfl (bR rfl) rfl rfl (BK.cons (n:=1856) rfl (bR rfl) rfl rfl BK.nil)))))))))) GK.nil) (zW (zw (zf (m:=5) rfl rfl (zm (zw (zl (q:=5) (c:=(.sl 320192 0 s10.2.length)) eZ (bR rfl) rfl rfl (zm (zw (zM (es:=[(dI v13.Tx),(.sl 2944 0 v13.Writes.length)]) rfl bZ rfl (zm (zw (za3 (m:=3264) (q:=1) (cs:=[(dI v13.Tx),(.sl 2944 0 v13.Writes.length)]) rfl (jN eZ kD) rfl (List.cons_ne_nil _ _) (by simp) (nR rfl) (zm ?_)))))))))))))))))))))))
   obtain⟨h16,H⟩:=z6 H
   exact zhQ (f:=zB) (xs:=s10.2) (t:=v13) (q:=(s10.2++[v13]).length) (ds:=[(.int .i64 v13.Tx),(.sl 2 (List.map zj v13.Writes))]) (ns:=[2944]) rfl eZ (bR rfl) rfl bZ rfl (VOs.cons (VO.flat rfl) (VOs.cons (VO.sl (bR rfl) lm (zy fun _=>rfl)) VOs.nil)) rfl rfl rfl rfl h16 (by decide) (erL.cons (v':=(.one (.sl 3264 0 1))) rfl (erL.cons (v':=(.agg [(dI v13.Tx),.any])) rfl (erL.cons (v':=(.one (.sl 320192 0 s10.2.length))) rfl (erL.cons (v':=(.one (.ptr (.nm 192 0 5)))) rfl (erL.cons (v':=(.one (.ptr (.nm 320 0 0)))) rfl (erL.cons (v':=(.one (.ptr (.nm 64 0 0)))) rfl (erL.cons (v':=(.one (.ptr (.nm 128 0 0)))) rfl (erL.cons (v':=(.one (.ptr (.nm 192 0 0)))) rfl (erL.cons (v':=(oI s10.1)) rfl erL.nil))))))))) (erH.cons (v':=(.vars 2 [(dI v13.Tx),.any])) rfl rfl (erH.cons (v':=(.vars 2 [(dI v13.Tx),.any])) rfl rfl (erH.drop rfl (erH.cons (v':=(.vars 9 (zF a1))) rfl rfl (erH.cons (v':=(.vars 9 [(dI 0),.zs,.zs,.zs,.zs,.zs,.zs,.zs,(dI 0)])) rfl rfl (erH.cons (v':=(.data 2 (List.map zB s10.2) true none)) rfl rfl (erH.cons (v':=(.vars 9 [(dI a1.Me),(.sl 896 0 a1.Own.length),(.sl 1216 0 a1.Frozen.length),(.sl 1536 0 a1.Cells.length),(.sl 1856 0 a1.Locks.length),(.sl 320192 0 s10.2.length),.zs,.zs,(dI a1.Rank)])) rfl rfl (erH.cons (v':=(.data 2 (List.map zd a1.Own) true none)) rfl rfl (erH.cons (v':=(.data 2 (List.map zd a1.Frozen) true none)) rfl rfl (erH.cons (v':=(.data 2 (List.map zj a1.Cells) true none)) rfl rfl (erH.cons (v':=(.data 4 (List.map zp a1.Locks) true none)) rfl rfl erH.nil))))))))))) erL.nil (erL.cons (v':=(.one (.sl 3264 0 1))) rfl (erL.cons (v':=(.agg [(dI v13.Tx),.any])) rfl (erL.cons (v':=(.one .any)) rfl (erL.cons (v':=(.one (.ptr (.nm 192 0 5)))) rfl (erL.cons (v':=(.one (.ptr (.nm 320 0 0)))) rfl (erL.cons (v':=(.one (.ptr (.nm 64 0 0)))) rfl (erL.cons (v':=(.one (.ptr (.nm 128 0 0)))) rfl (erL.cons (v':=(.one (.ptr (.nm 192 0 0)))) rfl (erL.cons (v':=(oI s10.1)) rfl erL.nil))))))))) (erH.cons (v':=(.vars 2 [(dI v13.Tx),.any])) rfl rfl (erH.cons (v':=(.vars 2 [(dI v13.Tx),.any])) rfl rfl (erH.cons (v':=(.vars 9 (zF a1))) rfl rfl (erH.cons (v':=(.vars 9 [(dI 0),.zs,.zs,.zs,.zs,.zs,.zs,.zs,(dI 0)])) rfl rfl (erH.drop rfl (erH.cons (v':=(.vars 9 [(dI a1.Me),(.sl 896 0 a1.Own.length),(.sl 1216 0 a1.Frozen.length),(.sl 1536 0 a1.Cells.length),(.sl 1856 0 a1.Locks.length),.any,.zs,.zs,(dI a1.Rank)])) rfl rfl (erH.cons (v':=(.data 2 (List.map zd a1.Own) true none)) rfl rfl (erH.cons (v':=(.data 2 (List.map zd a1.Frozen) true none)) rfl rfl (erH.cons (v':=(.data 2 (List.map zj a1.Cells) true none)) rfl rfl (erH.cons (v':=(.data 4 (List.map zp a1.Locks) true none)) rfl rfl erH.nil)))))))))) erL.nil (zw (zf (m:=5) rfl rfl (zm (zw (zO (es:=[(dI a1.Me),(.sl 896 0 a1.Own.length),(.sl 1216 0 a1.Frozen.length),(.sl 1536 0 a1.Cells.length),(.sl 1856 0 a1.Locks.length),(.sl 320192 0 ((s10.2++[v13]).length)),.zs,.zs,(dI a1.Rank)]) eZ rfl rfl rfl (bR rfl) rfl (zm (z7 (zm (BQ.qn (TQ.qn (aR (za rfl (qg eZ eC (za eZ (zm (TQ.qn ⟨((IntKind.wrap .i64 (s10.1+1)),(s10.2++[v13])),H,(zI [3264,320] (sR rfl rfl) (blR rfl) (BK.cons rfl (bR rfl) rfl rfl (BK.cons rfl (bR rfl) rfl rfl (BK.cons rfl (bR rfl) rfl rfl (BK.cons rfl bZ rfl (by first|rfl|simp) (bkR rfl rfl rfl))))) GK.nil)⟩))))))))))))))))
  ·exact zh eZ (dF h12) (AW.exit (TQ.qe (TQ.qe (BQ.qe (TQ.qn ⟨s10.2,H,((zI [] (sR rfl rfl) (blR rfl) (BK.cons rfl bZ rfl rfl (BK.cons rfl (bR rfl) rfl rfl (BK.cons rfl (bR rfl) rfl rfl (BK.cons rfl (bR rfl) rfl (by first|rfl|simp) (bkR rfl rfl rfl))))) GK.nil).trans (Ky 320192 320128 rfl rfl (nR rfl) GR.nil))⟩)))))
theorem zdz{a1:zo}{a2:Int}{r:zo}(H:Z5 a1 a2=some r):Fn Tryz.prog 79 (lent [(.agg (zR a1)),(.int .i64 a2)]) true [(.agg (zR r))]:=by
 refine f79 (fle rfl) ?_
 rw[zx]
 refine AW.weaken (t:=mk [(0,(.agg (zF a1))),(1,(oI a2))] [] (lk [])) (zg [] (sR rfl rfl) BL.nil BK.nil) ?_
 unfold Z5 at H
 unfold i79
 refine aV (qY (n:=128) (m:=9) (cs:=(zF a1)) rfl eZ rfl rfl nZ (Zh (n:=256) (m:=9) rfl rfl (nR rfl) (xQ (aS (aV (za rfl (KG eZ eC (xQ ?_))))))))
 rcases zA H with⟨h3,H⟩|⟨h3,H⟩
 ·refine zi eZ (dT h3) (aS (zW (zw (Xv (cs:=[(dI 0),.zs,.zs,.zs,.zs,.zs,.zs,.zs,(dI 0)]) kD rfl (zm (zw (zO (es:=[(dI 0),.zs,.zs,.zs,.zs,.zs,.zs,.zs,(dI 0)]) rfl eZ rfl rfl bZ rfl (zm (z7 (xQ (AW.ret (TQ.qr ?_))))))))))))
  cases H
  exact qK (RL.cons (jg (es:=[(dI 0),.zs,.zs,.zs,.zs,.zs,.zs,.zs,(dI 0)]) rfl bZ rfl) (VO.aggs (VOs.cons (VO.flat rfl) (VOs.cons VO.zs (VOs.cons VO.zs (VOs.cons VO.zs (VOs.cons VO.zs (VOs.cons VO.zs (VOs.cons VO.zs (VOs.cons VO.zs (VOs.cons (VO.flat rfl) VOs.nil)))))))))) RL.nil) List.nodup_nil
 ·refine zh eZ (dF h3) (AW.skip (TQ.qn (aS (zW (zw (zM (es:=(zF a1)) rfl (bR rfl) rfl (zm (zw ?_))))))))
  obtain⟨v4,h5,H⟩:=zk H
  refine ju (u:=(.agg [(dI v4.Me),(.sl 577 0 v4.Own.length),(.sl 578 0 v4.Frozen.length),(.sl 579 0 v4.Cells.length),(.sl 580 0 v4.Locks.length),(.sl 581 0 v4.Helds.length),(.sl 582 0 v4.Wounded.length),(.sl 583 0 v4.Ended.length),(dI v4.Rank)])) (bs:=[(577,(.data 2 (List.map zd v4.Own) true none)),(578,(.data 2 (List.map zd v4.Frozen) true none)),(579,(.data 2 (List.map zj v4.Cells) true none)),(580,(.data 4 (List.map zp v4.Locks) true none)),(581,(.data 2 (List.map zB v4.Helds) true none)),(582,(.data 1 (List.map zt v4.Wounded) true none)),(583,(.data 1 (List.map zt v4.Ended) true none))]) eC Cl.fn (zbS h5) (Ec eZ En) (Vc (VD.agg rfl) Vn) (by simp[qZ,jC,qq,jn,qy]) rfl (fC (nR rfl) rfl (fC (nR rfl) rfl (fC (nR rfl) rfl (fC (nR rfl) rfl (fC (nR rfl) rfl (fC (nR rfl) rfl (fC (nR rfl) rfl (fC (nR rfl) rfl fN)))))))) (zm (zw (zO (es:=[(dI v4.Me),(.sl 577 0 v4.Own.length),(.sl 578 0 v4.Frozen.length),(.sl 579 0 v4.Cells.length),(.sl 580 0 v4.Locks.length),(.sl 581 0 v4.Helds.length),(.sl 582 0 v4.Wounded.length),(.sl 583 0 v4.Ended.length),(dI v4.Rank)]) rfl eZ rfl rfl (bR rfl) rfl (zm (z7 (xQ (AW.ret ?_)))))))
  obtain rfl:=(Option.some.inj H)
  exact qK (RL.cons (jg (es:=[(dI v4.Me),(.sl 577 0 v4.Own.length),(.sl 578 0 v4.Frozen.length),(.sl 579 0 v4.Cells.length),(.sl 580 0 v4.Locks.length),(.sl 581 0 v4.Helds.length),(.sl 582 0 v4.Wounded.length),(.sl 583 0 v4.Ended.length),(dI v4.Rank)]) rfl bZ rfl) (VO.aggs (VOs.cons (VO.flat rfl) (VOs.cons (VO.sl (bR rfl) lm (zy fun _=>rfl)) (VOs.cons (VO.sl (bR rfl) lm (zy fun _=>rfl)) (VOs.cons (VO.sl (bR rfl) lm (zy fun _=>rfl)) (VOs.cons (VO.sl (bR rfl) lm (zy fun _=>rfl)) (VOs.cons (Qf (bR rfl) lm rfl) (VOs.cons (VO.sl (bR rfl) lm (zy fun _=>rfl)) (VOs.cons (VO.sl (bR rfl) lm (zy fun _=>rfl)) (VOs.cons (VO.flat rfl) VOs.nil)))))))))) RL.nil) (by decide)
theorem zeE{a1:(List ze)}{a2:ze}{r:Bool}(H:Jj a1 a2=some r):Fn Tryz.prog 81 (lent [(.sl 2 (List.map zd a1)),(.agg (zd a2))]) true [(.bool r)]:=by
 refine f81 (fle rfl) ?_
 rw[zx]
 refine AW.weaken (zg [] (kv 0 (.one (.d (.sl 2 (List.map zd a1)))) rfl rfl (kv 1 (.agg [(dI a2.Lo),(dI a2.Hi)]) rfl rfl SL.nil)) BL.nil BK.nil) ?_
 unfold Jj at H
 unfold i81
 refine aV (qY (n:=192) (m:=2) (cs:=[(dI a2.Lo),(dI a2.Hi)]) rfl rfl rfl rfl nZ (za eC (xQ (zE (fun t3:Unit=>XL t3=some r) (fun t3=>mk [] [] noG) ?_ ?_))))
 ·intro t3 H
  unfold XL at H
  refine aV (za eC (xQ (AW.ret ?_)))
  cases H
  exact eE rfl rfl
 ·refine aV (za eC (xQ (AW.block (AW.iter (fun s5:Int=>mk [(0,(.one (.d (.sl 2 (List.map zd a1))))),(3,(.one (.ptr (.nm 192 0 0)))),(5,(oI s5))] [(192,(.vars 2 [(dI a2.Lo),(dI a2.Hi)]))] noG) H (zg [] (sR rfl rfl) (blR rfl) (bkR rfl rfl rfl)) ?_))))
  intro kb6 s5 H
  unfold xe at H
  refine aS (aV (za rfl (za rfl (zX eZ (n:=a1.length) lm (qi rfl eZ (xQ ?_))))))
  rcases zA H with⟨h7,H⟩|⟨h7,H⟩
  ·refine zi eZ (dT h7) (AW.skip (TQ.qn (aS (AW.block (aS (AW.regd (za rfl (za rfl ?_))))))))
   obtain⟨v8,h9,H⟩:=zk H
   refine qt rfl eZ h9 (zZ (es:=[(dI v8.Lo),(dI v8.Hi)]) eZ rfl (zM (es:=[(dI a2.Lo),(dI a2.Hi)]) rfl (hB rfl bZ) rfl ?_))
   obtain⟨v10,h11,H⟩:=zk H
   refine zD (u:=(.tup [(.agg [(dI v10.1.Lo),(dI v10.1.Hi)]),(oB v10.2)])) eC Cl.fn (XJ h11) (Ec rfl (Ec eZ En)) (Vc (VD.agg rfl) (Vc (VD.agg rfl) Vn)) rfl (za eZ (kI (v:=(.agg [(dI v10.1.Lo),(dI v10.1.Hi)])) eZ rfl (kI (v:=(oB v10.2)) rfl rfl (Zh (n:=384) (m:=2) rfl rfl (hN (nR rfl)) (zO (es:=[(dI v10.1.Lo),(dI v10.1.Hi)]) eZ rfl rfl rfl bZ rfl (za rfl (xQ (AW.weaken (zg [384] (kr 7 rfl rfl (kr 0 rfl rfl (kr 3 rfl rfl (kr 5 rfl rfl SL.nil)))) (blR rfl) (BK.cons (n:=192) rfl (bR rfl) rfl rfl BK.nil)) (aV (za eZ (xQ ?_)))))))))))
   rcases zA H with⟨h12,H⟩|⟨h12,H⟩
   ·refine zi eZ h12 (aV (za eC (xQ (AW.ret (BQ.qr (TQ.qr (TQ.qr (BQ.qr (TQ.qr ?_)))))))))
    cases H
    exact eE rfl rfl
   ·exact zh eZ (nt h12) (AW.skip (BQ.qn (TQ.qn (aR (za rfl (qg eZ eC (za eZ (zm (TQ.qn ⟨(IntKind.wrap .i64 (s5+1)),H,(zg [] (sR rfl rfl) (blR rfl) (bkR rfl rfl rfl))⟩)))))))))
  ·exact zh eZ (dF h7) (AW.exit (TQ.qe (TQ.qe (BQ.qe (TQ.qn ⟨(),H,(zg [192] SL.nil (blR rfl) BK.nil)⟩)))))
theorem zfG{a1:(List ze)}{a2:ze}{a3:Bool}{r:((List ze)×Bool)}(H:Yv a1 a2 a3=some r):Fn Tryz.prog 197 (lent [(.sl 2 (List.map zd a1)),(.agg (zd a2)),(.bool a3)]) true [(.sl 2 (List.map zd r.1)),(.bool r.2)]:=by
 refine zGP (fle rfl) ?_
 rw[zx]
 refine AW.weaken (zg [] (kv 0 (.one (.d (.sl 2 (List.map zd a1)))) rfl rfl (kv 1 (.agg [(dI a2.Lo),(dI a2.Hi)]) rfl rfl (kv 2 (oB a3) rfl rfl SL.nil))) BL.nil BK.nil) ?_
 unfold Yv at H
 unfold zFi
 refine aV (qY (n:=256) (m:=2) (cs:=[(dI a2.Lo),(dI a2.Hi)]) rfl rfl rfl rfl nZ (za eC (za eC (xQ (aS (zE (fun t4:Bool=>(Zb a1 a2 a3) t4=some r) (fun t4=>mk [(0,(.one (.d (.sl 2 (List.map zd a1))))),(2,(oB a3)),(4,(.one (.ptr (.nm 256 0 0)))),(22,(oB t4))] [(256,(.vars 2 [(dI a2.Lo),(dI a2.Hi)]))] noG) ?_ ?_))))))
 ·intro t4 H
  unfold Zb at H
  rcases zA H with⟨h6,H⟩|⟨h6,H⟩
  ·refine zi rfl h6 (aV (yF (m:=1472) rfl (nR rfl) (za eZ (za eC (xQ (AW.ret (TQ.qr ?_)))))))
   cases H
   exact qK (RL.cons (RV.tmp rfl) VO.zs (RL.cons (RV.tmp eZ) (VO.flat rfl) RL.nil)) List.nodup_nil
  ·refine zh rfl (nt h6) (AW.skip (TQ.qn (aV ?_)))
   obtain⟨h7,H⟩:=z6 H
   refine zgV (f:=yg) (zv:=false) (own:=true) (m:=1536) (q:=(Int.toNat 1001)) rfl rfl eC eC h7.1 h7.2 rfl (by decide) rfl (nR rfl) (za eZ (xQ (zE (fun t8:(List Bool)=>(xR a2 a3) t8=some r) (fun t8=>mk [(2,(oB a3)),(4,(.one (.ptr (.nm 256 0 0)))),(8,(.one (.sl 320704 0 t8.length)))] [(320704,(.data 1 (List.map yg t8) true none)),(256,(.vars 2 [(dI a2.Lo),(dI a2.Hi)]))] noG) ?_ ?_)))
   ·intro t8 H
    unfold xR at H
    refine zE (fun t10:(List Bool)=>Qw t10=some r) (fun t10=>mk [(8,(.one (.sl 320832 0 t10.length)))] [(320832,(.data 1 (List.map yg t10) true none))] noG) ?_ ?_
    ·intro t10 H
     unfold Qw at H
     refine aV (yF (m:=3840) rfl (nR rfl) (za eZ (xQ (aV (za eC (xQ (zE (fun t12:(List ze)=>Zx t12=some r) (fun t12=>mk [(12,(.one (.sl 320960 0 t12.length)))] [(320960,(.data 2 (List.map zd t12) true none))] noG) ?_ ?_)))))))
     ·intro t12 H
      unfold Zx at H
      refine aS (aV (za eZ (zb4 eZ (zaB eZ eC (xQ ?_)))))
      rcases zA H with⟨h14,H⟩|⟨h14,H⟩
      ·refine zi eZ (dT h14) (aV (yF (m:=5888) rfl (nR rfl) (za eZ (za eC (xQ (AW.ret (TQ.qr ?_)))))))
       cases H
       exact qK (RL.cons (RV.tmp rfl) VO.zs (RL.cons (RV.tmp eZ) (VO.flat rfl) RL.nil)) List.nodup_nil
      ·refine zh eZ (dF h14) (AW.skip (TQ.qn (aV (za rfl (za eZ (za eC (xQ (AW.ret ?_))))))))
       cases H
       exact qK (RL.cons (RV.tmp rfl) (VO.sl bZ lm (zy fun _=>rfl)) (RL.cons (RV.tmp eZ) (VO.flat rfl) RL.nil)) (by decide)
     ·refine aV (za eC (xQ (AW.block (AW.iter (fun s15:((List ze)×Int×Int)=>mk [(8,(.one (.sl 320832 0 t10.length))),(12,(.one (.sl 321024 0 s15.1.length))),(13,(oI s15.2.1)),(14,(oI s15.2.2))] [(321024,(.data 2 (List.map zd s15.1) true none)),(320832,(.data 1 (List.map yg t10) true none))] noG) H ((zg [] (kR rfl rfl (SL.cons eZ rfl (VWk.one (CWk.len (by first|(simp;done)|(simp;omega)|omega|(simp only[List.length_map];omega)))) (sR rfl rfl))) (blR rfl) (bkR rfl rfl rfl)).trans (zlB 321024 2 12 true rfl (nR rfl))) ?_))))
      intro kb16 s15 H
      unfold Qq at H
      refine aS (aV (za rfl (zbj eZ eC (xQ ?_))))
      rcases zA H with⟨h17,H⟩|⟨h17,H⟩
      ·refine zi eZ (dT h17) (AW.skip (TQ.qn (aS (AW.block (zE (fun t18:Int=>(ZC t10 s15 kb16) t18=some r) (fun t18=>mk [(8,(.one (.sl 320832 0 t10.length))),(12,(.one (.sl 321024 0 s15.1.length))),(13,(oI t18)),(14,(oI s15.2.2))] [(320832,(.data 1 (List.map yg t10) true none)),(321024,(.data 2 (List.map zd s15.1) true none))] noG) ?_ ?_)))))
       ·intro t18 H
        unfold ZC at H
        refine zE (fun t20:Bool=>(QF s15 t18 kb16) t20=some r) (fun t20=>mk [(8,(.one (.sl 320832 0 t10.length))),(12,(.one (.sl 321024 0 s15.1.length))),(13,(oI t18)),(14,(oI s15.2.2)),(82,(oB t20))] [(320832,(.data 1 (List.map yg t10) true none)),(321024,(.data 2 (List.map zd s15.1) true none))] noG) ?_ ?_
        ·intro t20 H
         unfold QF at H
         rcases zA H with⟨h22,H⟩|⟨h22,H⟩
         ·refine zi rfl h22 (aV (za rfl (za rfl (za rfl (Xv (cs:=[(dI t18),(dI s15.2.2)]) (jN rfl (jN eZ kD)) rfl (za3 (m:=5568) (q:=1) (cs:=[(dI t18),(dI s15.2.2)]) rfl (jN eZ kD) rfl (List.cons_ne_nil _ _) (by simp) (nR rfl) ?_))))))
          obtain⟨h23,H⟩:=z6 H
          exact zlD (f:=zd) (xs:=s15.1) (ys:=[(ze.mk t18 s15.2.2)]) (q:=(s15.1++([(ze.mk t18 s15.2.2)])).length) rfl eZ (bR rfl) rfl (El.one (f:=zd) (t:=(ze.mk t18 s15.2.2)) (es:=[(.int .i64 t18),(.int .i64 s15.2.2)]) bZ rfl rfl rfl) rfl h23 (by decide) (by decide) (erL.cons (v':=(.one (.sl 5568 0 1))) rfl (erL.cons (v':=(.agg [(dI t18),(dI s15.2.2)])) rfl (erL.cons (v':=(oI s15.2.2)) rfl (erL.cons (v':=(oI t18)) rfl (erL.cons (v':=(.one .any)) rfl (erL.cons (v':=(.one (.sl 320832 0 t10.length))) rfl (erL.cons (v':=(.one .any)) rfl (erL.cons (v':=(oI t18)) rfl (erL.cons (v':=(oI s15.2.2)) rfl (erL.cons (v':=(oB t20)) rfl erL.nil)))))))))) (erH.cons (v':=(.vars 2 [(dI t18),(dI s15.2.2)])) rfl rfl (erH.cons (v':=(.data 1 (List.map yg t10) true none)) rfl rfl (erH.drop rfl erH.nil))) (za eZ (xQ (aR (za eC (zm (BQ.qn (TQ.qn (aR (za rfl (qg eZ eC (za eZ (zm (TQ.qn ⟨((s15.1++([(ze.mk t18 s15.2.2)])),(-1),(IntKind.wrap .i64 (s15.2.2+1))),H,(zg [5568] (sR rfl rfl) (blR rfl) (bkR rfl rfl rfl))⟩)))))))))))))
         ·exact zh rfl (nt h22) (AW.skip (BQ.qn (TQ.qn (aR (za rfl (qg eZ eC (za eZ (zm (TQ.qn ⟨(s15.1,t18,(IntKind.wrap .i64 (s15.2.2+1))),H,(zg [] (sR rfl rfl) (blR rfl) (bkR rfl rfl rfl))⟩)))))))))
        ·refine aR (za eZ (za rfl ?_))
         obtain⟨v24,h25,H⟩:=zk H
         refine Xr rfl eZ bZ rfl h25 (zhu (t:=v24) (e:=(.bool v24)) eZ bZ (yD h25) rfl rfl (qI eZ (za eZ ?_)))
         rcases zA H with⟨h26,H⟩|⟨h26,H⟩
         ·exact zb eZ (cN h26) rfl (zb rfl (cN h26) rfl (zJ rfl (cN h26) eC (zm (TQ.qn ⟨false,H,(zg [] (sR rfl rfl) (blR rfl) (bkR rfl rfl rfl))⟩))))
         ·exact gDo eZ (cN (nt h26)) (za rfl (gDo rfl (cN (nt h26)) (XA eZ eC (zC rfl (cN (nt h26)) eZ (zm (TQ.qn ⟨(decide (0≤t18)),H,(zg [] (sR rfl rfl) (blR rfl) (bkR rfl rfl rfl))⟩))))))
       ·refine zE (fun t27:Bool=>(Qs (ZC t10 s15 kb16) s15) t27=some r) (fun t27=>mk [(8,(.one (.sl 320832 0 t10.length))),(12,(.one (.sl 321024 0 s15.1.length))),(13,(oI s15.2.1)),(14,(oI s15.2.2)),(72,(oB t27))] [(320832,(.data 1 (List.map yg t10) true none)),(321024,(.data 2 (List.map zd s15.1) true none))] noG) ?_ ?_
        ·intro t27 H
         unfold Qs at H
         rcases zA H with⟨h29,H⟩|⟨h29,H⟩
         ·exact zi rfl h29 (aR (za rfl (za eZ (zm (TQ.qn ⟨s15.2.2,H,(zg [] (sR rfl rfl) (blR rfl) (bkR rfl rfl rfl))⟩)))))
         ·exact zh rfl (nt h29) (AW.skip (TQ.qn ⟨s15.2.1,H,(zg [] (sR rfl rfl) (blR rfl) (bkR rfl rfl rfl))⟩))
        ·refine aR (za rfl (za rfl ?_))
         obtain⟨v30,h31,H⟩:=zk H
         refine Xr rfl eZ (bR rfl) rfl h31 (zhu (t:=v30) (e:=(.bool v30)) eZ (bR rfl) (yD h31) rfl rfl (za eZ ?_))
         rcases zA H with⟨h32,H⟩|⟨h32,H⟩
         ·exact gDo eZ h32 (za rfl (gDo rfl h32 (qi eZ eC (zC rfl h32 eZ (zm (TQ.qn ⟨(decide (s15.2.1 < 0)),H,(zg [] (sR rfl rfl) (blR rfl) (bkR rfl rfl rfl))⟩))))))
         ·exact zb eZ (nt h32) rfl (zb rfl (nt h32) rfl (zJ rfl (nt h32) eC (zm (TQ.qn ⟨false,H,(zg [] (sR rfl rfl) (blR rfl) (bkR rfl rfl rfl))⟩))))
      ·exact zh eZ (dF h17) (AW.exit (TQ.qe (TQ.qe (BQ.qe (TQ.qn ⟨s15.1,H,((zg [320832] (sR rfl rfl) (blR rfl) (bkR rfl rfl rfl)).trans (ZS 321024 320960 rfl rfl (nR rfl)))⟩)))))
    ·refine aV (zf (m:=0) rfl rfl (zl (q:=0) (c:=(dI a2.Lo)) eZ (bR rfl) rfl rfl (za eZ (xQ (AW.block (AW.iter (fun s33:((List Bool)×Int)=>mk [(2,(oB a3)),(4,(.one (.ptr (.nm 256 0 0)))),(8,(.one (.sl 321088 0 s33.1.length))),(11,(oI s33.2))] [(321088,(.data 1 (List.map yg s33.1) true none)),(256,(.vars 2 [(dI a2.Lo),(dI a2.Hi)]))] noG) H ((zg [] (sR rfl rfl) (blR rfl) (bkR rfl rfl rfl)).trans (ZS 320704 321088 rfl rfl (nR rfl))) ?_))))))
     intro kb34 s33 H
     unfold xi at H
     refine aS (aV (za rfl (zf (m:=1) rfl rfl (zl (q:=1) (c:=(dI a2.Hi)) eZ (bR rfl) rfl rfl (qi rfl eZ (xQ ?_))))))
     rcases zA H with⟨h35,H⟩|⟨h35,H⟩
     ·refine zi eZ (dT h35) (AW.skip (TQ.qn (aS (AW.block (aR (za rfl (za rfl (za rfl ?_))))))))
      obtain⟨v36,h37,H⟩:=zk H
      exact Xr rfl rfl bZ rfl h37 (yO (t:=v36) (t':=a3) (es:=[(.bool a3)]) eZ rfl rfl rfl bZ (yD h37) rfl rfl (zm (BQ.qn (TQ.qn (aR (za rfl (qg eZ eC (za eZ (zm (TQ.qn ⟨(s33.1.set (Int.toNat s33.2) a3,(IntKind.wrap .i64 (s33.2+1))),H,(zg [] (kR rfl rfl (kR rfl rfl (SL.cons (eR rfl) rfl (VWk.one (CWk.len (by first|(simp;done)|(simp;omega)|omega|(simp only[List.length_map];omega)))) (sR rfl rfl)))) (blR rfl) (bkR rfl rfl rfl))⟩))))))))))
     ·exact zh eZ (dF h35) (AW.exit (TQ.qe (TQ.qe (BQ.qe (TQ.qn ⟨s33.1,H,((zg [256] (sR rfl rfl) (blR rfl) (bkR rfl rfl rfl)).trans (ZS 321088 320832 rfl rfl (nR rfl)))⟩)))))
   ·refine aV (za eC (xQ (AW.block (AW.iter (fun s38:((List Bool)×Int)=>mk [(0,(.one (.d (.sl 2 (List.map zd a1))))),(2,(oB a3)),(4,(.one (.ptr (.nm 256 0 0)))),(8,(.one (.sl 321344 0 s38.1.length))),(9,(oI s38.2))] [(321344,(.data 1 (List.map yg s38.1) true none)),(256,(.vars 2 [(dI a2.Lo),(dI a2.Hi)]))] noG) H ((zg [] (kR rfl rfl (kR rfl rfl (kR rfl rfl (SL.cons (eR rfl) rfl (VWk.one (CWk.len (by first|(simp;done)|(simp;omega)|omega|(simp only[List.length_map];omega)))) (sR rfl rfl))))) (blR rfl) (bkR rfl rfl rfl)).trans (ZS 1536 321344 rfl rfl (nR rfl))) ?_))))
    intro kb39 s38 H
    unfold Qm at H
    refine aS (aV (za rfl (za rfl (zX eZ (n:=a1.length) lm (qi rfl eZ (xQ ?_))))))
    rcases zA H with⟨h40,H⟩|⟨h40,H⟩
    ·refine zi eZ (dT h40) (AW.skip (TQ.qn (zE (fun t41:(List Bool)=>(QN kb39 s38) t41=some r) (fun t41=>mk [(0,(.one (.d (.sl 2 (List.map zd a1))))),(2,(oB a3)),(4,(.one (.ptr (.nm 256 0 0)))),(8,(.one (.sl 321664 0 t41.length))),(9,(oI s38.2))] [(321664,(.data 1 (List.map yg t41) true none)),(256,(.vars 2 [(dI a2.Lo),(dI a2.Hi)]))] noG) ?_ ?_)))
     ·intro t41 H
      unfold QN at H
      exact aR (za rfl (qg eZ eC (za eZ (zm (TQ.qn ⟨(t41,(IntKind.wrap .i64 (s38.2+1))),H,((zg [] (sR rfl rfl) (blR rfl) (bkR rfl rfl rfl)).trans (ZS 321664 321344 rfl rfl (nR rfl)))⟩)))))
     ·refine AW.block (aV (za rfl (za rfl ?_)))
      obtain⟨v43,h44,H⟩:=zk H
      refine qt rfl eZ h44 (qa (m:=0) eZ rfl (zY (e:=(.int .i64 v43.Lo)) eZ rfl (za eZ (xQ (AW.block (AW.iter (fun s45:((List Bool)×Int)=>mk [(0,(.one (.d (.sl 2 (List.map zd a1))))),(2,(oB a3)),(4,(.one (.ptr (.nm 256 0 0)))),(8,(.one (.sl 321728 0 s45.1.length))),(9,(oI s38.2)),(10,(oI s45.2))] [(321728,(.data 1 (List.map yg s45.1) true none)),(256,(.vars 2 [(dI a2.Lo),(dI a2.Hi)]))] noG) H ((zg [] (sR rfl rfl) (blR rfl) (bkR rfl rfl rfl)).trans (ZS 321344 321728 rfl rfl (nR rfl))) ?_))))))
      intro kb46 s45 H
      unfold Y2 at H
      refine aS (aV (za rfl (za rfl (za rfl ?_))))
      obtain⟨v47,h48,H⟩:=zk H
      refine qt rfl eZ h48 (qa (m:=1) eZ rfl (zY (e:=(.int .i64 v47.Hi)) eZ rfl (qi rfl eZ (xQ ?_))))
      rcases zA H with⟨h49,H⟩|⟨h49,H⟩
      ·refine zi eZ (dT h49) (AW.skip (TQ.qn (aS (AW.block (aR (za rfl (za rfl ?_)))))))
       obtain⟨v50,h51,H⟩:=zk H
       exact Xr rfl eZ bZ rfl h51 (yO (t:=v50) (t':=true) (es:=[(.bool true)]) eZ eC rfl rfl bZ (yD h51) rfl rfl (zm (BQ.qn (TQ.qn (AW.weaken (zg [] (kr 0 rfl rfl (kr 2 rfl rfl (kr 4 rfl rfl (kr 8 rfl rfl (kr 9 rfl rfl (kr 10 rfl rfl SL.nil)))))) (blR rfl) (BK.cons (n:=321728) rfl bZ rfl rfl (BK.cons (n:=256) rfl (bR rfl) rfl rfl BK.nil))) (aR (za rfl (qg eZ eC (za eZ (zm (TQ.qn ⟨(s45.1.set (Int.toNat s45.2) true,(IntKind.wrap .i64 (s45.2+1))),H,(zg [] (kR rfl rfl (kR rfl rfl (kR rfl rfl (SL.cons (eR rfl) rfl (VWk.one (CWk.len (by first|(simp;done)|(simp;omega)|omega|(simp only[List.length_map];omega)))) (sR rfl rfl))))) (blR rfl) (bkR rfl rfl rfl))⟩)))))))))))
      ·exact zh eZ (dF h49) (AW.exit (TQ.qe (TQ.qe (BQ.qe (BQ.qn (TQ.qn ⟨s45.1,H,((zg [] (sR rfl rfl) (blR rfl) (bkR rfl rfl rfl)).trans (ZS 321728 321664 rfl rfl (nR rfl)))⟩))))))
    ·exact zh eZ (dF h40) (AW.exit (TQ.qe (TQ.qe (BQ.qe (TQ.qn ⟨s38.1,H,((zg [] (sR rfl rfl) (blR rfl) (bkR rfl rfl rfl)).trans (ZS 321344 320704 rfl rfl (nR rfl)))⟩)))))
 ·refine aR (za rfl ?_)
  obtain⟨v52,h53,H⟩:=zk H
  refine zD (u:=(oB v52)) eC Cl.fn (kj h53) (Ec eZ En) (Vc Vp Vn) rfl (qI eZ (za eZ ?_))
  rcases zA H with⟨h54,H⟩|⟨h54,H⟩
  ·refine gDo eZ (cN h54) (zM (es:=[(dI a2.Lo),(dI a2.Hi)]) rfl bZ rfl (gDo rfl (cN h54) ?_))
   obtain⟨v55,h56,H⟩:=zk H
   exact zD (u:=(oB v55)) eC Cl.fn (jG h56) (Ec eZ En) (Vc (VD.agg rfl) Vn) rfl (gDo rfl (cN h54) (qI eZ (zJ rfl (cN h54) eZ (zm (TQ.qn ⟨(!v55),H,(zg [] (sR rfl rfl) (blR rfl) (bkR rfl rfl rfl))⟩)))))
  ·exact zb eZ (cN (nt h54)) rfl (zb rfl (cN (nt h54)) rfl (zb rfl (cN (nt h54)) rfl (zC rfl (cN (nt h54)) eC (zm (TQ.qn ⟨true,H,(zg [] (sR rfl rfl) (blR rfl) (bkR rfl rfl rfl))⟩)))))
theorem zab{a1:(List ze)}{a2:ze}{r:((List ze)×Bool)}(H:y5 a1 a2=some r):Fn Tryz.prog 83 (lent [(.sl 2 (List.map zd a1)),(.agg (zd a2))]) true [(.sl 2 (List.map zd r.1)),(.bool r.2)]:=by
 refine f83 (fle rfl) ?_
 rw[zx]
 refine AW.weaken (zg [] (kv 0 (.one (.d (.sl 2 (List.map zd a1)))) rfl rfl (kv 1 (.agg [(dI a2.Lo),(dI a2.Hi)]) rfl rfl SL.nil)) BL.nil BK.nil) ?_
 unfold y5 at H
 unfold i83
 refine aV (qY (n:=192) (m:=2) (cs:=[(dI a2.Lo),(dI a2.Hi)]) rfl rfl rfl rfl nZ (za eC (za eC (xQ (aV (za rfl (zM (es:=[(dI a2.Lo),(dI a2.Hi)]) rfl bZ rfl ?_)))))))
 obtain⟨v3,h4,H⟩:=zk H
 refine ju (u:=(.tup [(.one (.sl 704 0 v3.1.length)),(oB v3.2)])) (bs:=[(704,(.data 2 (List.map zd v3.1) true none))]) eC Cl.fn (zfG h4) (Ec rfl (Ec eZ (Ec eC En))) (Vc Vp (Vc (VD.agg rfl) (Vc Vp Vn))) (by simp[qZ,jC,qq,jn,qy]) rfl (fC (nR rfl) rfl (fC (nR rfl) rfl fN)) (za eZ (kI (v:=(.one (.sl 704 0 v3.1.length))) eZ rfl (kI (v:=(oB v3.2)) rfl rfl (za rfl (za rfl (xQ (aV (za rfl (za rfl (za rfl (za rfl (xQ (AW.weaken (zg [192] (kr 5 rfl rfl (kr 4 rfl rfl SL.nil)) (blR rfl) (BK.cons (n:=704) rfl bZ rfl rfl BK.nil)) (AW.ret ?_))))))))))))))
 cases H
 exact qK (RL.cons (RV.tmp rfl) (VO.sl bZ lm (zy fun _=>rfl)) (RL.cons (RV.tmp eZ) (VO.flat rfl) RL.nil)) (by decide)
theorem zf8{a1:(List zn)}{a2:ze}{a3:Bool}{r:(List zn)}(H:Ye a1 a2 a3=some r):Fn Tryz.prog 215 (lent [(.sl 2 (List.map zj a1)),(.agg (zd a2)),(.bool a3)]) true [(.sl 2 (List.map zj r))]:=by
 refine f215 (fle rfl) ?_
 rw[zx]
 refine AW.weaken (zg [] (kv 0 (.one (.d (.sl 2 (List.map zj a1)))) rfl rfl (kv 1 (.agg [(dI a2.Lo),(dI a2.Hi)]) rfl rfl (kv 2 (oB a3) rfl rfl SL.nil))) BL.nil BK.nil) ?_
 unfold Ye at H
 unfold zCG
 refine aV (qY (n:=256) (m:=2) (cs:=[(dI a2.Lo),(dI a2.Hi)]) rfl rfl rfl rfl nZ (za eC (xQ (aV (yF (m:=576) rfl (nR rfl) (za eZ (xQ (zE (fun t4:(List zn)=>ZY t4=some r) (fun t4=>mk [(7,(.one (.sl 320128 0 t4.length)))] [(320128,(.data 2 (List.map zj t4) true none))] noG) ?_ ?_))))))))
 ·intro t4 H
  unfold ZY at H
  refine aV (za eZ (za eZ (xQ (AW.ret ?_))))
  obtain rfl:=(Option.some.inj H)
  exact qK (RL.cons (RV.tmp eZ) (VO.sl bZ lm (zy fun _=>rfl)) RL.nil) (by decide)
 ·refine aV (za eC (xQ (AW.block (AW.iter (fun s6:((List zn)×Int)=>mk [(0,(.one (.d (.sl 2 (List.map zj a1))))),(2,(oB a3)),(4,(.one (.ptr (.nm 256 0 0)))),(7,(.one (.sl 320192 0 s6.1.length))),(8,(oI s6.2))] [(320192,(.data 2 (List.map zj s6.1) true none)),(256,(.vars 2 [(dI a2.Lo),(dI a2.Hi)]))] noG) H ((zg [] (kR rfl rfl (kR rfl rfl (kR rfl rfl (SL.cons eZ rfl (VWk.one (CWk.len (by first|(simp;done)|(simp;omega)|omega|(simp only[List.length_map];omega)))) (sR rfl rfl))))) (blR rfl) (bkR rfl rfl rfl)).trans (zlB 320192 2 7 true rfl (nR rfl))) ?_))))
  intro kb7 s6 H
  unfold Z0 at H
  refine aS (aV (za rfl (za rfl (zX eZ (n:=a1.length) lm (qi rfl eZ (za eZ ?_))))))
  rcases zA H with⟨h8,H⟩|⟨h8,H⟩
  ·refine gDo eZ (dT h8) (za rfl (gDo rfl (dT h8) ?_))
   obtain⟨v9,h10,H⟩:=zk H
   refine zD (u:=(oB v9)) eC Cl.fn (KO h10) (Ec eZ En) (Vc Vp Vn) rfl (zC rfl (dT h8) eZ (za eZ ?_))
   rcases zA H with⟨h11,H⟩|⟨h11,H⟩
   ·refine gDo eZ h11 (zM (es:=[(dI a2.Lo),(dI a2.Hi)]) rfl (bR rfl) rfl (gDo rfl h11 ?_))
    obtain⟨v12,h13,H⟩:=zk H
    refine zD (u:=(oB v12)) eC Cl.fn (jG h13) (Ec eZ En) (Vc (VD.agg rfl) Vn) rfl (zC rfl h11 eZ (xQ (AW.weaken (zg [] (kr 21 rfl rfl (kr 0 rfl rfl (kr 2 rfl rfl (kr 4 rfl rfl (kr 7 rfl rfl (kr 8 rfl rfl SL.nil)))))) (blR rfl) (BK.cons (n:=320192) rfl bZ rfl rfl (BK.cons (n:=256) rfl (bR rfl) rfl rfl BK.nil))) ?_)))
    rcases zA H with⟨h14,H⟩|⟨h14,H⟩
    ·refine zi eZ h14 (AW.skip (TQ.qn (aS (AW.block (aS (AW.regd (za rfl (za rfl ?_))))))))
     obtain⟨v15,h16,H⟩:=zk H
     refine qt rfl eZ h16 (qa (m:=0) eZ rfl (zY (e:=(.int .i64 v15.Key)) eZ rfl (zf (m:=0) rfl rfl (zl (q:=0) (c:=(dI a2.Lo)) eZ (bR rfl) rfl rfl (zf (m:=1) rfl rfl (zl (q:=1) (c:=(dI a2.Hi)) eZ (bR rfl) rfl rfl (zaF eZ eC ?_)))))))
     obtain⟨v17,h18,H⟩:=zk H
     refine zD (u:=(oB v17)) eC Cl.fn (QU h18) (Ec rfl (Ec rfl (Ec eZ En))) (Vc Vp (Vc Vp (Vc Vp Vn))) rfl (za rfl (zGX rfl eZ (xQ (AW.weaken (zg [] (kr 36 rfl rfl (kr 0 rfl rfl (kr 2 rfl rfl (kr 4 rfl rfl (kr 7 rfl rfl (kr 8 rfl rfl SL.nil)))))) (blR rfl) (BK.cons (n:=320192) rfl bZ rfl rfl (BK.cons (n:=256) rfl (bR rfl) rfl rfl BK.nil))) ?_))))
     rcases zA H with⟨h19,H⟩|⟨h19,H⟩
     ·refine zi eZ h19 (aR (za rfl (za rfl (za rfl ?_))))
      obtain⟨v20,h21,H⟩:=zk H
      refine qt rfl eZ h21 (zZ (es:=[(dI v20.Key),(dI v20.Value)]) eZ rfl (za3 (m:=2688) (q:=1) (cs:=[(dI v20.Key),(dI v20.Value)]) rfl (jN eZ kD) rfl (List.cons_ne_nil _ _) (by simp) (nR rfl) ?_))
      obtain⟨h22,H⟩:=z6 H
      exact zlD (f:=zj) (xs:=s6.1) (ys:=[v20]) (q:=(s6.1++([v20])).length) rfl eZ (bR rfl) rfl (El.one (f:=zj) (t:=v20) (es:=[(.int .i64 v20.Key),(.int .i64 v20.Value)]) bZ rfl rfl rfl) rfl h22 (by decide) (by decide) (erL.cons (v':=(.one (.sl 2688 0 1))) rfl (erL.cons (v':=(.agg [(dI v20.Key),(dI v20.Value)])) rfl (erL.cons (v':=(.one (.ptr (.bd (zj v20) 0)))) rfl (erL.cons (v':=(oI s6.2)) rfl (erL.cons (v':=(.one (.d (.sl 2 (List.map zj a1))))) rfl (erL.cons (v':=(.one .any)) rfl (erL.cons (v':=(oB (v17 == a3))) rfl (erL.cons (v':=(.one (.d (.sl 2 (List.map zj a1))))) rfl (erL.cons (v':=(oB a3)) rfl (erL.cons (v':=(.one (.ptr (.nm 256 0 0)))) rfl (erL.cons (v':=(.one .any)) rfl (erL.cons (v':=(oI s6.2)) rfl erL.nil)))))))))))) (erH.cons (v':=(.vars 2 [(dI v20.Key),(dI v20.Value)])) rfl rfl (erH.drop rfl (erH.cons (v':=(.vars 2 [(dI a2.Lo),(dI a2.Hi)])) rfl rfl erH.nil))) (za eZ (zm (BQ.qn (TQ.qn (aR (za rfl (qg eZ eC (za eZ (zm (TQ.qn ⟨((s6.1++([v20])),(IntKind.wrap .i64 (s6.2+1))),H,(zg [2688] (sR rfl rfl) (blR rfl) (bkR rfl rfl rfl))⟩))))))))))
     ·exact zh eZ (nt h19) (AW.skip (BQ.qn (TQ.qn (aR (za rfl (qg eZ eC (za eZ (zm (TQ.qn ⟨(s6.1,(IntKind.wrap .i64 (s6.2+1))),H,(zg [] (sR rfl rfl) (blR rfl) (bkR rfl rfl rfl))⟩)))))))))
    ·exact zh eZ (nt h14) (AW.exit (TQ.qe (TQ.qe (BQ.qe (TQ.qn ⟨s6.1,H,((zg [256] (sR rfl rfl) (blR rfl) (bkR rfl rfl rfl)).trans (ZS 320192 320128 rfl rfl (nR rfl)))⟩)))))
   ·exact zb eZ (nt h11) rfl (zb rfl (nt h11) rfl (zJ rfl (nt h11) eC (xQ (AW.weaken (zg [] (kr 21 rfl rfl (kr 0 rfl rfl (kr 2 rfl rfl (kr 4 rfl rfl (kr 7 rfl rfl (kr 8 rfl rfl SL.nil)))))) (blR rfl) (BK.cons (n:=320192) rfl bZ rfl rfl (BK.cons (n:=256) rfl (bR rfl) rfl rfl BK.nil))) (zh eZ rfl (AW.exit (TQ.qe (TQ.qe (BQ.qe (TQ.qn ⟨s6.1,H,((zg [256] (sR rfl rfl) (blR rfl) (bkR rfl rfl rfl)).trans (ZS 320192 320128 rfl rfl (nR rfl)))⟩))))))))))
  ·exact zb eZ (dF h8) rfl (zb rfl (dF h8) rfl (zJ rfl (dF h8) eC (za eZ (zb eZ rfl rfl (zb rfl rfl rfl (zJ rfl rfl eC (xQ (AW.weaken (zg [] (kr 21 rfl rfl (kr 0 rfl rfl (kr 2 rfl rfl (kr 4 rfl rfl (kr 7 rfl rfl (kr 8 rfl rfl SL.nil)))))) (blR rfl) (BK.cons (n:=320192) rfl bZ rfl rfl (BK.cons (n:=256) rfl (bR rfl) rfl rfl BK.nil))) (zh eZ rfl (AW.exit (TQ.qe (TQ.qe (BQ.qe (TQ.qn ⟨s6.1,H,((zg [256] (sR rfl rfl) (blR rfl) (bkR rfl rfl rfl)).trans (ZS 320192 320128 rfl rfl (nR rfl)))⟩))))))))))))))
theorem zex{a1:(List zn)}{a2:ze}{r:(List zn)}(H:Ji a1 a2=some r):Fn Tryz.prog 109 (lent [(.sl 2 (List.map zj a1)),(.agg (zd a2))]) true [(.sl 2 (List.map zj r))]:=by
 refine zGx (fle rfl) ?_
 rw[zx]
 refine AW.weaken (zg [] (kv 0 (.one (.d (.sl 2 (List.map zj a1)))) rfl rfl (kv 1 (.agg [(dI a2.Lo),(dI a2.Hi)]) rfl rfl SL.nil)) BL.nil BK.nil) ?_
 unfold Ji at H
 unfold zDD
 refine aV (qY (n:=192) (m:=2) (cs:=[(dI a2.Lo),(dI a2.Hi)]) rfl rfl rfl rfl nZ (za eC (xQ (aV (za rfl (zM (es:=[(dI a2.Lo),(dI a2.Hi)]) rfl bZ rfl ?_))))))
 obtain⟨v3,h4,H⟩:=zk H
 refine ju (u:=(.one (.sl 448 0 v3.length))) (bs:=[(448,(.data 2 (List.map zj v3) true none))]) eC Cl.fn (zf8 h4) (Ec rfl (Ec eZ (Ec eC En))) (Vc Vp (Vc (VD.agg rfl) (Vc Vp Vn))) (by simp[qZ,jC,qq,jn,qy]) rfl (fC (nR rfl) rfl (fC (nR rfl) rfl fN)) (za eZ (xQ (AW.ret ?_)))
 obtain rfl:=(Option.some.inj H)
 exact qK (RL.cons (RV.tmp eZ) (VO.sl bZ lm (zy fun _=>rfl)) RL.nil) (by decide)
theorem zeb{a1:zo}{a2:Int}{a3:ze}{r:(zo×Int)}(H:QI a1 a2 a3=some r):Fn Tryz.prog 26 (lent [(.agg (zR a1)),(.int .i64 a2),(.agg (zd a3))]) true [(.agg (zR r.1)),(.int .i64 r.2)]:=by
 refine f26 (fle rfl) ?_
 rw[zx]
 refine AW.weaken (t:=mk [(0,(.agg (zF a1))),(1,(oI a2)),(2,(.agg [(dI a3.Lo),(dI a3.Hi)]))] [] (lk [])) (zg [] (sR rfl rfl) BL.nil BK.nil) ?_
 unfold QI at H
 unfold i26
 refine aV (qY (n:=192) (m:=9) (cs:=(zF a1)) rfl eZ rfl rfl nZ (qY (n:=320) (m:=2) (cs:=[(dI a3.Lo),(dI a3.Hi)]) rfl rfl rfl rfl (nR rfl) (Zh (n:=384) (m:=9) rfl rfl (nR rfl) (za eC (xQ (aV (zM (es:=(zF a1)) rfl (bR rfl) rfl (za rfl (zM (es:=[(dI a3.Lo),(dI a3.Hi)]) rfl (bR rfl) rfl ?_)))))))))
 obtain⟨v4,h5,H⟩:=zk H
 refine zD (u:=(oI v4)) eC Cl.fn (zfh h5) (Ec rfl (Ec rfl (Ec eZ En))) (Vc (VD.agg rfl) (Vc Vp (Vc (VD.agg rfl) Vn))) rfl (za eZ (xQ (aS (aV (za eZ (Qh eZ eC (xQ ?_)))))))
 rcases zA H with⟨h6,H⟩|⟨h6,H⟩
 ·refine zi eZ (dT h6) (aS (zW (zw (zM (es:=(zF a1)) rfl (bR rfl) rfl (zm (zw (za rfl (zm (zw ?_)))))))))
  obtain⟨v7,h8,H⟩:=zk H
  refine ju (u:=(.agg [(dI v7.Me),(.sl 1665 0 v7.Own.length),(.sl 1666 0 v7.Frozen.length),(.sl 1667 0 v7.Cells.length),(.sl 1668 0 v7.Locks.length),(.sl 1669 0 v7.Helds.length),(.sl 1670 0 v7.Wounded.length),(.sl 1671 0 v7.Ended.length),(dI v7.Rank)])) (bs:=[(1665,(.data 2 (List.map zd v7.Own) true none)),(1666,(.data 2 (List.map zd v7.Frozen) true none)),(1667,(.data 2 (List.map zj v7.Cells) true none)),(1668,(.data 4 (List.map zp v7.Locks) true none)),(1669,(.data 2 (List.map zB v7.Helds) true none)),(1670,(.data 1 (List.map zt v7.Wounded) true none)),(1671,(.data 1 (List.map zt v7.Ended) true none))]) eC Cl.fn (zdz h8) (Ec rfl (Ec eZ En)) (Vc (VD.agg rfl) (Vc Vp Vn)) (by simp[qZ,jC,qq,jn,qy]) rfl (fC (nR rfl) rfl (fC (nR rfl) rfl (fC (nR rfl) rfl (fC (nR rfl) rfl (fC (nR rfl) rfl (fC (nR rfl) rfl (fC (nR rfl) rfl (fC (nR rfl) rfl fN)))))))) (zm (zw (za rfl (zm (zw (zO (es:=[(dI v7.Me),(.sl 1665 0 v7.Own.length),(.sl 1666 0 v7.Frozen.length),(.sl 1667 0 v7.Cells.length),(.sl 1668 0 v7.Locks.length),(.sl 1669 0 v7.Helds.length),(.sl 1670 0 v7.Wounded.length),(.sl 1671 0 v7.Ended.length),(dI v7.Rank)]) rfl rfl rfl rfl (bR rfl) rfl (zm (z7 (za eZ (xQ (AW.weaken (zI [320,192] (kr 7 rfl rfl (kr 6 rfl rfl SL.nil)) (blR rfl) (BK.cons (n:=384) rfl bZ rfl rfl (BK.cons (n:=1671) rfl (bR rfl) rfl rfl (BK.cons (n:=1670) rfl (bR rfl) rfl rfl (BK.cons (n:=1669) rfl (bR rfl) rfl rfl (BK.cons (n:=1668) rfl (bR rfl) rfl rfl (BK.cons (n:=1667) rfl (bR rfl) rfl rfl (BK.cons (n:=1666) rfl (bR rfl) rfl rfl (BK.cons (n:=1665) rfl (bR rfl) rfl rfl BK.nil)))))))) GK.nil) (AW.ret (TQ.qr ?_)))))))))))))
  cases H
  exact qK (RL.cons (jg (es:=[(dI v7.Me),(.sl 1665 0 v7.Own.length),(.sl 1666 0 v7.Frozen.length),(.sl 1667 0 v7.Cells.length),(.sl 1668 0 v7.Locks.length),(.sl 1669 0 v7.Helds.length),(.sl 1670 0 v7.Wounded.length),(.sl 1671 0 v7.Ended.length),(dI v7.Rank)]) rfl bZ rfl) (VO.aggs (VOs.cons (VO.flat rfl) (VOs.cons (VO.sl (bR rfl) lm (zy fun _=>rfl)) (VOs.cons (VO.sl (bR rfl) lm (zy fun _=>rfl)) (VOs.cons (VO.sl (bR rfl) lm (zy fun _=>rfl)) (VOs.cons (VO.sl (bR rfl) lm (zy fun _=>rfl)) (VOs.cons (Qf (bR rfl) lm rfl) (VOs.cons (VO.sl (bR rfl) lm (zy fun _=>rfl)) (VOs.cons (VO.sl (bR rfl) lm (zy fun _=>rfl)) (VOs.cons (VO.flat rfl) VOs.nil)))))))))) (RL.cons (RV.tmp eZ) (VO.flat rfl) RL.nil)) (by decide)
 ·refine zh eZ (dF h6) (AW.skip (TQ.qn (aS (zW (zw (zM (es:=(zF a1)) rfl (bR rfl) rfl (zm (zw ?_))))))))
  obtain⟨v9,h10,H⟩:=zk H
  refine ju (u:=(.agg [(dI v9.Me),(.sl 1857 0 v9.Own.length),(.sl 1858 0 v9.Frozen.length),(.sl 1859 0 v9.Cells.length),(.sl 1860 0 v9.Locks.length),(.sl 1861 0 v9.Helds.length),(.sl 1862 0 v9.Wounded.length),(.sl 1863 0 v9.Ended.length),(dI v9.Rank)])) (bs:=[(1857,(.data 2 (List.map zd v9.Own) true none)),(1858,(.data 2 (List.map zd v9.Frozen) true none)),(1859,(.data 2 (List.map zj v9.Cells) true none)),(1860,(.data 4 (List.map zp v9.Locks) true none)),(1861,(.data 2 (List.map zB v9.Helds) true none)),(1862,(.data 1 (List.map zt v9.Wounded) true none)),(1863,(.data 1 (List.map zt v9.Ended) true none))]) eC Cl.fn (zbS h10) (Ec eZ En) (Vc (VD.agg rfl) Vn) (by simp[qZ,jC,qq,jn,qy]) rfl (fC (nR rfl) rfl (fC (nR rfl) rfl (fC (nR rfl) rfl (fC (nR rfl) rfl (fC (nR rfl) rfl (fC (nR rfl) rfl (fC (nR rfl) rfl (fC (nR rfl) rfl fN)))))))) (zm (zw (Zh (n:=576) (m:=9) rfl rfl (nR rfl) (zm (zw (zO (es:=[(dI v9.Me),(.sl 1857 0 v9.Own.length),(.sl 1858 0 v9.Frozen.length),(.sl 1859 0 v9.Cells.length),(.sl 1860 0 v9.Locks.length),(.sl 1861 0 v9.Helds.length),(.sl 1862 0 v9.Wounded.length),(.sl 1863 0 v9.Ended.length),(dI v9.Rank)]) eZ rfl rfl rfl bZ rfl (zm (z7 (xQ (AW.weaken (zI [] (kr 9 rfl rfl (kr 6 rfl rfl (kr 5 rfl rfl (kr 3 rfl rfl (kr 1 rfl rfl SL.nil))))) (blR rfl) (BK.cons (n:=576) rfl bZ rfl rfl (BK.cons (n:=1863) rfl (bR rfl) rfl rfl (BK.cons (n:=1862) rfl (bR rfl) rfl rfl (BK.cons (n:=1861) rfl (bR rfl) rfl rfl (BK.cons (n:=1860) rfl (bR rfl) rfl rfl (BK.cons (n:=1859) rfl (bR rfl) rfl rfl (BK.cons (n:=1858) rfl (bR rfl) rfl rfl (BK.cons (n:=1857) rfl (bR rfl) rfl rfl (BK.cons (n:=384) rfl (bR rfl) rfl rfl (BK.cons (n:=320) rfl (bR rfl) rfl rfl (BK.cons (n:=192) rfl (bR rfl) rfl rfl BK.nil))))))))))) GK.nil) (aS (zE (fun t11:Bool=>(yM v9 a1 a3 a2) t11=some r) (fun t11=>mk [(1,(oI a2)),(3,(.one (.ptr (.nm 192 0 0)))),(5,(.one (.ptr (.nm 320 0 0)))),(6,(.one (.ptr (.nm 384 0 0)))),(9,(.one (.ptr (.nm 576 0 0)))),(40,(oB t11))] [(192,(.vars 9 (zF a1))),(320,(.vars 2 [(dI a3.Lo),(dI a3.Hi)])),(384,(.vars 9 [(dI 0),.zs,.zs,.zs,.zs,.zs,.zs,.zs,(dI 0)])),(576,(.vars 9 [(dI v9.Me),(.sl 1857 0 v9.Own.length),(.sl 1858 0 v9.Frozen.length),(.sl 1859 0 v9.Cells.length),(.sl 1860 0 v9.Locks.length),(.sl 1861 0 v9.Helds.length),(.sl 1862 0 v9.Wounded.length),(.sl 1863 0 v9.Ended.length),(dI v9.Rank)])),(1857,(.data 2 (List.map zd v9.Own) true none)),(1858,(.data 2 (List.map zd v9.Frozen) true none)),(1859,(.data 2 (List.map zj v9.Cells) true none)),(1860,(.data 4 (List.map zp v9.Locks) true none)),(1861,(.data 2 (List.map zB v9.Helds) true none)),(1862,(.data 1 (List.map zt v9.Wounded) true none)),(1863,(.data 1 (List.map zt v9.Ended) true none))] (lk [])) ?_ ?_))))))))))))
  ·intro t11 H
   unfold yM at H
   rcases zA H with⟨h13,H⟩|⟨h13,H⟩
   ·refine zi rfl h13 (aS (zW (zw (zM (es:=[(dI v9.Me),(.sl 1857 0 v9.Own.length),(.sl 1858 0 v9.Frozen.length),(.sl 1859 0 v9.Cells.length),(.sl 1860 0 v9.Locks.length),(.sl 1861 0 v9.Helds.length),(.sl 1862 0 v9.Wounded.length),(.sl 1863 0 v9.Ended.length),(dI v9.Rank)]) rfl (bR rfl) rfl (zm (zw (zO (es:=[(dI v9.Me),(.sl 1857 0 v9.Own.length),(.sl 1858 0 v9.Frozen.length),(.sl 1859 0 v9.Cells.length),(.sl 1860 0 v9.Locks.length),(.sl 1861 0 v9.Helds.length),(.sl 1862 0 v9.Wounded.length),(.sl 1863 0 v9.Ended.length),(dI v9.Rank)]) rfl eZ rfl rfl (bR rfl) rfl (zm (z7 (za eC (xQ (AW.ret (TQ.qr ?_)))))))))))))
    cases H
    exact qK (RL.cons (jg (es:=[(dI v9.Me),(.sl 1857 0 v9.Own.length),(.sl 1858 0 v9.Frozen.length),(.sl 1859 0 v9.Cells.length),(.sl 1860 0 v9.Locks.length),(.sl 1861 0 v9.Helds.length),(.sl 1862 0 v9.Wounded.length),(.sl 1863 0 v9.Ended.length),(dI v9.Rank)]) rfl bZ rfl) (VO.aggs (VOs.cons (VO.flat rfl) (VOs.cons (VO.sl (bR rfl) lm (zy fun _=>rfl)) (VOs.cons (VO.sl (bR rfl) lm (zy fun _=>rfl)) (VOs.cons (VO.sl (bR rfl) lm (zy fun _=>rfl)) (VOs.cons (VO.sl (bR rfl) lm (zy fun _=>rfl)) (VOs.cons (Qf (bR rfl) lm rfl) (VOs.cons (VO.sl (bR rfl) lm (zy fun _=>rfl)) (VOs.cons (VO.sl (bR rfl) lm (zy fun _=>rfl)) (VOs.cons (VO.flat rfl) VOs.nil)))))))))) (RL.cons (RV.tmp eZ) (VO.flat rfl) RL.nil)) (by decide)
   ·refine zh rfl (nt h13) (AW.skip (TQ.qn (aV (za eC (xQ (zE (fun t14:Bool=>(QW a1 a3 v9 a2) t14=some r) (fun t14=>mk [(1,(oI a2)),(3,(.one (.ptr (.nm 192 0 0)))),(5,(.one (.ptr (.nm 320 0 0)))),(6,(.one (.ptr (.nm 384 0 0)))),(9,(.one (.ptr (.nm 576 0 0)))),(10,(oB t14))] [(192,(.vars 9 (zF a1))),(320,(.vars 2 [(dI a3.Lo),(dI a3.Hi)])),(384,(.vars 9 [(dI 0),.zs,.zs,.zs,.zs,.zs,.zs,.zs,(dI 0)])),(576,(.vars 9 [(dI v9.Me),(.sl 1857 0 v9.Own.length),(.sl 1858 0 v9.Frozen.length),(.sl 1859 0 v9.Cells.length),(.sl 1860 0 v9.Locks.length),(.sl 1861 0 v9.Helds.length),(.sl 1862 0 v9.Wounded.length),(.sl 1863 0 v9.Ended.length),(dI v9.Rank)])),(1857,(.data 2 (List.map zd v9.Own) true none)),(1858,(.data 2 (List.map zd v9.Frozen) true none)),(1859,(.data 2 (List.map zj v9.Cells) true none)),(1860,(.data 4 (List.map zp v9.Locks) true none)),(1861,(.data 2 (List.map zB v9.Helds) true none)),(1862,(.data 1 (List.map zt v9.Wounded) true none)),(1863,(.data 1 (List.map zt v9.Ended) true none))] (lk [])) ?_ ?_))))))
    ·intro t14 H
     unfold QW at H
     refine aS (zE (fun t16:Bool=>(ZM v9 a1 a3 a2) t16=some r) (fun t16=>mk [(1,(oI a2)),(3,(.one (.ptr (.nm 192 0 0)))),(5,(.one (.ptr (.nm 320 0 0)))),(6,(.one (.ptr (.nm 384 0 0)))),(9,(.one (.ptr (.nm 576 0 0)))),(71,(oB t16))] [(192,(.vars 9 (zF a1))),(320,(.vars 2 [(dI a3.Lo),(dI a3.Hi)])),(384,(.vars 9 [(dI 0),.zs,.zs,.zs,.zs,.zs,.zs,.zs,(dI 0)])),(576,(.vars 9 [(dI v9.Me),(.sl 1857 0 v9.Own.length),(.sl 1858 0 v9.Frozen.length),(.sl 1859 0 v9.Cells.length),(.sl 1860 0 v9.Locks.length),(.sl 1861 0 v9.Helds.length),(.sl 1862 0 v9.Wounded.length),(.sl 1863 0 v9.Ended.length),(dI v9.Rank)])),(1857,(.data 2 (List.map zd v9.Own) true none)),(1858,(.data 2 (List.map zd v9.Frozen) true none)),(1859,(.data 2 (List.map zj v9.Cells) true none)),(1860,(.data 4 (List.map zp v9.Locks) true none)),(1861,(.data 2 (List.map zB v9.Helds) true none)),(1862,(.data 1 (List.map zt v9.Wounded) true none)),(1863,(.data 1 (List.map zt v9.Ended) true none))] (lk [])) ?_ ?_)
     ·intro t16 H
      unfold ZM at H
      rcases zA H with⟨h18,H⟩|⟨h18,H⟩
      ·refine zi rfl h18 (aS (zW (zw (zM (es:=[(dI v9.Me),(.sl 1857 0 v9.Own.length),(.sl 1858 0 v9.Frozen.length),(.sl 1859 0 v9.Cells.length),(.sl 1860 0 v9.Locks.length),(.sl 1861 0 v9.Helds.length),(.sl 1862 0 v9.Wounded.length),(.sl 1863 0 v9.Ended.length),(dI v9.Rank)]) rfl (bR rfl) rfl (zm (zw (zO (es:=[(dI v9.Me),(.sl 1857 0 v9.Own.length),(.sl 1858 0 v9.Frozen.length),(.sl 1859 0 v9.Cells.length),(.sl 1860 0 v9.Locks.length),(.sl 1861 0 v9.Helds.length),(.sl 1862 0 v9.Wounded.length),(.sl 1863 0 v9.Ended.length),(dI v9.Rank)]) rfl eZ rfl rfl (bR rfl) rfl (zm (z7 (za eC (xQ (AW.ret (TQ.qr ?_)))))))))))))
       cases H
       exact qK (RL.cons (jg (es:=[(dI v9.Me),(.sl 1857 0 v9.Own.length),(.sl 1858 0 v9.Frozen.length),(.sl 1859 0 v9.Cells.length),(.sl 1860 0 v9.Locks.length),(.sl 1861 0 v9.Helds.length),(.sl 1862 0 v9.Wounded.length),(.sl 1863 0 v9.Ended.length),(dI v9.Rank)]) rfl bZ rfl) (VO.aggs (VOs.cons (VO.flat rfl) (VOs.cons (VO.sl (bR rfl) lm (zy fun _=>rfl)) (VOs.cons (VO.sl (bR rfl) lm (zy fun _=>rfl)) (VOs.cons (VO.sl (bR rfl) lm (zy fun _=>rfl)) (VOs.cons (VO.sl (bR rfl) lm (zy fun _=>rfl)) (VOs.cons (Qf (bR rfl) lm rfl) (VOs.cons (VO.sl (bR rfl) lm (zy fun _=>rfl)) (VOs.cons (VO.sl (bR rfl) lm (zy fun _=>rfl)) (VOs.cons (VO.flat rfl) VOs.nil)))))))))) (RL.cons (RV.tmp eZ) (VO.flat rfl) RL.nil)) (by decide)
      ·refine zh rfl (nt h18) (AW.skip (TQ.qn (aV (zf (m:=1) rfl rfl (zl (q:=1) (c:=(.d (.sl 2 (List.map zd a1.Own)))) eZ bZ rfl rfl (zM (es:=[(dI a3.Lo),(dI a3.Hi)]) rfl (bR rfl) rfl ?_))))))
       obtain⟨v19,h20,H⟩:=zk H
       refine ju (u:=(.tup [(.one (.sl 4928 0 v19.1.length)),(oB v19.2)])) (bs:=[(4928,(.data 2 (List.map zd v19.1) true none))]) eC Cl.fn (zab h20) (Ec rfl (Ec eZ En)) (Vc Vp (Vc (VD.agg rfl) Vn)) (by simp[qZ,jC,qq,jn,qy]) rfl (fC (nR rfl) rfl (fC (nR rfl) rfl fN)) (za eZ (kI (v:=(.one (.sl 4928 0 v19.1.length))) eZ rfl (kI (v:=(oB v19.2)) rfl rfl (za rfl (za rfl (xQ (aV (zf (m:=2) rfl rfl (zl (q:=2) (c:=(.d (.sl 2 (List.map zd a1.Frozen)))) eZ (bR rfl) rfl rfl (zM (es:=[(dI a3.Lo),(dI a3.Hi)]) rfl (bR rfl) rfl ?_))))))))))
       obtain⟨v21,h22,H⟩:=zk H
       refine ju (u:=(.tup [(.one (.sl 5376 0 v21.1.length)),(oB v21.2)])) (bs:=[(5376,(.data 2 (List.map zd v21.1) true none))]) eC Cl.fn (zab h22) (Ec rfl (Ec eZ En)) (Vc Vp (Vc (VD.agg rfl) Vn)) (by simp[qZ,jC,qq,jn,qy]) rfl (fC (nR rfl) rfl (fC (nR rfl) rfl fN)) (za eZ (kI (v:=(.one (.sl 5376 0 v21.1.length))) eZ rfl (kI (v:=(oB v21.2)) rfl rfl (za rfl (za rfl (xQ (AW.weaken (zI [] (kr 17 rfl rfl (kr 16 rfl rfl (kr 15 rfl rfl (kr 14 rfl rfl (kr 1 rfl rfl (kr 3 rfl rfl (kr 5 rfl rfl (kr 6 rfl rfl (kr 9 rfl rfl SL.nil))))))))) (blR rfl) (BK.cons (n:=5376) rfl bZ rfl rfl (BK.cons (n:=4928) rfl (bR rfl) rfl rfl (BK.cons (n:=192) rfl (bR rfl) rfl rfl (BK.cons (n:=320) rfl (bR rfl) rfl rfl (BK.cons (n:=384) rfl (bR rfl) rfl rfl (BK.cons (n:=576) rfl (bR rfl) rfl rfl (BK.cons (n:=1857) rfl (bR rfl) rfl rfl (BK.cons (n:=1858) rfl (bR rfl) rfl rfl (BK.cons (n:=1859) rfl (bR rfl) rfl rfl (BK.cons (n:=1860) rfl (bR rfl) rfl rfl (BK.cons (n:=1861) rfl (bR rfl) rfl rfl (BK.cons (n:=1862) rfl (bR rfl) rfl rfl (BK.cons (n:=1863) rfl (bR rfl) rfl rfl BK.nil))))))))))))) GK.nil) (aS (zE (fun t23:Bool=>(ZH v9 a1 a3 v19 v21 a2) t23=some r) (fun t23=>mk [(1,(oI a2)),(3,(.one (.ptr (.nm 192 0 0)))),(5,(.one (.ptr (.nm 320 0 0)))),(6,(.one (.ptr (.nm 384 0 0)))),(9,(.one (.ptr (.nm 576 0 0)))),(14,(.one (.sl 4928 0 v19.1.length))),(16,(.one (.sl 5376 0 v21.1.length))),(92,(oB t23))] [(192,(.vars 9 (zF a1))),(320,(.vars 2 [(dI a3.Lo),(dI a3.Hi)])),(384,(.vars 9 [(dI 0),.zs,.zs,.zs,.zs,.zs,.zs,.zs,(dI 0)])),(576,(.vars 9 [(dI v9.Me),(.sl 1857 0 v9.Own.length),(.sl 1858 0 v9.Frozen.length),(.sl 1859 0 v9.Cells.length),(.sl 1860 0 v9.Locks.length),(.sl 1861 0 v9.Helds.length),(.sl 1862 0 v9.Wounded.length),(.sl 1863 0 v9.Ended.length),(dI v9.Rank)])),(1857,(.data 2 (List.map zd v9.Own) true none)),(1858,(.data 2 (List.map zd v9.Frozen) true none)),(1859,(.data 2 (List.map zj v9.Cells) true none)),(1860,(.data 4 (List.map zp v9.Locks) true none)),(1861,(.data 2 (List.map zB v9.Helds) true none)),(1862,(.data 1 (List.map zt v9.Wounded) true none)),(1863,(.data 1 (List.map zt v9.Ended) true none)),(4928,(.data 2 (List.map zd v19.1) true none)),(5376,(.data 2 (List.map zd v21.1) true none))] (lk [])) ?_ ?_)))))))))
       ·intro t23 H
        unfold ZH at H
        rcases zA H with⟨h25,H⟩|⟨h25,H⟩
        ·refine zi rfl h25 (aS (zW (zw (zM (es:=[(dI v9.Me),(.sl 1857 0 v9.Own.length),(.sl 1858 0 v9.Frozen.length),(.sl 1859 0 v9.Cells.length),(.sl 1860 0 v9.Locks.length),(.sl 1861 0 v9.Helds.length),(.sl 1862 0 v9.Wounded.length),(.sl 1863 0 v9.Ended.length),(dI v9.Rank)]) rfl (bR rfl) rfl (zm (zw (zO (es:=[(dI v9.Me),(.sl 1857 0 v9.Own.length),(.sl 1858 0 v9.Frozen.length),(.sl 1859 0 v9.Cells.length),(.sl 1860 0 v9.Locks.length),(.sl 1861 0 v9.Helds.length),(.sl 1862 0 v9.Wounded.length),(.sl 1863 0 v9.Ended.length),(dI v9.Rank)]) rfl eZ rfl rfl (bR rfl) rfl (zm (z7 (za eC (xQ (AW.ret (TQ.qr ?_)))))))))))))
         cases H
         exact qK (RL.cons (jg (es:=[(dI v9.Me),(.sl 1857 0 v9.Own.length),(.sl 1858 0 v9.Frozen.length),(.sl 1859 0 v9.Cells.length),(.sl 1860 0 v9.Locks.length),(.sl 1861 0 v9.Helds.length),(.sl 1862 0 v9.Wounded.length),(.sl 1863 0 v9.Ended.length),(dI v9.Rank)]) rfl bZ rfl) (VO.aggs (VOs.cons (VO.flat rfl) (VOs.cons (VO.sl (bR rfl) lm (zy fun _=>rfl)) (VOs.cons (VO.sl (bR rfl) lm (zy fun _=>rfl)) (VOs.cons (VO.sl (bR rfl) lm (zy fun _=>rfl)) (VOs.cons (VO.sl (bR rfl) lm (zy fun _=>rfl)) (VOs.cons (Qf (bR rfl) lm rfl) (VOs.cons (VO.sl (bR rfl) lm (zy fun _=>rfl)) (VOs.cons (VO.sl (bR rfl) lm (zy fun _=>rfl)) (VOs.cons (VO.flat rfl) VOs.nil)))))))))) (RL.cons (RV.tmp eZ) (VO.flat rfl) RL.nil)) (by decide)
        ·refine zh rfl (nt h25) (AW.skip (TQ.qn (aS (zW (zw (za rfl (zm (zw (zf (m:=1) rfl rfl (zm (zw (zO (es:=[(dI v9.Me),(.sl 4928 0 v19.1.length),(.sl 1858 0 v9.Frozen.length),(.sl 1859 0 v9.Cells.length),(.sl 1860 0 v9.Locks.length),(.sl 1861 0 v9.Helds.length),(.sl 1862 0 v9.Wounded.length),(.sl 1863 0 v9.Ended.length),(dI v9.Rank)]) eZ rfl rfl rfl (bR rfl) rfl (zm (z7 (xQ (aS (zW (zw (za rfl (zm (zw (zf (m:=2) rfl rfl (zm (zw (zO (es:=[(dI v9.Me),(.sl 4928 0 v19.1.length),(.sl 5376 0 v21.1.length),(.sl 1859 0 v9.Cells.length),(.sl 1860 0 v9.Locks.length),(.sl 1861 0 v9.Helds.length),(.sl 1862 0 v9.Wounded.length),(.sl 1863 0 v9.Ended.length),(dI v9.Rank)]) eZ rfl rfl rfl bZ rfl (zm (z7 (xQ (aS (zW (zw (zf (m:=3) rfl rfl (zm (zw (zl (q:=3) (c:=(.d (.sl 2 (List.map zj a1.Cells)))) eZ (bR rfl) rfl rfl (zm (zw ?_)))))))))))))))))))))))))))))))))))))
         refine zM (es:=[(dI a3.Lo),(dI a3.Hi)]) rfl (bR rfl) rfl (zm (zw ?_))
         obtain⟨v26,h27,H⟩:=zk H
         refine ju (u:=(.one (.sl 6464 0 v26.length))) (bs:=[(6464,(.data 2 (List.map zj v26) true none))]) eC Cl.fn (zex h27) (Ec rfl (Ec eZ En)) (Vc Vp (Vc (VD.agg rfl) Vn)) (by simp[qZ,jC,qq,jn,qy]) rfl (fC (nR rfl) rfl (fC (nR rfl) rfl fN)) (zm (zw (zf (m:=3) rfl rfl (zm (zw (zO (es:=[(dI v9.Me),(.sl 4928 0 v19.1.length),(.sl 5376 0 v21.1.length),(.sl 6464 0 v26.length),(.sl 1860 0 v9.Locks.length),(.sl 1861 0 v9.Helds.length),(.sl 1862 0 v9.Wounded.length),(.sl 1863 0 v9.Ended.length),(dI v9.Rank)]) eZ rfl rfl rfl (bR rfl) rfl (zm (z7 (xQ (AW.weaken (zI [192,320,1857,1858,1859] (kr 1 rfl rfl (kr 6 rfl rfl (kr 9 rfl rfl SL.nil))) (blR rfl) (BK.cons (n:=576) rfl bZ rfl rfl (BK.cons (n:=6464) rfl (bR rfl) rfl rfl (BK.cons (n:=384) rfl (bR rfl) rfl rfl (BK.cons (n:=1860) rfl (bR rfl) rfl rfl (BK.cons (n:=1861) rfl (bR rfl) rfl rfl (BK.cons (n:=1862) rfl (bR rfl) rfl rfl (BK.cons (n:=1863) rfl (bR rfl) rfl rfl (BK.cons (n:=4928) rfl (bR rfl) rfl rfl (BK.cons (n:=5376) rfl (bR rfl) rfl rfl BK.nil))))))))) GK.nil) (aV (za eZ (zf (m:=8) rfl rfl (zO (es:=[(dI v9.Me),(.sl 4928 0 v19.1.length),(.sl 5376 0 v21.1.length),(.sl 6464 0 v26.length),(.sl 1860 0 v9.Locks.length),(.sl 1861 0 v9.Helds.length),(.sl 1862 0 v9.Wounded.length),(.sl 1863 0 v9.Ended.length),(dI a2)]) eZ rfl rfl rfl bZ rfl (xQ (aS (zW (zw (zM (es:=[(dI v9.Me),(.sl 4928 0 v19.1.length),(.sl 5376 0 v21.1.length),(.sl 6464 0 v26.length),(.sl 1860 0 v9.Locks.length),(.sl 1861 0 v9.Helds.length),(.sl 1862 0 v9.Wounded.length),(.sl 1863 0 v9.Ended.length),(dI a2)]) rfl bZ rfl (zm (zw (zO (es:=[(dI v9.Me),(.sl 4928 0 v19.1.length),(.sl 5376 0 v21.1.length),(.sl 6464 0 v26.length),(.sl 1860 0 v9.Locks.length),(.sl 1861 0 v9.Helds.length),(.sl 1862 0 v9.Wounded.length),(.sl 1863 0 v9.Ended.length),(dI a2)]) rfl eZ rfl rfl (bR rfl) rfl (zm (z7 (za eC (xQ (AW.ret ?_)))))))))))))))))))))))))))
         cases H
         exact qK (RL.cons (jg (es:=[(dI v9.Me),(.sl 4928 0 v19.1.length),(.sl 5376 0 v21.1.length),(.sl 6464 0 v26.length),(.sl 1860 0 v9.Locks.length),(.sl 1861 0 v9.Helds.length),(.sl 1862 0 v9.Wounded.length),(.sl 1863 0 v9.Ended.length),(dI a2)]) rfl bZ rfl) (VO.aggs (VOs.cons (VO.flat rfl) (VOs.cons (VO.sl (bR rfl) lm (zy fun _=>rfl)) (VOs.cons (VO.sl (bR rfl) lm (zy fun _=>rfl)) (VOs.cons (VO.sl (bR rfl) lm (zy fun _=>rfl)) (VOs.cons (VO.sl (bR rfl) lm (zy fun _=>rfl)) (VOs.cons (Qf (bR rfl) lm rfl) (VOs.cons (VO.sl (bR rfl) lm (zy fun _=>rfl)) (VOs.cons (VO.sl (bR rfl) lm (zy fun _=>rfl)) (VOs.cons (VO.flat rfl) VOs.nil)))))))))) (RL.cons (RV.tmp eZ) (VO.flat rfl) RL.nil)) (by decide)
       ·refine aR (za rfl (qI eZ (za eZ ?_)))
        rcases zA H with⟨h28,H⟩|⟨h28,H⟩
        ·exact gDo eZ (cN h28) (za rfl (gDo rfl (cN h28) (qI eZ (zJ rfl (cN h28) eZ (zm (TQ.qn ⟨(!v21.2),H,(zI [] (sR rfl rfl) (blR rfl) (BK.cons rfl (bR rfl) rfl rfl (BK.cons rfl (bR rfl) rfl rfl (BK.cons rfl (bR rfl) rfl rfl (BK.cons rfl (bR rfl) rfl (by first|rfl|simp) (bkR rfl rfl rfl))))) GK.nil)⟩))))))
        ·exact zb eZ (cN (nt h28)) rfl (zb rfl (cN (nt h28)) rfl (zC rfl (cN (nt h28)) eC (zm (TQ.qn ⟨true,H,(zI [] (sR rfl rfl) (blR rfl) (BK.cons rfl (bR rfl) rfl rfl (BK.cons rfl (bR rfl) rfl rfl (BK.cons rfl (bR rfl) rfl rfl (BK.cons rfl (bR rfl) rfl (by first|rfl|simp) (bkR rfl rfl rfl))))) GK.nil)⟩))))
     ·refine aR (zf (m:=2) rfl rfl (zl (q:=2) (c:=(.d (.sl 2 (List.map zd a1.Frozen)))) eZ bZ rfl rfl (zM (es:=[(dI a3.Lo),(dI a3.Hi)]) rfl (bR rfl) rfl ?_)))
      obtain⟨v29,h30,H⟩:=zk H
      refine zD (u:=(oB v29)) eC Cl.fn (JQ h30) (Ec rfl (Ec eZ En)) (Vc Vp (Vc (VD.agg rfl) Vn)) rfl (qI eZ (za eZ ?_))
      rcases zA H with⟨h31,H⟩|⟨h31,H⟩
      ·exact gDo eZ (cN h31) (za rfl (zJ rfl (cN h31) eZ (zm (TQ.qn ⟨t14,H,(zI [] (sR rfl rfl) (blR rfl) (BK.cons rfl bZ rfl rfl (BK.cons rfl (bR rfl) rfl rfl (BK.cons rfl (bR rfl) rfl rfl (BK.cons rfl (bR rfl) rfl (by first|rfl|simp) (bkR rfl rfl rfl))))) GK.nil)⟩))))
      ·exact zb eZ (cN (nt h31)) rfl (zC rfl (cN (nt h31)) eC (zm (TQ.qn ⟨true,H,(zI [] (sR rfl rfl) (blR rfl) (BK.cons rfl bZ rfl rfl (BK.cons rfl (bR rfl) rfl rfl (BK.cons rfl (bR rfl) rfl rfl (BK.cons rfl (bR rfl) rfl (by first|rfl|simp) (bkR rfl rfl rfl))))) GK.nil)⟩)))
    ·refine aV (za eC (xQ (AW.block (AW.iter (fun s32:(Bool×Int)=>mk [(1,(oI a2)),(3,(.one (.ptr (.nm 192 0 0)))),(5,(.one (.ptr (.nm 320 0 0)))),(6,(.one (.ptr (.nm 384 0 0)))),(9,(.one (.ptr (.nm 576 0 0)))),(10,(oB s32.1)),(11,(oI s32.2))] [(192,(.vars 9 (zF a1))),(320,(.vars 2 [(dI a3.Lo),(dI a3.Hi)])),(384,(.vars 9 [(dI 0),.zs,.zs,.zs,.zs,.zs,.zs,.zs,(dI 0)])),(576,(.vars 9 [(dI v9.Me),(.sl 1857 0 v9.Own.length),(.sl 1858 0 v9.Frozen.length),(.sl 1859 0 v9.Cells.length),(.sl 1860 0 v9.Locks.length),(.sl 1861 0 v9.Helds.length),(.sl 1862 0 v9.Wounded.length),(.sl 1863 0 v9.Ended.length),(dI v9.Rank)])),(1857,(.data 2 (List.map zd v9.Own) true none)),(1858,(.data 2 (List.map zd v9.Frozen) true none)),(1859,(.data 2 (List.map zj v9.Cells) true none)),(1860,(.data 4 (List.map zp v9.Locks) true none)),(1861,(.data 2 (List.map zB v9.Helds) true none)),(1862,(.data 1 (List.map zt v9.Wounded) true none)),(1863,(.data 1 (List.map zt v9.Ended) true none))] (lk [])) H (zI [] (sR rfl rfl) (blR rfl) (BK.cons rfl bZ rfl rfl (BK.cons rfl (bR rfl) rfl rfl (BK.cons rfl (bR rfl) rfl rfl (BK.cons rfl (bR rfl) rfl (by first|rfl|simp) (bkR rfl rfl rfl))))) GK.nil) ?_))))
     intro kb33 s32 H
     unfold ZI at H
     refine aS (aV (za rfl (zf (m:=4) rfl rfl (zl (q:=4) (c:=(.d (.sl 4 (List.map zp a1.Locks)))) eZ bZ rfl rfl (zX eZ (n:=a1.Locks.length) lm (qi rfl eZ (xQ ?_)))))))
     rcases zA H with⟨h34,H⟩|⟨h34,H⟩
     ·refine zi eZ (dT h34) (AW.skip (TQ.qn (aS (AW.block (aS (AW.regd (zf (m:=4) rfl rfl (zl (q:=4) (c:=(.d (.sl 4 (List.map zp a1.Locks)))) eZ (hB rfl bZ) rfl rfl (za rfl ?_)))))))))
      obtain⟨v35,h36,H⟩:=zk H
      refine qt rfl eZ h36 (zZ (es:=(qj v35)) eZ rfl ?_)
      obtain⟨v37,h38,H⟩:=zk H
      refine zD (u:=(.agg [(dI v37.Lo),(dI v37.Hi)])) eC Cl.fn (ZX h38) (Ec eZ En) (Vc (VD.agg rfl) Vn) rfl (zM (es:=[(dI a3.Lo),(dI a3.Hi)]) rfl (hB rfl (bR rfl)) rfl ?_)
      obtain⟨v39,h40,H⟩:=zk H
      refine zD (u:=(.tup [(.agg [(dI v39.1.Lo),(dI v39.1.Hi)]),(oB v39.2)])) eC Cl.fn (XJ h40) (Ec rfl (Ec eZ En)) (Vc (VD.agg rfl) (Vc (VD.agg rfl) Vn)) rfl (za eZ (kI (v:=(.agg [(dI v39.1.Lo),(dI v39.1.Hi)])) eZ rfl (kI (v:=(oB v39.2)) rfl rfl (Zh (n:=768) (m:=2) rfl rfl (hN (nR rfl)) (zO (es:=[(dI v39.1.Lo),(dI v39.1.Hi)]) eZ rfl rfl rfl bZ rfl (za rfl (xQ (AW.weaken (zI [768] (kr 13 rfl rfl (kr 1 rfl rfl (kr 3 rfl rfl (kr 5 rfl rfl (kr 6 rfl rfl (kr 9 rfl rfl (kr 10 rfl rfl (kr 11 rfl rfl SL.nil)))))))) (blR rfl) (BK.cons (n:=192) rfl (bR rfl) rfl rfl (BK.cons (n:=320) rfl (bR rfl) rfl rfl (BK.cons (n:=384) rfl (bR rfl) rfl rfl (BK.cons (n:=576) rfl (bR rfl) rfl rfl (BK.cons (n:=1857) rfl (bR rfl) rfl rfl (BK.cons (n:=1858) rfl (bR rfl) rfl rfl (BK.cons (n:=1859) rfl (bR rfl) rfl rfl (BK.cons (n:=1860) rfl (bR rfl) rfl rfl (BK.cons (n:=1861) rfl (bR rfl) rfl rfl (BK.cons (n:=1862) rfl (bR rfl) rfl rfl (BK.cons (n:=1863) rfl (bR rfl) rfl rfl BK.nil))))))))))) GK.nil) (aR (za rfl (za eZ ?_)))))))))))
      rcases zA H with⟨h41,H⟩|⟨h41,H⟩
      ·exact zb eZ h41 rfl (zC rfl h41 eC (za eZ (zm (BQ.qn (TQ.qn (aR (za rfl (qg eZ eC (za eZ (zm (TQ.qn ⟨(true,(IntKind.wrap .i64 (s32.2+1))),H,(zI [] (sR rfl rfl) (blR rfl) (BK.cons rfl bZ rfl rfl (BK.cons rfl (bR rfl) rfl rfl (BK.cons rfl (bR rfl) rfl rfl (BK.cons rfl (bR rfl) rfl (by first|rfl|simp) (bkR rfl rfl rfl))))) GK.nil)⟩)))))))))))
      ·exact gDo eZ (nt h41) (za rfl (zJ rfl (nt h41) eZ (za eZ (zm (BQ.qn (TQ.qn (aR (za rfl (qg eZ eC (za eZ (zm (TQ.qn ⟨(v39.2,(IntKind.wrap .i64 (s32.2+1))),H,(zI [] (sR rfl rfl) (blR rfl) (BK.cons rfl bZ rfl rfl (BK.cons rfl (bR rfl) rfl rfl (BK.cons rfl (bR rfl) rfl rfl (BK.cons rfl (bR rfl) rfl (by first|rfl|simp) (bkR rfl rfl rfl))))) GK.nil)⟩))))))))))))
     ·exact zh eZ (dF h34) (AW.exit (TQ.qe (TQ.qe (BQ.qe (TQ.qn ⟨s32.1,H,(zI [] (sR rfl rfl) (blR rfl) (BK.cons rfl bZ rfl rfl (BK.cons rfl (bR rfl) rfl rfl (BK.cons rfl (bR rfl) rfl rfl (BK.cons rfl (bR rfl) rfl (by first|rfl|simp) (bkR rfl rfl rfl))))) GK.nil)⟩)))))
  ·refine aR (za rfl (zf (m:=8) rfl rfl (zl (q:=8) (c:=(dI a1.Rank)) eZ (bR rfl) rfl rfl (KG rfl eZ (za eZ ?_)))))
   rcases zA H with⟨h42,H⟩|⟨h42,H⟩
   ·refine gDo eZ (dT h42) (zf (m:=1) rfl rfl (gDo rfl (dT h42) (zl (q:=1) (c:=(.d (.sl 2 (List.map zd a1.Own)))) eZ (bR rfl) rfl rfl (gDo rfl (dT h42) (zM (es:=[(dI a3.Lo),(dI a3.Hi)]) rfl (bR rfl) rfl (gDo rfl (dT h42) ?_))))))
    obtain⟨v43,h44,H⟩:=zk H
    exact zD (u:=(oB v43)) eC Cl.fn (zeE h44) (Ec rfl (Ec eZ En)) (Vc Vp (Vc (VD.agg rfl) Vn)) rfl (gDo rfl (dT h42) (qI eZ (zC rfl (dT h42) eZ (zm (TQ.qn ⟨(!v43),H,(zI [] (sR rfl rfl) (blR rfl) (BK.cons rfl (bR rfl) rfl rfl (BK.cons rfl (bR rfl) rfl rfl (BK.cons rfl (bR rfl) rfl rfl (BK.cons rfl bZ rfl (by first|rfl|simp) (bkR rfl rfl rfl))))) GK.nil)⟩)))))
   ·exact zb eZ (dF h42) rfl (zb rfl (dF h42) rfl (zb rfl (dF h42) rfl (zb rfl (dF h42) rfl (zb rfl (dF h42) rfl (zJ rfl (dF h42) eC (zm (TQ.qn ⟨false,H,(zI [] (sR rfl rfl) (blR rfl) (BK.cons rfl (bR rfl) rfl rfl (BK.cons rfl (bR rfl) rfl rfl (BK.cons rfl (bR rfl) rfl rfl (BK.cons rfl bZ rfl (by first|rfl|simp) (bkR rfl rfl rfl))))) GK.nil)⟩)))))))
theorem QV{a1:Int}{a2:Int}{a3:Int}{r:Bool}(H:yA a1 a2 a3=some r):Fn Tryz.prog 179 (lent [(.int .i64 a1),(.int .i64 a2),(.int .i64 a3)]) true [(.bool r)]:=by
 refine zGu (fle rfl) ?_
 rw[zx]
 refine AW.weaken (zg [] (kv 0 (oI a1) rfl rfl (kv 1 (oI a2) rfl rfl (kv 2 (oI a3) rfl rfl SL.nil))) BL.nil BK.nil) ?_
 unfold yA at H
 unfold zCl
 refine aV (za eC (xQ (aV (za rfl (za rfl (XA rfl eZ (za eZ ?_)))))))
 rcases zA H with⟨h4,H⟩|⟨h4,H⟩
 ·refine gDo eZ (dT h4) (za rfl (gDo rfl (dT h4) (za rfl (gDo rfl (dT h4) (zbj rfl eZ (zC rfl (dT h4) eZ (za eZ (xQ (AW.ret ?_)))))))))
  cases H
  exact eE rfl rfl
 ·refine zb eZ (dF h4) rfl (zb rfl (dF h4) rfl (zb rfl (dF h4) rfl (zJ rfl (dF h4) eC (za eZ (xQ (AW.ret ?_))))))
  cases H
  exact eE rfl rfl
theorem zfb{a1:Int}{r:Bool}(H:Yb a1=some r):Fn Tryz.prog 225 (lent [(.int .i64 a1)]) true [(.bool r)]:=by
 refine zGN (fle rfl) ?_
 rw[zx]
 refine AW.weaken (zg [] (kv 0 (oI a1) rfl rfl SL.nil) BL.nil BK.nil) ?_
 unfold Yb at H
 unfold zEO
 refine aV (za eC (xQ (aV (za rfl ?_))))
 obtain⟨v2,h3,H⟩:=zk H
 refine zD (u:=(oB v2)) eC Cl.fn (QV h3) (Ec eZ (Ec eC (Ec eC En))) (Vc Vp (Vc Vp (Vc Vp Vn))) rfl (za eZ (xQ (AW.ret ?_)))
 cases H
 exact eE rfl rfl
theorem Ql{a1:ze}{r:Bool}(H:j7 a1=some r):Fn Tryz.prog 141 (lent [(.agg (zd a1))]) true [(.bool r)]:=by
 refine zF0 (fle rfl) ?_
 rw[zx]
 refine AW.weaken (zg [] (kv 0 (.agg [(dI a1.Lo),(dI a1.Hi)]) rfl rfl SL.nil) BL.nil BK.nil) ?_
 unfold j7 at H
 unfold zBK
 refine aV (qY (n:=64) (m:=2) (cs:=[(dI a1.Lo),(dI a1.Hi)]) rfl eZ rfl rfl nZ (za eC (xQ (aV (zf (m:=0) rfl rfl (zl (q:=0) (c:=(dI a1.Lo)) eZ bZ rfl rfl (XA eZ eC (za eZ ?_))))))))
 rcases zA H with⟨h2,H⟩|⟨h2,H⟩
 ·refine gDo eZ (dT h2) (zf (m:=0) rfl rfl (gDo rfl (dT h2) (zl (q:=0) (c:=(dI a1.Lo)) eZ bZ rfl rfl (gDo rfl (dT h2) (zf (m:=1) rfl rfl (gDo rfl (dT h2) (zl (q:=1) (c:=(dI a1.Hi)) eZ bZ rfl rfl (gDo rfl (dT h2) (qi rfl eZ (zC rfl (dT h2) eZ (za eZ ?_)))))))))))
  rcases zA H with⟨h3,H⟩|⟨h3,H⟩
  ·refine gDo eZ (dT h3) (zf (m:=1) rfl rfl (gDo rfl (dT h3) (zl (q:=1) (c:=(dI a1.Hi)) eZ bZ rfl rfl (gDo rfl (dT h3) (zbj eZ eC (zC rfl (dT h3) eZ (za eZ (xQ (AW.weaken (zg [64] (kr 2 rfl rfl SL.nil) (blR rfl) BK.nil) (AW.ret ?_))))))))))
   cases H
   exact eE rfl rfl
  ·refine zb eZ (dF h3) rfl (zb rfl (dF h3) rfl (zb rfl (dF h3) rfl (zJ rfl (dF h3) eC (za eZ (xQ (AW.weaken (zg [64] (kr 2 rfl rfl SL.nil) (blR rfl) BK.nil) (AW.ret ?_)))))))
   cases H
   exact eE rfl rfl
 ·refine zb eZ (dF h2) rfl (zb rfl (dF h2) rfl (zb rfl (dF h2) rfl (zb rfl (dF h2) rfl (zb rfl (dF h2) rfl (zJ rfl (dF h2) eC (za eZ (zb eZ rfl rfl (zb rfl rfl rfl (zb rfl rfl rfl (zJ rfl rfl eC (za eZ (xQ (AW.weaken (zg [64] (kr 2 rfl rfl SL.nil) (blR rfl) BK.nil) (AW.ret ?_))))))))))))))
  cases H
  exact eE rfl rfl
theorem X9{a1:(List ze)}{r:Bool}(H:y8 a1=some r):Fn Tryz.prog 226 (lent [(.sl 2 (List.map zd a1))]) true [(.bool r)]:=by
 refine zGY (fle rfl) ?_
 rw[zx]
 refine AW.weaken (zg [] (kv 0 (.one (.d (.sl 2 (List.map zd a1)))) rfl rfl SL.nil) BL.nil BK.nil) ?_
 unfold y8 at H
 unfold zzd
 refine aV (za eC (xQ (zE (fun t2:Unit=>(YQ a1) t2=some r) (fun t2=>mk [(0,(.one (.d (.sl 2 (List.map zd a1)))))] [] noG) ?_ ?_)))
 ·intro t2 H
  unfold YQ at H
  refine aV (za eZ (zX eZ (n:=a1.length) lm (zbj eZ eC (za eZ (xQ (AW.ret ?_))))))
  cases H
  exact eE rfl rfl
 ·refine aV (za rfl (zX eZ (n:=a1.length) lm (za eC (xQ (AW.block (AW.iter (fun s4:Int=>mk [(0,(.one (.d (.sl 2 (List.map zd a1))))),(5,(.one (.d (.sl 2 (List.map zd a1))))),(6,(oI (a1.length:Int))),(7,(oI s4))] [] noG) H (zg [] (sR rfl rfl) BL.nil BK.nil) ?_))))))
  intro kb5 s4 H
  unfold xo at H
  refine aV (qi rfl rfl (xQ (aS ?_)))
  rcases zA H with⟨h6,H⟩|⟨h6,H⟩
  ·refine zi eZ (dT h6) (AW.skip (TQ.qn (aS (AW.block (aV (za rfl ?_))))))
   obtain⟨v7,h8,H⟩:=zk H
   refine qt rfl rfl h8 (zZ (es:=[(dI v7.Lo),(dI v7.Hi)]) eZ rfl (Zh (n:=256) (m:=2) rfl rfl nZ (za rfl (zO (es:=[(dI v7.Lo),(dI v7.Hi)]) rfl rfl rfl rfl bZ rfl (xQ (zE (fun t9:Bool=>(Zr kb5 s4) t9=some r) (fun t9=>mk [(0,(.one (.d (.sl 2 (List.map zd a1))))),(5,(.one (.d (.sl 2 (List.map zd a1))))),(6,(oI (a1.length:Int))),(7,(oI s4)),(29,(oB t9))] [] noG) ?_ ?_))))))
   ·intro t9 H
    unfold Zr at H
    rcases zA H with⟨h11,H⟩|⟨h11,H⟩
    ·refine zi rfl h11 (aV (za eC (xQ (AW.ret (BQ.qr (TQ.qr (TQ.qr (BQ.qr (TQ.qr ?_)))))))))
     cases H
     exact eE rfl rfl
    ·exact zh rfl (nt h11) (AW.skip (BQ.qn (TQ.qn (aR (qg rfl eC (za eZ (zm (TQ.qn ⟨(IntKind.wrap .i64 (s4+1)),H,(zg [] (sR rfl rfl) BL.nil BK.nil)⟩))))))))
   ·refine AW.regd (zM (es:=[(dI v7.Lo),(dI v7.Hi)]) rfl bZ rfl ?_)
    obtain⟨v12,h13,H⟩:=zk H
    refine zD (u:=(oB v12)) eC Cl.fn (Ql h13) (Ec eZ En) (Vc (VD.agg rfl) Vn) rfl (qI eZ (za eZ ?_))
    rcases zA H with⟨h14,H⟩|⟨h14,H⟩
    ·refine gDo eZ (cN h14) (za rfl (gDo rfl (cN h14) (zaB eZ eC (gDo rfl (cN h14) (za eZ ?_)))))
     rcases zA H with⟨h15,H⟩|⟨h15,H⟩
     ·refine gDo eZ (dT h15) (zf (m:=0) rfl rfl (gDo rfl (dT h15) (zl (q:=0) (c:=(dI v7.Lo)) eZ bZ rfl rfl (gDo rfl (dT h15) (za rfl (gDo rfl (dT h15) (za rfl (gDo rfl (dT h15) (zaF eZ eC (gDo rfl (dT h15) ?_))))))))))
      obtain⟨v16,h17,H⟩:=zk H
      exact qt rfl eZ h17 (gDo rfl (dT h15) (qa (m:=1) eZ rfl (gDo rfl (dT h15) (zY (e:=(.int .i64 v16.Hi)) eZ rfl (gDo rfl (dT h15) (qi rfl eZ (gDo rfl (cN h14) (zC rfl (dT h15) eZ (zJ rfl (cN h14) eZ (zm (TQ.qn ⟨(decide (v7.Lo < v16.Hi)),H,(zg [256] (sR rfl rfl) (blR rfl) BK.nil)⟩)))))))))))
     ·exact zb eZ (dF h15) rfl (zb rfl (dF h15) rfl (zb rfl (dF h15) rfl (zb rfl (dF h15) rfl (zb rfl (dF h15) rfl (zb rfl (dF h15) rfl (zb rfl (dF h15) rfl (zb rfl (dF h15) rfl (zb rfl (dF h15) rfl (gDo rfl (cN h14) (zJ rfl (dF h15) eC (zJ rfl (cN h14) eZ (zm (TQ.qn ⟨false,H,(zg [256] (sR rfl rfl) (blR rfl) BK.nil)⟩)))))))))))))
    ·exact zb eZ (cN (nt h14)) rfl (zb rfl (cN (nt h14)) rfl (zb rfl (cN (nt h14)) rfl (zG eZ rfl (zG rfl rfl (zG rfl rfl (zG rfl rfl (zG rfl rfl (zG rfl rfl (zG rfl rfl (zG rfl rfl (zG rfl rfl (zb rfl (cN (nt h14)) rfl (zC rfl (cN (nt h14)) eC (zm (TQ.qn ⟨true,H,(zg [256] (sR rfl rfl) (blR rfl) BK.nil)⟩)))))))))))))))
  ·exact zh eZ (dF h6) (AW.exit (TQ.qe (TQ.qe (BQ.qe (TQ.qn ⟨(),H,(zg [] (sR rfl rfl) BL.nil BK.nil)⟩)))))
theorem zdr{a1:Int}{r:Bool}(H:Y7 a1=some r):Fn Tryz.prog 296 (lent [(.int .i64 a1)]) true [(.bool r)]:=by
 refine f296 (fle rfl) ?_
 rw[zx]
 refine AW.weaken (zg [] (kv 0 (oI a1) rfl rfl SL.nil) BL.nil BK.nil) ?_
 unfold Y7 at H
 unfold zES
 refine aV (za eC (xQ (aV (za rfl ?_))))
 obtain⟨v2,h3,H⟩:=zk H
 refine zD (u:=(oB v2)) eC Cl.fn (QV h3) (Ec eZ (Ec eC (Ec eC En))) (Vc Vp (Vc Vp (Vc Vp Vn))) rfl (za eZ (xQ (AW.ret ?_)))
 cases H
 exact eE rfl rfl
theorem zfV{a1:Int}{r:Bool}(H:Yj a1=some r):Fn Tryz.prog 180 (lent [(.int .i64 a1)]) true [(.bool r)]:=by
 refine zFV (fle rfl) ?_
 rw[zx]
 refine AW.weaken (zg [] (kv 0 (oI a1) rfl rfl SL.nil) BL.nil BK.nil) ?_
 unfold Yj at H
 unfold zFr
 refine aV (za eC (xQ (aV (za rfl ?_))))
 obtain⟨v2,h3,H⟩:=zk H
 refine zD (u:=(oB v2)) eC Cl.fn (QV h3) (Ec eZ (Ec eC (Ec eC En))) (Vc Vp (Vc Vp (Vc Vp Vn))) rfl (za eZ (xQ (AW.ret ?_)))
 cases H
 exact eE rfl rfl
theorem KR{a1:(List zn)}{r:Bool}(H:ZJ a1=some r):Fn Tryz.prog 227 (lent [(.sl 2 (List.map zj a1))]) true [(.bool r)]:=by
 refine zGb (fle rfl) ?_
 rw[zx]
 refine AW.weaken (zg [] (kv 0 (.one (.d (.sl 2 (List.map zj a1)))) rfl rfl SL.nil) BL.nil BK.nil) ?_
 unfold ZJ at H
 unfold zDV
 refine aV (za eC (xQ (zE (fun t2:Unit=>(ki a1) t2=some r) (fun t2=>mk [(0,(.one (.d (.sl 2 (List.map zj a1)))))] [] noG) ?_ ?_)))
 ·intro t2 H
  unfold ki at H
  refine aV (za eZ (zX eZ (n:=a1.length) lm (zbj eZ eC (za eZ (xQ (AW.ret ?_))))))
  cases H
  exact eE rfl rfl
 ·refine aV (za rfl (zX eZ (n:=a1.length) lm (za eC (xQ (AW.block (AW.iter (fun s4:Int=>mk [(0,(.one (.d (.sl 2 (List.map zj a1))))),(5,(.one (.d (.sl 2 (List.map zj a1))))),(6,(oI (a1.length:Int))),(7,(oI s4))] [] noG) H (zg [] (sR rfl rfl) BL.nil BK.nil) ?_))))))
  intro kb5 s4 H
  unfold xX at H
  refine aV (qi rfl rfl (xQ (aS ?_)))
  rcases zA H with⟨h6,H⟩|⟨h6,H⟩
  ·refine zi eZ (dT h6) (AW.skip (TQ.qn (aS (AW.block (aV (za rfl ?_))))))
   obtain⟨v7,h8,H⟩:=zk H
   refine qt rfl rfl h8 (zZ (es:=[(dI v7.Key),(dI v7.Value)]) eZ rfl (Zh (n:=256) (m:=2) rfl rfl nZ (za rfl (zO (es:=[(dI v7.Key),(dI v7.Value)]) rfl rfl rfl rfl bZ rfl (xQ (zE (fun t9:Bool=>(Zg kb5 s4) t9=some r) (fun t9=>mk [(0,(.one (.d (.sl 2 (List.map zj a1))))),(5,(.one (.d (.sl 2 (List.map zj a1))))),(6,(oI (a1.length:Int))),(7,(oI s4)),(36,(oB t9))] [] noG) ?_ ?_))))))
   ·intro t9 H
    unfold Zg at H
    rcases zA H with⟨h11,H⟩|⟨h11,H⟩
    ·refine zi rfl h11 (aV (za eC (xQ (AW.ret (BQ.qr (TQ.qr (TQ.qr (BQ.qr (TQ.qr ?_)))))))))
     cases H
     exact eE rfl rfl
    ·exact zh rfl (nt h11) (AW.skip (BQ.qn (TQ.qn (aR (qg rfl eC (za eZ (zm (TQ.qn ⟨(IntKind.wrap .i64 (s4+1)),H,(zg [] (sR rfl rfl) BL.nil BK.nil)⟩))))))))
   ·refine AW.regd (zf (m:=0) rfl rfl (zl (q:=0) (c:=(dI v7.Key)) eZ bZ rfl rfl ?_))
    obtain⟨v12,h13,H⟩:=zk H
    refine zD (u:=(oB v12)) eC Cl.fn (zdr h13) (Ec eZ En) (Vc Vp Vn) rfl (qI eZ (za eZ ?_))
    rcases zA H with⟨h14,H⟩|⟨h14,H⟩
    ·refine gDo eZ (cN h14) (zf (m:=1) rfl rfl (gDo rfl (cN h14) (zl (q:=1) (c:=(dI v7.Value)) eZ bZ rfl rfl (gDo rfl (cN h14) ?_))))
     obtain⟨v15,h16,H⟩:=zk H
     refine zD (u:=(oB v15)) eC Cl.fn (zfV h16) (Ec eZ En) (Vc Vp Vn) rfl (gDo rfl (cN h14) (qI eZ (zJ rfl (cN h14) eZ (za eZ ?_))))
     rcases zA H with⟨h17,H⟩|⟨h17,H⟩
     ·refine gDo eZ (cN h17) (za rfl (gDo rfl (cN h17) (zaB eZ eC (gDo rfl (cN h17) (za eZ ?_)))))
      rcases zA H with⟨h18,H⟩|⟨h18,H⟩
      ·refine gDo eZ (dT h18) (za rfl (gDo rfl (dT h18) (za rfl (gDo rfl (dT h18) (zaF eZ eC (gDo rfl (dT h18) ?_))))))
       obtain⟨v19,h20,H⟩:=zk H
       exact qt rfl eZ h20 (gDo rfl (dT h18) (qa (m:=0) eZ rfl (gDo rfl (dT h18) (zY (e:=(.int .i64 v19.Key)) eZ rfl (gDo rfl (dT h18) (zf (m:=0) rfl rfl (gDo rfl (dT h18) (zl (q:=0) (c:=(dI v7.Key)) eZ bZ rfl rfl (gDo rfl (dT h18) (XA rfl eZ (gDo rfl (cN h17) (zC rfl (dT h18) eZ (zJ rfl (cN h17) eZ (zm (TQ.qn ⟨(decide (v7.Key≤v19.Key)),H,(zg [256] (sR rfl rfl) (blR rfl) BK.nil)⟩)))))))))))))))
      ·exact zb eZ (dF h18) rfl (zb rfl (dF h18) rfl (zb rfl (dF h18) rfl (zb rfl (dF h18) rfl (zb rfl (dF h18) rfl (zb rfl (dF h18) rfl (zb rfl (dF h18) rfl (zb rfl (dF h18) rfl (zb rfl (dF h18) rfl (gDo rfl (cN h17) (zJ rfl (dF h18) eC (zJ rfl (cN h17) eZ (zm (TQ.qn ⟨false,H,(zg [256] (sR rfl rfl) (blR rfl) BK.nil)⟩)))))))))))))
     ·exact zb eZ (cN (nt h17)) rfl (zb rfl (cN (nt h17)) rfl (zb rfl (cN (nt h17)) rfl (zG eZ rfl (zG rfl rfl (zG rfl rfl (zG rfl rfl (zG rfl rfl (zG rfl rfl (zG rfl rfl (zG rfl rfl (zG rfl rfl (zb rfl (cN (nt h17)) rfl (zC rfl (cN (nt h17)) eC (zm (TQ.qn ⟨true,H,(zg [256] (sR rfl rfl) (blR rfl) BK.nil)⟩)))))))))))))))
    ·exact zb eZ (cN (nt h14)) rfl (zb rfl (cN (nt h14)) rfl (zb rfl (cN (nt h14)) rfl (zb rfl (cN (nt h14)) rfl (zC rfl (cN (nt h14)) eC (za eZ (zb eZ rfl rfl (zb rfl rfl rfl (zb rfl rfl rfl (zG eZ rfl (zG rfl rfl (zG rfl rfl (zG rfl rfl (zG rfl rfl (zG rfl rfl (zG rfl rfl (zG rfl rfl (zG rfl rfl (zb rfl rfl rfl (zC rfl rfl eC (zm (TQ.qn ⟨true,H,(zg [256] (sR rfl rfl) (blR rfl) BK.nil)⟩)))))))))))))))))))))
  ·exact zh eZ (dF h6) (AW.exit (TQ.qe (TQ.qe (BQ.qe (TQ.qn ⟨(),H,(zg [] (sR rfl rfl) BL.nil BK.nil)⟩)))))
theorem zem{a1:Int}{r:Bool}(H:kG a1=some r):Fn Tryz.prog 123 (lent [(.int .i64 a1)]) true [(.bool r)]:=by
 refine zFQ (fle rfl) ?_
 rw[zx]
 refine AW.weaken (zg [] (kv 0 (oI a1) rfl rfl SL.nil) BL.nil BK.nil) ?_
 unfold kG at H
 unfold zzS
 refine aV (za eC (xQ (aV (za rfl ?_))))
 obtain⟨v2,h3,H⟩:=zk H
 refine zD (u:=(oB v2)) eC Cl.fn (QV h3) (Ec eZ (Ec eC (Ec eC En))) (Vc Vp (Vc Vp (Vc Vp Vn))) rfl (za eZ (xQ (AW.ret ?_)))
 cases H
 exact eE rfl rfl
theorem yL{a1:zL}{r:ze}(H:qH a1=some r):Fn Tryz.prog 113 (lent [(.agg (zp a1))]) true [(.agg (zd r))]:=by
 refine zGh (fle rfl) ?_
 rw[zx]
 refine AW.weaken (zg [] (kv 0 (.agg (qj a1)) rfl rfl SL.nil) BL.nil BK.nil) ?_
 unfold qH at H
 unfold zCk
 refine aV (qY (n:=64) (m:=4) (cs:=(qj a1)) rfl eZ rfl rfl nZ (Zh (n:=128) (m:=2) rfl rfl (nR rfl) (xQ (aV (zf (m:=1) rfl rfl (zl (q:=1) (c:=(dI a1.Lo)) eZ (bR rfl) rfl rfl (zf (m:=2) rfl rfl (zl (q:=2) (c:=(dI a1.Hi)) eZ (bR rfl) rfl rfl (Xv (cs:=[(dI a1.Lo),(dI a1.Hi)]) (jN rfl (jN eZ kD)) rfl (zO (es:=[(dI a1.Lo),(dI a1.Hi)]) rfl eZ rfl rfl bZ rfl (xQ (AW.ret ?_))))))))))))
 cases H
 exact qK (RL.cons (jg (es:=[(dI a1.Lo),(dI a1.Hi)]) rfl bZ rfl) (VO.agg (ds:=[(.int .i64 a1.Lo),(.int .i64 a1.Hi)]) rfl rfl) RL.nil) List.nodup_nil
theorem zck{a1:Int}{r:Bool}(H:Jv a1=some r):Fn Tryz.prog 297 (lent [(.int .i64 a1)]) true [(.bool r)]:=by
 refine f297 (fle rfl) ?_
 rw[zx]
 refine AW.weaken (zg [] (kv 0 (oI a1) rfl rfl SL.nil) BL.nil BK.nil) ?_
 unfold Jv at H
 unfold zDm
 refine aV (za eC (xQ (aV (za rfl (KG eZ eC (za eZ ?_))))))
 rcases zA H with⟨h2,H⟩|⟨h2,H⟩
 ·refine zb eZ (dT h2) rfl (zb rfl (dT h2) rfl (zC rfl (dT h2) eC (za eZ (xQ (AW.ret ?_)))))
  cases H
  exact eE rfl rfl
 ·refine gDo eZ (dF h2) (za rfl (gDo rfl (dF h2) (KG eZ eC (zJ rfl (dF h2) eZ (za eZ (xQ (AW.ret ?_)))))))
  cases H
  exact eE rfl rfl
theorem Kx{a1:ze}{a2:ze}{r:Bool}(H:Z6 a1 a2=some r):Fn Tryz.prog 112 (lent [(.agg (zd a1)),(.agg (zd a2))]) true [(.bool r)]:=by
 refine zGA (fle rfl) ?_
 rw[zx]
 refine AW.weaken (zg [] (kv 0 (.agg [(dI a1.Lo),(dI a1.Hi)]) rfl rfl (kv 1 (.agg [(dI a2.Lo),(dI a2.Hi)]) rfl rfl SL.nil)) BL.nil BK.nil) ?_
 unfold Z6 at H
 unfold zBb
 refine aV (qY (n:=128) (m:=2) (cs:=[(dI a1.Lo),(dI a1.Hi)]) rfl eZ rfl rfl nZ (qY (n:=192) (m:=2) (cs:=[(dI a2.Lo),(dI a2.Hi)]) rfl rfl rfl rfl (nR rfl) (za eC (xQ (aV (zf (m:=0) rfl rfl (zl (q:=0) (c:=(dI a1.Lo)) eZ (bR rfl) rfl rfl (zf (m:=1) rfl rfl (zl (q:=1) (c:=(dI a2.Hi)) eZ bZ rfl rfl (qi rfl eZ (za eZ ?_)))))))))))
 rcases zA H with⟨h3,H⟩|⟨h3,H⟩
 ·refine gDo eZ (dT h3) (zf (m:=0) rfl rfl (gDo rfl (dT h3) (zl (q:=0) (c:=(dI a2.Lo)) eZ bZ rfl rfl (gDo rfl (dT h3) (zf (m:=1) rfl rfl (gDo rfl (dT h3) (zl (q:=1) (c:=(dI a1.Hi)) eZ (bR rfl) rfl rfl (gDo rfl (dT h3) (qi rfl eZ (zC rfl (dT h3) eZ (za eZ (xQ (AW.weaken (zg [192,128] (kr 4 rfl rfl SL.nil) (blR rfl) BK.nil) (AW.ret ?_))))))))))))))
  cases H
  exact eE rfl rfl
 ·refine zb eZ (dF h3) rfl (zb rfl (dF h3) rfl (zb rfl (dF h3) rfl (zb rfl (dF h3) rfl (zb rfl (dF h3) rfl (zJ rfl (dF h3) eC (za eZ (xQ (AW.weaken (zg [192,128] (kr 4 rfl rfl SL.nil) (blR rfl) BK.nil) (AW.ret ?_)))))))))
  cases H
  exact eE rfl rfl
theorem zhw{a1:zL}{a2:zL}{r:Bool}(H:Xn a1 a2=some r):Fn Tryz.prog 299 (lent [(.agg (zp a1)),(.agg (zp a2))]) true [(.bool r)]:=by
 refine f299 (fle rfl) ?_
 rw[zx]
 refine AW.weaken (zg [] (kv 0 (.agg (qj a1)) rfl rfl (kv 1 (.agg (qj a2)) rfl rfl SL.nil)) BL.nil BK.nil) ?_
 unfold Xn at H
 unfold zCo
 refine aV (qY (n:=128) (m:=4) (cs:=(qj a1)) rfl eZ rfl rfl nZ (qY (n:=192) (m:=4) (cs:=(qj a2)) rfl rfl rfl rfl (nR rfl) (za eC (xQ (aS (AW.regd (zf (m:=0) rfl rfl (zl (q:=0) (c:=(dI a1.Tx)) eZ (bR rfl) rfl rfl (zf (m:=0) rfl rfl (zl (q:=0) (c:=(dI a2.Tx)) eZ bZ rfl rfl (Qh rfl eZ (za eZ ?_))))))))))))
 rcases zA H with⟨h3,H⟩|⟨h3,H⟩
 ·refine gDo eZ (dT h3) (zf (m:=3) rfl rfl (gDo rfl (dT h3) (zl (q:=3) (c:=(dI a1.Mode)) eZ (bR rfl) rfl rfl (gDo rfl (dT h3) (KG eZ eC (gDo rfl (dT h3) (za eZ ?_)))))))
  rcases zA H with⟨h4,H⟩|⟨h4,H⟩
  ·refine zb eZ (dT h4) rfl (zb rfl (dT h4) rfl (zb rfl (dT h4) rfl (gDo rfl (dT h3) (zC rfl (dT h4) eC (zC rfl (dT h3) eZ (za eZ (gDo eZ rfl (zM (es:=(qj a1)) rfl (bR rfl) rfl (gDo rfl rfl ?_)))))))))
   obtain⟨v5,h6,H⟩:=zk H
   refine zD (u:=(.agg [(dI v5.Lo),(dI v5.Hi)])) eC Cl.fn (yL h6) (Ec eZ En) (Vc (VD.agg rfl) Vn) rfl (gDo rfl rfl (zM (es:=(qj a2)) rfl (hB rfl bZ) rfl (gDo rfl rfl ?_)))
   obtain⟨v7,h8,H⟩:=zk H
   refine zD (u:=(.agg [(dI v7.Lo),(dI v7.Hi)])) eC Cl.fn (yL h8) (Ec eZ En) (Vc (VD.agg rfl) Vn) rfl (gDo rfl rfl ?_)
   obtain⟨v9,h10,H⟩:=zk H
   refine zD (u:=(oB v9)) eC Cl.fn (Kx h10) (Ec rfl (Ec eZ En)) (Vc (VD.agg rfl) (Vc (VD.agg rfl) Vn)) rfl (zC rfl rfl eZ (za eZ (xQ (AW.weaken (zg [192,128] (kr 4 rfl rfl SL.nil) (blR rfl) BK.nil) (AW.ret ?_)))))
   cases H
   exact eE rfl rfl
  ·refine gDo eZ (dF h4) (zf (m:=3) rfl rfl (gDo rfl (dF h4) (zl (q:=3) (c:=(dI a2.Mode)) eZ bZ rfl rfl (gDo rfl (dF h4) (KG eZ eC (gDo rfl (dT h3) (zJ rfl (dF h4) eZ (zC rfl (dT h3) eZ (za eZ ?_)))))))))
   rcases zA H with⟨h11,H⟩|⟨h11,H⟩
   ·refine gDo eZ (dT h11) (zM (es:=(qj a1)) rfl (bR rfl) rfl (gDo rfl (dT h11) ?_))
    obtain⟨v12,h13,H⟩:=zk H
    refine zD (u:=(.agg [(dI v12.Lo),(dI v12.Hi)])) eC Cl.fn (yL h13) (Ec eZ En) (Vc (VD.agg rfl) Vn) rfl (gDo rfl (dT h11) (zM (es:=(qj a2)) rfl (hB rfl bZ) rfl (gDo rfl (dT h11) ?_)))
    obtain⟨v14,h15,H⟩:=zk H
    refine zD (u:=(.agg [(dI v14.Lo),(dI v14.Hi)])) eC Cl.fn (yL h15) (Ec eZ En) (Vc (VD.agg rfl) Vn) rfl (gDo rfl (dT h11) ?_)
    obtain⟨v16,h17,H⟩:=zk H
    refine zD (u:=(oB v16)) eC Cl.fn (Kx h17) (Ec rfl (Ec eZ En)) (Vc (VD.agg rfl) (Vc (VD.agg rfl) Vn)) rfl (zC rfl (dT h11) eZ (za eZ (xQ (AW.weaken (zg [192,128] (kr 4 rfl rfl SL.nil) (blR rfl) BK.nil) (AW.ret ?_)))))
    cases H
    exact eE rfl rfl
   ·refine zb eZ (dF h11) rfl (zb rfl (dF h11) rfl (zb rfl (dF h11) rfl (zb rfl (dF h11) rfl (zb rfl (dF h11) rfl (zJ rfl (dF h11) eC (za eZ (xQ (AW.weaken (zg [192,128] (kr 4 rfl rfl SL.nil) (blR rfl) BK.nil) (AW.ret ?_)))))))))
    cases H
    exact eE rfl rfl
 ·refine zb eZ (dF h3) rfl (zb rfl (dF h3) rfl (zb rfl (dF h3) rfl (zb rfl (dF h3) rfl (zG eZ rfl (zG rfl rfl (zG rfl rfl (zb rfl (dF h3) rfl (zJ rfl (dF h3) eC (za eZ (zb eZ rfl rfl (zb rfl rfl rfl (zb rfl rfl rfl (zb rfl rfl rfl (zb rfl rfl rfl (zJ rfl rfl eC (za eZ (xQ (AW.weaken (zg [192,128] (kr 4 rfl rfl SL.nil) (blR rfl) BK.nil) (AW.ret ?_)))))))))))))))))))
  cases H
  exact eE rfl rfl
theorem zd8{a1:zL}{a2:zL}{r:Bool}(H:Qy a1 a2=some r):Fn Tryz.prog 298 (lent [(.agg (zp a1)),(.ptr (zp a2))]) true [(.bool r)]:=by
 refine f298 (fle rfl) ?_
 rw[zx]
 refine AW.weaken (zg [] (kv 0 (.agg (qj a1)) rfl rfl (SL.cons (v:=(.one (.ptr (.bd (zp a2) 0)))) (eS rfl eZ) rfl (VWk.one CWk.ptr) SL.nil)) BL.nil BK.nil) ?_
 unfold Qy at H
 unfold zD7
 refine aV (qY (n:=128) (m:=4) (cs:=(qj a1)) rfl eZ rfl rfl nZ (za eC (xQ (aV (zZ (es:=(qj a2)) rfl rfl (zM (es:=(qj a1)) rfl bZ rfl ?_))))))
 obtain⟨v3,h4,H⟩:=zk H
 refine zD (u:=(oB v3)) eC Cl.fn (zhw h4) (Ec rfl (Ec eZ En)) (Vc (VD.agg rfl) (Vc (VD.agg rfl) Vn)) rfl (za eZ (xQ (AW.ret ?_)))
 cases H
 exact eE rfl rfl
theorem kw{a1:(List zL)}{a2:zL}{r:Int}(H:jA a1 a2=some r):Fn Tryz.prog 216 (lent [(.sl 4 (List.map zp a1)),(.fn 298 [.ptr (zp a2)])]) true [(.int .i64 r)]:=by
 refine f216 (fle rfl) ?_
 rw[zx]
 refine AW.weaken (zg [] (kv 0 (.one (.d (.sl 4 (List.map zp a1)))) rfl rfl (SL.cons (v:=(.one (.fn 298 [(.bd (zp a2) 0)]))) (eS rfl eZ) rfl (VWk.one (CWk.fn (css:=[zp a2]))) SL.nil)) BL.nil BK.nil) ?_
 unfold jA at H
 unfold zkW
 refine aV (za eC (xQ (zE (fun t3:Unit=>yb t3=some r) (fun t3=>mk [] [] noG) ?_ ?_)))
 ·intro t3 H
  unfold yb at H
  refine aV (za eC (xQ (AW.ret ?_)))
  cases H
  exact eE rfl rfl
 ·refine aV (za rfl (zX eZ (n:=a1.length) lm (za eC (xQ (AW.block (AW.iter (fun s5:Int=>mk [(0,(.one (.d (.sl 4 (List.map zp a1))))),(1,(.one (.fn 298 [(.bd (zp a2) 0)]))),(7,(oI (a1.length:Int))),(8,(oI s5))] [] noG) H (zg [] (sR rfl rfl) BL.nil BK.nil) ?_))))))
  intro kb6 s5 H
  unfold jr at H
  refine aV (qi rfl rfl (xQ (aS ?_)))
  rcases zA H with⟨h7,H⟩|⟨h7,H⟩
  ·refine zi eZ (dT h7) (AW.skip (TQ.qn (aS (AW.block (aV (za rfl (za eZ (xQ (aV (za rfl (za rfl (za rfl ?_))))))))))))
   obtain⟨v8,h9,H⟩:=zk H
   refine qt rfl eZ h9 (zZ (es:=(qj v8)) eZ rfl ?_)
   obtain⟨v10,h11,H⟩:=zk H
   refine zD (u:=(oB v10)) rfl Cl.fn (zd8 h11) (Ec eZ En) (Vc (VD.agg rfl) (Vc qX Vn)) rfl (xQ ?_)
   rcases zA H with⟨h12,H⟩|⟨h12,H⟩
   ·refine zi eZ h12 (aV (za rfl (za eZ (xQ (AW.ret (BQ.qr (TQ.qr (TQ.qr (BQ.qr (TQ.qr ?_))))))))))
    cases H
    exact eE rfl rfl
   ·exact zh eZ (nt h12) (AW.skip (BQ.qn (TQ.qn (aR (qg rfl eC (za eZ (zm (TQ.qn ⟨(IntKind.wrap .i64 (s5+1)),H,(zg [] (sR rfl rfl) BL.nil BK.nil)⟩))))))))
  ·exact zh eZ (dF h7) (AW.exit (TQ.qe (TQ.qe (BQ.qe (TQ.qn ⟨(),H,(zg [] SL.nil BL.nil BK.nil)⟩)))))
theorem xn{a1:(List zL)}{a2:zL}{r:Bool}(H:qz a1 a2=some r):Fn Tryz.prog 110 (lent [(.sl 4 (List.map zp a1)),(.fn 298 [.ptr (zp a2)])]) true [(.bool r)]:=by
 refine zmL (fle rfl) ?_
 rw[zx]
 refine AW.weaken (zg [] (kv 0 (.one (.d (.sl 4 (List.map zp a1)))) rfl rfl (SL.cons (v:=(.one (.fn 298 [(.bd (zp a2) 0)]))) (eS rfl eZ) rfl (VWk.one (CWk.fn (css:=[zp a2]))) SL.nil)) BL.nil BK.nil) ?_
 unfold qz at H
 unfold zkY
 refine aV (za eC (xQ (aV (za rfl (za rfl ?_)))))
 obtain⟨v3,h4,H⟩:=zk H
 refine zD (u:=(oI v3)) eC Cl.fn (kw h4) (Ec rfl (Ec eZ En)) (Vc Vp (Vc (VD.fn (PDs.cons qX PDs.nil)) Vn)) rfl (XA eZ eC (za eZ (xQ (AW.ret ?_))))
 cases H
 exact eE rfl rfl
end Go.AW
