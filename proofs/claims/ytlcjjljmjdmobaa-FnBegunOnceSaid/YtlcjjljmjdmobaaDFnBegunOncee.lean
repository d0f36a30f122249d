/- That functions of the program compute what the plain functions say. Conditions: each theorem's own. -/
import Derived.Test.YtlcjjljmjdmobaaMFnBegunOnce
import Derived.Test.YtlcjjljmjdmobaaGFnBegunOnce
import Derived.Test.YtlcjjljmjdmobaaYp
import Derived.Test.YtlcjjljmjdmobaaDFnBegunOncea
import Derived.Test.YtlcjjljmjdmobaaDFnBegunOnceb
import Derived.Test.YtlcjjljmjdmobaaDFnBegunOncec
import Derived.Test.YtlcjjljmjdmobaaDFnBegunOnced
set_option linter.unusedVariables false
set_option linter.unusedSimpArgs false
set_option maxRecDepth 100000
namespace Go.AW
open Go.Proofs
theorem x9{a1:(List Int)}{r:Bool}(H:ZG a1=some r):Fn Try.prog 4 (lent [(.sl 1 (List.map zM a1))]) true [(.bool r)]:=by
 refine f4 (fle rfl) ?_
 rw[zR]
 refine AW.weaken (t:=mk [(0,(.one (.d (.sl 1 (List.map zM a1)))))] [] (lk [])) (zE [] (sR rfl rfl) BL.nil BK.nil) ?_
 unfold ZG at H
 unfold i4
 refine aV (za eC (xQ (aS (aV (za rfl ?_)))))
 obtain⟨v2,h3,H⟩:=zo H
 refine zS (u:=(oB v2)) eC Cl.fn (zcR h3) (Ec eZ En) (Vc Vp Vn) rfl (xQ ?_)
 rcases zF H with⟨h4,H⟩|⟨h4,H⟩
 ·refine zk eZ h4 (aV (za eC (xQ (AW.ret (TQ.qr ?_)))))
  cases H
  exact eE rfl rfl
 ·refine zj eZ (nt h4) (AW.skip (TQ.qn (aS (zp (ze (za rfl (zb (ze ?_))))))))
  obtain⟨v5,h6,H⟩:=zo H
  refine zS (u:=(.tup [(.agg (zy v5.1)),(oI v5.2.1),(oI v5.2.2)])) eC Cl.fn (Y7 h6) (Ec eZ En) (Vc Vp Vn) rfl (zb (ze (za eZ (zb (ze (Zi (v:=(.agg (zy v5.1))) eZ rfl (zb (ze (Zi (v:=(oI v5.2.1)) rfl rfl (zb (ze (Zi (v:=(oI v5.2.2)) rfl rfl (zb (ze (Zy (n:=192) (m:=2) rfl rfl nZ (zb (ze (zw (es:=(zy v5.1)) eZ rfl rfl rfl bZ rfl (zb (zx (za rfl (za rfl (xQ (aS (zp (ze (zB (es:=(zy v5.1)) rfl bZ rfl (zb (ze (za rfl (zb (ze (za rfl (zb (ze ?_)))))))))))))))))))))))))))))))))))
  obtain⟨v7,h8,H⟩:=zo H
  refine zS (u:=(.tup [(.agg (zy v7.1)),(oI v7.2.1),(oI v7.2.2)])) eC Cl.fn (Yp h8) (Ec rfl (Ec rfl (Ec eZ En))) (Vc (VD.agg rfl) (Vc Vp (Vc Vp Vn))) rfl (zb (ze (za eZ (zb (ze (Zi (v:=(.agg (zy v7.1))) eZ rfl (zb (ze (Zi (v:=(oI v7.2.1)) rfl rfl (zb (ze (Zi (v:=(oI v7.2.2)) rfl rfl (zb (ze (Zy (n:=384) (m:=2) rfl rfl (nR rfl) (zb (ze (zw (es:=(zy v7.1)) eZ rfl rfl rfl bZ rfl (zb (zx (za rfl (za rfl (xQ (AW.weaken (zg [] (kr 8 rfl rfl (kr 7 rfl rfl (kr 6 rfl rfl (kr 5 rfl rfl (kr 4 rfl rfl (kr 3 rfl rfl SL.nil)))))) (blR rfl) (BK.cons (n:=384) rfl bZ rfl rfl (BK.cons (n:=192) rfl (bR rfl) rfl rfl BK.nil)) GK.nil) (aS (zp (ze (zB (es:=(zy v5.1)) rfl (bR rfl) rfl (zb (ze (za rfl (zb (ze (za rfl (zb (ze ?_))))))))))))))))))))))))))))))))))))
  obtain⟨v9,h10,H⟩:=zo H
  refine zS (u:=(.tup [(.agg (zy v9.1)),(oI v9.2.1),(oI v9.2.2)])) eC Cl.fn (y1 h10) (Ec rfl (Ec rfl (Ec eZ En))) (Vc (VD.agg rfl) (Vc Vp (Vc Vp Vn))) rfl (zb (ze (za eZ (zb (ze (Zi (v:=(.agg (zy v9.1))) eZ rfl (zb (ze (Zi (v:=(oI v9.2.1)) rfl rfl (zb (ze (Zi (v:=(oI v9.2.2)) rfl rfl (zb (ze (Zy (n:=576) (m:=2) rfl rfl (nR rfl) (zb (ze (zw (es:=(zy v9.1)) eZ rfl rfl rfl bZ rfl (zb (zx (za rfl (za rfl (xQ (AW.weaken (zg [576] (kr 11 rfl rfl (kr 10 rfl rfl (kr 8 rfl rfl (kr 7 rfl rfl (kr 6 rfl rfl (kr 5 rfl rfl (kr 4 rfl rfl (kr 3 rfl rfl SL.nil)))))))) (blR rfl) (BK.cons (n:=384) rfl (bR rfl) rfl rfl (BK.cons (n:=192) rfl (bR rfl) rfl rfl BK.nil)) GK.nil) (aS (zQ (fun t11:Bool=>(qX v7 v5) t11=some r) (fun t11=>mk [(3,(.one (.ptr (.nm 192 0 0)))),(4,(oI v5.2.1)),(5,(oI v5.2.2)),(6,(.one (.ptr (.nm 384 0 0)))),(7,(oI v7.2.1)),(8,(oI v7.2.2)),(46,(oB t11))] [(192,(.vars 2 (zy v5.1))),(384,(.vars 2 (zy v7.1)))] (lk [])) ?_ ?_))))))))))))))))))))))))))
  ·intro t11 H
   unfold qX at H
   rcases zF H with⟨h13,H⟩|⟨h13,H⟩
   ·refine zk rfl h13 (aV (za eC (xQ (AW.ret (TQ.qr ?_)))))
    cases H
    exact eE rfl rfl
   ·refine zj rfl (nt h13) (AW.skip (TQ.qn (aS (aV (za rfl (QS eZ eC (xQ ?_)))))))
    rcases zF H with⟨h14,H⟩|⟨h14,H⟩
    ·refine zk eZ (dT h14) (aV (za rfl (jC eZ eC (za eZ ?_))))
     rcases zF H with⟨h15,H⟩|⟨h15,H⟩
     ·refine gDo eZ (dT h15) (za rfl (gDo rfl (dT h15) (jC eZ eC (gDo rfl (dT h15) (za eZ ?_)))))
      rcases zF H with⟨h16,H⟩|⟨h16,H⟩
      ·refine zd eZ (dT h16) rfl (zd rfl (dT h16) rfl (zd rfl (dT h16) rfl (zd rfl (dT h16) rfl (zd rfl (dT h16) rfl (zd rfl (dT h16) rfl (zd rfl (dT h16) rfl (gDo rfl (dT h15) (zK rfl (dT h16) eC (zK rfl (dT h15) eZ (za eZ (xQ (AW.weaken (zg [192,384] (kr 2 rfl rfl SL.nil) (blR rfl) BK.nil GK.nil) (AW.ret (TQ.qr ?_))))))))))))))
       cases H
       exact eE rfl rfl
      ·refine gDo eZ (dF h16) (zi (m:=0) rfl rfl (gDo rfl (dF h16) (zr (q:=0) (c:=(.d (.sl 5 (List.map zm v7.1.Recs)))) eZ (bR rfl) rfl rfl (gDo rfl (dF h16) (qx eZ (n:=v7.1.Recs.length) lm (gDo rfl (dF h16) (zi (m:=0) rfl rfl (gDo rfl (dF h16) (zr (q:=0) (c:=(.d (.sl 5 (List.map zm v5.1.Recs)))) eZ bZ rfl rfl (gDo rfl (dF h16) (qx eZ (n:=v5.1.Recs.length) lm (gDo rfl (dF h16) (jC rfl eZ (gDo rfl (dT h15) (zP rfl (dF h16) eZ (zK rfl (dT h15) eZ (za eZ (xQ (AW.weaken (zg [192,384] (kr 2 rfl rfl SL.nil) (blR rfl) BK.nil GK.nil) (AW.ret (TQ.qr ?_)))))))))))))))))))))
       cases H
       exact eE rfl rfl
     ·refine zd eZ (dF h15) rfl (zd rfl (dF h15) rfl (zd rfl (dF h15) rfl (zV eZ rfl (zV rfl rfl (zV rfl rfl (zV rfl rfl (zV rfl rfl (zV rfl rfl (zV rfl rfl (zd rfl (dF h15) rfl (zP rfl (dF h15) eC (za eZ (xQ (AW.weaken (zg [192,384] (kr 2 rfl rfl SL.nil) (blR rfl) BK.nil GK.nil) (AW.ret (TQ.qr ?_))))))))))))))))
      cases H
      exact eE rfl rfl
    ·refine zj eZ (dF h14) (AW.skip (TQ.qn (aS (zp (ze (zB (es:=(zy v7.1)) rfl (bR rfl) rfl (zb (ze (za rfl (zb (ze (za rfl (zb (ze ?_))))))))))))))
     obtain⟨v17,h18,H⟩:=zo H
     refine zS (u:=(.tup [(.agg (zy v17.1)),(oI v17.2.1),(oI v17.2.2)])) eC Cl.fn (Yp h18) (Ec rfl (Ec rfl (Ec eZ En))) (Vc (VD.agg rfl) (Vc Vp (Vc Vp Vn))) rfl (zb (ze (za eZ (zb (ze (Zi (v:=(.agg (zy v17.1))) eZ rfl (zb (ze (Zi (v:=(oI v17.2.1)) rfl rfl (zb (ze (Zi (v:=(oI v17.2.2)) rfl rfl (zb (ze (Zy (n:=768) (m:=2) rfl rfl (nR rfl) (zb (ze (zw (es:=(zy v17.1)) eZ rfl rfl rfl bZ rfl (zb (zx (za rfl (za rfl (xQ (AW.weaken (zg [192] (kr 14 rfl rfl (kr 13 rfl rfl (kr 12 rfl rfl (kr 4 rfl rfl (kr 5 rfl rfl (kr 6 rfl rfl (kr 7 rfl rfl SL.nil))))))) (blR rfl) (BK.cons (n:=768) rfl bZ rfl rfl (BK.cons (n:=384) rfl (bR rfl) rfl rfl BK.nil)) GK.nil) (aS (AW.regd (za eZ (jC eZ eC (za eZ ?_)))))))))))))))))))))))))))))
     rcases zF H with⟨h19,H⟩|⟨h19,H⟩
     ·refine gDo eZ (dT h19) (za rfl (gDo rfl (dT h19) (za rfl (gDo rfl (dT h19) (jC rfl eZ (zK rfl (dT h19) eZ (za eZ ?_)))))))
      rcases zF H with⟨h20,H⟩|⟨h20,H⟩
      ·refine gDo eZ (dT h20) (zi (m:=0) rfl rfl (gDo rfl (dT h20) (zr (q:=0) (c:=(.d (.sl 5 (List.map zm v17.1.Recs)))) eZ bZ rfl rfl (gDo rfl (dT h20) (qx eZ (n:=v17.1.Recs.length) lm (gDo rfl (dT h20) (zi (m:=0) rfl rfl (gDo rfl (dT h20) (zr (q:=0) (c:=(.d (.sl 5 (List.map zm v7.1.Recs)))) eZ (bR rfl) rfl rfl (gDo rfl (dT h20) (qx eZ (n:=v7.1.Recs.length) lm (gDo rfl (dT h20) (jC rfl eZ (zK rfl (dT h20) eZ (za eZ ?_)))))))))))))))
       rcases zF H with⟨h21,H⟩|⟨h21,H⟩
       ·refine gDo eZ (dT h21) (zB (es:=(zy v17.1)) rfl bZ rfl (gDo rfl (dT h21) (za rfl (gDo rfl (dT h21) (za rfl (gDo rfl (dT h21) ?_))))))
        obtain⟨v22,h23,H⟩:=zo H
        refine zS (u:=(oI v22)) eC Cl.fn (YI h23) (Ec rfl (Ec rfl (Ec eZ En))) (Vc (VD.agg rfl) (Vc Vp (Vc Vp Vn))) rfl (gDo rfl (dT h21) (za rfl (gDo rfl (dT h21) (jC rfl eZ (zK rfl (dT h21) eZ (za eZ ?_))))))
        rcases zF H with⟨h24,H⟩|⟨h24,H⟩
        ·refine gDo eZ (dT h24) (zB (es:=(zy v17.1)) rfl bZ rfl (gDo rfl (dT h24) (za rfl (gDo rfl (dT h24) ?_))))
         obtain⟨v25,h26,H⟩:=zo H
         refine zS (u:=(oI v25)) eC Cl.fn (Yk h26) (Ec rfl (Ec eZ En)) (Vc (VD.agg rfl) (Vc Vp Vn)) rfl (gDo rfl (dT h24) (JT eZ eC (zK rfl (dT h24) eZ (za eZ ?_))))
         rcases zF H with⟨h27,H⟩|⟨h27,H⟩
         ·refine gDo eZ (dT h27) (zB (es:=(zy v17.1)) rfl bZ rfl (gDo rfl (dT h27) (za rfl (gDo rfl (dT h27) ?_))))
          obtain⟨v28,h29,H⟩:=zo H
          refine zS (u:=(.one (.d (.sl 1 (List.map zt v28))))) eC Cl.fn (kJ h29) (Ec rfl (Ec eZ En)) (Vc (VD.agg rfl) (Vc Vp Vn)) rfl (gDo rfl (dT h27) (qx eZ (n:=v28.length) lm (gDo rfl (dT h27) (zB (es:=(zy v7.1)) rfl (hB rfl (bR rfl)) rfl (gDo rfl (dT h27) (za rfl (gDo rfl (dT h27) ?_)))))))
          obtain⟨v30,h31,H⟩:=zo H
          refine zS (u:=(.one (.d (.sl 1 (List.map zt v30))))) eC Cl.fn (Zb h31) (Ec rfl (Ec eZ En)) (Vc (VD.agg rfl) (Vc Vp Vn)) rfl (gDo rfl (dT h27) (qx eZ (n:=v30.length) lm (gDo rfl (dT h27) (jC rfl eZ (zK rfl (dT h27) eZ (za eZ (xQ (AW.weaken (zg [768,384] (kr 2 rfl rfl SL.nil) (blR rfl) BK.nil GK.nil) (AW.ret ?_)))))))))
          cases H
          exact eE rfl rfl
         ·refine zd eZ (dF h27) rfl (zd rfl (dF h27) rfl (zd rfl (dF h27) rfl (zd rfl (dF h27) rfl (zd rfl (dF h27) rfl (zd rfl (dF h27) rfl (zd rfl (dF h27) rfl (zd rfl (dF h27) rfl (zd rfl (dF h27) rfl (zP rfl (dF h27) eC (za eZ (xQ (AW.weaken (zg [768,384] (kr 2 rfl rfl SL.nil) (blR rfl) BK.nil GK.nil) (AW.ret ?_)))))))))))))
          cases H
          exact eE rfl rfl
        ·refine zd eZ (dF h24) rfl (zd rfl (dF h24) rfl (zd rfl (dF h24) rfl (zd rfl (dF h24) rfl (zP rfl (dF h24) eC (za eZ (zd eZ rfl rfl (zd rfl rfl rfl (zd rfl rfl rfl (zd rfl rfl rfl (zd rfl rfl rfl (zd rfl rfl rfl (zd rfl rfl rfl (zd rfl rfl rfl (zd rfl rfl rfl (zP rfl rfl eC (za eZ (xQ (AW.weaken (zg [768,384] (kr 2 rfl rfl SL.nil) (blR rfl) BK.nil GK.nil) (AW.ret ?_)))))))))))))))))))
         cases H
         exact eE rfl rfl
       ·refine zd eZ (dF h21) rfl (zd rfl (dF h21) rfl (zd rfl (dF h21) rfl (zd rfl (dF h21) rfl (zd rfl (dF h21) rfl (zd rfl (dF h21) rfl (zP rfl (dF h21) eC (za eZ (zd eZ rfl rfl (zd rfl rfl rfl (zd rfl rfl rfl (zd rfl rfl rfl (zP rfl rfl eC (za eZ (zd eZ rfl rfl (zd rfl rfl rfl (zd rfl rfl rfl (zd rfl rfl rfl (zd rfl rfl rfl (zd rfl rfl rfl (zd rfl rfl rfl (zd rfl rfl rfl (zd rfl rfl rfl (zP rfl rfl eC (za eZ (xQ (AW.weaken (zg [768,384] (kr 2 rfl rfl SL.nil) (blR rfl) BK.nil GK.nil) (AW.ret ?_)))))))))))))))))))))))))))
        cases H
        exact eE rfl rfl
      ·refine zd eZ (dF h20) rfl (zd rfl (dF h20) rfl (zd rfl (dF h20) rfl (zd rfl (dF h20) rfl (zd rfl (dF h20) rfl (zd rfl (dF h20) rfl (zd rfl (dF h20) rfl (zP rfl (dF h20) eC (za eZ (zd eZ rfl rfl (zd rfl rfl rfl (zd rfl rfl rfl (zd rfl rfl rfl (zd rfl rfl rfl (zd rfl rfl rfl (zP rfl rfl eC (za eZ (zd eZ rfl rfl (zd rfl rfl rfl (zd rfl rfl rfl (zd rfl rfl rfl (zP rfl rfl eC (za eZ (zd eZ rfl rfl (zd rfl rfl rfl (zd rfl rfl rfl (zd rfl rfl rfl (zd rfl rfl rfl (zd rfl rfl rfl (zd rfl rfl rfl (zd rfl rfl rfl (zd rfl rfl rfl (zP rfl rfl eC (za eZ (xQ (AW.weaken (zg [768,384] (kr 2 rfl rfl SL.nil) (blR rfl) BK.nil GK.nil) (AW.ret ?_))))))))))))))))))))))))))))))))))))
       cases H
       exact eE rfl rfl
     ·refine zd eZ (dF h19) rfl (zd rfl (dF h19) rfl (zd rfl (dF h19) rfl (zP rfl (dF h19) eC (za eZ (zd eZ rfl rfl (zd rfl rfl rfl (zd rfl rfl rfl (zd rfl rfl rfl (zd rfl rfl rfl (zd rfl rfl rfl (zd rfl rfl rfl (zP rfl rfl eC (za eZ (zd eZ rfl rfl (zd rfl rfl rfl (zd rfl rfl rfl (zd rfl rfl rfl (zd rfl rfl rfl (zd rfl rfl rfl (zP rfl rfl eC (za eZ (zd eZ rfl rfl (zd rfl rfl rfl (zd rfl rfl rfl (zd rfl rfl rfl (zP rfl rfl eC (za eZ (zd eZ rfl rfl (zd rfl rfl rfl (zd rfl rfl rfl (zd rfl rfl rfl (zd rfl rfl rfl (zd rfl rfl rfl (zd rfl rfl rfl (zd rfl rfl rfl (zd rfl rfl rfl (zP rfl rfl eC (za eZ (zb ?_)))))))))))))))))))))))))))))))))))))))
      refine TQ.qn (AW.weaken (zg [768,384] (kr 2 rfl rfl SL.nil) (blR rfl) BK.nil GK.nil) (AW.ret ?_))
      cases H
      exact eE rfl rfl
  ·refine aR (za rfl (za rfl (QS rfl eZ (za eZ ?_))))
   rcases zF H with⟨h32,H⟩|⟨h32,H⟩
   ·exact zd eZ (dT h32) rfl (zd rfl (dT h32) rfl (zd rfl (dT h32) rfl (zK rfl (dT h32) eC (zb (TQ.qn ⟨true,H,(zg [] (sR rfl rfl) (blR rfl) (bkR rfl rfl rfl) GK.nil)⟩)))))
   ·exact gDo eZ (dF h32) (za rfl (gDo rfl (dF h32) (za rfl (gDo rfl (dF h32) (QS rfl eZ (zP rfl (dF h32) eZ (zb (TQ.qn ⟨(decide (¬v7.2.1=v9.2.1)),H,(zg [] (sR rfl rfl) (blR rfl) (bkR rfl rfl rfl) GK.nil)⟩))))))))
end Go.AW
