/- That functions of the program compute what the plain functions say. Conditions: each theorem's own. -/
import Derived.Test.YtlcjjljmjdmobaaMFnStore
import Derived.Test.YtlcjjljmjdmobaaGFnStore
import Derived.Test.YtlcjjljmjdmobaaSFnStore
import Derived.Test.YtlcjjljmjdmobaaYt
import Derived.KernelRfl
import Derived.Test.YtlcjjljmjdmobaaDFnStorea
set_option linter.unusedVariables false
set_option linter.unusedSimpArgs false
set_option maxRecDepth 100000
namespace Go.AW
open Go.Proofs
theorem c_spec_WritesOk{a1:(List TCell)}{r:Bool}(H:m_spec_WritesOk a1=some r):Fn Try.prog 105 (lent [(.sl 2 (List.map d_TCell a1))]) true [(.bool r)]:=by
 refine f105 (fle rfl) ?_
 rw[init_mk]
 refine AW.weaken (wk_mk [] (kv 0 (.one (.d (.sl 2 (List.map d_TCell a1)))) rfl rfl SL.nil) BL.nil BK.nil) ?_
 unfold m_spec_WritesOk at H
 unfold i105
 refine aV (oMov eC (xQ (aS (aV (oMov rfl (oLenD eZ (n:=a1.length) lm (oGtr eZ eC (xQ ?_))))))))
 rcases oite H with⟨h2,H⟩|⟨h2,H⟩
 ·refine AW.condT eZ (dT h2) (aV (oMov eC (xQ (AW.ret (TQ.qr ?_)))))
  cases H
  exact eE rfl rfl
 ·refine AW.condF eZ (dF h2) (AW.skip (TQ.qn (AW.seqJ (fun t3:Unit=>spec_WritesOk_j3 t3=some r) (fun t3=>mk [] [] noG) ?_ ?_)))
  ·intro t3 H
   unfold spec_WritesOk_j3 at H
   refine aV (oMov eC (xQ (AW.ret ?_)))
   cases H
   exact eE rfl rfl
  ·refine aV (oMov eC (xQ (AW.block (AW.iter (fun s5:Int=>mk [(0,(.one (.d (.sl 2 (List.map d_TCell a1))))),(3,(oI s5))] [] noG) H (wk_mk [] (sR rfl rfl) BL.nil BK.nil) ?_))))
   intro kb6 s5 H
   unfold spec_WritesOk_b5 at H
   refine aS (aV (oMov rfl (oMov rfl (oLenD eZ (n:=a1.length) lm (oLss rfl eZ (xQ ?_))))))
   rcases oite H with⟨h7,H⟩|⟨h7,H⟩
   ·refine AW.condT eZ (dT h7) (AW.skip (TQ.qn (aS (AW.block (AW.seqJ (fun t8:Bool=>(spec_WritesOk_j8 kb6 s5) t8=some r) (fun t8=>mk [(0,(.one (.d (.sl 2 (List.map d_TCell a1))))),(3,(oI s5)),(46,(oB t8))] [] noG) ?_ ?_)))))
    ·intro t8 H
     unfold spec_WritesOk_j8 at H
     rcases oite H with⟨h10,H⟩|⟨h10,H⟩
     ·refine AW.condT rfl h10 (aV (oMov eC (xQ (AW.ret (BQ.qr (TQ.qr (TQ.qr (BQ.qr (TQ.qr ?_)))))))))
      cases H
      exact eE rfl rfl
     ·exact AW.condF rfl (nt h10) (AW.skip (BQ.qn (TQ.qn (aR (oMov rfl (oAdd eZ eC (oMov eZ (xNil (TQ.qn ⟨(IntKind.wrap .i64 (s5+1)),H,(wk_mk [] (sR rfl rfl) BL.nil BK.nil)⟩)))))))))
    ·refine AW.regd (oMov rfl (oMov rfl ?_))
     obtain⟨v11,h12,H⟩:=obind H
     refine oAtD rfl eZ h12 (oFaddrB (m:=0) eZ rfl (oLoadB (e:=(.int .i64 v11.Key)) eZ rfl ?_))
     obtain⟨v13,h14,H⟩:=obind H
     refine oCall (u:=(oB v13)) eC Cl.fn (c_spec_l10Key h14) (Ec eZ En) (Vc Vp Vn) rfl (oInv eZ (oMov eZ ?_))
     rcases oite H with⟨h15,H⟩|⟨h15,H⟩
     ·refine gDo eZ (cN h15) (oMov rfl (gDo rfl (cN h15) (oMov rfl (gDo rfl (cN h15) ?_))))
      obtain⟨v16,h17,H⟩:=obind H
      refine oAtD rfl eZ h17 (gDo rfl (cN h15) (oFaddrB (m:=1) eZ rfl (gDo rfl (cN h15) (oLoadB (e:=(.int .i64 v16.Value)) eZ rfl (gDo rfl (cN h15) ?_)))))
      obtain⟨v18,h19,H⟩:=obind H
      refine oCall (u:=(oB v18)) eC Cl.fn (c_spec_l1In h19) (Ec eZ (Ec eC (Ec eC En))) (Vc Vp (Vc Vp (Vc Vp Vn))) rfl (gDo rfl (cN h15) (oInv eZ (oPickF rfl (cN h15) eZ (oMov eZ ?_))))
      rcases oite H with⟨h20,H⟩|⟨h20,H⟩
      ·refine gDo eZ (cN h20) (oMov rfl (gDo rfl (cN h20) (oGtr eZ eC (gDo rfl (cN h20) (oMov eZ ?_)))))
       rcases oite H with⟨h21,H⟩|⟨h21,H⟩
       ·refine gDo eZ (dT h21) (oMov rfl (gDo rfl (dT h21) (oMov rfl (gDo rfl (dT h21) (oSub eZ eC (gDo rfl (dT h21) ?_))))))
        obtain⟨v22,h23,H⟩:=obind H
        refine oAtD rfl eZ h23 (gDo rfl (dT h21) (oFaddrB (m:=0) eZ rfl (gDo rfl (dT h21) (oLoadB (e:=(.int .i64 v22.Key)) eZ rfl (gDo rfl (dT h21) (oMov rfl (gDo rfl (dT h21) (oMov rfl (gDo rfl (dT h21) ?_)))))))))
        obtain⟨v24,h25,H⟩:=obind H
        exact oAtD rfl eZ h25 (gDo rfl (dT h21) (oFaddrB (m:=0) eZ rfl (gDo rfl (dT h21) (oLoadB (e:=(.int .i64 v24.Key)) eZ rfl (gDo rfl (dT h21) (oGeq rfl eZ (gDo rfl (cN h20) (oPickT rfl (dT h21) eZ (oPickF rfl (cN h20) eZ (xNil (TQ.qn ⟨(decide (v24.Key≤v22.Key)),H,(wk_mk [] (sR rfl rfl) BL.nil BK.nil)⟩)))))))))))
       ·exact gSkip eZ (dF h21) rfl (gSkip rfl (dF h21) rfl (gSkip rfl (dF h21) rfl (gSkip rfl (dF h21) rfl (gSkip rfl (dF h21) rfl (gSkip rfl (dF h21) rfl (gSkip rfl (dF h21) rfl (gSkip rfl (dF h21) rfl (gSkip rfl (dF h21) rfl (gSkip rfl (dF h21) rfl (gSkip rfl (dF h21) rfl (gSkip rfl (dF h21) rfl (gDo rfl (cN h20) (oPickF rfl (dF h21) eC (oPickF rfl (cN h20) eZ (xNil (TQ.qn ⟨false,H,(wk_mk [] (sR rfl rfl) BL.nil BK.nil)⟩))))))))))))))))
      ·exact gSkip eZ (cN (nt h20)) rfl (gSkip rfl (cN (nt h20)) rfl (gSkip rfl (cN (nt h20)) rfl (gSkipU eZ rfl (gSkipU rfl rfl (gSkipU rfl rfl (gSkipU rfl rfl (gSkipU rfl rfl (gSkipU rfl rfl (gSkipU rfl rfl (gSkipU rfl rfl (gSkipU rfl rfl (gSkipU rfl rfl (gSkipU rfl rfl (gSkipU rfl rfl (gSkip rfl (cN (nt h20)) rfl (oPickT rfl (cN (nt h20)) eC (xNil (TQ.qn ⟨true,H,(wk_mk [] (sR rfl rfl) BL.nil BK.nil)⟩))))))))))))))))))
     ·exact gSkip eZ (cN (nt h15)) rfl (gSkip rfl (cN (nt h15)) rfl (gSkip rfl (cN (nt h15)) rfl (gSkip rfl (cN (nt h15)) rfl (gSkip rfl (cN (nt h15)) rfl (gSkip rfl (cN (nt h15)) rfl (gSkip rfl (cN (nt h15)) rfl (oPickT rfl (cN (nt h15)) eC (oMov eZ (gSkip eZ rfl rfl (gSkip rfl rfl rfl (gSkip rfl rfl rfl (gSkipU eZ rfl (gSkipU rfl rfl (gSkipU rfl rfl (gSkipU rfl rfl (gSkipU rfl rfl (gSkipU rfl rfl (gSkipU rfl rfl (gSkipU rfl rfl (gSkipU rfl rfl (gSkipU rfl rfl (gSkipU rfl rfl (gSkipU rfl rfl (gSkip rfl rfl rfl (oPickT rfl rfl eC (xNil (TQ.qn ⟨true,H,(wk_mk [] (sR rfl rfl) BL.nil BK.nil)⟩)))))))))))))))))))))))))))
   ·exact AW.condF eZ (dF h7) (AW.exit (TQ.qe (TQ.qe (BQ.qe (TQ.qn ⟨(),H,(wk_mk [] SL.nil BL.nil BK.nil)⟩)))))
theorem c_spec_l2Cells{a1:(List TCell)}{a2:Int}{a3:Int}{a4:Bool}{r:(List TCell)}(H:m_spec_l2Cells a1 a2 a3 a4=some r):Fn Try.prog 50 (lent [(.sl 2 (List.map d_TCell a1)),(.int .i64 a2),(.int .i64 a3),(.bool a4)]) true [(.sl 2 (List.map d_TCell r))]:=by
 refine f50 (fle rfl) ?_
 rw[init_mk]
 refine AW.weaken (wk_mk [] (kv 0 (.one (.d (.sl 2 (List.map d_TCell a1)))) rfl rfl (kv 1 (oI a2) rfl rfl (kv 2 (oI a3) rfl rfl (kv 3 (oB a4) rfl rfl SL.nil)))) BL.nil BK.nil) ?_
 unfold m_spec_l2Cells at H
 unfold i50
 refine aV (oMov eC (xQ (aV (oBsliceZ (m:=768) rfl nZ (oMov eZ (xQ (aV (oMov rfl (oInv eZ (oMov eZ (xQ (AW.seqJ (fun t5:((List TCell)×Bool)=>(spec_l2Cells_j5 a2 a3) t5=some r) (fun t5=>mk [(1,(oI a2)),(2,(oI a3)),(9,(.one (.sl 320320 0 t5.1.length))),(10,(oB t5.2))] [(320320,(.data 2 (List.map d_TCell t5.1) true none))] noG) ?_ ?_))))))))))))
 ·intro t5 H
  unfold spec_l2Cells_j5 at H
  refine aS (aV (oMov rfl (oInv eZ (xQ ?_))))
  rcases oite H with⟨h7,H⟩|⟨h7,H⟩
  ·refine AW.condF eZ (cN h7) (AW.skip (TQ.qn (aV (oMov rfl (oMov eZ (xQ (AW.ret ?_)))))))
   cases H
   exact endsR (RL.cons (RV.tmp eZ) (VO.sl bZ lm (allFlat fun _=>rfl)) RL.nil) (by decide)
  ·refine AW.condT eZ (cN (nt h7)) (aR (oMov rfl (oMov rfl (oMov rfl (oBuild (cs:=[(dI a2),(dI a3)]) (PsCons rfl (PsCons eZ PsNil)) rfl (oBslice (m:=3712) (q:=1) (cs:=[(dI a2),(dI a3)]) rfl (PsCons eZ PsNil) rfl (List.cons_ne_nil _ _) (by simp) (nR rfl) ?_))))))
   obtain⟨h8,H⟩:=oguard H
   refine oAppN (f:=d_TCell) (xs:=t5.1) (ys:=[(TCell.mk a2 a3)]) (q:=(t5.1++([(TCell.mk a2 a3)])).length) rfl eZ (bR rfl) rfl (El.one (f:=d_TCell) (t:=(TCell.mk a2 a3)) (es:=[(.int .i64 a2),(.int .i64 a3)]) bZ rfl rfl rfl) rfl h8 (by decide) (by decide) (erL.cons (v':=(.one (.sl 3712 0 1))) rfl (erL.cons (v':=(.agg [(dI a2),(dI a3)])) rfl (erL.cons (v':=(oI a3)) rfl (erL.cons (v':=(oI a2)) rfl (erL.cons (v':=(.one .any)) rfl (erL.cons (v':=(oB (!t5.2))) rfl (erL.cons (v':=(oB t5.2)) rfl (erL.cons (v':=(oI a2)) rfl (erL.cons (v':=(oI a3)) rfl (erL.cons (v':=(.one .any)) rfl (erL.cons (v':=(oB t5.2)) rfl erL.nil))))))))))) (erH.cons (v':=(.vars 2 [(dI a2),(dI a3)])) rfl rfl (erH.drop rfl erH.nil)) (oMov eZ (xQ (aV (oMov eZ (oMov eZ (xQ (AW.ret ?_)))))))
   cases H
   exact endsR (RL.cons (RV.tmp eZ) (VO.sl bZ lm (allFlat fun _=>rfl)) RL.nil) (by decide)
 ·refine aV (oMov eC (xQ (AW.block (AW.iter (fun s9:((List TCell)×Bool×Int)=>mk [(0,(.one (.d (.sl 2 (List.map d_TCell a1))))),(1,(oI a2)),(2,(oI a3)),(9,(.one (.sl 320448 0 s9.1.length))),(10,(oB s9.2.1)),(11,(oI s9.2.2))] [(320448,(.data 2 (List.map d_TCell s9.1) true none))] noG) H ((wk_mk [] (kR rfl rfl (kR rfl rfl (kR rfl rfl (SL.cons eZ rfl (VWk.one (CWk.len (by first|(simp;done)|(simp;omega)|omega|(simp only[List.length_map];omega)))) (sR rfl rfl))))) (blR rfl) (bkR rfl rfl rfl)).trans (wk_zs 320448 2 9 true rfl nZ)) ?_))))
  intro kb10 s9 H
  unfold spec_l2Cells_b9 at H
  refine aS (aV (oMov rfl (oMov rfl (oLenD eZ (n:=a1.length) lm (oLss rfl eZ (xQ ?_))))))
  rcases oite H with⟨h11,H⟩|⟨h11,H⟩
  ·refine AW.condT eZ (dT h11) (AW.skip (TQ.qn (aS (AW.block (AW.seqJ (fun t12:((List TCell)×Bool)=>(spec_l2Cells_j12 a1 s9 a2 kb10) t12=some r) (fun t12=>mk [(0,(.one (.d (.sl 2 (List.map d_TCell a1))))),(1,(oI a2)),(2,(oI a3)),(9,(.one (.sl 320576 0 t12.1.length))),(10,(oB t12.2)),(11,(oI s9.2.2))] [(320576,(.data 2 (List.map d_TCell t12.1) true none))] noG) ?_ ?_)))))
   ·intro t12 H
    unfold spec_l2Cells_j12 at H
    refine aV (oMov eZ (oMov rfl ?_))
    obtain⟨v14,h15,H⟩:=obind H
    refine oAtD rfl eZ h15 (oFaddrB (m:=0) eZ rfl (oLoadB (e:=(.int .i64 v14.Key)) eZ rfl (oMov rfl (oNeq rfl eZ (xQ ?_)))))
    rcases oite H with⟨h16,H⟩|⟨h16,H⟩
    ·refine AW.condT eZ (dT h16) (aR (oMov rfl (oMov rfl (oMov rfl ?_))))
     obtain⟨v17,h18,H⟩:=obind H
     refine oAtD rfl eZ h18 (oLoadBA (es:=[(dI v17.Key),(dI v17.Value)]) eZ rfl (oBslice (m:=3200) (q:=1) (cs:=[(dI v17.Key),(dI v17.Value)]) rfl (PsCons eZ PsNil) rfl (List.cons_ne_nil _ _) (by simp) (nR rfl) ?_))
     obtain⟨h19,H⟩:=oguard H
     exact oAppN (f:=d_TCell) (xs:=t12.1) (ys:=[v17]) (q:=(t12.1++([v17])).length) rfl eZ (bR rfl) rfl (El.one (f:=d_TCell) (t:=v17) (es:=[(.int .i64 v17.Key),(.int .i64 v17.Value)]) bZ rfl rfl rfl) rfl h19 (by decide) (by decide) (erL.cons (v':=(.one (.sl 3200 0 1))) rfl (erL.cons (v':=(.agg [(dI v17.Key),(dI v17.Value)])) rfl (erL.cons (v':=(.one (.ptr (.bd (d_TCell v17) 0)))) rfl (erL.cons (v':=(oI s9.2.2)) rfl (erL.cons (v':=(.one (.d (.sl 2 (List.map d_TCell a1))))) rfl (erL.cons (v':=(.one .any)) rfl (erL.cons (v':=(oB (decide (¬v14.Key=a2)))) rfl (erL.cons (v':=(oI a2)) rfl (erL.cons (v':=(oI v14.Key)) rfl (erL.cons (v':=(.one (.ptr (.bd (d_TCell v14) 0)))) rfl (erL.cons (v':=(.one (.ptr (.bd (d_TCell v14) 0)))) rfl (erL.cons (v':=(oI s9.2.2)) rfl (erL.cons (v':=(.one (.d (.sl 2 (List.map d_TCell a1))))) rfl (erL.cons (v':=(.one (.d (.sl 2 (List.map d_TCell a1))))) rfl (erL.cons (v':=(oI a2)) rfl (erL.cons (v':=(oI a3)) rfl (erL.cons (v':=(.one .any)) rfl (erL.cons (v':=(oB t12.2)) rfl (erL.cons (v':=(oI s9.2.2)) rfl erL.nil))))))))))))))))))) (erH.cons (v':=(.vars 2 [(dI v17.Key),(dI v17.Value)])) rfl rfl (erH.drop rfl erH.nil)) (oMov eZ (xNil (BQ.qn (TQ.qn (AW.weaken (wk_mk [3200] (kr 9 rfl rfl (kr 0 rfl rfl (kr 1 rfl rfl (kr 2 rfl rfl (kr 10 rfl rfl (kr 11 rfl rfl SL.nil)))))) (blR rfl) (BK.cons (n:=320576) rfl bZ rfl rfl BK.nil)) (aR (oMov rfl (oAdd eZ eC (oMov eZ (xNil (TQ.qn ⟨((t12.1++([v17])),t12.2,(IntKind.wrap .i64 (s9.2.2+1))),H,((wk_mk [] (sR rfl rfl) (blR rfl) (bkR rfl rfl rfl)).trans (wk_ren 320576 320448 rfl rfl (nR rfl)))⟩)))))))))))
    ·exact AW.condF eZ (dF h16) (AW.skip (BQ.qn (TQ.qn (aR (oMov rfl (oAdd eZ eC (oMov eZ (xNil (TQ.qn ⟨(t12.1,t12.2,(IntKind.wrap .i64 (s9.2.2+1))),H,((wk_mk [] (sR rfl rfl) (blR rfl) (bkR rfl rfl rfl)).trans (wk_ren 320576 320448 rfl rfl (nR rfl)))⟩)))))))))
   ·refine AW.seqJ (fun t20:Bool=>(spec_l2Cells_j20 s9 a2 a3 (spec_l2Cells_j12 a1 s9 a2 kb10)) t20=some r) (fun t20=>mk [(0,(.one (.d (.sl 2 (List.map d_TCell a1))))),(1,(oI a2)),(2,(oI a3)),(9,(.one (.sl 320448 0 s9.1.length))),(10,(oB s9.2.1)),(11,(oI s9.2.2)),(31,(oB t20))] [(320448,(.data 2 (List.map d_TCell s9.1) true none))] noG) ?_ ?_
    ·intro t20 H
     unfold spec_l2Cells_j20 at H
     rcases oite H with⟨h22,H⟩|⟨h22,H⟩
     ·refine AW.condT rfl h22 (aV (oMov rfl (oMov rfl (oMov rfl (oBuild (cs:=[(dI a2),(dI a3)]) (PsCons rfl (PsCons eZ PsNil)) rfl (oBslice (m:=2304) (q:=1) (cs:=[(dI a2),(dI a3)]) rfl (PsCons eZ PsNil) rfl (List.cons_ne_nil _ _) (by simp) (nR rfl) ?_))))))
      obtain⟨h23,H⟩:=oguard H
      exact oAppN (f:=d_TCell) (xs:=s9.1) (ys:=[(TCell.mk a2 a3)]) (q:=(s9.1++([(TCell.mk a2 a3)])).length) rfl eZ (bR rfl) rfl (El.one (f:=d_TCell) (t:=(TCell.mk a2 a3)) (es:=[(.int .i64 a2),(.int .i64 a3)]) bZ rfl rfl rfl) rfl h23 (by decide) (by decide) (erL.cons (v':=(.one (.sl 2304 0 1))) rfl (erL.cons (v':=(.agg [(dI a2),(dI a3)])) rfl (erL.cons (v':=(oI a3)) rfl (erL.cons (v':=(oI a2)) rfl (erL.cons (v':=(.one .any)) rfl (erL.cons (v':=(.one (.d (.sl 2 (List.map d_TCell a1))))) rfl (erL.cons (v':=(oI a2)) rfl (erL.cons (v':=(oI a3)) rfl (erL.cons (v':=(.one .any)) rfl (erL.cons (v':=(oB s9.2.1)) rfl (erL.cons (v':=(oI s9.2.2)) rfl (erL.cons (v':=(oB t20)) rfl erL.nil)))))))))))) (erH.cons (v':=(.vars 2 [(dI a2),(dI a3)])) rfl rfl (erH.drop rfl erH.nil)) (oMov eZ (xQ (aR (oMov eC (xNil (TQ.qn ⟨((s9.1++([(TCell.mk a2 a3)])),true),H,((wk_mk [2304] (sR rfl rfl) (blR rfl) (bkR rfl rfl rfl)).trans (wk_ren 320448 320576 rfl rfl (nR rfl)))⟩))))))
     ·exact AW.condF rfl (nt h22) (AW.skip (TQ.qn ⟨(s9.1,s9.2.1),H,((wk_mk [] (sR rfl rfl) (blR rfl) (bkR rfl rfl rfl)).trans (wk_ren 320448 320576 rfl rfl (nR rfl)))⟩))
    ·refine aR (oMov rfl (oInv eZ (oMov eZ ?_)))
     rcases oite H with⟨h24,H⟩|⟨h24,H⟩
     ·exact gSkip eZ (cN h24) rfl (gSkip rfl (cN h24) rfl (gSkip rfl (cN h24) rfl (gSkip rfl (cN h24) rfl (gSkip rfl (cN h24) rfl (gSkip rfl (cN h24) rfl (gSkip rfl (cN h24) rfl (oPickF rfl (cN h24) eC (xNil (TQ.qn ⟨false,H,(wk_mk [] (sR rfl rfl) (blR rfl) (bkR rfl rfl rfl))⟩)))))))))
     ·refine gDo eZ (cN (nt h24)) (oMov rfl (gDo rfl (cN (nt h24)) (oMov rfl (gDo rfl (cN (nt h24)) ?_))))
      obtain⟨v25,h26,H⟩:=obind H
      exact oAtD rfl eZ h26 (gDo rfl (cN (nt h24)) (oFaddrB (m:=0) eZ rfl (gDo rfl (cN (nt h24)) (oLoadB (e:=(.int .i64 v25.Key)) eZ rfl (gDo rfl (cN (nt h24)) (oMov rfl (gDo rfl (cN (nt h24)) (oGeq rfl eZ (oPickT rfl (cN (nt h24)) eZ (xNil (TQ.qn ⟨(decide (a2≤v25.Key)),H,(wk_mk [] (sR rfl rfl) (blR rfl) (bkR rfl rfl rfl))⟩)))))))))))
  ·exact AW.condF eZ (dF h11) (AW.exit (TQ.qe (TQ.qe (BQ.qe (TQ.qn ⟨(s9.1,s9.2.1),H,((wk_mk [] (sR rfl rfl) (blR rfl) (bkR rfl rfl rfl)).trans (wk_ren 320448 320320 rfl rfl (nR rfl)))⟩)))))
theorem c_spec_StoreApply{a1:(List TCell)}{a2:(List TCell)}{r:((List TCell)×Bool)}(H:m_spec_StoreApply a1 a2=some r):Fn Try.prog 46 (lent [(.sl 2 (List.map d_TCell a1)),(.sl 2 (List.map d_TCell a2))]) true [(.sl 2 (List.map d_TCell r.1)),(.bool r.2)]:=by
 refine f46 (fle rfl) ?_
 rw[init_mk]
 refine AW.weaken (wk_mk [] (kv 0 (.one (.d (.sl 2 (List.map d_TCell a1)))) rfl rfl (kv 1 (.one (.d (.sl 2 (List.map d_TCell a2)))) rfl rfl SL.nil)) BL.nil BK.nil) ?_
 unfold m_spec_StoreApply at H
 unfold i46
 refine aV (oMov eC (oMov eC (xQ (aS (AW.seqJ (fun t3:Bool=>(spec_StoreApply_j3 a1 a2) t3=some r) (fun t3=>mk [(0,(.one (.d (.sl 2 (List.map d_TCell a1))))),(1,(.one (.d (.sl 2 (List.map d_TCell a2))))),(15,(oB t3))] [] noG) ?_ ?_)))))
 ·intro t3 H
  unfold spec_StoreApply_j3 at H
  rcases oite H with⟨h5,H⟩|⟨h5,H⟩
  ·refine AW.condT rfl h5 (aV (oBsliceZ (m:=1024) rfl nZ (oMov eZ (oMov eC (xQ (AW.ret (TQ.qr ?_)))))))
   cases H
   exact endsR (RL.cons (RV.tmp rfl) VO.zs (RL.cons (RV.tmp eZ) (VO.flat rfl) RL.nil)) List.nodup_nil
  ·refine AW.condF rfl (nt h5) (AW.skip (TQ.qn (aV (oBsliceZ (m:=1088) rfl nZ (oMov rfl ?_)))))
   obtain⟨h6,H⟩:=oguard H
   refine oAppZ (f:=d_TCell) (m:=1216) (own:=true) (ys:=a1) (q:=a1.length) rfl rfl rfl eZ (El.lent fun _ _=>rfl) rfl h6 (by decide) nZ (oMov eZ (xQ (AW.seqJ (fun t7:(List TCell)=>spec_StoreApply_j7 t7=some r) (fun t7=>mk [(6,(.one (.sl 320128 0 t7.length)))] [(320128,(.data 2 (List.map d_TCell t7) true none))] noG) ?_ ?_)))
   ·intro t7 H
    unfold spec_StoreApply_j7 at H
    refine aS (aV (oMov eZ (oLenN eZ (oGtr eZ eC (xQ ?_)))))
    rcases oite H with⟨h9,H⟩|⟨h9,H⟩
    ·refine AW.condT eZ (dT h9) (aV (oBsliceZ (m:=3008) rfl (nR rfl) (oMov eZ (oMov eC (xQ (AW.ret (TQ.qr ?_)))))))
     cases H
     exact endsR (RL.cons (RV.tmp rfl) VO.zs (RL.cons (RV.tmp eZ) (VO.flat rfl) RL.nil)) List.nodup_nil
    ·refine AW.condF eZ (dF h9) (AW.skip (TQ.qn (aV (oMov rfl (oMov eZ (oMov eC (xQ (AW.ret ?_))))))))
     cases H
     exact endsR (RL.cons (RV.tmp rfl) (VO.sl bZ lm (allFlat fun _=>rfl)) (RL.cons (RV.tmp eZ) (VO.flat rfl) RL.nil)) (by decide)
   ·refine aV (oMov eC (xQ (AW.block (AW.iter (fun s10:((List TCell)×Int)=>mk [(1,(.one (.d (.sl 2 (List.map d_TCell a2))))),(6,(.one (.sl 320192 0 s10.1.length))),(7,(oI s10.2))] [(320192,(.data 2 (List.map d_TCell s10.1) true none))] noG) H ((wk_mk [] (sR rfl rfl) (blR rfl) (bkR rfl rfl rfl)).trans (wk_ren 1216 320192 rfl rfl (nR rfl))) ?_))))
    intro kb11 s10 H
    unfold spec_StoreApply_b10 at H
    refine aS (aV (oMov rfl (oMov rfl (oLenD eZ (n:=a2.length) lm (oLss rfl eZ (xQ ?_))))))
    rcases oite H with⟨h12,H⟩|⟨h12,H⟩
    ·refine AW.condT eZ (dT h12) (AW.skip (TQ.qn (aS (AW.block (AW.regd (oMov rfl (oMov rfl (oMov rfl ?_))))))))
     obtain⟨v13,h14,H⟩:=obind H
     refine oAtD rfl eZ h14 (oFaddrB (m:=0) eZ rfl (oLoadB (e:=(.int .i64 v13.Key)) eZ rfl (oMov rfl (oMov rfl ?_))))
     obtain⟨v15,h16,H⟩:=obind H
     refine oAtD rfl eZ h16 (oFaddrB (m:=1) eZ rfl (oLoadB (e:=(.int .i64 v15.Value)) eZ rfl (oMov rfl (oMov rfl ?_))))
     obtain⟨v17,h18,H⟩:=obind H
     refine oAtD rfl eZ h18 (oFaddrB (m:=1) eZ rfl (oLoadB (e:=(.int .i64 v17.Value)) eZ rfl (oGeq eZ eC ?_)))
     obtain⟨v19,h20,H⟩:=obind H
     exact oCallN (u:=(.one (.sl 2752 0 v19.length))) (bs:=[(2752,(.data 2 (List.map d_TCell v19) true none))]) eC Cl.fn (c_spec_l2Cells h20) (Ec rfl (Ec rfl (Ec rfl (Ec eZ En)))) (Vc (VD.sl bZ lm) (Vc Vp (Vc Vp (Vc Vp Vn)))) (by simp[bindR,bindV,bindVs,bindC,bindCs]) rfl (fC (nR rfl) rfl (fC (nR rfl) rfl fN)) (oMov eZ (xNil (BQ.qn (TQ.qn (AW.weaken (wk_mk [320192] (kr 6 rfl rfl (kr 1 rfl rfl (kr 7 rfl rfl SL.nil))) (blR rfl) (BK.cons (n:=2752) rfl bZ rfl rfl BK.nil)) (aR (oMov rfl (oAdd eZ eC (oMov eZ (xNil (TQ.qn ⟨(v19,(IntKind.wrap .i64 (s10.2+1))),H,((wk_mk [] (sR rfl rfl) (blR rfl) (bkR rfl rfl rfl)).trans (wk_ren 2752 320192 rfl rfl (nR rfl)))⟩)))))))))))
    ·exact AW.condF eZ (dF h12) (AW.exit (TQ.qe (TQ.qe (BQ.qe (TQ.qn ⟨s10.1,H,((wk_mk [] (sR rfl rfl) (blR rfl) (bkR rfl rfl rfl)).trans (wk_ren 320192 320128 rfl rfl (nR rfl)))⟩)))))
 ·refine aR (oMov rfl ?_)
  obtain⟨v21,h22,H⟩:=obind H
  refine oCall (u:=(oB v21)) eC Cl.fn (c_spec_StoreOk h22) (Ec eZ En) (Vc Vp Vn) rfl (oInv eZ (oMov eZ ?_))
  rcases oite H with⟨h23,H⟩|⟨h23,H⟩
  ·refine gDo eZ (cN h23) (oMov rfl (gDo rfl (cN h23) ?_))
   obtain⟨v24,h25,H⟩:=obind H
   exact oCall (u:=(oB v24)) eC Cl.fn (c_spec_WritesOk h25) (Ec eZ En) (Vc Vp Vn) rfl (gDo rfl (cN h23) (oInv eZ (oPickF rfl (cN h23) eZ (xNil (TQ.qn ⟨(!v24),H,(wk_mk [] (sR rfl rfl) BL.nil BK.nil)⟩)))))
  ·exact gSkip eZ (cN (nt h23)) rfl (gSkip rfl (cN (nt h23)) rfl (gSkip rfl (cN (nt h23)) rfl (oPickT rfl (cN (nt h23)) eC (xNil (TQ.qn ⟨true,H,(wk_mk [] (sR rfl rfl) BL.nil BK.nil)⟩)))))
theorem c_spec_l11Get{a1:(List TCell)}{a2:Int}{r:Int}(H:m_spec_l11Get a1 a2=some r):Fn Try.prog 49 (lent [(.sl 2 (List.map d_TCell a1)),(.int .i64 a2)]) true [(.int .i64 r)]:=by
 refine f49 (fle rfl) ?_
 rw[init_mk]
 refine AW.weaken (wk_mk [] (kv 0 (.one (.d (.sl 2 (List.map d_TCell a1)))) rfl rfl (kv 1 (oI a2) rfl rfl SL.nil)) BL.nil BK.nil) ?_
 unfold m_spec_l11Get at H
 unfold i49
 refine aV (oMov eC (xQ (AW.seqJ (fun t3:Unit=>spec_l11Get_j3 t3=some r) (fun t3=>mk [] [] noG) ?_ ?_)))
 ·intro t3 H
  unfold spec_l11Get_j3 at H
  refine aV (oMov eC (xQ (AW.ret ?_)))
  cases H
  exact eE rfl rfl
 ·refine aV (oMov eC (xQ (AW.block (AW.iter (fun s5:Int=>mk [(0,(.one (.d (.sl 2 (List.map d_TCell a1))))),(1,(oI a2)),(5,(oI s5))] [] noG) H (wk_mk [] (sR rfl rfl) BL.nil BK.nil) ?_))))
  intro kb6 s5 H
  unfold spec_l11Get_b5 at H
  refine aS (aV (oMov rfl (oMov rfl (oLenD eZ (n:=a1.length) lm (oLss rfl eZ (xQ ?_))))))
  rcases oite H with⟨h7,H⟩|⟨h7,H⟩
  ·refine AW.condT eZ (dT h7) (AW.skip (TQ.qn (aS (AW.block (aV (oMov rfl (oMov rfl ?_)))))))
   obtain⟨v8,h9,H⟩:=obind H
   refine oAtD rfl eZ h9 (oFaddrB (m:=0) eZ rfl (oLoadB (e:=(.int .i64 v8.Key)) eZ rfl (oMov rfl (oEql rfl eZ (xQ ?_)))))
   rcases oite H with⟨h10,H⟩|⟨h10,H⟩
   ·refine AW.condT eZ (dT h10) (aV (oMov rfl (oMov rfl ?_)))
    obtain⟨v11,h12,H⟩:=obind H
    refine oAtD rfl eZ h12 (oFaddrB (m:=1) eZ rfl (oLoadB (e:=(.int .i64 v11.Value)) eZ rfl (oMov eZ (xQ (AW.weaken (wk_mk [] (kr 4 rfl rfl SL.nil) BL.nil BK.nil) (AW.ret (BQ.qr (TQ.qr (TQ.qr (BQ.qr (TQ.qr ?_)))))))))))
    cases H
    exact eE rfl rfl
   ·exact AW.condF eZ (dF h10) (AW.skip (BQ.qn (TQ.qn (aR (oMov rfl (oAdd eZ eC (oMov eZ (xNil (TQ.qn ⟨(IntKind.wrap .i64 (s5+1)),H,(wk_mk [] (sR rfl rfl) BL.nil BK.nil)⟩)))))))))
  ·exact AW.condF eZ (dF h7) (AW.exit (TQ.qe (TQ.qe (BQ.qe (TQ.qn ⟨(),H,(wk_mk [] SL.nil BL.nil BK.nil)⟩)))))
theorem c_spec_StoreGet{a1:(List TCell)}{a2:Int}{r:Int}(H:m_spec_StoreGet a1 a2=some r):Fn Try.prog 47 (lent [(.sl 2 (List.map d_TCell a1)),(.int .i64 a2)]) true [(.int .i64 r)]:=by
 refine f47 (fle rfl) ?_
 rw[init_mk]
 refine AW.weaken (wk_mk [] (kv 0 (.one (.d (.sl 2 (List.map d_TCell a1)))) rfl rfl (kv 1 (oI a2) rfl rfl SL.nil)) BL.nil BK.nil) ?_
 unfold m_spec_StoreGet at H
 unfold i47
 refine aV (oMov eC (xQ (aS (aV (oMov rfl ?_)))))
 obtain⟨v3,h4,H⟩:=obind H
 refine oCall (u:=(oB v3)) eC Cl.fn (c_spec_StoreOk h4) (Ec eZ En) (Vc Vp Vn) rfl (oInv eZ (xQ ?_))
 rcases oite H with⟨h5,H⟩|⟨h5,H⟩
 ·refine AW.condF eZ (cN h5) (AW.skip (TQ.qn (aV (oMov rfl (oMov rfl ?_)))))
  obtain⟨v6,h7,H⟩:=obind H
  refine oCall (u:=(oI v6)) eC Cl.fn (c_spec_l11Get h7) (Ec rfl (Ec eZ En)) (Vc Vp (Vc Vp Vn)) rfl (oMov eZ (xQ (AW.ret ?_)))
  cases H
  exact eE rfl rfl
 ·refine AW.condT eZ (cN (nt h5)) (aV (oMov eC (xQ (AW.ret (TQ.qr ?_)))))
  cases H
  exact eE rfl rfl
theorem c_impl_StoreNew{a1:(List TCell)}{a2:(List TCell)}{r:Int}(H:m_impl_StoreNew a1 a2=some r):Fn Try.prog 48 (lent [(.sl 2 (List.map d_TCell a1)),(.sl 2 (List.map d_TCell a2))]) true [(.int .i64 r)]:=by
 refine f48 (fle rfl) ?_
 rw[init_mk]
 refine AW.weaken (wk_mk [] (kv 0 (.one (.d (.sl 2 (List.map d_TCell a1)))) rfl rfl (kv 1 (.one (.d (.sl 2 (List.map d_TCell a2)))) rfl rfl SL.nil)) BL.nil BK.nil) ?_
 unfold m_impl_StoreNew at H
 unfold i48
 refine aV (oMov eC (xQ (aS (AW.seqJ (fun t3:Bool=>(impl_StoreNew_j3 a2 a1) t3=some r) (fun t3=>mk [(0,(.one (.d (.sl 2 (List.map d_TCell a1))))),(1,(.one (.d (.sl 2 (List.map d_TCell a2))))),(15,(oB t3))] [] noG) ?_ ?_))))
 ·intro t3 H
  unfold impl_StoreNew_j3 at H
  rcases oite H with⟨h5,H⟩|⟨h5,H⟩
  ·refine AW.condT rfl h5 (aV (oMov eC (xQ (AW.ret (TQ.qr ?_)))))
   cases H
   exact eE rfl rfl
  ·refine AW.condF rfl (nt h5) (AW.skip (TQ.qn (aV (oMov eC (xQ (AW.seqJ (fun t6:Int=>impl_StoreNew_j6 t6=some r) (fun t6=>mk [(5,(oI t6))] [] noG) ?_ ?_))))))
   ·intro t6 H
    unfold impl_StoreNew_j6 at H
    refine aV (oMov eZ (oMov eZ (xQ (AW.ret ?_))))
    cases H
    exact eE rfl rfl
   ·refine aV (oMov rfl (oLenD eZ (n:=a2.length) lm (oMov eC (xQ (AW.block (AW.iter (fun s8:(Int×Int)=>mk [(0,(.one (.d (.sl 2 (List.map d_TCell a1))))),(5,(oI s8.1)),(16,(.one (.d (.sl 2 (List.map d_TCell a2))))),(17,(oI (a2.length:Int))),(18,(oI s8.2))] [] noG) H (wk_mk [] (sR rfl rfl) BL.nil BK.nil) ?_))))))
    intro kb9 s8 H
    unfold impl_StoreNew_b8 at H
    refine aV (oLss rfl rfl (xQ (aS ?_)))
    rcases oite H with⟨h10,H⟩|⟨h10,H⟩
    ·refine AW.condT eZ (dT h10) (AW.skip (TQ.qn (aS (AW.block (aV ?_)))))
     obtain⟨v11,h12,H⟩:=obind H
     refine oAtD rfl rfl h12 (oLoadBA (es:=[(dI v11.Key),(dI v11.Value)]) eZ rfl (oVar (n:=448) (m:=2) rfl rfl nZ (oStoreV (es:=[(dI v11.Key),(dI v11.Value)]) eZ rfl rfl rfl bZ rfl (xQ (AW.seqJ (fun t13:Bool=>(impl_StoreNew_j13 kb9 s8) t13=some r) (fun t13=>mk [(0,(.one (.d (.sl 2 (List.map d_TCell a1))))),(5,(oI s8.1)),(16,(.one (.d (.sl 2 (List.map d_TCell a2))))),(17,(oI (a2.length:Int))),(18,(oI s8.2)),(31,(oB t13))] [] noG) ?_ ?_)))))
     ·intro t13 H
      unfold impl_StoreNew_j13 at H
      rcases oite H with⟨h15,H⟩|⟨h15,H⟩
      ·exact AW.condT rfl h15 (aR (oMov rfl (oAdd eZ eC (oMov eZ (xNil (BQ.qn (TQ.qn (aR (oAdd rfl eC (oMov eZ (xNil (TQ.qn ⟨((IntKind.wrap .i64 (s8.1+1)),(IntKind.wrap .i64 (s8.2+1))),H,(wk_mk [] (sR rfl rfl) BL.nil BK.nil)⟩))))))))))))
      ·exact AW.condF rfl (nt h15) (AW.skip (BQ.qn (TQ.qn (aR (oAdd rfl eC (oMov eZ (xNil (TQ.qn ⟨(s8.1,(IntKind.wrap .i64 (s8.2+1))),H,(wk_mk [] (sR rfl rfl) BL.nil BK.nil)⟩))))))))
     ·refine aR (oFaddrN (m:=1) eZ rfl (oLoadV (q:=1) (c:=(dI v11.Value)) eZ bZ rfl rfl (oNeq eZ eC (oMov eZ ?_))))
      rcases oite H with⟨h16,H⟩|⟨h16,H⟩
      ·refine gDo eZ (dT h16) (oMov rfl (gDo rfl (dT h16) (oFaddrN (m:=0) rfl rfl (gDo rfl (dT h16) (oLoadV (q:=0) (c:=(dI v11.Key)) eZ bZ rfl rfl (gDo rfl (dT h16) ?_))))))
       obtain⟨v17,h18,H⟩:=obind H
       exact oCall (u:=(oI v17)) eC Cl.fn (c_impl_valueOf h18) (Ec rfl (Ec eZ En)) (Vc Vp (Vc Vp Vn)) rfl (gDo rfl (dT h16) (oLss eZ eC (oPickT rfl (dT h16) eZ (xNil (TQ.qn ⟨(decide (v17 < 0)),H,(wk_mk [448] (sR rfl rfl) (blR rfl) BK.nil)⟩)))))
      ·exact gSkip eZ (dF h16) rfl (gSkip rfl (dF h16) rfl (gSkip rfl (dF h16) rfl (gSkip rfl (dF h16) rfl (gSkip rfl (dF h16) rfl (oPickF rfl (dF h16) eC (xNil (TQ.qn ⟨false,H,(wk_mk [448] (sR rfl rfl) (blR rfl) BK.nil)⟩)))))))
    ·exact AW.condF eZ (dF h10) (AW.exit (TQ.qe (TQ.qe (BQ.qe (TQ.qn ⟨s8.1,H,(wk_mk [] (sR rfl rfl) BL.nil BK.nil)⟩)))))
 ·refine aR (oMov rfl ?_)
  obtain⟨v19,h20,H⟩:=obind H
  refine oCall (u:=(oB v19)) eC Cl.fn (c_impl_StoreOk h20) (Ec eZ En) (Vc Vp Vn) rfl (oInv eZ (oMov eZ ?_))
  rcases oite H with⟨h21,H⟩|⟨h21,H⟩
  ·refine gDo eZ (cN h21) (oMov rfl (gDo rfl (cN h21) ?_))
   obtain⟨v22,h23,H⟩:=obind H
   exact oCall (u:=(oB v22)) eC Cl.fn (c_impl_WritesOk h23) (Ec eZ En) (Vc Vp Vn) rfl (gDo rfl (cN h21) (oInv eZ (oPickF rfl (cN h21) eZ (xNil (TQ.qn ⟨(!v22),H,(wk_mk [] (sR rfl rfl) BL.nil BK.nil)⟩)))))
  ·exact gSkip eZ (cN (nt h21)) rfl (gSkip rfl (cN (nt h21)) rfl (gSkip rfl (cN (nt h21)) rfl (oPickT rfl (cN (nt h21)) eC (xNil (TQ.qn ⟨true,H,(wk_mk [] (sR rfl rfl) BL.nil BK.nil)⟩)))))
theorem c_laws_FnStore{a1:(List Int)}{r:Bool}(H:m_laws_FnStore a1=some r):Fn Try.prog 7 (lent [(.sl 1 (List.map d_u8 a1))]) true [(.bool r)]:=by
 refine f7 (fle rfl) ?_
 rw[init_mk]
 refine AW.weaken (wk_mk [] (kv 0 (.one (.d (.sl 1 (List.map d_u8 a1)))) rfl rfl SL.nil) BL.nil BK.nil) ?_
 unfold m_laws_FnStore at H
 unfold i7
 refine aV (oMov eC (xQ (aS (aV (oMov rfl ?_)))))
 obtain⟨v2,h3,H⟩:=obind H
 refine oCall (u:=(oB v2)) eC Cl.fn (c_laws_big h3) (Ec eZ En) (Vc Vp Vn) rfl (xQ ?_)
 rcases oite H with⟨h4,H⟩|⟨h4,H⟩
 ·refine AW.condT eZ h4 (aV (oMov eC (xQ (AW.ret (TQ.qr ?_)))))
  cases H
  exact eE rfl rfl
 ·refine AW.condF eZ (nt h4) (AW.skip (TQ.qn (aV (oMov rfl ?_))))
  obtain⟨v5,h6,H⟩:=obind H
  refine oCall (u:=(.tup [(.one (.d (.sl 2 (List.map d_TCell v5.1)))),(.one (.d (.sl 2 (List.map d_TCell v5.2))))])) eC Cl.fn (c_spec_DrawStoreApply h6) (Ec eZ En) (Vc Vp Vn) rfl (oMov eZ (oExt (v:=(.one (.d (.sl 2 (List.map d_TCell v5.1))))) eZ rfl (oExt (v:=(.one (.d (.sl 2 (List.map d_TCell v5.2))))) rfl rfl (oMov rfl (oMov rfl (xQ (aV (oMov rfl ?_))))))))
  obtain⟨v7,h8,H⟩:=obind H
  refine oCall (u:=(oI v7)) eC Cl.fn (c_laws_at h8) (Ec eZ (Ec eC En)) (Vc Vp (Vc Vp Vn)) rfl (oRem eZ eC (by decide) (oMov rfl ?_))
  obtain⟨v9,h10,H⟩:=obind H
  refine oCall (u:=(oI v9)) eC Cl.fn (c_laws_at h10) (Ec eZ (Ec eC En)) (Vc Vp (Vc Vp Vn)) rfl (oAdd eC eZ (oBuild (cs:=[(dI (Int.tmod v7 30)),(dI (IntKind.wrap .i64 (31+v9)))]) (PsCons rfl (PsCons eZ PsNil)) rfl (oVar (n:=320) (m:=2) rfl rfl nZ (oStoreV (es:=[(dI (Int.tmod v7 30)),(dI (IntKind.wrap .i64 (31+v9)))]) eZ rfl rfl rfl bZ rfl (xQ (AW.weaken (wk_mk [] (kr 5 rfl rfl (kr 4 rfl rfl (kr 3 rfl rfl SL.nil))) (blR rfl) (BK.cons (n:=320) rfl bZ rfl rfl BK.nil)) (aS (AW.regd (oMov rfl (oLoadVA (es:=[(dI (Int.tmod v7 30)),(dI (IntKind.wrap .i64 (31+v9)))]) rfl bZ rfl ?_))))))))))
  obtain⟨v11,h12,H⟩:=obind H
  refine oCall (u:=(.one (.d (.sl 2 (List.map d_TCell v11))))) eC Cl.fn (c_impl_StoreCut h12) (Ec rfl (Ec eZ En)) (Vc Vp (Vc (VD.agg rfl) Vn)) rfl (oMov rfl (oLoadVA (es:=[(dI (Int.tmod v7 30)),(dI (IntKind.wrap .i64 (31+v9)))]) rfl (hB rfl bZ) rfl ?_))
  obtain⟨v13,h14,H⟩:=obind H
  refine oCall (u:=(.one (.d (.sl 2 (List.map d_TCell v13))))) eC Cl.fn (c_impl_StoreScan h14) (Ec rfl (Ec eZ En)) (Vc Vp (Vc (VD.agg rfl) Vn)) rfl ?_
  obtain⟨v15,h16,H⟩:=obind H
  refine oCall (u:=(.tup [(.one (.d (.sl 2 (List.map d_TCell v15.1)))),(oB v15.2)])) eC Cl.fn (c_impl_StoreJoin h16) (Ec rfl (Ec eZ En)) (Vc Vp (Vc Vp Vn)) rfl (oMov eZ (oExt (v:=(.one (.d (.sl 2 (List.map d_TCell v15.1))))) eZ rfl (oExt (v:=(oB v15.2)) rfl rfl (oMov rfl (oMov rfl (xQ (aS (aV (oMov rfl ?_)))))))))
  obtain⟨v17,h18,H⟩:=obind H
  refine oCall (u:=(oB v17)) eC Cl.fn (c_spec_StoreOk h18) (Ec eZ En) (Vc Vp Vn) rfl (oInv eZ (xQ (AW.weaken (wk_mk [320] (kr 41 rfl rfl (kr 7 rfl rfl (kr 6 rfl rfl (kr 4 rfl rfl (kr 3 rfl rfl SL.nil))))) (blR rfl) BK.nil) ?_)))
  rcases oite H with⟨h19,H⟩|⟨h19,H⟩
  ·refine AW.condF eZ (cN h19) (AW.skip (TQ.qn (aS (AW.seqJ (fun t20:Bool=>(laws_FnStore_j20 v5) t20=some r) (fun t20=>mk [(3,(.one (.d (.sl 2 (List.map d_TCell v5.1))))),(4,(.one (.d (.sl 2 (List.map d_TCell v5.2))))),(65,(oB t20))] [] noG) ?_ ?_))))
   ·intro t20 H
    unfold laws_FnStore_j20 at H
    rcases oite H with⟨h22,H⟩|⟨h22,H⟩
    ·refine AW.condT rfl h22 (aV (oMov eC (xQ (AW.ret (TQ.qr ?_)))))
     cases H
     exact eE rfl rfl
    ·refine AW.condF rfl (nt h22) (AW.skip (TQ.qn (aV (oMov eZ (oMov rfl ?_)))))
     obtain⟨v23,h24,H⟩:=obind H
     refine oCall (u:=(.tup [(.one (.d (.sl 2 (List.map d_TCell v23.1)))),(oB v23.2)])) eC Cl.fn (c_impl_StoreApply h24) (Ec rfl (Ec eZ En)) (Vc Vp (Vc Vp Vn)) rfl (oMov eZ (oExt (v:=(.one (.d (.sl 2 (List.map d_TCell v23.1))))) eZ rfl (oExt (v:=(oB v23.2)) rfl rfl (oMov rfl (oMov rfl (xQ (aV (oMov rfl (oMov rfl ?_)))))))))
     obtain⟨v25,h26,H⟩:=obind H
     refine oCall (u:=(.tup [(.one (.d (.sl 2 (List.map d_TCell v25.1)))),(oB v25.2)])) eC Cl.fn (c_spec_StoreApply h26) (Ec rfl (Ec eZ En)) (Vc Vp (Vc Vp Vn)) rfl (oMov eZ (oExt (v:=(.one (.d (.sl 2 (List.map d_TCell v25.1))))) eZ rfl (oExt (v:=(oB v25.2)) rfl rfl (oMov rfl (oMov rfl (xQ (AW.weaken (wk_mk [] (kr 11 rfl rfl (kr 9 rfl rfl (kr 8 rfl rfl (kr 3 rfl rfl (kr 4 rfl rfl SL.nil))))) BL.nil BK.nil) (aS (aV (oMov rfl (oMov rfl (oBne rfl eZ (xQ ?_)))))))))))))
     rcases oite H with⟨h27,H⟩|⟨h27,H⟩
     ·refine AW.condT eZ h27 (aV (oMov eC (xQ (AW.ret (TQ.qr ?_)))))
      cases H
      exact eE rfl rfl
     ·refine AW.condF eZ (nt h27) (AW.skip (TQ.qn (aS (aV (oMov rfl (oInv eZ (xQ ?_)))))))
      rcases oite H with⟨h28,H⟩|⟨h28,H⟩
      ·refine AW.condF eZ (cN h28) (AW.skip (TQ.qn (AW.seqJ (fun t29:Unit=>(laws_FnStore_j29 v23 v5) t29=some r) (fun t29=>mk [(3,(.one (.d (.sl 2 (List.map d_TCell v5.1))))),(4,(.one (.d (.sl 2 (List.map d_TCell v5.2))))),(8,(.one (.d (.sl 2 (List.map d_TCell v23.1)))))] [] noG) ?_ ?_)))
       ·intro t29 H
        unfold laws_FnStore_j29 at H
        refine aV (oMov rfl ?_)
        obtain⟨v31,h32,H⟩:=obind H
        refine oCall (u:=(oB v31)) eC Cl.fn (c_impl_StoreOk h32) (Ec eZ En) (Vc Vp Vn) rfl (oMov eZ ?_)
        rcases oite H with⟨h33,H⟩|⟨h33,H⟩
        ·refine gDo eZ h33 (oMov rfl (gDo rfl h33 (oMov rfl (gDo rfl h33 ?_))))
         obtain⟨v34,h35,H⟩:=obind H
         refine oCall (u:=(oI v34)) eC Cl.fn (c_impl_StoreNew h35) (Ec rfl (Ec eZ En)) (Vc Vp (Vc Vp Vn)) rfl (gDo rfl h33 (oGeq eZ eC (oPickT rfl h33 eZ (oMov eZ ?_))))
         rcases oite H with⟨h36,H⟩|⟨h36,H⟩
         ·refine gDo eZ (dT h36) (oMov rfl (gDo rfl (dT h36) (oLenD eZ (n:=v23.1.length) lm (gDo rfl (dT h36) (oMov rfl (gDo rfl (dT h36) (oLenD eZ (n:=v5.1.length) lm (gDo rfl (dT h36) (oMov rfl (gDo rfl (dT h36) (oMov rfl (gDo rfl (dT h36) ?_))))))))))))
          obtain⟨v37,h38,H⟩:=obind H
          refine oCall (u:=(oI v37)) eC Cl.fn (c_impl_StoreNew h38) (Ec rfl (Ec eZ En)) (Vc Vp (Vc Vp Vn)) rfl (gDo rfl (dT h36) (oAdd rfl eZ (gDo rfl (dT h36) (oLeq rfl eZ (oPickT rfl (dT h36) eZ (oMov eZ (xQ (AW.weaken (wk_mk [] (kr 2 rfl rfl SL.nil) BL.nil BK.nil) (AW.ret ?_)))))))))
          cases H
          exact eE rfl rfl
         ·refine gSkip eZ (dF h36) rfl (gSkip rfl (dF h36) rfl (gSkip rfl (dF h36) rfl (gSkip rfl (dF h36) rfl (gSkip rfl (dF h36) rfl (gSkip rfl (dF h36) rfl (gSkip rfl (dF h36) rfl (gSkip rfl (dF h36) rfl (gSkip rfl (dF h36) rfl (oPickF rfl (dF h36) eC (oMov eZ (xQ (AW.weaken (wk_mk [] (kr 2 rfl rfl SL.nil) BL.nil BK.nil) (AW.ret ?_)))))))))))))
          cases H
          exact eE rfl rfl
        ·refine gSkip eZ (nt h33) rfl (gSkip rfl (nt h33) rfl (gSkip rfl (nt h33) rfl (gSkip rfl (nt h33) rfl (oPickF rfl (nt h33) eC (oMov eZ (gSkip eZ rfl rfl (gSkip rfl rfl rfl (gSkip rfl rfl rfl (gSkip rfl rfl rfl (gSkip rfl rfl rfl (gSkip rfl rfl rfl (gSkip rfl rfl rfl (gSkip rfl rfl rfl (gSkip rfl rfl rfl (oPickF rfl rfl eC (oMov eZ (xQ (AW.weaken (wk_mk [] (kr 2 rfl rfl SL.nil) BL.nil BK.nil) (AW.ret ?_)))))))))))))))))))
         cases H
         exact eE rfl rfl
       ·refine aV (oMov eC (xQ (AW.block (AW.iter (fun s39:Int=>mk [(3,(.one (.d (.sl 2 (List.map d_TCell v5.1))))),(4,(.one (.d (.sl 2 (List.map d_TCell v5.2))))),(8,(.one (.d (.sl 2 (List.map d_TCell v23.1))))),(12,(oI s39))] [] noG) H (wk_mk [] (sR rfl rfl) BL.nil BK.nil) ?_))))
        intro kb40 s39 H
        unfold laws_FnStore_b39 at H
        refine aS (aV (oMov rfl (oLss eZ eC (xQ ?_))))
        rcases oite H with⟨h41,H⟩|⟨h41,H⟩
        ·refine AW.condT eZ (dT h41) (AW.skip (TQ.qn (AW.seqJ (fun t42:Unit=>(laws_FnStore_j42 kb40 s39) t42=some r) (fun t42=>mk [(3,(.one (.d (.sl 2 (List.map d_TCell v5.1))))),(4,(.one (.d (.sl 2 (List.map d_TCell v5.2))))),(8,(.one (.d (.sl 2 (List.map d_TCell v23.1))))),(12,(oI s39))] [] noG) ?_ ?_)))
         ·intro t42 H
          unfold laws_FnStore_j42 at H
          exact aR (oMov rfl (oAdd eZ eC (oMov eZ (xNil (TQ.qn ⟨(IntKind.wrap .i64 (s39+1)),H,(wk_mk [] (sR rfl rfl) BL.nil BK.nil)⟩)))))
         ·refine AW.block (aV (oMov rfl (oMov rfl ?_)))
          obtain⟨v44,h45,H⟩:=obind H
          refine oCall (u:=(oI v44)) eC Cl.fn (c_spec_StoreGet h45) (Ec rfl (Ec eZ En)) (Vc Vp (Vc Vp Vn)) rfl (oMov eZ (xQ (AW.seqJ (fun t46:Int=>(laws_FnStore_j46 v23 s39 (laws_FnStore_j42 kb40 s39)) t46=some r) (fun t46=>mk [(3,(.one (.d (.sl 2 (List.map d_TCell v5.1))))),(4,(.one (.d (.sl 2 (List.map d_TCell v5.2))))),(8,(.one (.d (.sl 2 (List.map d_TCell v23.1))))),(12,(oI s39)),(13,(oI t46))] [] noG) ?_ ?_)))
          ·intro t46 H
           unfold laws_FnStore_j46 at H
           refine aV (oMov rfl (oMov rfl ?_))
           obtain⟨v48,h49,H⟩:=obind H
           refine oCall (u:=(oI v48)) eC Cl.fn (c_impl_StoreGet h49) (Ec rfl (Ec eZ En)) (Vc Vp (Vc Vp Vn)) rfl (oMov rfl (oNeq rfl eZ (xQ ?_)))
           rcases oite H with⟨h50,H⟩|⟨h50,H⟩
           ·refine AW.condT eZ (dT h50) (aV (oMov eC (xQ (AW.ret (BQ.qr (TQ.qr (TQ.qr (BQ.qr (TQ.qr ?_)))))))))
            cases H
            exact eE rfl rfl
           ·exact AW.condF eZ (dF h50) (AW.skip (BQ.qn (TQ.qn ⟨(),H,(wk_mk [] (sR rfl rfl) BL.nil BK.nil)⟩)))
          ·refine aV (oMov eC (xQ (AW.block (AW.iter (fun s51:(Int×Int)=>mk [(3,(.one (.d (.sl 2 (List.map d_TCell v5.1))))),(4,(.one (.d (.sl 2 (List.map d_TCell v5.2))))),(8,(.one (.d (.sl 2 (List.map d_TCell v23.1))))),(12,(oI s39)),(13,(oI s51.1)),(14,(oI s51.2))] [] noG) H (wk_mk [] (sR rfl rfl) BL.nil BK.nil) ?_))))
           intro kb52 s51 H
           unfold laws_FnStore_b51 at H
           refine aS (aV (oMov rfl (oMov rfl (oLenD eZ (n:=v5.2.length) lm (oLss rfl eZ (xQ ?_))))))
           rcases oite H with⟨h53,H⟩|⟨h53,H⟩
           ·refine AW.condT eZ (dT h53) (AW.skip (TQ.qn (aS (AW.block (aV (oMov rfl (oMov rfl ?_)))))))
            obtain⟨v54,h55,H⟩:=obind H
            refine oAtD rfl eZ h55 (oFaddrB (m:=0) eZ rfl (oLoadB (e:=(.int .i64 v54.Key)) eZ rfl (oMov rfl (oEql rfl eZ (xQ (AW.weaken (wk_mk [] (kr 105 rfl rfl (kr 3 rfl rfl (kr 4 rfl rfl (kr 8 rfl rfl (kr 12 rfl rfl (kr 13 rfl rfl (kr 14 rfl rfl SL.nil))))))) BL.nil BK.nil) ?_))))))
            rcases oite H with⟨h56,H⟩|⟨h56,H⟩
            ·refine AW.condT eZ (dT h56) (aR (oMov rfl (oMov rfl ?_)))
             obtain⟨v57,h58,H⟩:=obind H
             exact oAtD rfl eZ h58 (oFaddrB (m:=1) eZ rfl (oLoadB (e:=(.int .i64 v57.Value)) eZ rfl (oMov eZ (xNil (BQ.qn (TQ.qn (aR (oMov rfl (oAdd eZ eC (oMov eZ (xNil (TQ.qn ⟨(v57.Value,(IntKind.wrap .i64 (s51.2+1))),H,(wk_mk [] (sR rfl rfl) BL.nil BK.nil)⟩))))))))))))
            ·exact AW.condF eZ (dF h56) (AW.skip (BQ.qn (TQ.qn (aR (oMov rfl (oAdd eZ eC (oMov eZ (xNil (TQ.qn ⟨(s51.1,(IntKind.wrap .i64 (s51.2+1))),H,(wk_mk [] (sR rfl rfl) BL.nil BK.nil)⟩)))))))))
           ·exact AW.condF eZ (dF h53) (AW.exit (TQ.qe (TQ.qe (BQ.qe (TQ.qn ⟨s51.1,H,(wk_mk [] (sR rfl rfl) BL.nil BK.nil)⟩)))))
        ·exact AW.condF eZ (dF h41) (AW.exit (TQ.qe (TQ.qe (BQ.qe (TQ.qn ⟨(),H,(wk_mk [] (sR rfl rfl) BL.nil BK.nil)⟩)))))
      ·refine AW.condT eZ (cN (nt h28)) (aV (oMov rfl (oLenD eZ (n:=v23.1.length) lm (oEql eZ eC (oMov eZ (xQ (AW.ret (TQ.qr ?_))))))))
       cases H
       exact eE rfl rfl
   ·refine aR (oMov rfl (oInv eZ (oMov eZ ?_)))
    rcases oite H with⟨h59,H⟩|⟨h59,H⟩
    ·refine gDo eZ (cN h59) (oMov rfl (gDo rfl (cN h59) (oMov rfl (gDo rfl (cN h59) ?_))))
     obtain⟨v60,h61,H⟩:=obind H
     exact oCall (u:=(oB v60)) eC Cl.fn (c_laws_sameCells h61) (Ec rfl (Ec eZ En)) (Vc Vp (Vc Vp Vn)) rfl (gDo rfl (cN h59) (oInv eZ (oPickF rfl (cN h59) eZ (xNil (TQ.qn ⟨(!v60),H,(wk_mk [] (sR rfl rfl) BL.nil BK.nil)⟩)))))
    ·exact gSkip eZ (cN (nt h59)) rfl (gSkip rfl (cN (nt h59)) rfl (gSkip rfl (cN (nt h59)) rfl (gSkip rfl (cN (nt h59)) rfl (oPickT rfl (cN (nt h59)) eC (xNil (TQ.qn ⟨true,H,(wk_mk [] (sR rfl rfl) BL.nil BK.nil)⟩))))))
  ·refine AW.condT eZ (cN (nt h19)) (aV (oMov rfl (oMov eZ ?_)))
   rcases oite H with⟨h62,H⟩|⟨h62,H⟩
   ·refine gDo eZ h62 (oMov rfl (gDo rfl h62 (oLenD eZ (n:=v15.1.length) lm (gDo rfl h62 (oEql eZ eC (oPickT rfl h62 eZ (oMov eZ ?_)))))))
    rcases oite H with⟨h63,H⟩|⟨h63,H⟩
    ·refine gDo eZ (dT h63) (oMov rfl (gDo rfl (dT h63) ?_))
     obtain⟨v64,h65,H⟩:=obind H
     refine oCall (u:=(oB v64)) eC Cl.fn (c_impl_StoreOk h65) (Ec eZ En) (Vc Vp Vn) rfl (gDo rfl (dT h63) (oInv eZ (oPickT rfl (dT h63) eZ (oMov eZ ?_))))
     rcases oite H with⟨h66,H⟩|⟨h66,H⟩
     ·refine gSkip eZ (cN h66) rfl (gSkip rfl (cN h66) rfl (gSkip rfl (cN h66) rfl (oPickF rfl (cN h66) eC (oMov eZ (xQ (AW.weaken (wk_mk [] (kr 2 rfl rfl SL.nil) BL.nil BK.nil) (AW.ret (TQ.qr ?_))))))))
      cases H
      exact eE rfl rfl
     ·refine gDo eZ (cN (nt h66)) (oMov rfl (gDo rfl (cN (nt h66)) ?_))
      obtain⟨v67,h68,H⟩:=obind H
      refine oCall (u:=(oI v67)) eC Cl.fn (c_impl_StoreGet h68) (Ec eZ (Ec eC En)) (Vc Vp (Vc Vp Vn)) rfl (gDo rfl (cN (nt h66)) (oEql eZ eC (oPickT rfl (cN (nt h66)) eZ (oMov eZ (xQ (AW.weaken (wk_mk [] (kr 2 rfl rfl SL.nil) BL.nil BK.nil) (AW.ret (TQ.qr ?_))))))))
      cases H
      exact eE rfl rfl
    ·refine gSkip eZ (dF h63) rfl (gSkip rfl (dF h63) rfl (gSkip rfl (dF h63) rfl (oPickF rfl (dF h63) eC (oMov eZ (gSkip eZ rfl rfl (gSkip rfl rfl rfl (gSkip rfl rfl rfl (oPickF rfl rfl eC (oMov eZ (xQ (AW.weaken (wk_mk [] (kr 2 rfl rfl SL.nil) BL.nil BK.nil) (AW.ret (TQ.qr ?_)))))))))))))
     cases H
     exact eE rfl rfl
   ·refine gSkip eZ (nt h62) rfl (gSkip rfl (nt h62) rfl (gSkip rfl (nt h62) rfl (oPickF rfl (nt h62) eC (oMov eZ (gSkip eZ rfl rfl (gSkip rfl rfl rfl (gSkip rfl rfl rfl (oPickF rfl rfl eC (oMov eZ (gSkip eZ rfl rfl (gSkip rfl rfl rfl (gSkip rfl rfl rfl (oPickF rfl rfl eC (oMov eZ (xQ (AW.weaken (wk_mk [] (kr 2 rfl rfl SL.nil) BL.nil BK.nil) (AW.ret (TQ.qr ?_))))))))))))))))))
    cases H
    exact eE rfl rfl
end Go.AW
