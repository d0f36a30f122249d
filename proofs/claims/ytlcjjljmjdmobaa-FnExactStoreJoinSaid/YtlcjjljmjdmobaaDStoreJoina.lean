/- That functions of the program compute what the plain functions say. Conditions: each theorem's own. -/
import Derived.Test.YtlcjjljmjdmobaaMStoreJoin
import Derived.Test.YtlcjjljmjdmobaaGStoreJoin
import Derived.Test.YtlcjjljmjdmobaaSStoreJoin
import Derived.Test.YtlcjjljmjdmobaaYt
import Derived.KernelRfl
set_option linter.unusedVariables false
set_option linter.unusedSimpArgs false
set_option maxRecDepth 100000
namespace Go.AW
open Go.Proofs
theorem c_laws_szCellS{a1:(List TCell)}{a2:Int}{r:Int}(H:m_laws_szCellS a1 a2=some r):Fn Try.prog 8 (lent [(.sl 2 (List.map d_TCell a1)),(.int .i64 a2)]) true [(.int .i64 r)]:=by
 refine f8 (fle rfl) ?_
 rw[init_mk]
 refine AW.weaken (wk_mk [] (kv 0 (.one (.d (.sl 2 (List.map d_TCell a1)))) rfl rfl (kv 1 (oI a2) rfl rfl SL.nil)) BL.nil BK.nil) ?_
 unfold m_laws_szCellS at H
 unfold i8
 refine aV (oMov eC (xQ (aV (oMov (eR rfl) (oMov (eR rfl) (oLenD eZ (n:=a1.length) (List.length_map _) (oSub (eR rfl) eZ (oMov eZ (xQ (aS (aV (oMov eZ (oLss eZ eC (xQ ?_))))))))))))))
 rcases oite H with⟨h3,H⟩|⟨h3,H⟩
 ·refine AW.condT eZ (dT h3) (aV (oMov eC (xQ (AW.ret (TQ.qr ?_)))))
  cases H
  exact eE rfl rfl
 ·refine AW.condF eZ (dF h3) (AW.skip (TQ.qn (aV (oMov (eR rfl) (oMov eZ (xQ (AW.ret ?_)))))))
  cases H
  exact eE rfl rfl
theorem c_laws_toCell{a1:TCell}{r:TCell}(H:m_laws_toCell a1=some r):Fn Try.prog 51 (lent [(.agg (d_TCell a1))]) true [(.agg (d_TCell r))]:=by
 refine f51 (fle rfl) ?_
 rw[init_mk]
 refine AW.weaken (wk_mk [] (kv 0 (.agg [(dI a1.Key),(dI a1.Value)]) rfl rfl SL.nil) BL.nil BK.nil) ?_
 unfold m_laws_toCell at H
 unfold i51
 refine aV (oBox (n:=64) (m:=2) (cs:=[(dI a1.Key),(dI a1.Value)]) rfl eZ rfl rfl nZ (oVar (n:=128) (m:=2) rfl rfl (nS rfl nZ) (xQ (aV (oVar (n:=192) (m:=2) rfl rfl (nS rfl (nS rfl nZ)) (xQ (aV (oFaddrN (m:=0) (eR rfl) rfl (oLoadV (q:=0) (c:=(dI a1.Key)) eZ (bS rfl (bS rfl bZ)) rfl rfl (oFaddrN (m:=0) (eR rfl) rfl (oStoreV (es:=[(dI a1.Key),(dI 0)]) eZ (eR rfl) rfl rfl bZ rfl (xQ (aV (oFaddrN (m:=1) (eR rfl) rfl (oLoadV (q:=1) (c:=(dI a1.Value)) eZ (bS rfl (bS rfl (bS rfl bZ))) rfl rfl (oFaddrN (m:=1) (eR rfl) rfl (oStoreV (es:=[(dI a1.Key),(dI a1.Value)]) eZ (eR rfl) rfl rfl bZ rfl (xQ (aV (oLoadVA (es:=[(dI a1.Key),(dI a1.Value)]) (eR rfl) bZ rfl (oStoreV (es:=[(dI a1.Key),(dI a1.Value)]) (eR rfl) eZ rfl rfl (bS rfl (bS rfl (bS rfl bZ))) rfl (xQ (AW.ret ?_)))))))))))))))))))))))
 cases H
 exact endsR (RL.cons (RV.cellA (es:=[(dI a1.Key),(dI a1.Value)]) (eR rfl) bZ rfl) (VO.agg (ds:=[(.int .i64 a1.Key),(.int .i64 a1.Value)]) rfl rfl) RL.nil) List.nodup_nil
theorem c_laws_toCellS{a1:(List TCell)}{r:(List TCell)}(H:m_laws_toCellS a1=some r):Fn Try.prog 10 (lent [(.sl 2 (List.map d_TCell a1))]) true [(.sl 2 (List.map d_TCell r))]:=by
 refine f10 (fle rfl) ?_
 rw[init_mk]
 refine AW.weaken (wk_mk [] (kv 0 (.one (.d (.sl 2 (List.map d_TCell a1)))) rfl rfl SL.nil) BL.nil BK.nil) ?_
 unfold m_laws_toCellS at H
 unfold i10
 refine aV (oMov eC (xQ (aV (oMov (eR rfl) (oLenD eZ (n:=a1.length) (List.length_map _) ?_)))))
 obtain⟨h2,H⟩:=oguard H
 refine oMksl (f:=d_TCell) (zv:=(TCell.mk 0 0)) (own:=true) (m:=448) (q:=(Int.toNat (a1.length:Int))) rfl rfl eZ eZ h2.1 h2.2 rfl (by decide) rfl nZ (oMov eZ (xQ (AW.seqJ (fun t3:(List TCell)=>laws_toCellS_j3 t3=some r) (fun t3=>mk [(3,(.one (.sl 320128 0 t3.length)))] [(320128,(.data 2 (List.map d_TCell t3) true none))] noG) ?_ ?_)))
 ·intro t3 H
  unfold laws_toCellS_j3 at H
  refine aV (oMov eZ (oMov eZ (xQ (AW.ret ?_))))
  cases H
  exact endsR (RL.cons (RV.tmp eZ) (VO.sl bZ (List.length_map _) (allFlat fun _=>rfl)) RL.nil) (by decide)
 ·refine aV (oMov eC (xQ (AW.block (AW.iter (fun s5:((List TCell)×Int)=>mk [(0,(.one (.d (.sl 2 (List.map d_TCell a1))))),(3,(.one (.sl 320192 0 s5.1.length))),(4,(oI s5.2))] [(320192,(.data 2 (List.map d_TCell s5.1) true none))] noG) H ((wk_mk [] (kR rfl rfl (SL.cons (eR rfl) rfl (VWk.one (CWk.len (by first|(simp;done)|(simp;omega)|omega|(simp only[List.length_map];omega)))) (kR rfl rfl SL.nil))) (BL.keep rfl BL.nil) (BK.cons rfl bZ rfl rfl BK.nil)).trans (wk_ren 448 320192 rfl rfl (nS rfl nZ))) ?_))))
  intro kb6 s5 H
  unfold laws_toCellS_b5 at H
  refine aS (aV (oMov (eR rfl) (oMov (eR rfl) (oLenD eZ (n:=a1.length) (List.length_map _) (oLss (eR rfl) eZ (xQ ?_))))))
  rcases oite H with⟨h7,H⟩|⟨h7,H⟩
  ·refine AW.condT eZ (dT h7) (AW.skip (TQ.qn (aS (AW.block (aR (oMov (eR rfl) (oMov (eR rfl) (oMov (eR rfl) (oMov (eR rfl) ?_)))))))))
   obtain⟨v8,h9,H⟩:=obind H
   refine oAtD (eR rfl) eZ h9 (oLoadBA (es:=[(dI v8.Key),(dI v8.Value)]) eZ rfl ?_)
   obtain⟨v10,h11,H⟩:=obind H
   refine oCall (u:=(.agg [(dI v10.Key),(dI v10.Value)])) eC Cl.fn (c_laws_toCell h11) (Evs.cons eZ Evs.nil) (VDs.cons (VD.agg rfl) VDs.nil) rfl ?_
   obtain⟨v12,h13,H⟩:=obind H
   exact oAtN (eR rfl) (eR rfl) bZ rfl h13 (oStoreD (t:=v12) (t':=v10) (es:=[(.int .i64 v10.Key),(.int .i64 v10.Value)]) eZ (eR rfl) rfl rfl bZ (idx_at h13) rfl rfl (xNil (BQ.qn (TQ.qn (aR (oMov (eR rfl) (oAdd eZ eC (oMov eZ (xNil (TQ.qn ⟨(s5.1.set (Int.toNat s5.2) v10,(IntKind.wrap .i64 (s5.2+1))),H,(wk_mk [] (kR rfl rfl (SL.cons (eR rfl) rfl (VWk.one (CWk.len (by first|(simp;done)|(simp;omega)|omega|(simp only[List.length_map];omega)))) (kR rfl rfl SL.nil))) (BL.keep rfl (BL.keep rfl BL.nil)) (BK.cons rfl bZ rfl rfl BK.nil))⟩))))))))))
  ·exact AW.condF eZ (dF h7) (AW.exit (TQ.qe (TQ.qe (BQ.qe (TQ.qn ⟨s5.1,H,((wk_mk [] (kR rfl rfl SL.nil) (BL.keep rfl BL.nil) (BK.cons rfl bZ rfl rfl BK.nil)).trans (wk_ren 320192 320128 rfl rfl (nS rfl nZ)))⟩)))))
theorem c_spec_l1In{a1:Int}{a2:Int}{a3:Int}{r:Bool}(H:m_spec_l1In a1 a2 a3=some r):Fn Try.prog 64 (lent [(.int .i64 a1),(.int .i64 a2),(.int .i64 a3)]) true [(.bool r)]:=by
 refine f64 (fle rfl) ?_
 rw[init_mk]
 refine AW.weaken (wk_mk [] (kv 0 (oI a1) rfl rfl (kv 1 (oI a2) rfl rfl (kv 2 (oI a3) rfl rfl SL.nil))) BL.nil BK.nil) ?_
 unfold m_spec_l1In at H
 unfold i64
 refine aV (oMov eC (xQ (aV (oMov (eR rfl) (oMov (eR rfl) (oGeq (eR rfl) eZ (oMov eZ ?_)))))))
 rcases oite H with⟨h4,H⟩|⟨h4,H⟩
 ·refine gDo eZ (dT h4) (oMov (eR rfl) (gDo (eR rfl) (dT h4) (oMov (eR rfl) (gDo (eR rfl) (dT h4) (oLeq (eR rfl) eZ (oPickT (eR rfl) (dT h4) eZ (oMov eZ (xQ (AW.ret ?_)))))))))
  cases H
  exact eE rfl rfl
 ·refine gSkip eZ (dF h4) rfl (gSkip (eR rfl) (dF h4) rfl (gSkip (eR rfl) (dF h4) rfl (oPickF (eR rfl) (dF h4) eC (oMov eZ (xQ (AW.ret ?_))))))
  cases H
  exact eE rfl rfl
theorem c_spec_l10Key{a1:Int}{r:Bool}(H:m_spec_l10Key a1=some r):Fn Try.prog 99 (lent [(.int .i64 a1)]) true [(.bool r)]:=by
 refine f99 (fle rfl) ?_
 rw[init_mk]
 refine AW.weaken (wk_mk [] (kv 0 (oI a1) rfl rfl SL.nil) BL.nil BK.nil) ?_
 unfold m_spec_l10Key at H
 unfold i99
 refine aV (oMov eC (xQ (aV (oMov (eR rfl) ?_))))
 obtain⟨v2,h3,H⟩:=obind H
 refine oCall (u:=(oB v2)) eC Cl.fn (c_spec_l1In h3) (Evs.cons eZ (Evs.cons eC (Evs.cons eC Evs.nil))) (VDs.cons VD.plain (VDs.cons VD.plain (VDs.cons VD.plain VDs.nil))) rfl (oMov eZ (xQ (AW.ret ?_)))
 cases H
 exact eE rfl rfl
theorem c_spec_l1Whole{a1:Int}{r:Bool}(H:m_spec_l1Whole a1=some r):Fn Try.prog 63 (lent [(.int .i64 a1)]) true [(.bool r)]:=by
 refine f63 (fle rfl) ?_
 rw[init_mk]
 refine AW.weaken (wk_mk [] (kv 0 (oI a1) rfl rfl SL.nil) BL.nil BK.nil) ?_
 unfold m_spec_l1Whole at H
 unfold i63
 refine aV (oMov eC (xQ (aV (oMov (eR rfl) ?_))))
 obtain⟨v2,h3,H⟩:=obind H
 refine oCall (u:=(oB v2)) eC Cl.fn (c_spec_l1In h3) (Evs.cons eZ (Evs.cons eC (Evs.cons eC Evs.nil))) (VDs.cons VD.plain (VDs.cons VD.plain (VDs.cons VD.plain VDs.nil))) rfl (oMov eZ (xQ (AW.ret ?_)))
 cases H
 exact eE rfl rfl
theorem c_spec_StoreOk{a1:(List TCell)}{r:Bool}(H:m_spec_StoreOk a1=some r):Fn Try.prog 41 (lent [(.sl 2 (List.map d_TCell a1))]) true [(.bool r)]:=by
 refine f41 (fle rfl) ?_
 rw[init_mk]
 refine AW.weaken (wk_mk [] (kv 0 (.one (.d (.sl 2 (List.map d_TCell a1)))) rfl rfl SL.nil) BL.nil BK.nil) ?_
 unfold m_spec_StoreOk at H
 unfold i41
 refine aV (oMov eC (xQ (aS (aV (oMov (eR rfl) (oLenD eZ (n:=a1.length) (List.length_map _) (oGtr eZ eC (xQ ?_))))))))
 rcases oite H with⟨h2,H⟩|⟨h2,H⟩
 ·refine AW.condT eZ (dT h2) (aV (oMov eC (xQ (AW.ret (TQ.qr ?_)))))
  cases H
  exact eE rfl rfl
 ·refine AW.condF eZ (dF h2) (AW.skip (TQ.qn (AW.seqJ (fun t3:Unit=>spec_StoreOk_j3 t3=some r) (fun t3=>mk [] [] noG) ?_ ?_)))
  ·intro t3 H
   unfold spec_StoreOk_j3 at H
   refine aV (oMov eC (xQ (AW.ret ?_)))
   cases H
   exact eE rfl rfl
  ·refine aV (oMov eC (xQ (AW.block (AW.iter (fun s5:Int=>mk [(0,(.one (.d (.sl 2 (List.map d_TCell a1))))),(3,(oI s5))] [] noG) H (wk_mk [] (kR rfl rfl (kR rfl rfl SL.nil)) BL.nil BK.nil) ?_))))
   intro kb6 s5 H
   unfold spec_StoreOk_b5 at H
   refine aS (aV (oMov (eR rfl) (oMov (eR rfl) (oLenD eZ (n:=a1.length) (List.length_map _) (oLss (eR rfl) eZ (xQ ?_))))))
   rcases oite H with⟨h7,H⟩|⟨h7,H⟩
   ·refine AW.condT eZ (dT h7) (AW.skip (TQ.qn (aS (AW.block (AW.seqJ (fun t8:Bool=>(spec_StoreOk_j8 kb6 s5) t8=some r) (fun t8=>mk [(0,(.one (.d (.sl 2 (List.map d_TCell a1))))),(3,(oI s5)),(46,(oB t8))] [] noG) ?_ ?_)))))
    ·intro t8 H
     unfold spec_StoreOk_j8 at H
     rcases oite H with⟨h10,H⟩|⟨h10,H⟩
     ·refine AW.condT (eR rfl) h10 (aV (oMov eC (xQ (AW.ret (BQ.qr (TQ.qr (TQ.qr (BQ.qr (TQ.qr ?_)))))))))
      cases H
      exact eE rfl rfl
     ·exact AW.condF (eR rfl) (nt h10) (AW.skip (BQ.qn (TQ.qn (aR (oMov (eR rfl) (oAdd eZ eC (oMov eZ (xNil (TQ.qn ⟨(IntKind.wrap .i64 (s5+1)),H,(wk_mk [] (kR rfl rfl (kR rfl rfl SL.nil)) BL.nil BK.nil)⟩)))))))))
    ·refine AW.regd (oMov (eR rfl) (oMov (eR rfl) ?_))
     obtain⟨v11,h12,H⟩:=obind H
     refine oAtD (eR rfl) eZ h12 (oFaddrB (m:=0) eZ rfl (oLoadB (e:=(.int .i64 v11.Key)) eZ rfl ?_))
     obtain⟨v13,h14,H⟩:=obind H
     refine oCall (u:=(oB v13)) eC Cl.fn (c_spec_l10Key h14) (Evs.cons eZ Evs.nil) (VDs.cons VD.plain VDs.nil) rfl (oInv eZ (oMov eZ ?_))
     rcases oite H with⟨h15,H⟩|⟨h15,H⟩
     ·refine gDo eZ (cN h15) (oMov (eR rfl) (gDo (eR rfl) (cN h15) (oMov (eR rfl) (gDo (eR rfl) (cN h15) ?_))))
      obtain⟨v16,h17,H⟩:=obind H
      refine oAtD (eR rfl) eZ h17 (gDo (eR rfl) (cN h15) (oFaddrB (m:=1) eZ rfl (gDo (eR rfl) (cN h15) (oLoadB (e:=(.int .i64 v16.Value)) eZ rfl (gDo (eR rfl) (cN h15) ?_)))))
      obtain⟨v18,h19,H⟩:=obind H
      refine oCall (u:=(oB v18)) eC Cl.fn (c_spec_l1Whole h19) (Evs.cons eZ Evs.nil) (VDs.cons VD.plain VDs.nil) rfl (gDo (eR rfl) (cN h15) (oInv eZ (oPickF (eR rfl) (cN h15) eZ (oMov eZ ?_))))
      rcases oite H with⟨h20,H⟩|⟨h20,H⟩
      ·refine gDo eZ (cN h20) (oMov (eR rfl) (gDo (eR rfl) (cN h20) (oGtr eZ eC (gDo (eR rfl) (cN h20) (oMov eZ ?_)))))
       rcases oite H with⟨h21,H⟩|⟨h21,H⟩
       ·refine gDo eZ (dT h21) (oMov (eR rfl) (gDo (eR rfl) (dT h21) (oMov (eR rfl) (gDo (eR rfl) (dT h21) (oSub eZ eC (gDo (eR rfl) (dT h21) ?_))))))
        obtain⟨v22,h23,H⟩:=obind H
        refine oAtD (eR rfl) eZ h23 (gDo (eR rfl) (dT h21) (oFaddrB (m:=0) eZ rfl (gDo (eR rfl) (dT h21) (oLoadB (e:=(.int .i64 v22.Key)) eZ rfl (gDo (eR rfl) (dT h21) (oMov (eR rfl) (gDo (eR rfl) (dT h21) (oMov (eR rfl) (gDo (eR rfl) (dT h21) ?_)))))))))
        obtain⟨v24,h25,H⟩:=obind H
        exact oAtD (eR rfl) eZ h25 (gDo (eR rfl) (dT h21) (oFaddrB (m:=0) eZ rfl (gDo (eR rfl) (dT h21) (oLoadB (e:=(.int .i64 v24.Key)) eZ rfl (gDo (eR rfl) (dT h21) (oGeq (eR rfl) eZ (gDo (eR rfl) (cN h20) (oPickT (eR rfl) (dT h21) eZ (oPickF (eR rfl) (cN h20) eZ (xNil (TQ.qn ⟨(decide (v24.Key≤v22.Key)),H,(wk_mk [] (kR rfl rfl (kR rfl rfl (kR rfl rfl SL.nil))) BL.nil BK.nil)⟩)))))))))))
       ·exact gSkip eZ (dF h21) rfl (gSkip (eR rfl) (dF h21) rfl (gSkip (eR rfl) (dF h21) rfl (gSkip (eR rfl) (dF h21) rfl (gSkip (eR rfl) (dF h21) rfl (gSkip (eR rfl) (dF h21) rfl (gSkip (eR rfl) (dF h21) rfl (gSkip (eR rfl) (dF h21) rfl (gSkip (eR rfl) (dF h21) rfl (gSkip (eR rfl) (dF h21) rfl (gSkip (eR rfl) (dF h21) rfl (gSkip (eR rfl) (dF h21) rfl (gDo (eR rfl) (cN h20) (oPickF (eR rfl) (dF h21) eC (oPickF (eR rfl) (cN h20) eZ (xNil (TQ.qn ⟨false,H,(wk_mk [] (kR rfl rfl (kR rfl rfl (kR rfl rfl SL.nil))) BL.nil BK.nil)⟩))))))))))))))))
      ·exact gSkip eZ (cN (nt h20)) rfl (gSkip (eR rfl) (cN (nt h20)) rfl (gSkip (eR rfl) (cN (nt h20)) rfl (gSkipU eZ rfl (gSkipU (eR rfl) rfl (gSkipU (eR rfl) rfl (gSkipU (eR rfl) rfl (gSkipU (eR rfl) rfl (gSkipU (eR rfl) rfl (gSkipU (eR rfl) rfl (gSkipU (eR rfl) rfl (gSkipU (eR rfl) rfl (gSkipU (eR rfl) rfl (gSkipU (eR rfl) rfl (gSkipU (eR rfl) rfl (gSkip (eR rfl) (cN (nt h20)) rfl (oPickT (eR rfl) (cN (nt h20)) eC (xNil (TQ.qn ⟨true,H,(wk_mk [] (kR rfl rfl (kR rfl rfl (kR rfl rfl SL.nil))) BL.nil BK.nil)⟩))))))))))))))))))
     ·exact gSkip eZ (cN (nt h15)) rfl (gSkip (eR rfl) (cN (nt h15)) rfl (gSkip (eR rfl) (cN (nt h15)) rfl (gSkip (eR rfl) (cN (nt h15)) rfl (gSkip (eR rfl) (cN (nt h15)) rfl (gSkip (eR rfl) (cN (nt h15)) rfl (gSkip (eR rfl) (cN (nt h15)) rfl (oPickT (eR rfl) (cN (nt h15)) eC (oMov eZ (gSkip eZ rfl rfl (gSkip (eR rfl) rfl rfl (gSkip (eR rfl) rfl rfl (gSkipU eZ rfl (gSkipU (eR rfl) rfl (gSkipU (eR rfl) rfl (gSkipU (eR rfl) rfl (gSkipU (eR rfl) rfl (gSkipU (eR rfl) rfl (gSkipU (eR rfl) rfl (gSkipU (eR rfl) rfl (gSkipU (eR rfl) rfl (gSkipU (eR rfl) rfl (gSkipU (eR rfl) rfl (gSkipU (eR rfl) rfl (gSkip (eR rfl) rfl rfl (oPickT (eR rfl) rfl eC (xNil (TQ.qn ⟨true,H,(wk_mk [] (kR rfl rfl (kR rfl rfl (kR rfl rfl SL.nil))) BL.nil BK.nil)⟩)))))))))))))))))))))))))))
   ·exact AW.condF eZ (dF h7) (AW.exit (TQ.qe (TQ.qe (BQ.qe (TQ.qn ⟨(),H,(wk_mk [] SL.nil BL.nil BK.nil)⟩)))))
theorem c_spec_l11Get{a1:(List TCell)}{a2:Int}{r:Int}(H:m_spec_l11Get a1 a2=some r):Fn Try.prog 49 (lent [(.sl 2 (List.map d_TCell a1)),(.int .i64 a2)]) true [(.int .i64 r)]:=by
 refine f49 (fle rfl) ?_
 rw[init_mk]
 refine AW.weaken (wk_mk [] (kv 0 (.one (.d (.sl 2 (List.map d_TCell a1)))) rfl rfl (kv 1 (oI a2) rfl rfl SL.nil)) BL.nil BK.nil) ?_
 unfold m_spec_l11Get at H
 unfold i49
 refine aV (oMov eC (xQ (AW.seqJ (fun t3:Unit=>spec_l11Get_j3 t3=some r) (fun t3=>mk [] [] noG) ?_ ?_)))
 ·intro t3 H
  unfold spec_l11Get_j3 at H
  refine aV (oMov eC (xQ (AW.ret ?_)))
  cases H
  exact eE rfl rfl
 ·refine aV (oMov eC (xQ (AW.block (AW.iter (fun s5:Int=>mk [(0,(.one (.d (.sl 2 (List.map d_TCell a1))))),(1,(oI a2)),(5,(oI s5))] [] noG) H (wk_mk [] (kR rfl rfl (kR rfl rfl (kR rfl rfl SL.nil))) BL.nil BK.nil) ?_))))
  intro kb6 s5 H
  unfold spec_l11Get_b5 at H
  refine aS (aV (oMov (eR rfl) (oMov (eR rfl) (oLenD eZ (n:=a1.length) (List.length_map _) (oLss (eR rfl) eZ (xQ ?_))))))
  rcases oite H with⟨h7,H⟩|⟨h7,H⟩
  ·refine AW.condT eZ (dT h7) (AW.skip (TQ.qn (aS (AW.block (aV (oMov (eR rfl) (oMov (eR rfl) ?_)))))))
   obtain⟨v8,h9,H⟩:=obind H
   refine oAtD (eR rfl) eZ h9 (oFaddrB (m:=0) eZ rfl (oLoadB (e:=(.int .i64 v8.Key)) eZ rfl (oMov (eR rfl) (oEql (eR rfl) eZ (xQ ?_)))))
   rcases oite H with⟨h10,H⟩|⟨h10,H⟩
   ·refine AW.condT eZ (dT h10) (aV (oMov (eR rfl) (oMov (eR rfl) ?_)))
    obtain⟨v11,h12,H⟩:=obind H
    refine oAtD (eR rfl) eZ h12 (oFaddrB (m:=1) eZ rfl (oLoadB (e:=(.int .i64 v11.Value)) eZ rfl (oMov eZ (xQ (AW.weaken (wk_mk [] (kr 4 rfl rfl SL.nil) BL.nil BK.nil) (AW.ret (BQ.qr (TQ.qr (TQ.qr (BQ.qr (TQ.qr ?_)))))))))))
    cases H
    exact eE rfl rfl
   ·exact AW.condF eZ (dF h10) (AW.skip (BQ.qn (TQ.qn (aR (oMov (eR rfl) (oAdd eZ eC (oMov eZ (xNil (TQ.qn ⟨(IntKind.wrap .i64 (s5+1)),H,(wk_mk [] (kR rfl rfl (kR rfl rfl (kR rfl rfl SL.nil))) BL.nil BK.nil)⟩)))))))))
  ·exact AW.condF eZ (dF h7) (AW.exit (TQ.qe (TQ.qe (BQ.qe (TQ.qn ⟨(),H,(wk_mk [] SL.nil BL.nil BK.nil)⟩)))))
theorem c_spec_l2Cells{a1:(List TCell)}{a2:Int}{a3:Int}{a4:Bool}{r:(List TCell)}(H:m_spec_l2Cells a1 a2 a3 a4=some r):Fn Try.prog 50 (lent [(.sl 2 (List.map d_TCell a1)),(.int .i64 a2),(.int .i64 a3),(.bool a4)]) true [(.sl 2 (List.map d_TCell r))]:=by
 refine f50 (fle rfl) ?_
 rw[init_mk]
 refine AW.weaken (wk_mk [] (kv 0 (.one (.d (.sl 2 (List.map d_TCell a1)))) rfl rfl (kv 1 (oI a2) rfl rfl (kv 2 (oI a3) rfl rfl (kv 3 (oB a4) rfl rfl SL.nil)))) BL.nil BK.nil) ?_
 unfold m_spec_l2Cells at H
 unfold i50
 refine aV (oMov eC (xQ (aV (oBsliceZ (m:=768) rfl nZ (oMov eZ (xQ (aV (oMov (eR rfl) (oInv eZ (oMov eZ (xQ (AW.seqJ (fun t5:((List TCell)×Bool)=>(spec_l2Cells_j5 a2 a3) t5=some r) (fun t5=>mk [(1,(oI a2)),(2,(oI a3)),(9,(.one (.sl 320320 0 t5.1.length))),(10,(oB t5.2))] [(320320,(.data 2 (List.map d_TCell t5.1) true none))] noG) ?_ ?_))))))))))))
 ·intro t5 H
  unfold spec_l2Cells_j5 at H
  refine aS (aV (oMov (eR rfl) (oInv eZ (xQ ?_))))
  rcases oite H with⟨h7,H⟩|⟨h7,H⟩
  ·refine AW.condF eZ (cN h7) (AW.skip (TQ.qn (aV (oMov (eR rfl) (oMov eZ (xQ (AW.ret ?_)))))))
   cases H
   exact endsR (RL.cons (RV.tmp eZ) (VO.sl bZ (List.length_map _) (allFlat fun _=>rfl)) RL.nil) (by decide)
  ·refine AW.condT eZ (cN (nt h7)) (aR (oMov (eR rfl) (oMov (eR rfl) (oMov (eR rfl) (oBuild (cs:=[(dI a2),(dI a3)]) (PsCons (eR rfl) (PsCons eZ PsNil)) rfl (oBslice (m:=3712) (q:=1) (cs:=[(dI a2),(dI a3)]) rfl (PsCons eZ PsNil) rfl (List.cons_ne_nil _ _) (by simp) (nS rfl nZ) ?_))))))
   obtain⟨h8,H⟩:=oguard H
   refine oAppN (f:=d_TCell) (xs:=t5.1) (ys:=[(TCell.mk a2 a3)]) (q:=(t5.1++([(TCell.mk a2 a3)])).length) (eR rfl) eZ (bS rfl bZ) rfl (El.one (f:=d_TCell) (t:=(TCell.mk a2 a3)) (es:=[(.int .i64 a2),(.int .i64 a3)]) bZ rfl rfl rfl) rfl h8 (by decide) (by decide) (erL.cons (v':=(.one (.sl 3712 0 1))) rfl (erL.cons (v':=(.agg [(dI a2),(dI a3)])) rfl (erL.cons (v':=(oI a3)) rfl (erL.cons (v':=(oI a2)) rfl (erL.cons (v':=(.one .any)) rfl (erL.cons (v':=(oB (!t5.2))) rfl (erL.cons (v':=(oB t5.2)) rfl (erL.cons (v':=(oI a2)) rfl (erL.cons (v':=(oI a3)) rfl (erL.cons (v':=(.one .any)) rfl (erL.cons (v':=(oB t5.2)) rfl erL.nil))))))))))) (erH.cons (v':=(.vars 2 [(dI a2),(dI a3)])) rfl rfl (erH.drop rfl erH.nil)) (oMov eZ (xQ (aV (oMov eZ (oMov eZ (xQ (AW.ret ?_)))))))
   cases H
   exact endsR (RL.cons (RV.tmp eZ) (VO.sl bZ (List.length_map _) (allFlat fun _=>rfl)) RL.nil) (by decide)
 ·refine aV (oMov eC (xQ (AW.block (AW.iter (fun s9:((List TCell)×Bool×Int)=>mk [(0,(.one (.d (.sl 2 (List.map d_TCell a1))))),(1,(oI a2)),(2,(oI a3)),(9,(.one (.sl 320448 0 s9.1.length))),(10,(oB s9.2.1)),(11,(oI s9.2.2))] [(320448,(.data 2 (List.map d_TCell s9.1) true none))] noG) H ((wk_mk [] (kR rfl rfl (kR rfl rfl (kR rfl rfl (SL.cons eZ rfl (VWk.one (CWk.len (by first|(simp;done)|(simp;omega)|omega|(simp only[List.length_map];omega)))) (kR rfl rfl (kR rfl rfl SL.nil)))))) (BL.keep rfl BL.nil) (BK.cons rfl bZ rfl rfl BK.nil)).trans (wk_zs 320448 2 9 true (eR rfl) nZ)) ?_))))
  intro kb10 s9 H
  unfold spec_l2Cells_b9 at H
  refine aS (aV (oMov (eR rfl) (oMov (eR rfl) (oLenD eZ (n:=a1.length) (List.length_map _) (oLss (eR rfl) eZ (xQ ?_))))))
  rcases oite H with⟨h11,H⟩|⟨h11,H⟩
  ·refine AW.condT eZ (dT h11) (AW.skip (TQ.qn (aS (AW.block (AW.seqJ (fun t12:((List TCell)×Bool)=>(spec_l2Cells_j12 a1 s9 a2 kb10) t12=some r) (fun t12=>mk [(0,(.one (.d (.sl 2 (List.map d_TCell a1))))),(1,(oI a2)),(2,(oI a3)),(9,(.one (.sl 320576 0 t12.1.length))),(10,(oB t12.2)),(11,(oI s9.2.2))] [(320576,(.data 2 (List.map d_TCell t12.1) true none))] noG) ?_ ?_)))))
   ·intro t12 H
    unfold spec_l2Cells_j12 at H
    refine aV (oMov eZ (oMov (eR rfl) ?_))
    obtain⟨v14,h15,H⟩:=obind H
    refine oAtD (eR rfl) eZ h15 (oFaddrB (m:=0) eZ rfl (oLoadB (e:=(.int .i64 v14.Key)) eZ rfl (oMov (eR rfl) (oNeq (eR rfl) eZ (xQ ?_)))))
    rcases oite H with⟨h16,H⟩|⟨h16,H⟩
    ·refine AW.condT eZ (dT h16) (aR (oMov (eR rfl) (oMov (eR rfl) (oMov (eR rfl) ?_))))
     obtain⟨v17,h18,H⟩:=obind H
     refine oAtD (eR rfl) eZ h18 (oLoadBA (es:=[(dI v17.Key),(dI v17.Value)]) eZ rfl (oBslice (m:=3200) (q:=1) (cs:=[(dI v17.Key),(dI v17.Value)]) rfl (PsCons eZ PsNil) rfl (List.cons_ne_nil _ _) (by simp) (nS rfl nZ) ?_))
     obtain⟨h19,H⟩:=oguard H
     exact oAppN (f:=d_TCell) (xs:=t12.1) (ys:=[v17]) (q:=(t12.1++([v17])).length) (eR rfl) eZ (bS rfl bZ) rfl (El.one (f:=d_TCell) (t:=v17) (es:=[(.int .i64 v17.Key),(.int .i64 v17.Value)]) bZ rfl rfl rfl) rfl h19 (by decide) (by decide) (erL.cons (v':=(.one (.sl 3200 0 1))) rfl (erL.cons (v':=(.agg [(dI v17.Key),(dI v17.Value)])) rfl (erL.cons (v':=(.one (.ptr (.bd (d_TCell v17) 0)))) rfl (erL.cons (v':=(oI s9.2.2)) rfl (erL.cons (v':=(.one (.d (.sl 2 (List.map d_TCell a1))))) rfl (erL.cons (v':=(.one .any)) rfl (erL.cons (v':=(oB (decide (¬v14.Key=a2)))) rfl (erL.cons (v':=(oI a2)) rfl (erL.cons (v':=(oI v14.Key)) rfl (erL.cons (v':=(.one (.ptr (.bd (d_TCell v14) 0)))) rfl (erL.cons (v':=(.one (.ptr (.bd (d_TCell v14) 0)))) rfl (erL.cons (v':=(oI s9.2.2)) rfl (erL.cons (v':=(.one (.d (.sl 2 (List.map d_TCell a1))))) rfl (erL.cons (v':=(.one (.d (.sl 2 (List.map d_TCell a1))))) rfl (erL.cons (v':=(oI a2)) rfl (erL.cons (v':=(oI a3)) rfl (erL.cons (v':=(.one .any)) rfl (erL.cons (v':=(oB t12.2)) rfl (erL.cons (v':=(oI s9.2.2)) rfl erL.nil))))))))))))))))))) (erH.cons (v':=(.vars 2 [(dI v17.Key),(dI v17.Value)])) rfl rfl (erH.drop rfl erH.nil)) (oMov eZ (xNil (BQ.qn (TQ.qn (AW.weaken (wk_mk [3200] (kr 9 rfl rfl (kr 0 rfl rfl (kr 1 rfl rfl (kr 2 rfl rfl (kr 10 rfl rfl (kr 11 rfl rfl SL.nil)))))) (BL.keep rfl (BL.drop rfl BL.nil)) (BK.cons (n:=320576) rfl bZ rfl rfl BK.nil)) (aR (oMov (eR rfl) (oAdd eZ eC (oMov eZ (xNil (TQ.qn ⟨((t12.1++([v17])),t12.2,(IntKind.wrap .i64 (s9.2.2+1))),H,((wk_mk [] (kR rfl rfl (kR rfl rfl (kR rfl rfl (kR rfl rfl (kR rfl rfl (kR rfl rfl SL.nil)))))) (BL.keep rfl BL.nil) (BK.cons rfl bZ rfl rfl BK.nil)).trans (wk_ren 320576 320448 rfl rfl (nS rfl nZ)))⟩)))))))))))
    ·exact AW.condF eZ (dF h16) (AW.skip (BQ.qn (TQ.qn (aR (oMov (eR rfl) (oAdd eZ eC (oMov eZ (xNil (TQ.qn ⟨(t12.1,t12.2,(IntKind.wrap .i64 (s9.2.2+1))),H,((wk_mk [] (kR rfl rfl (kR rfl rfl (kR rfl rfl (kR rfl rfl (kR rfl rfl (kR rfl rfl SL.nil)))))) (BL.keep rfl BL.nil) (BK.cons rfl bZ rfl rfl BK.nil)).trans (wk_ren 320576 320448 rfl rfl (nS rfl nZ)))⟩)))))))))
   ·refine AW.seqJ (fun t20:Bool=>(spec_l2Cells_j20 s9 a2 a3 (spec_l2Cells_j12 a1 s9 a2 kb10)) t20=some r) (fun t20=>mk [(0,(.one (.d (.sl 2 (List.map d_TCell a1))))),(1,(oI a2)),(2,(oI a3)),(9,(.one (.sl 320448 0 s9.1.length))),(10,(oB s9.2.1)),(11,(oI s9.2.2)),(31,(oB t20))] [(320448,(.data 2 (List.map d_TCell s9.1) true none))] noG) ?_ ?_
    ·intro t20 H
     unfold spec_l2Cells_j20 at H
     rcases oite H with⟨h22,H⟩|⟨h22,H⟩
     ·refine AW.condT (eR rfl) h22 (aV (oMov (eR rfl) (oMov (eR rfl) (oMov (eR rfl) (oBuild (cs:=[(dI a2),(dI a3)]) (PsCons (eR rfl) (PsCons eZ PsNil)) rfl (oBslice (m:=2304) (q:=1) (cs:=[(dI a2),(dI a3)]) rfl (PsCons eZ PsNil) rfl (List.cons_ne_nil _ _) (by simp) (nS rfl nZ) ?_))))))
      obtain⟨h23,H⟩:=oguard H
      exact oAppN (f:=d_TCell) (xs:=s9.1) (ys:=[(TCell.mk a2 a3)]) (q:=(s9.1++([(TCell.mk a2 a3)])).length) (eR rfl) eZ (bS rfl bZ) rfl (El.one (f:=d_TCell) (t:=(TCell.mk a2 a3)) (es:=[(.int .i64 a2),(.int .i64 a3)]) bZ rfl rfl rfl) rfl h23 (by decide) (by decide) (erL.cons (v':=(.one (.sl 2304 0 1))) rfl (erL.cons (v':=(.agg [(dI a2),(dI a3)])) rfl (erL.cons (v':=(oI a3)) rfl (erL.cons (v':=(oI a2)) rfl (erL.cons (v':=(.one .any)) rfl (erL.cons (v':=(.one (.d (.sl 2 (List.map d_TCell a1))))) rfl (erL.cons (v':=(oI a2)) rfl (erL.cons (v':=(oI a3)) rfl (erL.cons (v':=(.one .any)) rfl (erL.cons (v':=(oB s9.2.1)) rfl (erL.cons (v':=(oI s9.2.2)) rfl (erL.cons (v':=(oB t20)) rfl erL.nil)))))))))))) (erH.cons (v':=(.vars 2 [(dI a2),(dI a3)])) rfl rfl (erH.drop rfl erH.nil)) (oMov eZ (xQ (aR (oMov eC (xNil (TQ.qn ⟨((s9.1++([(TCell.mk a2 a3)])),true),H,((wk_mk [2304] (kR rfl rfl (kR rfl rfl (kR rfl rfl (kR rfl rfl (kR rfl rfl (kR rfl rfl SL.nil)))))) (BL.keep rfl (BL.drop rfl BL.nil)) (BK.cons rfl bZ rfl rfl BK.nil)).trans (wk_ren 320448 320576 rfl rfl (nS rfl (nS rfl nZ))))⟩))))))
     ·exact AW.condF (eR rfl) (nt h22) (AW.skip (TQ.qn ⟨(s9.1,s9.2.1),H,((wk_mk [] (kR rfl rfl (kR rfl rfl (kR rfl rfl (kR rfl rfl (kR rfl rfl (kR rfl rfl SL.nil)))))) (BL.keep rfl BL.nil) (BK.cons rfl bZ rfl rfl BK.nil)).trans (wk_ren 320448 320576 rfl rfl (nS rfl nZ)))⟩))
    ·refine aR (oMov (eR rfl) (oInv eZ (oMov eZ ?_)))
     rcases oite H with⟨h24,H⟩|⟨h24,H⟩
     ·exact gSkip eZ (cN h24) rfl (gSkip (eR rfl) (cN h24) rfl (gSkip (eR rfl) (cN h24) rfl (gSkip (eR rfl) (cN h24) rfl (gSkip (eR rfl) (cN h24) rfl (gSkip (eR rfl) (cN h24) rfl (gSkip (eR rfl) (cN h24) rfl (oPickF (eR rfl) (cN h24) eC (xNil (TQ.qn ⟨false,H,(wk_mk [] (kR rfl rfl (kR rfl rfl (kR rfl rfl (kR rfl rfl (kR rfl rfl (kR rfl rfl (kR rfl rfl SL.nil))))))) (BL.keep rfl BL.nil) (BK.cons rfl bZ rfl rfl BK.nil))⟩)))))))))
     ·refine gDo eZ (cN (nt h24)) (oMov (eR rfl) (gDo (eR rfl) (cN (nt h24)) (oMov (eR rfl) (gDo (eR rfl) (cN (nt h24)) ?_))))
      obtain⟨v25,h26,H⟩:=obind H
      exact oAtD (eR rfl) eZ h26 (gDo (eR rfl) (cN (nt h24)) (oFaddrB (m:=0) eZ rfl (gDo (eR rfl) (cN (nt h24)) (oLoadB (e:=(.int .i64 v25.Key)) eZ rfl (gDo (eR rfl) (cN (nt h24)) (oMov (eR rfl) (gDo (eR rfl) (cN (nt h24)) (oGeq (eR rfl) eZ (oPickT (eR rfl) (cN (nt h24)) eZ (xNil (TQ.qn ⟨(decide (a2≤v25.Key)),H,(wk_mk [] (kR rfl rfl (kR rfl rfl (kR rfl rfl (kR rfl rfl (kR rfl rfl (kR rfl rfl (kR rfl rfl SL.nil))))))) (BL.keep rfl BL.nil) (BK.cons rfl bZ rfl rfl BK.nil))⟩)))))))))))
  ·exact AW.condF eZ (dF h11) (AW.exit (TQ.qe (TQ.qe (BQ.qe (TQ.qn ⟨(s9.1,s9.2.1),H,((wk_mk [] (kR rfl rfl (kR rfl rfl (kR rfl rfl (kR rfl rfl SL.nil)))) (BL.keep rfl BL.nil) (BK.cons rfl bZ rfl rfl BK.nil)).trans (wk_ren 320448 320320 rfl rfl (nS rfl nZ)))⟩)))))
theorem c_spec_StoreJoin{a1:(List TCell)}{a2:(List TCell)}{r:((List TCell)×Bool)}(H:m_spec_StoreJoin a1 a2=some r):Fn Try.prog 9 (lent [(.sl 2 (List.map d_TCell a1)),(.sl 2 (List.map d_TCell a2))]) true [(.sl 2 (List.map d_TCell r.1)),(.bool r.2)]:=by
 refine f9 (fle rfl) ?_
 rw[init_mk]
 refine AW.weaken (wk_mk [] (kv 0 (.one (.d (.sl 2 (List.map d_TCell a1)))) rfl rfl (kv 1 (.one (.d (.sl 2 (List.map d_TCell a2)))) rfl rfl SL.nil)) BL.nil BK.nil) ?_
 unfold m_spec_StoreJoin at H
 unfold i9
 refine aV (oMov eC (oMov eC (xQ (aS (AW.seqJ (fun t3:Bool=>(spec_StoreJoin_j3 a1 a2) t3=some r) (fun t3=>mk [(0,(.one (.d (.sl 2 (List.map d_TCell a1))))),(1,(.one (.d (.sl 2 (List.map d_TCell a2))))),(23,(oB t3))] [] noG) ?_ ?_)))))
 ·intro t3 H
  unfold spec_StoreJoin_j3 at H
  rcases oite H with⟨h5,H⟩|⟨h5,H⟩
  ·refine AW.condT (eR rfl) h5 (aV (oBsliceZ (m:=1536) rfl nZ (oMov eZ (oMov eC (xQ (AW.ret (TQ.qr ?_)))))))
   cases H
   exact endsR (RL.cons (RV.tmp (eR rfl)) VO.zs (RL.cons (RV.tmp eZ) (VO.flat rfl) RL.nil)) List.nodup_nil
  ·refine AW.condF (eR rfl) (nt h5) (AW.skip (TQ.qn (aV (oBsliceZ (m:=1600) rfl nZ (oMov (eR rfl) ?_)))))
   obtain⟨h6,H⟩:=oguard H
   refine oAppZ (f:=d_TCell) (m:=1728) (own:=true) (ys:=a1) (q:=a1.length) rfl rfl (eR rfl) eZ (El.lent fun _ _=>rfl) rfl h6 (by decide) nZ (oMov eZ (xQ (AW.seqJ (fun t7:(List TCell)=>spec_StoreJoin_j7 t7=some r) (fun t7=>mk [(6,(.one (.sl 320128 0 t7.length)))] [(320128,(.data 2 (List.map d_TCell t7) true none))] noG) ?_ ?_)))
   ·intro t7 H
    unfold spec_StoreJoin_j7 at H
    refine aV (oMov eZ (oMov eZ (oMov eC (xQ (AW.ret ?_)))))
    cases H
    exact endsR (RL.cons (RV.tmp (eR rfl)) (VO.sl bZ (List.length_map _) (allFlat fun _=>rfl)) (RL.cons (RV.tmp eZ) (VO.flat rfl) RL.nil)) (by decide)
   ·refine aV (oMov eC (xQ (AW.block (AW.iter (fun s9:((List TCell)×Int)=>mk [(0,(.one (.d (.sl 2 (List.map d_TCell a1))))),(1,(.one (.d (.sl 2 (List.map d_TCell a2))))),(6,(.one (.sl 320192 0 s9.1.length))),(7,(oI s9.2))] [(320192,(.data 2 (List.map d_TCell s9.1) true none))] noG) H ((wk_mk [] (kR rfl rfl (kR rfl rfl (kR rfl rfl (kR rfl rfl SL.nil)))) (BL.keep rfl BL.nil) (BK.cons rfl bZ rfl rfl BK.nil)).trans (wk_ren 1728 320192 rfl rfl (nS rfl nZ))) ?_))))
    intro kb10 s9 H
    unfold spec_StoreJoin_b9 at H
    refine aS (aV (oMov (eR rfl) (oMov (eR rfl) (oLenD eZ (n:=a2.length) (List.length_map _) (oLss (eR rfl) eZ (xQ ?_))))))
    rcases oite H with⟨h11,H⟩|⟨h11,H⟩
    ·refine AW.condT eZ (dT h11) (AW.skip (TQ.qn (aS (AW.block (aS (aV (oMov (eR rfl) (oMov (eR rfl) (oMov (eR rfl) ?_)))))))))
     obtain⟨v12,h13,H⟩:=obind H
     refine oAtD (eR rfl) eZ h13 (oFaddrB (m:=0) eZ rfl (oLoadB (e:=(.int .i64 v12.Key)) eZ rfl ?_))
     obtain⟨v14,h15,H⟩:=obind H
     refine oCall (u:=(oI v14)) eC Cl.fn (c_spec_l11Get h15) (Evs.cons (eR rfl) (Evs.cons eZ Evs.nil)) (VDs.cons VD.plain (VDs.cons VD.plain VDs.nil)) rfl (oGeq eZ eC (xQ (AW.weaken (wk_mk [] (kr 41 rfl rfl (kr 0 rfl rfl (kr 1 rfl rfl (kr 6 rfl rfl (kr 7 rfl rfl SL.nil))))) (BL.keep rfl BL.nil) (BK.cons (n:=320192) rfl bZ rfl rfl BK.nil)) ?_)))
     rcases oite H with⟨h16,H⟩|⟨h16,H⟩
     ·refine AW.condT eZ (dT h16) (aV (oBsliceZ (m:=2688) rfl (nS rfl nZ) (oMov eZ (oMov eC (xQ (AW.ret (TQ.qr (BQ.qr (TQ.qr (TQ.qr (BQ.qr (TQ.qr ?_))))))))))))
      cases H
      exact endsR (RL.cons (RV.tmp (eR rfl)) VO.zs (RL.cons (RV.tmp eZ) (VO.flat rfl) RL.nil)) List.nodup_nil
     ·refine AW.condF eZ (dF h16) (AW.skip (TQ.qn (AW.regd (oMov (eR rfl) (oMov (eR rfl) (oMov (eR rfl) ?_))))))
      obtain⟨v17,h18,H⟩:=obind H
      refine oAtD (eR rfl) eZ h18 (oFaddrB (m:=0) eZ rfl (oLoadB (e:=(.int .i64 v17.Key)) eZ rfl (oMov (eR rfl) (oMov (eR rfl) ?_))))
      obtain⟨v19,h20,H⟩:=obind H
      refine oAtD (eR rfl) eZ h20 (oFaddrB (m:=1) eZ rfl (oLoadB (e:=(.int .i64 v19.Value)) eZ rfl ?_))
      obtain⟨v21,h22,H⟩:=obind H
      exact oCallN (u:=(.one (.sl 3456 0 v21.length))) (bs:=[(3456,(.data 2 (List.map d_TCell v21) true none))]) eC Cl.fn (c_spec_l2Cells h22) (Evs.cons (eR rfl) (Evs.cons (eR rfl) (Evs.cons eZ (Evs.cons eC Evs.nil)))) (VDs.cons (VD.sl bZ (List.length_map _)) (VDs.cons VD.plain (VDs.cons VD.plain (VDs.cons VD.plain VDs.nil)))) (by simp[bindR,bindV,bindVs,bindC,bindCs]) rfl (fC (nS rfl nZ) rfl (fC (nS rfl nZ) rfl fN)) (oMov eZ (xNil (BQ.qn (TQ.qn (AW.weaken (wk_mk [320192] (kr 6 rfl rfl (kr 0 rfl rfl (kr 1 rfl rfl (kr 7 rfl rfl SL.nil)))) (BL.keep rfl (BL.drop rfl BL.nil)) (BK.cons (n:=3456) rfl bZ rfl rfl BK.nil)) (aR (oMov (eR rfl) (oAdd eZ eC (oMov eZ (xNil (TQ.qn ⟨(v21,(IntKind.wrap .i64 (s9.2+1))),H,((wk_mk [] (kR rfl rfl (kR rfl rfl (kR rfl rfl (kR rfl rfl SL.nil)))) (BL.keep rfl BL.nil) (BK.cons rfl bZ rfl rfl BK.nil)).trans (wk_ren 3456 320192 rfl rfl (nS rfl nZ)))⟩)))))))))))
    ·exact AW.condF eZ (dF h11) (AW.exit (TQ.qe (TQ.qe (BQ.qe (TQ.qn ⟨s9.1,H,((wk_mk [] (kR rfl rfl SL.nil) (BL.keep rfl BL.nil) (BK.cons rfl bZ rfl rfl BK.nil)).trans (wk_ren 320192 320128 rfl rfl (nS rfl nZ)))⟩)))))
 ·refine aR (oMov (eR rfl) ?_)
  obtain⟨v23,h24,H⟩:=obind H
  refine oCall (u:=(oB v23)) eC Cl.fn (c_spec_StoreOk h24) (Evs.cons eZ Evs.nil) (VDs.cons VD.plain VDs.nil) rfl (oInv eZ (oMov eZ ?_))
  rcases oite H with⟨h25,H⟩|⟨h25,H⟩
  ·refine gDo eZ (cN h25) (oMov (eR rfl) (gDo (eR rfl) (cN h25) ?_))
   obtain⟨v26,h27,H⟩:=obind H
   refine oCall (u:=(oB v26)) eC Cl.fn (c_spec_StoreOk h27) (Evs.cons eZ Evs.nil) (VDs.cons VD.plain VDs.nil) rfl (gDo (eR rfl) (cN h25) (oInv eZ (oPickF (eR rfl) (cN h25) eZ (oMov eZ ?_))))
   rcases oite H with⟨h28,H⟩|⟨h28,H⟩
   ·exact gDo eZ (cN h28) (oMov (eR rfl) (gDo (eR rfl) (cN h28) (oLenD eZ (n:=a1.length) (List.length_map _) (gDo (eR rfl) (cN h28) (oMov (eR rfl) (gDo (eR rfl) (cN h28) (oLenD eZ (n:=a2.length) (List.length_map _) (gDo (eR rfl) (cN h28) (oAdd (eR rfl) eZ (gDo (eR rfl) (cN h28) (oGtr eZ eC (oPickF (eR rfl) (cN h28) eZ (xNil (TQ.qn ⟨(decide (60 < (IntKind.wrap .i64 ((a1.length:Int)+(a2.length:Int))))),H,(wk_mk [] (kR rfl rfl (kR rfl rfl (kR rfl rfl SL.nil))) BL.nil BK.nil)⟩))))))))))))))
   ·exact gSkip eZ (cN (nt h28)) rfl (gSkip (eR rfl) (cN (nt h28)) rfl (gSkip (eR rfl) (cN (nt h28)) rfl (gSkip (eR rfl) (cN (nt h28)) rfl (gSkip (eR rfl) (cN (nt h28)) rfl (gSkip (eR rfl) (cN (nt h28)) rfl (oPickT (eR rfl) (cN (nt h28)) eC (xNil (TQ.qn ⟨true,H,(wk_mk [] (kR rfl rfl (kR rfl rfl (kR rfl rfl SL.nil))) BL.nil BK.nil)⟩))))))))
  ·exact gSkip eZ (cN (nt h25)) rfl (gSkip (eR rfl) (cN (nt h25)) rfl (gSkip (eR rfl) (cN (nt h25)) rfl (oPickT (eR rfl) (cN (nt h25)) eC (oMov eZ (gSkip eZ rfl rfl (gSkip (eR rfl) rfl rfl (gSkip (eR rfl) rfl rfl (gSkip (eR rfl) rfl rfl (gSkip (eR rfl) rfl rfl (gSkip (eR rfl) rfl rfl (oPickT (eR rfl) rfl eC (xNil (TQ.qn ⟨true,H,(wk_mk [] (kR rfl rfl (kR rfl rfl (kR rfl rfl SL.nil))) BL.nil BK.nil)⟩)))))))))))))
theorem c_impl_from{a1:Int}{a2:Int}{a3:Int}{r:Bool}(H:m_impl_from a1 a2 a3=some r):Fn Try.prog 76 (lent [(.int .i64 a1),(.int .i64 a2),(.int .i64 a3)]) true [(.bool r)]:=by
 refine f76 (fle rfl) ?_
 rw[init_mk]
 refine AW.weaken (wk_mk [] (kv 0 (oI a1) rfl rfl (kv 1 (oI a2) rfl rfl (kv 2 (oI a3) rfl rfl SL.nil))) BL.nil BK.nil) ?_
 unfold m_impl_from at H
 unfold i76
 refine aV (oMov eC (xQ (aV (oMov (eR rfl) (oMov (eR rfl) (oGeq (eR rfl) eZ (oMov eZ ?_)))))))
 rcases oite H with⟨h4,H⟩|⟨h4,H⟩
 ·refine gDo eZ (dT h4) (oMov (eR rfl) (gDo (eR rfl) (dT h4) (oMov (eR rfl) (gDo (eR rfl) (dT h4) (oLeq (eR rfl) eZ (oPickT (eR rfl) (dT h4) eZ (oMov eZ (xQ (AW.ret ?_)))))))))
  cases H
  exact eE rfl rfl
 ·refine gSkip eZ (dF h4) rfl (gSkip (eR rfl) (dF h4) rfl (gSkip (eR rfl) (dF h4) rfl (oPickF (eR rfl) (dF h4) eC (oMov eZ (xQ (AW.ret ?_))))))
  cases H
  exact eE rfl rfl
theorem c_impl_isKey{a1:Int}{r:Bool}(H:m_impl_isKey a1=some r):Fn Try.prog 100 (lent [(.int .i64 a1)]) true [(.bool r)]:=by
 refine f100 (fle rfl) ?_
 rw[init_mk]
 refine AW.weaken (wk_mk [] (kv 0 (oI a1) rfl rfl SL.nil) BL.nil BK.nil) ?_
 unfold m_impl_isKey at H
 unfold i100
 refine aV (oMov eC (xQ (aV (oMov (eR rfl) ?_))))
 obtain⟨v2,h3,H⟩:=obind H
 refine oCall (u:=(oB v2)) eC Cl.fn (c_impl_from h3) (Evs.cons eZ (Evs.cons eC (Evs.cons eC Evs.nil))) (VDs.cons VD.plain (VDs.cons VD.plain (VDs.cons VD.plain VDs.nil))) rfl (oMov eZ (xQ (AW.ret ?_)))
 cases H
 exact eE rfl rfl
theorem c_impl_isWhole{a1:Int}{r:Bool}(H:m_impl_isWhole a1=some r):Fn Try.prog 60 (lent [(.int .i64 a1)]) true [(.bool r)]:=by
 refine f60 (fle rfl) ?_
 rw[init_mk]
 refine AW.weaken (wk_mk [] (kv 0 (oI a1) rfl rfl SL.nil) BL.nil BK.nil) ?_
 unfold m_impl_isWhole at H
 unfold i60
 refine aV (oMov eC (xQ (aV (oMov (eR rfl) ?_))))
 obtain⟨v2,h3,H⟩:=obind H
 refine oCall (u:=(oB v2)) eC Cl.fn (c_impl_from h3) (Evs.cons eZ (Evs.cons eC (Evs.cons eC Evs.nil))) (VDs.cons VD.plain (VDs.cons VD.plain (VDs.cons VD.plain VDs.nil))) rfl (oMov eZ (xQ (AW.ret ?_)))
 cases H
 exact eE rfl rfl
theorem c_impl_StoreOk{a1:(List TCell)}{r:Bool}(H:m_impl_StoreOk a1=some r):Fn Try.prog 42 (lent [(.sl 2 (List.map d_TCell a1))]) true [(.bool r)]:=by
 refine f42 (fle rfl) ?_
 rw[init_mk]
 refine AW.weaken (wk_mk [] (kv 0 (.one (.d (.sl 2 (List.map d_TCell a1)))) rfl rfl SL.nil) BL.nil BK.nil) ?_
 unfold m_impl_StoreOk at H
 unfold i42
 refine aV (oMov eC (xQ (AW.seqJ (fun t2:Unit=>(impl_StoreOk_j2 a1) t2=some r) (fun t2=>mk [(0,(.one (.d (.sl 2 (List.map d_TCell a1)))))] [] noG) ?_ ?_)))
 ·intro t2 H
  unfold impl_StoreOk_j2 at H
  refine aV (oMov eZ (oLenD eZ (n:=a1.length) (List.length_map _) (oLeq eZ eC (oMov eZ (xQ (AW.ret ?_))))))
  cases H
  exact eE rfl rfl
 ·refine aV (oMov (eR rfl) (oLenD eZ (n:=a1.length) (List.length_map _) (oMov eC (xQ (AW.block (AW.iter (fun s4:Int=>mk [(0,(.one (.d (.sl 2 (List.map d_TCell a1))))),(5,(.one (.d (.sl 2 (List.map d_TCell a1))))),(6,(oI (a1.length:Int))),(7,(oI s4))] [] noG) H (wk_mk [] (kR rfl rfl (kR rfl rfl (kR rfl rfl (kR rfl rfl SL.nil)))) BL.nil BK.nil) ?_))))))
  intro kb5 s4 H
  unfold impl_StoreOk_b4 at H
  refine aV (oLss (eR rfl) (eR rfl) (xQ (aS ?_)))
  rcases oite H with⟨h6,H⟩|⟨h6,H⟩
  ·refine AW.condT eZ (dT h6) (AW.skip (TQ.qn (aS (AW.block (aV (oMov (eR rfl) ?_))))))
   obtain⟨v7,h8,H⟩:=obind H
   refine oAtD (eR rfl) (eR rfl) h8 (oLoadBA (es:=[(dI v7.Key),(dI v7.Value)]) eZ rfl (oVar (n:=256) (m:=2) rfl rfl nZ (oMov (eR rfl) (oStoreV (es:=[(dI v7.Key),(dI v7.Value)]) (eR rfl) (eR rfl) rfl rfl bZ rfl (xQ (AW.seqJ (fun t9:Bool=>(impl_StoreOk_j9 kb5 s4) t9=some r) (fun t9=>mk [(0,(.one (.d (.sl 2 (List.map d_TCell a1))))),(5,(.one (.d (.sl 2 (List.map d_TCell a1))))),(6,(oI (a1.length:Int))),(7,(oI s4)),(36,(oB t9))] [] noG) ?_ ?_))))))
   ·intro t9 H
    unfold impl_StoreOk_j9 at H
    rcases oite H with⟨h11,H⟩|⟨h11,H⟩
    ·refine AW.condT (eR rfl) h11 (aV (oMov eC (xQ (AW.ret (BQ.qr (TQ.qr (TQ.qr (BQ.qr (TQ.qr ?_)))))))))
     cases H
     exact eE rfl rfl
    ·exact AW.condF (eR rfl) (nt h11) (AW.skip (BQ.qn (TQ.qn (aR (oAdd (eR rfl) eC (oMov eZ (xNil (TQ.qn ⟨(IntKind.wrap .i64 (s4+1)),H,(wk_mk [] (kR rfl rfl (kR rfl rfl (kR rfl rfl (kR rfl rfl SL.nil)))) BL.nil BK.nil)⟩))))))))
   ·refine AW.regd (oFaddrN (m:=0) (eR rfl) rfl (oLoadV (q:=0) (c:=(dI v7.Key)) eZ bZ rfl rfl ?_))
    obtain⟨v12,h13,H⟩:=obind H
    refine oCall (u:=(oB v12)) eC Cl.fn (c_impl_isKey h13) (Evs.cons eZ Evs.nil) (VDs.cons VD.plain VDs.nil) rfl (oInv eZ (oMov eZ ?_))
    rcases oite H with⟨h14,H⟩|⟨h14,H⟩
    ·refine gDo eZ (cN h14) (oFaddrN (m:=1) (eR rfl) rfl (gDo (eR rfl) (cN h14) (oLoadV (q:=1) (c:=(dI v7.Value)) eZ bZ rfl rfl (gDo (eR rfl) (cN h14) ?_))))
     obtain⟨v15,h16,H⟩:=obind H
     refine oCall (u:=(oB v15)) eC Cl.fn (c_impl_isWhole h16) (Evs.cons eZ Evs.nil) (VDs.cons VD.plain VDs.nil) rfl (gDo (eR rfl) (cN h14) (oInv eZ (oPickF (eR rfl) (cN h14) eZ (oMov eZ ?_))))
     rcases oite H with⟨h17,H⟩|⟨h17,H⟩
     ·refine gDo eZ (cN h17) (oMov (eR rfl) (gDo (eR rfl) (cN h17) (oGtr eZ eC (gDo (eR rfl) (cN h17) (oMov eZ ?_)))))
      rcases oite H with⟨h18,H⟩|⟨h18,H⟩
      ·refine gDo eZ (dT h18) (oMov (eR rfl) (gDo (eR rfl) (dT h18) (oMov (eR rfl) (gDo (eR rfl) (dT h18) (oSub eZ eC (gDo (eR rfl) (dT h18) ?_))))))
       obtain⟨v19,h20,H⟩:=obind H
       exact oAtD (eR rfl) eZ h20 (gDo (eR rfl) (dT h18) (oFaddrB (m:=0) eZ rfl (gDo (eR rfl) (dT h18) (oLoadB (e:=(.int .i64 v19.Key)) eZ rfl (gDo (eR rfl) (dT h18) (oFaddrN (m:=0) (eR rfl) rfl (gDo (eR rfl) (dT h18) (oLoadV (q:=0) (c:=(dI v7.Key)) eZ bZ rfl rfl (gDo (eR rfl) (dT h18) (oGeq (eR rfl) eZ (gDo (eR rfl) (cN h17) (oPickT (eR rfl) (dT h18) eZ (oPickF (eR rfl) (cN h17) eZ (xNil (TQ.qn ⟨(decide (v7.Key≤v19.Key)),H,(wk_mk [256] (kR rfl rfl (kR rfl rfl (kR rfl rfl (kR rfl rfl (kR rfl rfl SL.nil))))) (BL.drop rfl (BL.drop rfl BL.nil)) BK.nil)⟩)))))))))))))))
      ·exact gSkip eZ (dF h18) rfl (gSkip (eR rfl) (dF h18) rfl (gSkip (eR rfl) (dF h18) rfl (gSkip (eR rfl) (dF h18) rfl (gSkip (eR rfl) (dF h18) rfl (gSkip (eR rfl) (dF h18) rfl (gSkip (eR rfl) (dF h18) rfl (gSkip (eR rfl) (dF h18) rfl (gSkip (eR rfl) (dF h18) rfl (gDo (eR rfl) (cN h17) (oPickF (eR rfl) (dF h18) eC (oPickF (eR rfl) (cN h17) eZ (xNil (TQ.qn ⟨false,H,(wk_mk [256] (kR rfl rfl (kR rfl rfl (kR rfl rfl (kR rfl rfl (kR rfl rfl SL.nil))))) (BL.drop rfl (BL.drop rfl BL.nil)) BK.nil)⟩)))))))))))))
     ·exact gSkip eZ (cN (nt h17)) rfl (gSkip (eR rfl) (cN (nt h17)) rfl (gSkip (eR rfl) (cN (nt h17)) rfl (gSkipU eZ rfl (gSkipU (eR rfl) rfl (gSkipU (eR rfl) rfl (gSkipU (eR rfl) rfl (gSkipU (eR rfl) rfl (gSkipU (eR rfl) rfl (gSkipU (eR rfl) rfl (gSkipU (eR rfl) rfl (gSkipU (eR rfl) rfl (gSkip (eR rfl) (cN (nt h17)) rfl (oPickT (eR rfl) (cN (nt h17)) eC (xNil (TQ.qn ⟨true,H,(wk_mk [256] (kR rfl rfl (kR rfl rfl (kR rfl rfl (kR rfl rfl (kR rfl rfl SL.nil))))) (BL.drop rfl (BL.drop rfl BL.nil)) BK.nil)⟩)))))))))))))))
    ·exact gSkip eZ (cN (nt h14)) rfl (gSkip (eR rfl) (cN (nt h14)) rfl (gSkip (eR rfl) (cN (nt h14)) rfl (gSkip (eR rfl) (cN (nt h14)) rfl (oPickT (eR rfl) (cN (nt h14)) eC (oMov eZ (gSkip eZ rfl rfl (gSkip (eR rfl) rfl rfl (gSkip (eR rfl) rfl rfl (gSkipU eZ rfl (gSkipU (eR rfl) rfl (gSkipU (eR rfl) rfl (gSkipU (eR rfl) rfl (gSkipU (eR rfl) rfl (gSkipU (eR rfl) rfl (gSkipU (eR rfl) rfl (gSkipU (eR rfl) rfl (gSkipU (eR rfl) rfl (gSkip (eR rfl) rfl rfl (oPickT (eR rfl) rfl eC (xNil (TQ.qn ⟨true,H,(wk_mk [256] (kR rfl rfl (kR rfl rfl (kR rfl rfl (kR rfl rfl (kR rfl rfl SL.nil))))) (BL.drop rfl (BL.drop rfl BL.nil)) BK.nil)⟩)))))))))))))))))))))
  ·exact AW.condF eZ (dF h6) (AW.exit (TQ.qe (TQ.qe (BQ.qe (TQ.qn ⟨(),H,(wk_mk [] (kR rfl rfl SL.nil) BL.nil BK.nil)⟩)))))
theorem c_slices_Grow_Cell{a1 r:List TCell}{a2:Int}(H:m_slices_Grow_Cell a1 a2=some r):Fn Try.prog 106 [⟨(.sl 2 []),.z⟩,⟨(.int .i64 a2),.b⟩] true [(.sl 2 (List.map d_TCell r))]:=by
 obtain⟨⟨h1,h2⟩,H⟩:=oguard H
 cases H
 obtain⟨n,rfl⟩:∃n:Nat,a2=(n:Int):=⟨Int.toNat a2,by omega⟩
 exact grow_ok Try.grow106 (by kernel_rfl) (by kernel_rfl) (by kernel_rfl) n (by omega)
theorem c_slices_Concat_Cell{a1:(List (List TCell))}{r:(List TCell)}(H:m_slices_Concat_Cell a1=some r):Fn Try.prog 52 (lent [(.sl 1 (List.map dS_TCell a1))]) true [(.sl 2 (List.map d_TCell r))]:=by
 refine f52 (fle rfl) ?_
 rw[init_mk]
 refine AW.weaken (t:=mk [(0,(.one (.d (.sl 1 (List.map dS_TCell a1)))))] [] (lk [])) (wk_mk [] (kv 0 (.one (.d (.sl 1 (List.map dS_TCell a1)))) rfl rfl SL.nil) BL.nil BK.nil) ?_
 unfold m_slices_Concat_Cell at H
 unfold i52
 refine aV (oMov eC (xQ (aV (oMov eC (xQ (AW.seqJ (fun t2:Int=>(slices_Concat_Cell_j2 a1) t2=some r) (fun t2=>mk [(0,(.one (.d (.sl 1 (List.map dS_TCell a1))))),(3,(oI t2))] [] (lk [])) ?_ ?_))))))
 ·intro t2 H
  unfold slices_Concat_Cell_j2 at H
  refine aS (AW.regm (rmOne (oMov (eR rfl) (xNil ?_))))
  obtain⟨v4,h5,H⟩:=obind H
  refine rmCall (ON:=[]) (ls:=[]) (G:=[]) (E:=[]) (MB:=[]) (u:=(.one (.sl 1536 0 v4.length))) (bs:=[(1536,(.data 2 (List.map d_TCell v4) true none))]) eC Cl.fn (c_slices_Grow_Cell h5) (Evs.cons eC (Evs.cons eZ Evs.nil)) (AO.zs (AO.lent VD.plain rfl AO.nil)) rfl rfl rfl SZ.nil (erL.cons (v':=(oI t2)) rfl (erL.cons (v':=(.one (.d (.sl 1 (List.map dS_TCell a1))))) rfl (erL.cons (v':=(oI t2)) rfl erL.nil))) erH.nil erL.nil (by simp[bindR,bindV,bindVs,bindC,bindCs]) rfl (fC nZ rfl (fC nZ rfl fN)) (rmRest (oMov eZ (xQ (AW.seqJ (fun t6:(List TCell)=>slices_Concat_Cell_j6 t6=some r) (fun t6=>mk [(6,(.one (.sl 320128 0 t6.length)))] [(320128,(.data 2 (List.map d_TCell t6) true none))] (lk [])) ?_ ?_))))
  ·intro t6 H
   unfold slices_Concat_Cell_j6 at H
   refine aV (oMov eZ (oMov eZ (xQ (AW.ret ?_))))
   cases H
   exact endsR (RL.cons (RV.tmp eZ) (VO.sl bZ (List.length_map _) (allFlat fun _=>rfl)) RL.nil) (by decide)
  ·refine aV (oMov (eR rfl) (oLenD eZ (n:=a1.length) (List.length_map _) (oMov eC (xQ (AW.block (AW.iter (fun s8:((List TCell)×Int)=>mk [(6,(.one (.sl 320192 0 s8.1.length))),(25,(.one (.d (.sl 1 (List.map dS_TCell a1))))),(26,(oI (a1.length:Int))),(27,(oI s8.2))] [(320192,(.data 2 (List.map d_TCell s8.1) true none))] (lk [])) H ((wk_mkG [] (kR rfl rfl (kR rfl rfl (kR rfl rfl (kR rfl rfl SL.nil)))) (BL.keep rfl BL.nil) (BK.cons rfl bZ rfl rfl BK.nil) GK.nil).trans (wk_renG 1536 320192 rfl rfl (nS rfl nZ) GR.nil)) ?_))))))
   intro kb9 s8 H
   unfold slices_Concat_Cell_b8 at H
   refine aV (oLss (eR rfl) (eR rfl) (xQ (aS ?_)))
   rcases oite H with⟨h10,H⟩|⟨h10,H⟩
   ·refine AW.condT eZ (dT h10) (AW.skip (TQ.qn (aS (AW.block (aV ?_)))))
    obtain⟨v11,h12,H⟩:=obind H
    refine oAtD (eR rfl) (eR rfl) h12 (oLoadB (e:=(.sl 2 (List.map d_TCell v11))) eZ rfl (oMov eZ (xQ (aR (oMov (eR rfl) (oMov (eR rfl) ?_))))))
    obtain⟨h13,H⟩:=oguard H
    exact oAppNG (f:=d_TCell) (xs:=s8.1) (ys:=v11) (q:=(s8.1++v11).length) (eR rfl) eZ bZ rfl (El.lent fun _ _=>rfl) rfl h13 (by decide) (by decide) (erL.cons (v':=(.one (.d (.sl 2 (List.map d_TCell v11))))) rfl (erL.cons (v':=(.one .any)) rfl (erL.cons (v':=(.one (.d (.sl 2 (List.map d_TCell v11))))) rfl (erL.cons (v':=(.one (.d (.sl 2 (List.map d_TCell v11))))) rfl (erL.cons (v':=(.one (.ptr (.bd (dS_TCell v11) 0)))) rfl (erL.cons (v':=(oB (decide (s8.2 < (a1.length:Int))))) rfl (erL.cons (v':=(.one .any)) rfl (erL.cons (v':=(.one (.d (.sl 1 (List.map dS_TCell a1))))) rfl (erL.cons (v':=(oI (a1.length:Int))) rfl (erL.cons (v':=(oI s8.2)) rfl erL.nil)))))))))) (erH.drop rfl erH.nil) GK.nil (oMov eZ (xNil (BQ.qn (TQ.qn (aR (oAdd (eR rfl) eC (oMov eZ (xNil (TQ.qn ⟨((s8.1++v11),(IntKind.wrap .i64 (s8.2+1))),H,(wk_mkG [] (kR rfl rfl (kR rfl rfl (kR rfl rfl (kR rfl rfl SL.nil)))) (BL.keep rfl BL.nil) (BK.cons rfl bZ rfl rfl BK.nil) GK.nil)⟩)))))))))
   ·exact AW.condF eZ (dF h10) (AW.exit (TQ.qe (TQ.qe (BQ.qe (TQ.qn ⟨s8.1,H,((wk_mkG [] (kR rfl rfl SL.nil) (BL.keep rfl BL.nil) (BK.cons rfl bZ rfl rfl BK.nil) GK.nil).trans (wk_renG 320192 320128 rfl rfl (nS rfl nZ) GR.nil))⟩)))))
 ·refine aV (oMov (eR rfl) (oLenD eZ (n:=a1.length) (List.length_map _) (oMov eC (xQ (AW.block (AW.iter (fun s14:(Int×Int)=>mk [(0,(.one (.d (.sl 1 (List.map dS_TCell a1))))),(3,(oI s14.1)),(9,(.one (.d (.sl 1 (List.map dS_TCell a1))))),(10,(oI (a1.length:Int))),(11,(oI s14.2))] [] (lk [])) H (wk_mkG [] (kR rfl rfl (kR rfl rfl (kR rfl rfl (kR rfl rfl (kR rfl rfl SL.nil))))) BL.nil BK.nil GK.nil) ?_))))))
  intro kb15 s14 H
  unfold slices_Concat_Cell_b14 at H
  refine aV (oLss (eR rfl) (eR rfl) (xQ (aS ?_)))
  rcases oite H with⟨h16,H⟩|⟨h16,H⟩
  ·refine AW.condT eZ (dT h16) (AW.skip (TQ.qn (aS (AW.block (aV ?_)))))
   obtain⟨v17,h18,H⟩:=obind H
   refine oAtD (eR rfl) (eR rfl) h18 (oLoadB (e:=(.sl 2 (List.map d_TCell v17))) eZ rfl (oMov eZ (xQ (aV (oMov (eR rfl) (oMov (eR rfl) (oLenD eZ (n:=v17.length) (List.length_map _) (oAdd (eR rfl) eZ (oMov eZ (xQ (aV (oMov eZ (oLss eZ eC (xQ (AW.weaken (wk_mkG [] (kr 20 rfl rfl (kr 3 rfl rfl (kr 0 rfl rfl (kr 9 rfl rfl (kr 10 rfl rfl (kr 11 rfl rfl SL.nil)))))) BL.nil BK.nil GK.nil) ?_)))))))))))))))
   rcases oite H with⟨h19,H⟩|⟨h19,H⟩
   ·refine AW.condT eZ (dT h19) (aR ?_)
    cases H
   ·exact AW.condF eZ (dF h19) (AW.skip (BQ.qn (TQ.qn (aR (oAdd (eR rfl) eC (oMov eZ (xNil (TQ.qn ⟨((IntKind.wrap .i64 (s14.1+(v17.length:Int))),(IntKind.wrap .i64 (s14.2+1))),H,(wk_mkG [] (kR rfl rfl (kR rfl rfl (kR rfl rfl (kR rfl rfl (kR rfl rfl SL.nil))))) BL.nil BK.nil GK.nil)⟩))))))))
  ·exact AW.condF eZ (dF h16) (AW.exit (TQ.qe (TQ.qe (BQ.qe (TQ.qn ⟨s14.1,H,(wk_mkG [] (kR rfl rfl (kR rfl rfl SL.nil)) BL.nil BK.nil GK.nil)⟩)))))
theorem c_slices_SortFunc_Cell__StoreJoin_1{a1 r:List TCell}(H:m_slices_SortFunc_Cell__StoreJoin_1 a1=some r):Fn Try.prog 53 [⟨(.sl 2 (List.map d_TCell a1)),.m (.sl 2 (List.map d_TCell r))⟩,⟨(.fn 54 []),.b⟩] true []:=by
 unfold m_slices_SortFunc_Cell__StoreJoin_1 at H
 split at H
 ·rename_i h
  cases H
  have e1:List.map d_TCell a1=(a1.pmap (fun c hc=>(⟨(c.Key,c.Value),hc⟩:KC)) h.1).map dK:=by rw[List.map_pmap];exact(List.pmap_eq_map _).symm
  have e2:∀l:List KC,List.map d_TCell (l.map fun p=>(⟨p.1.1,p.1.2⟩:TCell))=l.map dK:=fun l=>by rw[List.map_map];rfl
  rw[e1,e2]
  exact sortK_fn Try.sort53 (by kernel_rfl) (by kernel_rfl) (fun w=>run_isAgg Try.underlying74) (fun w=>(run_sizeOf (Option.some_get (by kernel_rfl:(Try.prog.info? 74).isSome=true)).symm).trans (by kernel_rfl)) (enters_of Try.func54 (by kernel_rfl) rfl) Try.less54 _ (by simp;omega)
 ·cases H
theorem c_impl_StoreJoin{a1:(List TCell)}{a2:(List TCell)}{r:((List TCell)×Bool)}(H:m_impl_StoreJoin a1 a2=some r):Fn Try.prog 11 (lent [(.sl 2 (List.map d_TCell a1)),(.sl 2 (List.map d_TCell a2))]) true [(.sl 2 (List.map d_TCell r.1)),(.bool r.2)]:=by
 refine f11 (fle rfl) ?_
 rw[init_mk]
 refine AW.weaken (t:=mk [(0,(.one (.d (.sl 2 (List.map d_TCell a1))))),(1,(.one (.d (.sl 2 (List.map d_TCell a2)))))] [] (lk [])) (wk_mk [] (kv 0 (.one (.d (.sl 2 (List.map d_TCell a1)))) rfl rfl (kv 1 (.one (.d (.sl 2 (List.map d_TCell a2)))) rfl rfl SL.nil)) BL.nil BK.nil) ?_
 unfold m_impl_StoreJoin at H
 unfold i11
 refine aV (oMov eC (oMov eC (xQ (aS (AW.seqJ (fun t3:Bool=>(impl_StoreJoin_j3 a1 a2) t3=some r) (fun t3=>mk [(0,(.one (.d (.sl 2 (List.map d_TCell a1))))),(1,(.one (.d (.sl 2 (List.map d_TCell a2))))),(22,(oB t3))] [] (lk [])) ?_ ?_)))))
 ·intro t3 H
  unfold impl_StoreJoin_j3 at H
  rcases oite H with⟨h5,H⟩|⟨h5,H⟩
  ·refine AW.condT (eR rfl) h5 (aV (oMov eC (oMov eC (xQ (AW.ret (TQ.qr ?_))))))
   cases H
   exact endsR (RL.cons (RV.tmp (eR rfl)) VO.zs (RL.cons (RV.tmp eZ) (VO.flat rfl) RL.nil)) List.nodup_nil
  ·refine AW.condF (eR rfl) (nt h5) (AW.skip (TQ.qn (aV (oMov eZ (oMov (eR rfl) (oBslice (m:=1600) (q:=2) (cs:=[(.d (.sl 2 (List.map d_TCell a1))),(.d (.sl 2 (List.map d_TCell a2)))]) rfl (PsCons (eR rfl) (PsCons eZ PsNil)) rfl (List.cons_ne_nil _ _) (by simp) nZ ?_))))))
   obtain⟨v6,h7,H⟩:=obind H
   refine oCallN (u:=(.one (.sl 1664 0 v6.length))) (bs:=[(1664,(.data 2 (List.map d_TCell v6) true none))]) eC Cl.fn (c_slices_Concat_Cell h7) (Evs.cons eZ Evs.nil) (VDs.cons (VD.vars [(.sl 2 (List.map d_TCell a1)),(.sl 2 (List.map d_TCell a2))] bZ rfl rfl) VDs.nil) (by simp[bindR,bindV,bindVs,bindC,bindCs]) rfl (fC (nS rfl nZ) rfl (fC (nS rfl nZ) rfl fN)) (oMov eZ (xQ (aS (AW.regm (rmOne (oMov eZ (xNil ?_)))))))
   obtain⟨v8,h9,H⟩:=obind H
   obtain⟨h10,H⟩:=oguard H
   refine rmCallI (ON:=[1664]) (ls:=[]) (G:=[]) (E:=[subKey 1664]) (MB:=[(1664,(.data 2 (List.map d_TCell v8) true none))]) (u:=(.tup [])) eC Cl.fn (c_slices_SortFunc_Cell__StoreJoin_1 h9) (Evs.cons eZ (Evs.cons eC Evs.nil)) (AO.mut (VO.sl bZ (List.length_map _) (allFlat fun _=>rfl)) (AO.lent (VD.fn PDs.nil) rfl AO.nil)) rfl rfl rfl (SZ.cons bZ SZ.nil) (erL.cons (v':=(.one (.sl 1664 0 v6.length))) rfl (erL.cons (v':=(.one (.sl 1664 0 v6.length))) rfl (erL.cons (v':=(.one (.sl 1664 0 v6.length))) rfl (erL.cons (v':=(.one (.sl 1600 0 2))) rfl (erL.cons (v':=(.one (.d (.sl 2 (List.map d_TCell a2))))) rfl (erL.cons (v':=(.one (.d (.sl 2 (List.map d_TCell a1))))) rfl (erL.cons (v':=(.one (.d (.sl 2 (List.map d_TCell a1))))) rfl (erL.cons (v':=(.one (.d (.sl 2 (List.map d_TCell a2))))) rfl (erL.cons (v':=(oB t3)) rfl erL.nil))))))))) (erH.cons (v':=(.data 2 (List.map d_TCell v6) true none)) rfl rfl (erH.cons (v':=(.vars 1 [(.d (.sl 2 (List.map d_TCell a1))),(.d (.sl 2 (List.map d_TCell a2)))])) rfl rfl erH.nil)) erL.nil rfl rfl (rmRest (xQ (aS (aV (oMov (eR rfl) ?_)))))
   obtain⟨v11,h12,H⟩:=obind H
   refine oCall (u:=(oB v11)) eC Cl.fn (c_impl_StoreOk h12) (Evs.cons eZ Evs.nil) (VDs.cons (VD.sl bZ (by first|(simp;done)|(simp;omega)|omega|(simp only[List.length_map];omega))) VDs.nil) rfl (oInv eZ (xQ ?_))
   rcases oite H with⟨h13,H⟩|⟨h13,H⟩
   ·refine AW.condF eZ (cN h13) (AW.skip (TQ.qn (aV (oMov (eR rfl) (oMov eZ (oMov eC (xQ (AW.weaken (wk_mkG [1600] (kr 5 rfl rfl (kr 4 rfl rfl SL.nil)) (BL.keep rfl (BL.keep rfl (BL.drop rfl BL.nil))) (BK.cons (n:=1664) rfl bZ rfl rfl BK.nil) GK.nil) (AW.ret ?_)))))))))
    cases H
    exact endsR (RL.cons (RV.tmp (eR rfl)) (VO.sl bZ (by first|(simp;done)|(simp;omega)|omega|(simp only[List.length_map];omega)) (allFlat fun _=>rfl)) (RL.cons (RV.tmp eZ) (VO.flat rfl) RL.nil)) (by decide)
   ·refine AW.condT eZ (cN (nt h13)) (aV (oMov eC (oMov eC (xQ (AW.ret (TQ.qr ?_))))))
    cases H
    exact endsR (RL.cons (RV.tmp (eR rfl)) VO.zs (RL.cons (RV.tmp eZ) (VO.flat rfl) RL.nil)) List.nodup_nil
 ·refine aR (oMov (eR rfl) ?_)
  obtain⟨v14,h15,H⟩:=obind H
  refine oCall (u:=(oB v14)) eC Cl.fn (c_impl_StoreOk h15) (Evs.cons eZ Evs.nil) (VDs.cons VD.plain VDs.nil) rfl (oInv eZ (oMov eZ ?_))
  rcases oite H with⟨h16,H⟩|⟨h16,H⟩
  ·refine gDo eZ (cN h16) (oMov (eR rfl) (gDo (eR rfl) (cN h16) ?_))
   obtain⟨v17,h18,H⟩:=obind H
   refine oCall (u:=(oB v17)) eC Cl.fn (c_impl_StoreOk h18) (Evs.cons eZ Evs.nil) (VDs.cons VD.plain VDs.nil) rfl (gDo (eR rfl) (cN h16) (oInv eZ (oPickF (eR rfl) (cN h16) eZ (oMov eZ ?_))))
   rcases oite H with⟨h19,H⟩|⟨h19,H⟩
   ·exact gDo eZ (cN h19) (oMov (eR rfl) (gDo (eR rfl) (cN h19) (oLenD eZ (n:=a1.length) (List.length_map _) (gDo (eR rfl) (cN h19) (oMov (eR rfl) (gDo (eR rfl) (cN h19) (oLenD eZ (n:=a2.length) (List.length_map _) (gDo (eR rfl) (cN h19) (oAdd (eR rfl) eZ (gDo (eR rfl) (cN h19) (oGtr eZ eC (oPickF (eR rfl) (cN h19) eZ (xNil (TQ.qn ⟨(decide (60 < (IntKind.wrap .i64 ((a1.length:Int)+(a2.length:Int))))),H,(wk_mkG [] (kR rfl rfl (kR rfl rfl (kR rfl rfl SL.nil))) BL.nil BK.nil GK.nil)⟩))))))))))))))
   ·exact gSkip eZ (cN (nt h19)) rfl (gSkip (eR rfl) (cN (nt h19)) rfl (gSkip (eR rfl) (cN (nt h19)) rfl (gSkip (eR rfl) (cN (nt h19)) rfl (gSkip (eR rfl) (cN (nt h19)) rfl (gSkip (eR rfl) (cN (nt h19)) rfl (oPickT (eR rfl) (cN (nt h19)) eC (xNil (TQ.qn ⟨true,H,(wk_mkG [] (kR rfl rfl (kR rfl rfl (kR rfl rfl SL.nil))) BL.nil BK.nil GK.nil)⟩))))))))
  ·exact gSkip eZ (cN (nt h16)) rfl (gSkip (eR rfl) (cN (nt h16)) rfl (gSkip (eR rfl) (cN (nt h16)) rfl (oPickT (eR rfl) (cN (nt h16)) eC (oMov eZ (gSkip eZ rfl rfl (gSkip (eR rfl) rfl rfl (gSkip (eR rfl) rfl rfl (gSkip (eR rfl) rfl rfl (gSkip (eR rfl) rfl rfl (gSkip (eR rfl) rfl rfl (oPickT (eR rfl) rfl eC (xNil (TQ.qn ⟨true,H,(wk_mkG [] (kR rfl rfl (kR rfl rfl (kR rfl rfl SL.nil))) BL.nil BK.nil GK.nil)⟩)))))))))))))
theorem c_laws_eqCell{a1:TCell}{a2:TCell}{r:Bool}(H:m_laws_eqCell a1 a2=some r):Fn Try.prog 55 (lent [(.agg (d_TCell a1)),(.agg (d_TCell a2))]) true [(.bool r)]:=by
 refine f55 (fle rfl) ?_
 rw[init_mk]
 refine AW.weaken (wk_mk [] (kv 0 (.agg [(dI a1.Key),(dI a1.Value)]) rfl rfl (kv 1 (.agg [(dI a2.Key),(dI a2.Value)]) rfl rfl SL.nil)) BL.nil BK.nil) ?_
 unfold m_laws_eqCell at H
 unfold i55
 refine aV (oBox (n:=128) (m:=2) (cs:=[(dI a1.Key),(dI a1.Value)]) rfl eZ rfl rfl nZ (oBox (n:=192) (m:=2) (cs:=[(dI a2.Key),(dI a2.Value)]) rfl (eR rfl) rfl rfl (nS rfl nZ) (oMov eC (xQ (aS (aV (oFaddrN (m:=0) (eR rfl) rfl (oLoadV (q:=0) (c:=(dI a1.Key)) eZ (bS rfl bZ) rfl rfl (oFaddrN (m:=0) (eR rfl) rfl (oLoadV (q:=0) (c:=(dI a2.Key)) eZ bZ rfl rfl (oNeq (eR rfl) eZ (xQ ?_))))))))))))
 rcases oite H with⟨h3,H⟩|⟨h3,H⟩
 ·refine AW.condT eZ (dT h3) (aV (oMov eC (xQ (AW.ret (TQ.qr ?_)))))
  cases H
  exact eE rfl rfl
 ·refine AW.condF eZ (dF h3) (AW.skip (TQ.qn (aS (aV (oFaddrN (m:=1) (eR rfl) rfl (oLoadV (q:=1) (c:=(dI a1.Value)) eZ (bS rfl bZ) rfl rfl (oFaddrN (m:=1) (eR rfl) rfl (oLoadV (q:=1) (c:=(dI a2.Value)) eZ bZ rfl rfl (oNeq (eR rfl) eZ (xQ ?_))))))))))
  rcases oite H with⟨h4,H⟩|⟨h4,H⟩
  ·refine AW.condT eZ (dT h4) (aV (oMov eC (xQ (AW.weaken (wk_mk [192,128] (kr 4 rfl rfl SL.nil) (BL.drop rfl (BL.drop rfl BL.nil)) BK.nil) (AW.ret (TQ.qr ?_))))))
   cases H
   exact eE rfl rfl
  ·refine AW.condF eZ (dF h4) (AW.skip (TQ.qn (aV (oMov eC (xQ (AW.weaken (wk_mk [192,128] (kr 4 rfl rfl SL.nil) (BL.drop rfl (BL.drop rfl BL.nil)) BK.nil) (AW.ret ?_)))))))
   cases H
   exact eE rfl rfl
theorem c_laws_eqCellS{a1:(List TCell)}{a2:(List TCell)}{r:Bool}(H:m_laws_eqCellS a1 a2=some r):Fn Try.prog 12 (lent [(.sl 2 (List.map d_TCell a1)),(.sl 2 (List.map d_TCell a2))]) true [(.bool r)]:=by
 refine f12 (fle rfl) ?_
 rw[init_mk]
 refine AW.weaken (wk_mk [] (kv 0 (.one (.d (.sl 2 (List.map d_TCell a1)))) rfl rfl (kv 1 (.one (.d (.sl 2 (List.map d_TCell a2)))) rfl rfl SL.nil)) BL.nil BK.nil) ?_
 unfold m_laws_eqCellS at H
 unfold i12
 refine aV (oMov eC (xQ (aS (aV (oMov (eR rfl) (oLenD eZ (n:=a1.length) (List.length_map _) (oMov (eR rfl) (oLenD eZ (n:=a2.length) (List.length_map _) (oNeq (eR rfl) eZ (xQ ?_))))))))))
 rcases oite H with⟨h3,H⟩|⟨h3,H⟩
 ·refine AW.condT eZ (dT h3) (aV (oMov eC (xQ (AW.ret (TQ.qr ?_)))))
  cases H
  exact eE rfl rfl
 ·refine AW.condF eZ (dF h3) (AW.skip (TQ.qn (AW.seqJ (fun t4:Unit=>laws_eqCellS_j4 t4=some r) (fun t4=>mk [] [] noG) ?_ ?_)))
  ·intro t4 H
   unfold laws_eqCellS_j4 at H
   refine aV (oMov eC (xQ (AW.ret ?_)))
   cases H
   exact eE rfl rfl
  ·refine aV (oMov eC (xQ (AW.block (AW.iter (fun s6:Int=>mk [(0,(.one (.d (.sl 2 (List.map d_TCell a1))))),(1,(.one (.d (.sl 2 (List.map d_TCell a2))))),(5,(oI s6))] [] noG) H (wk_mk [] (kR rfl rfl (kR rfl rfl (kR rfl rfl SL.nil))) BL.nil BK.nil) ?_))))
   intro kb7 s6 H
   unfold laws_eqCellS_b6 at H
   refine aS (aV (oMov (eR rfl) (oMov (eR rfl) (oLenD eZ (n:=a1.length) (List.length_map _) (oLss (eR rfl) eZ (xQ ?_))))))
   rcases oite H with⟨h8,H⟩|⟨h8,H⟩
   ·refine AW.condT eZ (dT h8) (AW.skip (TQ.qn (aS (AW.block (aS (AW.regd (oMov (eR rfl) (oMov (eR rfl) ?_))))))))
    obtain⟨v9,h10,H⟩:=obind H
    refine oAtD (eR rfl) eZ h10 (oLoadBA (es:=[(dI v9.Key),(dI v9.Value)]) eZ rfl (oMov (eR rfl) (oMov (eR rfl) ?_)))
    obtain⟨v11,h12,H⟩:=obind H
    refine oAtD (eR rfl) eZ h12 (oLoadBA (es:=[(dI v11.Key),(dI v11.Value)]) eZ rfl ?_)
    obtain⟨v13,h14,H⟩:=obind H
    refine oCall (u:=(oB v13)) eC Cl.fn (c_laws_eqCell h14) (Evs.cons (eR rfl) (Evs.cons eZ Evs.nil)) (VDs.cons (VD.agg rfl) (VDs.cons (VD.agg rfl) VDs.nil)) rfl (oInv eZ (xQ (AW.weaken (wk_mk [] (kr 26 rfl rfl (kr 0 rfl rfl (kr 1 rfl rfl (kr 5 rfl rfl SL.nil)))) BL.nil BK.nil) ?_)))
    rcases oite H with⟨h15,H⟩|⟨h15,H⟩
    ·exact AW.condF eZ (cN h15) (AW.skip (BQ.qn (TQ.qn (aR (oMov (eR rfl) (oAdd eZ eC (oMov eZ (xNil (TQ.qn ⟨(IntKind.wrap .i64 (s6+1)),H,(wk_mk [] (kR rfl rfl (kR rfl rfl (kR rfl rfl SL.nil))) BL.nil BK.nil)⟩)))))))))
    ·refine AW.condT eZ (cN (nt h15)) (aV (oMov eC (xQ (AW.ret (BQ.qr (TQ.qr (TQ.qr (BQ.qr (TQ.qr ?_)))))))))
     cases H
     exact eE rfl rfl
   ·exact AW.condF eZ (dF h8) (AW.exit (TQ.qe (TQ.qe (BQ.qe (TQ.qn ⟨(),H,(wk_mk [] SL.nil BL.nil BK.nil)⟩)))))
theorem c_laws_markCellS{a1:(List TCell)}{a2:Int}{r:(Int×(List TCell))}(H:m_laws_markCellS a1 a2=some r):Fn Try.prog 13 [⟨(.sl 2 (List.map d_TCell a1)),.m (.sl 2 (List.map d_TCell r.2))⟩,⟨(.int .i64 a2),.b⟩] true [(.int .i64 r.1)]:=by
 refine m13 (fle rfl) (fC nZ rfl fN) rfl ?_
 rw[initM_mk]
 refine AW.weaken (t:=mk [(0,(.one (.sl 0 0 a1.length))),(1,(oI a2))] [(0,(.data 2 (List.map d_TCell a1) true none))] (lk [(0,(.one (.sl 0 0 ((List.map d_TCell a1).length))))])) (wk_mkG (gl:=[(0,(.one (.sl 0 0 ((List.map d_TCell a1).length))))]) [] (SL.cons (v:=(.one (.sl 0 0 a1.length))) eZ rfl (VWk.one (CWk.len (List.length_map _))) (kv 1 (oI a2) rfl rfl SL.nil)) (BL.keep rfl BL.nil) (BK.cons (n:=0) rfl bZ rfl rfl BK.nil) (GK.cons rfl GK.nil)) ?_
 unfold m_laws_markCellS at H
 unfold i13
 refine aV (oMov eC (xQ (AW.seqJ (fun t3:((List TCell)×Int)=>(laws_markCellS_j3 a1) t3=some r) (fun t3=>mk [(1,(oI t3.2))] [(0,(.data 2 (List.map d_TCell t3.1) true none))] (lk [(0,(.one (.sl 0 0 ((List.map d_TCell a1).length))))])) ?_ ?_)))
 ·intro t3 H
  unfold laws_markCellS_j3 at H
  refine aV (oMov eZ (oMov eZ (xQ (AW.ret ?_))))
  obtain⟨h5,H⟩:=oguard H
  cases H
  exact endsRM (RL.cons (RV.tmp eZ) (VO.flat rfl) RL.nil) (ML.mut eZ (VO.sl bZ (by first|(simp;done)|(simp;omega)|omega|(simp only[List.length_map];omega)) (allFlat fun _=>rfl)) (ML.lent ML.nil)) (by decide)
 ·refine aV (oMov eC (xQ (AW.block (AW.iter (fun s6:((List TCell)×Int×Int)=>mk [(0,(.one (.sl 0 0 s6.1.length))),(1,(oI s6.2.1)),(5,(oI s6.2.2))] [(0,(.data 2 (List.map d_TCell s6.1) true none))] (lk [(0,(.one (.sl 0 0 ((List.map d_TCell a1).length))))])) H (wk_mkG [] (kR rfl rfl (kR rfl rfl (kR rfl rfl SL.nil))) (BL.keep rfl BL.nil) (BK.cons rfl bZ rfl rfl BK.nil) (GK.cons rfl GK.nil)) ?_))))
  intro kb7 s6 H
  unfold laws_markCellS_b6 at H
  refine aS (aV (oMov (eR rfl) (oMov (eR rfl) (oLenN eZ (oLss (eR rfl) eZ (xQ ?_))))))
  rcases oite H with⟨h8,H⟩|⟨h8,H⟩
  ·refine AW.condT eZ (dT h8) (AW.skip (TQ.qn (aS (AW.block (aV (oMov (eR rfl) (oMov (eR rfl) (oMov (eR rfl) ?_))))))))
   obtain⟨v9,h10,H⟩:=obind H
   refine oAtN (eR rfl) (eR rfl) bZ rfl h10 (oFaddrN (m:=0) eZ rfl (oStoreD (t:=v9) (t':=(TCell.mk s6.2.1 v9.Value)) (es:=[(.int .i64 s6.2.1)]) eZ (eR rfl) rfl rfl bZ (idx_at h10) rfl rfl (xQ (aV (oMov (eR rfl) (oAdd eZ eC (oMov eZ (xQ (aV (oMov (eR rfl) (oMov (eR rfl) (oMov (eR rfl) ?_))))))))))))
   obtain⟨v11,h12,H⟩:=obind H
   exact oAtN (eR rfl) (eR rfl) bZ (by first|(simp;done)|(simp;omega)|omega|(simp only[List.length_map];omega)) h12 (oFaddrN (m:=1) eZ rfl (oStoreD (t:=v11) (t':=(TCell.mk v11.Key (IntKind.wrap .i64 (s6.2.1+1)))) (es:=[(.int .i64 (IntKind.wrap .i64 (s6.2.1+1)))]) eZ (eR rfl) rfl rfl bZ (idx_at h12) rfl rfl (xQ (AW.weaken (wk_mkG [] (kr 1 rfl rfl (kr 0 rfl rfl (kr 5 rfl rfl SL.nil))) (BL.keep rfl (BL.keep rfl (BL.keep rfl BL.nil))) (BK.cons (n:=0) rfl bZ rfl rfl BK.nil) (GK.cons rfl GK.nil)) (aR (oMov eZ (oAdd eZ eC (oMov eZ (xNil (BQ.qn (TQ.qn (aR (oMov (eR rfl) (oAdd eZ eC (oMov eZ (xNil (TQ.qn ⟨((s6.1.set (Int.toNat s6.2.2) (TCell.mk s6.2.1 v9.Value)).set (Int.toNat s6.2.2) (TCell.mk v11.Key (IntKind.wrap .i64 (s6.2.1+1))),(IntKind.wrap .i64 ((IntKind.wrap .i64 (s6.2.1+1))+1)),(IntKind.wrap .i64 (s6.2.2+1))),H,(wk_mkG [] (SL.cons (eR rfl) rfl (VWk.one (CWk.len (by first|(simp;done)|(simp;omega)|omega|(simp only[List.length_map];omega)))) (kR rfl rfl (kR rfl rfl SL.nil))) (BL.keep rfl BL.nil) (BK.cons rfl bZ rfl rfl BK.nil) (GK.cons rfl GK.nil))⟩)))))))))))))))))
  ·exact AW.condF eZ (dF h8) (AW.exit (TQ.qe (TQ.qe (BQ.qe (TQ.qn ⟨(s6.1,s6.2.1),H,(wk_mkG [] (kR rfl rfl SL.nil) (BL.keep rfl BL.nil) (BK.cons rfl bZ rfl rfl BK.nil) (GK.cons rfl GK.nil))⟩)))))
theorem c_laws_heldCellS{a1:(List TCell)}{a2:Int}{r:Int}(H:m_laws_heldCellS a1 a2=some r):Fn Try.prog 14 (lent [(.sl 2 (List.map d_TCell a1)),(.int .i64 a2)]) true [(.int .i64 r)]:=by
 refine f14 (fle rfl) ?_
 rw[init_mk]
 refine AW.weaken (wk_mk [] (kv 0 (.one (.d (.sl 2 (List.map d_TCell a1)))) rfl rfl (kv 1 (oI a2) rfl rfl SL.nil)) BL.nil BK.nil) ?_
 unfold m_laws_heldCellS at H
 unfold i14
 refine aV (oMov eC (xQ (AW.seqJ (fun t3:Int=>laws_heldCellS_j3 t3=some r) (fun t3=>mk [(1,(oI t3))] [] noG) ?_ ?_)))
 ·intro t3 H
  unfold laws_heldCellS_j3 at H
  refine aV (oMov eZ (oMov eZ (xQ (AW.ret ?_))))
  cases H
  exact eE rfl rfl
 ·refine aV (oMov eC (xQ (AW.block (AW.iter (fun s5:(Int×Int)=>mk [(0,(.one (.d (.sl 2 (List.map d_TCell a1))))),(1,(oI s5.1)),(5,(oI s5.2))] [] noG) H (wk_mk [] (kR rfl rfl (kR rfl rfl (kR rfl rfl SL.nil))) BL.nil BK.nil) ?_))))
  intro kb6 s5 H
  unfold laws_heldCellS_b5 at H
  refine aS (aV (oMov (eR rfl) (oMov (eR rfl) (oLenD eZ (n:=a1.length) (List.length_map _) (oLss (eR rfl) eZ (xQ ?_))))))
  rcases oite H with⟨h7,H⟩|⟨h7,H⟩
  ·refine AW.condT eZ (dT h7) (AW.skip (TQ.qn (aS (AW.block (aS (aV (oMov (eR rfl) (oMov (eR rfl) ?_))))))))
   obtain⟨v8,h9,H⟩:=obind H
   refine oAtD (eR rfl) eZ h9 (oFaddrB (m:=0) eZ rfl (oLoadB (e:=(.int .i64 v8.Key)) eZ rfl (oMov (eR rfl) (oNeq (eR rfl) eZ (xQ ?_)))))
   rcases oite H with⟨h10,H⟩|⟨h10,H⟩
   ·refine AW.condT eZ (dT h10) (aV (oMov eC (xQ (AW.ret (TQ.qr (BQ.qr (TQ.qr (TQ.qr (BQ.qr (TQ.qr ?_))))))))))
    cases H
    exact eE rfl rfl
   ·refine AW.condF eZ (dF h10) (AW.skip (TQ.qn (aV (oMov (eR rfl) (oAdd eZ eC (oMov eZ (xQ (AW.weaken (wk_mk [] (kr 1 rfl rfl (kr 0 rfl rfl (kr 5 rfl rfl SL.nil))) BL.nil BK.nil) (aS (aV (oMov (eR rfl) (oMov (eR rfl) ?_))))))))))))
    obtain⟨v11,h12,H⟩:=obind H
    refine oAtD (eR rfl) eZ h12 (oFaddrB (m:=1) eZ rfl (oLoadB (e:=(.int .i64 v11.Value)) eZ rfl (oMov (eR rfl) (oNeq (eR rfl) eZ (xQ ?_)))))
    rcases oite H with⟨h13,H⟩|⟨h13,H⟩
    ·refine AW.condT eZ (dT h13) (aV (oMov eC (xQ (AW.ret (TQ.qr (BQ.qr (TQ.qr (TQ.qr (BQ.qr (TQ.qr ?_))))))))))
     cases H
     exact eE rfl rfl
    ·exact AW.condF eZ (dF h13) (AW.skip (TQ.qn (aR (oMov (eR rfl) (oAdd eZ eC (oMov eZ (xNil (BQ.qn (TQ.qn (aR (oMov (eR rfl) (oAdd eZ eC (oMov eZ (xNil (TQ.qn ⟨((IntKind.wrap .i64 ((IntKind.wrap .i64 (s5.1+1))+1)),(IntKind.wrap .i64 (s5.2+1))),H,(wk_mk [] (kR rfl rfl (kR rfl rfl (kR rfl rfl SL.nil))) BL.nil BK.nil)⟩)))))))))))))))
  ·exact AW.condF eZ (dF h7) (AW.exit (TQ.qe (TQ.qe (BQ.qe (TQ.qn ⟨s5.1,H,(wk_mk [] (kR rfl rfl SL.nil) BL.nil BK.nil)⟩)))))
theorem c_laws_FnExactStoreJoin{a1:(List TCell)}{a2:(List TCell)}{r:Bool}(H:m_laws_FnExactStoreJoin a1 a2=some r):Fn Try.prog 3 (lent [(.sl 2 (List.map d_TCell a1)),(.sl 2 (List.map d_TCell a2))]) true [(.bool r)]:=by
 refine f3 (fle rfl) ?_
 rw[init_mk]
 refine AW.weaken (t:=mk [(0,(.one (.d (.sl 2 (List.map d_TCell a1))))),(1,(.one (.d (.sl 2 (List.map d_TCell a2)))))] [] (lk [])) (wk_mk [] (kv 0 (.one (.d (.sl 2 (List.map d_TCell a1)))) rfl rfl (kv 1 (.one (.d (.sl 2 (List.map d_TCell a2)))) rfl rfl SL.nil)) BL.nil BK.nil) ?_
 unfold m_laws_FnExactStoreJoin at H
 unfold i3
 refine aV (oMov eC (xQ (aV (oMov eC (xQ (aV (oMov (eR rfl) (oMov (eR rfl) ?_))))))))
 obtain⟨v3,h4,H⟩:=obind H
 refine oCall (u:=(oI v3)) eC Cl.fn (c_laws_szCellS h4) (Evs.cons (eR rfl) (Evs.cons eZ Evs.nil)) (VDs.cons VD.plain (VDs.cons VD.plain VDs.nil)) rfl (oMov eZ (xQ (aS (aV (oMov eZ (oLss eZ eC (xQ ?_)))))))
 rcases oite H with⟨h5,H⟩|⟨h5,H⟩
 ·refine AW.condT eZ (dT h5) (aV (oMov eC (xQ (AW.ret (TQ.qr ?_)))))
  cases H
  exact eE rfl rfl
 ·refine AW.condF eZ (dF h5) (AW.skip (TQ.qn (aV (oMov (eR rfl) (oMov (eR rfl) ?_)))))
  obtain⟨v6,h7,H⟩:=obind H
  refine oCall (u:=(oI v6)) eC Cl.fn (c_laws_szCellS h7) (Evs.cons (eR rfl) (Evs.cons eZ Evs.nil)) (VDs.cons VD.plain (VDs.cons VD.plain VDs.nil)) rfl (oMov eZ (xQ (aS (aV (oMov eZ (oLss eZ eC (xQ (AW.weaken (wk_mkG [] (kr 26 rfl rfl (kr 0 rfl rfl (kr 1 rfl rfl SL.nil))) BL.nil BK.nil GK.nil) ?_))))))))
  rcases oite H with⟨h8,H⟩|⟨h8,H⟩
  ·refine AW.condT eZ (dT h8) (aV (oMov eC (xQ (AW.ret (TQ.qr ?_)))))
   cases H
   exact eE rfl rfl
  ·refine AW.condF eZ (dF h8) (AW.skip (TQ.qn (aV (oMov (eR rfl) ?_))))
   obtain⟨v9,h10,H⟩:=obind H
   refine oCall (u:=(.one (.d (.sl 2 (List.map d_TCell v9))))) eC Cl.fn (c_laws_toCellS h10) (Evs.cons eZ Evs.nil) (VDs.cons VD.plain VDs.nil) rfl (oMov (eR rfl) ?_)
   obtain⟨v11,h12,H⟩:=obind H
   refine oCall (u:=(.one (.d (.sl 2 (List.map d_TCell v11))))) eC Cl.fn (c_laws_toCellS h12) (Evs.cons eZ Evs.nil) (VDs.cons VD.plain VDs.nil) rfl ?_
   obtain⟨v13,h14,H⟩:=obind H
   refine oCall (u:=(.tup [(.one (.d (.sl 2 (List.map d_TCell v13.1)))),(oB v13.2)])) eC Cl.fn (c_spec_StoreJoin h14) (Evs.cons (eR rfl) (Evs.cons eZ Evs.nil)) (VDs.cons VD.plain (VDs.cons VD.plain VDs.nil)) rfl (oMov eZ (oExt (v:=(.one (.d (.sl 2 (List.map d_TCell v13.1))))) eZ rfl (oExt (v:=(oB v13.2)) (eR rfl) rfl (oMov (eR rfl) (oMov (eR rfl) (xQ (aV (oMov (eR rfl) ?_))))))))
   obtain⟨v15,h16,H⟩:=obind H
   refine oCallN (u:=(.one (.sl 2304 0 v15.length))) (bs:=[(2304,(.data 2 (List.map d_TCell v15) true none))]) eC Cl.fn (c_laws_toCellS h16) (Evs.cons eZ Evs.nil) (VDs.cons VD.plain VDs.nil) (by simp[bindR,bindV,bindVs,bindC,bindCs]) rfl (fC nZ rfl (fC nZ rfl fN)) (oMov eZ (xQ (AW.weaken (wk_mkG [] (kr 8 rfl rfl (kr 7 rfl rfl (kr 6 rfl rfl (kr 0 rfl rfl (kr 1 rfl rfl SL.nil))))) (BL.keep rfl BL.nil) (BK.cons (n:=2304) rfl bZ rfl rfl BK.nil) GK.nil) (aV (oMov (eR rfl) ?_)))))
   obtain⟨v17,h18,H⟩:=obind H
   refine oCallN (u:=(.one (.sl 2432 0 v17.length))) (bs:=[(2432,(.data 2 (List.map d_TCell v17) true none))]) eC Cl.fn (c_laws_toCellS h18) (Evs.cons eZ Evs.nil) (VDs.cons VD.plain VDs.nil) (by simp[bindR,bindV,bindVs,bindC,bindCs]) rfl (fC (nS rfl nZ) rfl (fC (nS rfl nZ) rfl fN)) (oMov eZ (xQ (aV (oMov (eR rfl) (oMov (eR rfl) ?_)))))
   obtain⟨v19,h20,H⟩:=obind H
   refine oCallN (u:=(.tup [(.one (.sl 2688 0 v19.1.length)),(oB v19.2)])) (bs:=[(2688,(.data 2 (List.map d_TCell v19.1) true none))]) eC Cl.fn (c_impl_StoreJoin h20) (Evs.cons (eR rfl) (Evs.cons eZ Evs.nil)) (VDs.cons (VD.sl (bS rfl bZ) (List.length_map _)) (VDs.cons (VD.sl bZ (List.length_map _)) VDs.nil)) (by simp[bindR,bindV,bindVs,bindC,bindCs]) rfl (fC (nS rfl (nS rfl nZ)) rfl (fC (nS rfl (nS rfl nZ)) rfl fN)) (oMov eZ (oExt (v:=(.one (.sl 2688 0 v19.1.length))) eZ rfl (oExt (v:=(oB v19.2)) (eR rfl) rfl (oMov (eR rfl) (oMov (eR rfl) (xQ (AW.weaken (wk_mkG [] (kr 11 rfl rfl (kr 10 rfl rfl (kr 9 rfl rfl (kr 8 rfl rfl (kr 7 rfl rfl (kr 6 rfl rfl (kr 0 rfl rfl (kr 1 rfl rfl SL.nil)))))))) (BL.keep rfl (BL.keep rfl (BL.keep rfl BL.nil))) (BK.cons (n:=2688) rfl bZ rfl rfl (BK.cons (n:=2432) rfl (bS rfl bZ) rfl rfl (BK.cons (n:=2304) rfl (bS rfl (bS rfl bZ)) rfl rfl BK.nil))) GK.nil) (aS (AW.seqJ (fun t21:Bool=>(laws_FnExactStoreJoin_j21 a1 v15 a2 v17 v19 v13) t21=some r) (fun t21=>mk [(0,(.one (.d (.sl 2 (List.map d_TCell a1))))),(1,(.one (.d (.sl 2 (List.map d_TCell a2))))),(6,(.one (.d (.sl 2 (List.map d_TCell v13.1))))),(7,(oB v13.2)),(8,(.one (.sl 2304 0 v15.length))),(9,(.one (.sl 2432 0 v17.length))),(10,(.one (.sl 2688 0 v19.1.length))),(11,(oB v19.2)),(53,(oB t21))] [(2304,(.data 2 (List.map d_TCell v15) true none)),(2432,(.data 2 (List.map d_TCell v17) true none)),(2688,(.data 2 (List.map d_TCell v19.1) true none))] (lk [])) ?_ ?_)))))))))
   ·intro t21 H
    unfold laws_FnExactStoreJoin_j21 at H
    rcases oite H with⟨h23,H⟩|⟨h23,H⟩
    ·refine AW.condT (eR rfl) h23 (aV (oMov eC (xQ (AW.ret (TQ.qr ?_)))))
     cases H
     exact eE rfl rfl
    ·refine AW.condF (eR rfl) (nt h23) (AW.skip (TQ.qn (aS (aV (oMov (eR rfl) (oMov (eR rfl) ?_))))))
     obtain⟨v24,h25,H⟩:=obind H
     refine oCall (u:=(.one (.d (.sl 2 (List.map d_TCell v24))))) eC Cl.fn (c_laws_toCellS h25) (Evs.cons eZ Evs.nil) (VDs.cons VD.plain VDs.nil) rfl ?_
     obtain⟨v26,h27,H⟩:=obind H
     refine oCall (u:=(oB v26)) eC Cl.fn (c_laws_eqCellS h27) (Evs.cons (eR rfl) (Evs.cons eZ Evs.nil)) (VDs.cons (VD.sl bZ (List.length_map _)) (VDs.cons VD.plain VDs.nil)) rfl (oInv eZ (xQ ?_))
     rcases oite H with⟨h28,H⟩|⟨h28,H⟩
     ·refine AW.condF eZ (cN h28) (AW.skip (TQ.qn (aS (aV (oMov (eR rfl) (oMov (eR rfl) ?_))))))
      obtain⟨v29,h30,H⟩:=obind H
      refine oCall (u:=(.one (.d (.sl 2 (List.map d_TCell v29))))) eC Cl.fn (c_laws_toCellS h30) (Evs.cons eZ Evs.nil) (VDs.cons VD.plain VDs.nil) rfl ?_
      obtain⟨v31,h32,H⟩:=obind H
      refine oCall (u:=(oB v31)) eC Cl.fn (c_laws_eqCellS h32) (Evs.cons (eR rfl) (Evs.cons eZ Evs.nil)) (VDs.cons (VD.sl (bS rfl bZ) (List.length_map _)) (VDs.cons VD.plain VDs.nil)) rfl (oInv eZ (xQ (AW.weaken (wk_mkG [] (kr 63 rfl rfl (kr 0 rfl rfl (kr 1 rfl rfl (kr 6 rfl rfl (kr 7 rfl rfl (kr 8 rfl rfl (kr 9 rfl rfl (kr 10 rfl rfl (kr 11 rfl rfl SL.nil))))))))) (BL.keep rfl (BL.keep rfl (BL.keep rfl BL.nil))) (BK.cons (n:=2304) rfl bZ rfl rfl (BK.cons (n:=2432) rfl (bS rfl bZ) rfl rfl (BK.cons (n:=2688) rfl (bS rfl (bS rfl bZ)) rfl rfl BK.nil))) GK.nil) ?_)))
      rcases oite H with⟨h33,H⟩|⟨h33,H⟩
      ·refine AW.condF eZ (cN h33) (AW.skip (TQ.qn (aV (oMov eC (xQ (aS (AW.regm (rmOne (oMov (eR rfl) (xNil (rmOne (oMov (eR rfl) (xNil ?_)))))))))))))
       obtain⟨v34,h35,H⟩:=obind H
       obtain⟨h36,H⟩:=oguard H
       refine rmCallI (ON:=[2304]) (ls:=[]) (G:=[]) (E:=[subKey 2304]) (MB:=[(2304,(.data 2 (List.map d_TCell v34.2) true none))]) (u:=(oI v34.1)) eC Cl.fn (c_laws_markCellS h35) (Evs.cons (eR rfl) (Evs.cons eZ Evs.nil)) (AO.mut (VO.sl bZ (List.length_map _) (allFlat fun _=>rfl)) (AO.lent VD.plain rfl AO.nil)) rfl rfl rfl (SZ.cons bZ SZ.nil) (erL.cons (v':=(oI 1)) rfl (erL.cons (v':=(.one (.sl 2304 0 v15.length))) rfl (erL.cons (v':=(oI 1)) rfl (erL.cons (v':=(oB (!v31))) rfl (erL.cons (v':=(.one (.d (.sl 2 (List.map d_TCell a1))))) rfl (erL.cons (v':=(.one (.d (.sl 2 (List.map d_TCell a2))))) rfl (erL.cons (v':=(.one (.d (.sl 2 (List.map d_TCell v13.1))))) rfl (erL.cons (v':=(oB v13.2)) rfl (erL.cons (v':=(.one (.sl 2304 0 v15.length))) rfl (erL.cons (v':=(.one (.sl 2432 0 v17.length))) rfl (erL.cons (v':=(.one (.sl 2688 0 v19.1.length))) rfl (erL.cons (v':=(oB v19.2)) rfl erL.nil)))))))))))) (erH.cons (v':=(.data 2 (List.map d_TCell v15) true none)) rfl rfl (erH.cons (v':=(.data 2 (List.map d_TCell v17) true none)) rfl rfl (erH.cons (v':=(.data 2 (List.map d_TCell v19.1) true none)) rfl rfl erH.nil))) erL.nil rfl rfl (rmRest (oMov eZ (xQ (aS (AW.regm (rmOne (oMov (eR rfl) (xNil (rmOne (oMov (eR rfl) (xNil ?_)))))))))))
       obtain⟨v37,h38,H⟩:=obind H
       obtain⟨h39,H⟩:=oguard H
       refine rmCallI (ON:=[2432]) (ls:=[]) (G:=[]) (E:=[subKey 2432]) (MB:=[(2432,(.data 2 (List.map d_TCell v37.2) true none))]) (u:=(oI v37.1)) eC Cl.fn (c_laws_markCellS h38) (Evs.cons (eR rfl) (Evs.cons eZ Evs.nil)) (AO.mut (VO.sl (bS rfl (bS rfl bZ)) (List.length_map _) (allFlat fun _=>rfl)) (AO.lent VD.plain rfl AO.nil)) rfl rfl rfl (SZ.cons (bS rfl (bS rfl bZ)) SZ.nil) (erL.cons (v':=(oI v34.1)) rfl (erL.cons (v':=(.one (.sl 2432 0 v17.length))) rfl (erL.cons (v':=(oI v34.1)) rfl (erL.cons (v':=(oI v34.1)) rfl (erL.cons (v':=(oI 1)) rfl (erL.cons (v':=(.one (.sl 2304 0 v15.length))) rfl (erL.cons (v':=(oI 1)) rfl (erL.cons (v':=(oB (!v31))) rfl (erL.cons (v':=(.one (.d (.sl 2 (List.map d_TCell a1))))) rfl (erL.cons (v':=(.one (.d (.sl 2 (List.map d_TCell a2))))) rfl (erL.cons (v':=(.one (.d (.sl 2 (List.map d_TCell v13.1))))) rfl (erL.cons (v':=(oB v13.2)) rfl (erL.cons (v':=(.one (.sl 2304 0 v15.length))) rfl (erL.cons (v':=(.one (.sl 2432 0 v17.length))) rfl (erL.cons (v':=(.one (.sl 2688 0 v19.1.length))) rfl (erL.cons (v':=(oB v19.2)) rfl erL.nil)))))))))))))))) (erH.cons (v':=(.data 2 (List.map d_TCell v34.2) true none)) rfl rfl (erH.cons (v':=(.data 2 (List.map d_TCell v15) true none)) rfl rfl (erH.cons (v':=(.data 2 (List.map d_TCell v17) true none)) rfl rfl (erH.cons (v':=(.data 2 (List.map d_TCell v19.1) true none)) rfl rfl erH.nil)))) erL.nil rfl rfl (rmRest (oMov eZ (xQ (AW.weaken (wk_mkG [2432,2304] (kr 12 rfl rfl (kr 0 rfl rfl (kr 1 rfl rfl (kr 6 rfl rfl (kr 7 rfl rfl (kr 10 rfl rfl (kr 11 rfl rfl SL.nil))))))) (BL.drop rfl (BL.drop rfl (BL.drop rfl (BL.drop rfl (BL.keep rfl BL.nil))))) (BK.cons (n:=2688) rfl (bS rfl (bS rfl (bS rfl (bS rfl bZ)))) rfl rfl BK.nil) GK.nil) (aS (AW.seqJ (fun t40:Bool=>(laws_FnExactStoreJoin_j40 v19 a1 a2 v13) t40=some r) (fun t40=>mk [(0,(.one (.d (.sl 2 (List.map d_TCell a1))))),(1,(.one (.d (.sl 2 (List.map d_TCell a2))))),(6,(.one (.d (.sl 2 (List.map d_TCell v13.1))))),(7,(oB v13.2)),(10,(.one (.sl 2688 0 v19.1.length))),(82,(oB t40))] [(2688,(.data 2 (List.map d_TCell v19.1) true none))] (lk [])) ?_ ?_))))))
       ·intro t40 H
        unfold laws_FnExactStoreJoin_j40 at H
        rcases oite H with⟨h42,H⟩|⟨h42,H⟩
        ·refine AW.condT (eR rfl) h42 (aV (oMov eC (xQ (AW.ret (TQ.qr ?_)))))
         cases H
         exact eE rfl rfl
        ·refine AW.condF (eR rfl) (nt h42) (AW.skip (TQ.qn (aV (oMov eC (xQ (aS (AW.regm (rmOne (oMov (eR rfl) (xNil (rmOne (oMov (eR rfl) (xNil ?_)))))))))))))
         obtain⟨v43,h44,H⟩:=obind H
         obtain⟨h45,H⟩:=oguard H
         refine rmCallI (ON:=[2688]) (ls:=[]) (G:=[]) (E:=[subKey 2688]) (MB:=[(2688,(.data 2 (List.map d_TCell v43.2) true none))]) (u:=(oI v43.1)) eC Cl.fn (c_laws_markCellS h44) (Evs.cons (eR rfl) (Evs.cons eZ Evs.nil)) (AO.mut (VO.sl bZ (List.length_map _) (allFlat fun _=>rfl)) (AO.lent VD.plain rfl AO.nil)) rfl rfl rfl (SZ.cons bZ SZ.nil) (erL.cons (v':=(oI 1)) rfl (erL.cons (v':=(.one (.sl 2688 0 v19.1.length))) rfl (erL.cons (v':=(oI 1)) rfl (erL.cons (v':=(.one (.d (.sl 2 (List.map d_TCell a1))))) rfl (erL.cons (v':=(.one (.d (.sl 2 (List.map d_TCell a2))))) rfl (erL.cons (v':=(.one (.d (.sl 2 (List.map d_TCell v13.1))))) rfl (erL.cons (v':=(oB v13.2)) rfl (erL.cons (v':=(.one (.sl 2688 0 v19.1.length))) rfl (erL.cons (v':=(oB t40)) rfl erL.nil))))))))) (erH.cons (v':=(.data 2 (List.map d_TCell v19.1) true none)) rfl rfl erH.nil) erL.nil rfl rfl (rmRest (oMov eZ (xQ (aV (oMov eC (xQ (aV (oMov (eR rfl) (oMov (eR rfl) ?_)))))))))
         obtain⟨v46,h47,H⟩:=obind H
         refine oCall (u:=(oI v46)) eC Cl.fn (c_laws_heldCellS h47) (Evs.cons (eR rfl) (Evs.cons eZ Evs.nil)) (VDs.cons (VD.sl bZ (by first|(simp;done)|(simp;omega)|omega|(simp only[List.length_map];omega))) (VDs.cons VD.plain VDs.nil)) rfl (oMov eZ (xQ (AW.weaken (wk_mkG [] (kr 14 rfl rfl (kr 13 rfl rfl (kr 0 rfl rfl (kr 1 rfl rfl (kr 6 rfl rfl (kr 7 rfl rfl (kr 10 rfl rfl SL.nil))))))) (BL.keep rfl (BL.keep rfl BL.nil)) (BK.cons (n:=2688) rfl bZ rfl rfl BK.nil) GK.nil) (aS (aV (oMov eZ (oLss eZ eC (xQ ?_))))))))
         rcases oite H with⟨h48,H⟩|⟨h48,H⟩
         ·refine AW.condT eZ (dT h48) (aV (oMov eC (xQ (AW.ret (TQ.qr ?_)))))
          cases H
          exact eE rfl rfl
         ·refine AW.condF eZ (dF h48) (AW.skip (TQ.qn (aS (aV (oMov (eR rfl) (oMov (eR rfl) (oNeq (eR rfl) eZ (xQ ?_))))))))
          rcases oite H with⟨h49,H⟩|⟨h49,H⟩
          ·refine AW.condT eZ (dT h49) (aV (oMov eC (xQ (AW.ret (TQ.qr ?_)))))
           cases H
           exact eE rfl rfl
          ·refine AW.condF eZ (dF h49) (AW.skip (TQ.qn (aV (oMov (eR rfl) ?_))))
           obtain⟨v50,h51,H⟩:=obind H
           refine oCall (u:=(.one (.d (.sl 2 (List.map d_TCell v50))))) eC Cl.fn (c_laws_toCellS h51) (Evs.cons eZ Evs.nil) (VDs.cons VD.plain VDs.nil) rfl (oMov (eR rfl) ?_)
           obtain⟨v52,h53,H⟩:=obind H
           refine oCall (u:=(.one (.d (.sl 2 (List.map d_TCell v52))))) eC Cl.fn (c_laws_toCellS h53) (Evs.cons eZ Evs.nil) (VDs.cons VD.plain VDs.nil) rfl ?_
           obtain⟨v54,h55,H⟩:=obind H
           refine oCall (u:=(.tup [(.one (.d (.sl 2 (List.map d_TCell v54.1)))),(oB v54.2)])) eC Cl.fn (c_impl_StoreJoin h55) (Evs.cons (eR rfl) (Evs.cons eZ Evs.nil)) (VDs.cons VD.plain (VDs.cons VD.plain VDs.nil)) rfl (oMov eZ (oExt (v:=(.one (.d (.sl 2 (List.map d_TCell v54.1))))) eZ rfl (oExt (v:=(oB v54.2)) (eR rfl) rfl (oMov (eR rfl) (oMov (eR rfl) (xQ (AW.weaken (wk_mkG [] (kr 16 rfl rfl (kr 15 rfl rfl (kr 13 rfl rfl (kr 6 rfl rfl (kr 7 rfl rfl (kr 10 rfl rfl SL.nil)))))) (BL.keep rfl BL.nil) (BK.cons (n:=2688) rfl bZ rfl rfl BK.nil) GK.nil) (aS (AW.seqJ (fun t56:Bool=>(laws_FnExactStoreJoin_j56 v43) t56=some r) (fun t56=>mk [(10,(.one (.sl 2688 0 v19.1.length))),(13,(oI v43.1)),(110,(oB t56))] [(2688,(.data 2 (List.map d_TCell v43.2) true none))] (lk [])) ?_ ?_)))))))))
           ·intro t56 H
            unfold laws_FnExactStoreJoin_j56 at H
            rcases oite H with⟨h58,H⟩|⟨h58,H⟩
            ·refine AW.condT (eR rfl) h58 (aV (oMov eC (xQ (AW.ret (TQ.qr ?_)))))
             cases H
             exact eE rfl rfl
            ·refine AW.condF (eR rfl) (nt h58) (AW.skip (TQ.qn (aV (oMov eC (xQ (aV (oMov (eR rfl) (oMov (eR rfl) ?_))))))))
             obtain⟨v59,h60,H⟩:=obind H
             refine oCall (u:=(oI v59)) eC Cl.fn (c_laws_heldCellS h60) (Evs.cons (eR rfl) (Evs.cons eZ Evs.nil)) (VDs.cons (VD.sl bZ (by first|(simp;done)|(simp;omega)|omega|(simp only[List.length_map];omega))) (VDs.cons VD.plain VDs.nil)) rfl (oMov eZ (xQ (aS (aV (oMov eZ (oLss eZ eC (xQ ?_)))))))
             rcases oite H with⟨h61,H⟩|⟨h61,H⟩
             ·refine AW.condT eZ (dT h61) (aV (oMov eC (xQ (AW.ret (TQ.qr ?_)))))
              cases H
              exact eE rfl rfl
             ·refine AW.condF eZ (dF h61) (AW.skip (TQ.qn (aS (aV (oMov (eR rfl) (oMov (eR rfl) (oNeq (eR rfl) eZ (xQ ?_))))))))
              rcases oite H with⟨h62,H⟩|⟨h62,H⟩
              ·refine AW.condT eZ (dT h62) (aV (oMov eC (xQ (AW.ret (TQ.qr ?_)))))
               cases H
               exact eE rfl rfl
              ·refine AW.condF eZ (dF h62) (AW.skip (TQ.qn (aV (oMov eC (xQ (AW.ret ?_))))))
               cases H
               exact eE rfl rfl
           ·refine aR (oMov (eR rfl) (oMov (eR rfl) ?_))
            obtain⟨v63,h64,H⟩:=obind H
            refine oCall (u:=(oB v63)) eC Cl.fn (c_laws_eqCellS h64) (Evs.cons (eR rfl) (Evs.cons eZ Evs.nil)) (VDs.cons VD.plain (VDs.cons VD.plain VDs.nil)) rfl (oInv eZ (oMov eZ ?_))
            rcases oite H with⟨h65,H⟩|⟨h65,H⟩
            ·exact gDo eZ (cN h65) (oMov (eR rfl) (gDo (eR rfl) (cN h65) (oMov (eR rfl) (gDo (eR rfl) (cN h65) (oBne (eR rfl) eZ (oPickF (eR rfl) (cN h65) eZ (xNil (TQ.qn ⟨(v54.2 != v13.2),H,(wk_mkG [] (kR rfl rfl (kR rfl rfl (kR rfl rfl SL.nil))) (BL.keep rfl BL.nil) (BK.cons rfl bZ rfl rfl BK.nil) GK.nil)⟩))))))))
            ·exact gSkip eZ (cN (nt h65)) rfl (gSkip (eR rfl) (cN (nt h65)) rfl (gSkip (eR rfl) (cN (nt h65)) rfl (oPickT (eR rfl) (cN (nt h65)) eC (xNil (TQ.qn ⟨true,H,(wk_mkG [] (kR rfl rfl (kR rfl rfl (kR rfl rfl SL.nil))) (BL.keep rfl BL.nil) (BK.cons rfl bZ rfl rfl BK.nil) GK.nil)⟩)))))
       ·refine aR (oMov eZ (oLss eZ eC (oMov eZ ?_)))
        rcases oite H with⟨h66,H⟩|⟨h66,H⟩
        ·exact gSkip eZ (dT h66) rfl (gSkip (eR rfl) (dT h66) rfl (gSkip (eR rfl) (dT h66) rfl (gSkip (eR rfl) (dT h66) rfl (oPickT (eR rfl) (dT h66) eC (oMov eZ (gSkip eZ rfl rfl (gSkip (eR rfl) rfl rfl (gSkip (eR rfl) rfl rfl (oPickT (eR rfl) rfl eC (xNil (TQ.qn ⟨true,H,(wk_mkG [] (kR rfl rfl (kR rfl rfl (kR rfl rfl (kR rfl rfl (kR rfl rfl (kR rfl rfl SL.nil)))))) (BL.keep rfl BL.nil) (BK.cons rfl bZ rfl rfl BK.nil) GK.nil)⟩)))))))))))
        ·refine gDo eZ (dF h66) (oMov (eR rfl) (gDo (eR rfl) (dF h66) (oMov (eR rfl) (gDo (eR rfl) (dF h66) ?_))))
         obtain⟨v67,h68,H⟩:=obind H
         refine oCall (u:=(oB v67)) eC Cl.fn (c_laws_eqCellS h68) (Evs.cons (eR rfl) (Evs.cons eZ Evs.nil)) (VDs.cons (VD.sl bZ (List.length_map _)) (VDs.cons VD.plain VDs.nil)) rfl (gDo (eR rfl) (dF h66) (oInv eZ (oPickF (eR rfl) (dF h66) eZ (oMov eZ ?_))))
         rcases oite H with⟨h69,H⟩|⟨h69,H⟩
         ·exact gDo eZ (cN h69) (oMov (eR rfl) (gDo (eR rfl) (cN h69) (oMov (eR rfl) (gDo (eR rfl) (cN h69) (oBne (eR rfl) eZ (oPickF (eR rfl) (cN h69) eZ (xNil (TQ.qn ⟨(v19.2 != v13.2),H,(wk_mkG [] (kR rfl rfl (kR rfl rfl (kR rfl rfl (kR rfl rfl (kR rfl rfl (kR rfl rfl SL.nil)))))) (BL.keep rfl BL.nil) (BK.cons rfl bZ rfl rfl BK.nil) GK.nil)⟩))))))))
         ·exact gSkip eZ (cN (nt h69)) rfl (gSkip (eR rfl) (cN (nt h69)) rfl (gSkip (eR rfl) (cN (nt h69)) rfl (oPickT (eR rfl) (cN (nt h69)) eC (xNil (TQ.qn ⟨true,H,(wk_mkG [] (kR rfl rfl (kR rfl rfl (kR rfl rfl (kR rfl rfl (kR rfl rfl (kR rfl rfl SL.nil)))))) (BL.keep rfl BL.nil) (BK.cons rfl bZ rfl rfl BK.nil) GK.nil)⟩)))))
      ·refine AW.condT eZ (cN (nt h33)) (aV (oMov eC (xQ (AW.ret (TQ.qr ?_)))))
       cases H
       exact eE rfl rfl
     ·refine AW.condT eZ (cN (nt h28)) (aV (oMov eC (xQ (AW.ret (TQ.qr ?_)))))
      cases H
      exact eE rfl rfl
   ·refine aR (oMov (eR rfl) (oMov (eR rfl) ?_))
    obtain⟨v70,h71,H⟩:=obind H
    refine oCall (u:=(oB v70)) eC Cl.fn (c_laws_eqCellS h71) (Evs.cons (eR rfl) (Evs.cons eZ Evs.nil)) (VDs.cons (VD.sl bZ (List.length_map _)) (VDs.cons VD.plain VDs.nil)) rfl (oInv eZ (oMov eZ ?_))
    rcases oite H with⟨h72,H⟩|⟨h72,H⟩
    ·exact gDo eZ (cN h72) (oMov (eR rfl) (gDo (eR rfl) (cN h72) (oMov (eR rfl) (gDo (eR rfl) (cN h72) (oBne (eR rfl) eZ (oPickF (eR rfl) (cN h72) eZ (xNil (TQ.qn ⟨(v19.2 != v13.2),H,(wk_mkG [] (kR rfl rfl (kR rfl rfl (kR rfl rfl (kR rfl rfl (kR rfl rfl (kR rfl rfl (kR rfl rfl (kR rfl rfl (kR rfl rfl SL.nil))))))))) (BL.keep rfl (BL.keep rfl (BL.keep rfl BL.nil))) (BK.cons rfl (bS rfl (bS rfl bZ)) rfl rfl (BK.cons rfl (bS rfl bZ) rfl rfl (BK.cons rfl bZ rfl rfl BK.nil))) GK.nil)⟩))))))))
    ·exact gSkip eZ (cN (nt h72)) rfl (gSkip (eR rfl) (cN (nt h72)) rfl (gSkip (eR rfl) (cN (nt h72)) rfl (oPickT (eR rfl) (cN (nt h72)) eC (xNil (TQ.qn ⟨true,H,(wk_mkG [] (kR rfl rfl (kR rfl rfl (kR rfl rfl (kR rfl rfl (kR rfl rfl (kR rfl rfl (kR rfl rfl (kR rfl rfl (kR rfl rfl SL.nil))))))))) (BL.keep rfl (BL.keep rfl (BL.keep rfl BL.nil))) (BK.cons rfl (bS rfl (bS rfl bZ)) rfl rfl (BK.cons rfl (bS rfl bZ) rfl rfl (BK.cons rfl bZ rfl rfl BK.nil))) GK.nil)⟩)))))
end Go.AW
