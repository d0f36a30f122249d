/- That functions of the program compute what the plain functions say. Conditions: each theorem's own. -/
import Derived.Test.YtlcjjljmjdmobaaMCoordVote
import Derived.Test.YtlcjjljmjdmobaaGCoordVote
import Derived.Test.YtlcjjljmjdmobaaYp
import Derived.Test.YtlcjjljmjdmobaaDCoordVotea
import Derived.Test.YtlcjjljmjdmobaaDCoordVoteb
set_option linter.unusedVariables false
set_option linter.unusedSimpArgs false
set_option maxRecDepth 100000
namespace Go.AW
open Go.Proofs
theorem X9{a1:(List zp)}{a2:Int}{r:(Int×(List zp))}(H:y6 a1 a2=some r):Fn Try.prog 93 [⟨(.sl 5 (List.map zl a1)),.m (.sl 5 (List.map zl r.2))⟩,⟨(.int .i64 a2),.b⟩] true [(.int .i64 r.1)]:=by
 refine m93 (fle rfl) (fC nZ rfl fN) rfl ?_
 rw[YJ]
 refine AW.weaken (t:=mk [(0,(.one (.sl 0 0 a1.length))),(1,(oI a2))] [(0,(.data 5 (List.map zl a1) true none))] (lk [(0,(.one (.sl 0 0 ((List.map zl a1).length))))])) (zt (gl:=[(0,(.one (.sl 0 0 ((List.map zl a1).length))))]) [] (SL.cons (v:=(.one (.sl 0 0 a1.length))) eZ rfl (VWk.one (CWk.len lm)) (kv 1 (oI a2) rfl rfl SL.nil)) (blR rfl) (BK.cons (n:=0) rfl bZ rfl rfl BK.nil) (GK.cons rfl GK.nil)) ?_
 unfold y6 at H
 unfold i93
 refine aV (za eC (xQ (zJ (fun t3:((List zp)×Int)=>(ZP a1) t3=some r) (fun t3=>mk [(1,(oI t3.2))] [(0,(.data 5 (List.map zl t3.1) true none))] (lk [(0,(.one (.sl 0 0 ((List.map zl a1).length))))])) ?_ ?_)))
 ·intro t3 H
  unfold ZP at H
  refine aV (za eZ (za eZ (xQ (AW.ret ?_))))
  obtain⟨h5,H⟩:=jf H
  cases H
  exact XB (RL.cons (RV.tmp eZ) (VO.flat rfl) RL.nil) (ML.mut eZ (jH bZ (by first|(simp;done)|(simp;omega)|omega|(simp only[List.length_map];omega)) rfl) (ML.lent ML.nil)) (by decide)
 ·refine aV (za eC (xQ (AW.block (AW.iter (fun s6:((List zp)×Int×Int)=>mk [(0,(.one (.sl 0 0 s6.1.length))),(1,(oI s6.2.1)),(5,(oI s6.2.2))] [(0,(.data 5 (List.map zl s6.1) true none))] (lk [(0,(.one (.sl 0 0 ((List.map zl a1).length))))])) H (zt [] (sR rfl rfl) (blR rfl) (bkR rfl rfl rfl) (GK.cons rfl GK.nil)) ?_))))
  intro kb7 s6 H
  unfold ZN at H
  refine aS (aV (za rfl (za rfl (zcx eZ (qJ rfl eZ (xQ ?_))))))
  rcases zE H with⟨h8,H⟩|⟨h8,H⟩
  ·refine zi eZ (dT h8) (AW.skip (TQ.qn (aS (AW.block (aV (za rfl (za rfl (za rfl ?_))))))))
   obtain⟨v9,h10,H⟩:=zo H
   refine Yh rfl rfl bZ rfl h10 (ze (m:=0) eZ rfl (jZ (t:=v9) (t':=(zp.mk s6.2.1 v9.Client v9.Req v9.State v9.Shares)) (es:=[(.int .i64 s6.2.1)]) eZ rfl rfl rfl bZ (qi h10) rfl rfl (xQ (aV (za rfl (qE eZ eC (za eZ (xQ (aV (za rfl (za rfl (za rfl ?_))))))))))))
   obtain⟨v11,h12,H⟩:=zo H
   refine Yh rfl rfl bZ (by first|(simp;done)|(simp;omega)|omega|(simp only[List.length_map];omega)) h12 (ze (m:=1) eZ rfl (jZ (t:=v11) (t':=(zp.mk v11.Tx (IntKind.wrap .i64 (s6.2.1+1)) v11.Req v11.State v11.Shares)) (es:=[(.int .i64 (IntKind.wrap .i64 (s6.2.1+1)))]) eZ rfl rfl rfl bZ (qi h12) rfl rfl (xQ (AW.weaken (zt [] (kr 1 rfl rfl (kr 0 rfl rfl (kr 5 rfl rfl SL.nil))) (blR rfl) (BK.cons (n:=0) rfl bZ rfl rfl BK.nil) (GK.cons rfl GK.nil)) (aV (za eZ (qE eZ eC (za eZ (xQ (aV (za rfl (za rfl (za rfl ?_)))))))))))))
   obtain⟨v13,h14,H⟩:=zo H
   refine Yh rfl rfl bZ (by first|(simp;done)|(simp;omega)|omega|(simp only[List.length_map];omega)) h14 (ze (m:=2) eZ rfl (jZ (t:=v13) (t':=(zp.mk v13.Tx v13.Client (IntKind.wrap .i64 ((IntKind.wrap .i64 (s6.2.1+1))+1)) v13.State v13.Shares)) (es:=[(.int .i64 (IntKind.wrap .i64 ((IntKind.wrap .i64 (s6.2.1+1))+1)))]) eZ rfl rfl rfl bZ (qi h14) rfl rfl (xQ (aV (za rfl (qE eZ eC (za eZ (xQ (aV (za rfl (za rfl (za rfl ?_))))))))))))
   obtain⟨v15,h16,H⟩:=zo H
   refine Yh rfl rfl bZ (by first|(simp;done)|(simp;omega)|omega|(simp only[List.length_map];omega)) h16 (ze (m:=3) eZ rfl (jZ (t:=v15) (t':=(zp.mk v15.Tx v15.Client v15.Req (IntKind.wrap .i64 ((IntKind.wrap .i64 ((IntKind.wrap .i64 (s6.2.1+1))+1))+1)) v15.Shares)) (es:=[(.int .i64 (IntKind.wrap .i64 ((IntKind.wrap .i64 ((IntKind.wrap .i64 (s6.2.1+1))+1))+1)))]) eZ rfl rfl rfl bZ (qi h16) rfl rfl (xQ (AW.weaken (zt [] (kr 1 rfl rfl (kr 0 rfl rfl (kr 5 rfl rfl SL.nil))) (blR rfl) (BK.cons (n:=0) rfl bZ rfl rfl BK.nil) (GK.cons rfl GK.nil)) (aV (za eZ (qE eZ eC (za eZ (xQ (zK (zh (za rfl (zj (zh (za rfl (zj (zh ?_)))))))))))))))))
   obtain⟨v17,h18,H⟩:=zo H
   refine Yh rfl eZ bZ (by first|(simp;done)|(simp;omega)|omega|(simp only[List.length_map];omega)) h18 (zj (zh (ze (m:=4) eZ rfl (zj ?_))))
   obtain⟨v19,h20,H⟩:=zo H
   exact zbr (f:=zl) (f':=zd) (t:=v17) (t':=(zp.mk v17.Tx v17.Client v17.Req v17.State v19.2)) (ys:=v17.Shares) (ys':=v19.2) eZ bZ (qi h18) rfl rfl rfl rfl rfl (kU h20) rfl rfl (erL.cons (v':=(.one (.d (.int .i64 (IntKind.wrap .i64 ((IntKind.wrap .i64 ((IntKind.wrap .i64 ((IntKind.wrap .i64 (s6.2.1+1))+1))+1))+1)))))) rfl (erL.cons (v':=(.one .any)) rfl (erL.cons (v':=(.one (.ptr (.nm 0 (Int.toNat s6.2.2) 4)))) rfl (erL.cons (v':=(.one (.ptr (.nm 0 (Int.toNat s6.2.2) 0)))) rfl (erL.cons (v':=(oI s6.2.2)) rfl (erL.cons (v':=(.one (.sl 0 0 s6.1.length))) rfl (erL.cons (v':=(.one (.d (.int .i64 (IntKind.wrap .i64 ((IntKind.wrap .i64 ((IntKind.wrap .i64 ((IntKind.wrap .i64 (s6.2.1+1))+1))+1))+1)))))) rfl (erL.cons (v':=(.one (.d (.int .i64 (IntKind.wrap .i64 ((IntKind.wrap .i64 ((IntKind.wrap .i64 ((IntKind.wrap .i64 (s6.2.1+1))+1))+1))+1)))))) rfl (erL.cons (v':=(.one (.d (.int .i64 (IntKind.wrap .i64 ((IntKind.wrap .i64 ((IntKind.wrap .i64 (s6.2.1+1))+1))+1)))))) rfl (erL.cons (v':=(.one (.d (.int .i64 (IntKind.wrap .i64 ((IntKind.wrap .i64 ((IntKind.wrap .i64 (s6.2.1+1))+1))+1)))))) rfl (erL.cons (v':=(.one (.sl 0 0 s6.1.length))) rfl (erL.cons (v':=(oI s6.2.2)) rfl erL.nil)))))))))))) (erH.cons (v':=(.data 5 (List.map zl ((((s6.1.set (Int.toNat s6.2.2) (zp.mk s6.2.1 v9.Client v9.Req v9.State v9.Shares)).set (Int.toNat s6.2.2) (zp.mk v11.Tx (IntKind.wrap .i64 (s6.2.1+1)) v11.Req v11.State v11.Shares)).set (Int.toNat s6.2.2) (zp.mk v13.Tx v13.Client (IntKind.wrap .i64 ((IntKind.wrap .i64 (s6.2.1+1))+1)) v13.State v13.Shares)).set (Int.toNat s6.2.2) (zp.mk v15.Tx v15.Client v15.Req (IntKind.wrap .i64 ((IntKind.wrap .i64 ((IntKind.wrap .i64 (s6.2.1+1))+1))+1)) v15.Shares))) true none)) rfl rfl erH.nil) (erL.cons (v':=(.one (.sl 0 0 ((List.map zl a1).length)))) rfl erL.nil) (zR (za eZ (zj (BQ.qn (TQ.qn (aR (za rfl (qE eZ eC (za eZ (zj (TQ.qn ⟨(((((s6.1.set (Int.toNat s6.2.2) (zp.mk s6.2.1 v9.Client v9.Req v9.State v9.Shares)).set (Int.toNat s6.2.2) (zp.mk v11.Tx (IntKind.wrap .i64 (s6.2.1+1)) v11.Req v11.State v11.Shares)).set (Int.toNat s6.2.2) (zp.mk v13.Tx v13.Client (IntKind.wrap .i64 ((IntKind.wrap .i64 (s6.2.1+1))+1)) v13.State v13.Shares)).set (Int.toNat s6.2.2) (zp.mk v15.Tx v15.Client v15.Req (IntKind.wrap .i64 ((IntKind.wrap .i64 ((IntKind.wrap .i64 (s6.2.1+1))+1))+1)) v15.Shares)).set (Int.toNat s6.2.2) (zp.mk v17.Tx v17.Client v17.Req v17.State v19.2),v19.1,(IntKind.wrap .i64 (s6.2.2+1))),H,(zt [] (SL.cons rfl rfl (VWk.one (CWk.len (by first|(simp;done)|(simp;omega)|omega|(simp only[List.length_map];omega)))) (sR rfl rfl)) (blR rfl) (bkR rfl rfl rfl) (GK.cons rfl GK.nil))⟩)))))))))))
  ·exact zg eZ (dF h8) (AW.exit (TQ.qe (TQ.qe (BQ.qe (TQ.qn ⟨(s6.1,s6.2.1),H,(zt [] (sR rfl rfl) (blR rfl) (bkR rfl rfl rfl) (GK.cons rfl GK.nil))⟩)))))
theorem Kh{a1:(List Int)}{a2:Int}{r:(Int×(List Int))}(H:Zc a1 a2=some r):Fn Try.prog 94 [⟨(.sl 1 (List.map zA a1)),.m (.sl 1 (List.map zA r.2))⟩,⟨(.int .i64 a2),.b⟩] true [(.int .i64 r.1)]:=by
 refine m94 (fle rfl) (fC nZ rfl fN) rfl ?_
 rw[YJ]
 refine AW.weaken (t:=mk [(0,(.one (.sl 0 0 a1.length))),(1,(oI a2))] [(0,(.data 1 (List.map zA a1) true none))] (lk [(0,(.one (.sl 0 0 ((List.map zA a1).length))))])) (zt (gl:=[(0,(.one (.sl 0 0 ((List.map zA a1).length))))]) [] (SL.cons (v:=(.one (.sl 0 0 a1.length))) eZ rfl (VWk.one (CWk.len lm)) (kv 1 (oI a2) rfl rfl SL.nil)) (blR rfl) (BK.cons (n:=0) rfl bZ rfl rfl BK.nil) (GK.cons rfl GK.nil)) ?_
 unfold Zc at H
 unfold i94
 refine aV (za eC (xQ (zJ (fun t3:((List Int)×Int)=>(ZQ a1) t3=some r) (fun t3=>mk [(1,(oI t3.2))] [(0,(.data 1 (List.map zA t3.1) true none))] (lk [(0,(.one (.sl 0 0 ((List.map zA a1).length))))])) ?_ ?_)))
 ·intro t3 H
  unfold ZQ at H
  refine aV (za eZ (za eZ (xQ (AW.ret ?_))))
  obtain⟨h5,H⟩:=jf H
  cases H
  exact XB (RL.cons (RV.tmp eZ) (VO.flat rfl) RL.nil) (ML.mut eZ (VO.sl bZ (by first|(simp;done)|(simp;omega)|omega|(simp only[List.length_map];omega)) (qq fun _=>rfl)) (ML.lent ML.nil)) (by decide)
 ·refine aV (za eC (xQ (AW.block (AW.iter (fun s6:((List Int)×Int×Int)=>mk [(0,(.one (.sl 0 0 s6.1.length))),(1,(oI s6.2.1)),(5,(oI s6.2.2))] [(0,(.data 1 (List.map zA s6.1) true none))] (lk [(0,(.one (.sl 0 0 ((List.map zA a1).length))))])) H (zt [] (sR rfl rfl) (blR rfl) (bkR rfl rfl rfl) (GK.cons rfl GK.nil)) ?_))))
  intro kb7 s6 H
  unfold ZO at H
  refine aS (aV (za rfl (za rfl (zcx eZ (qJ rfl eZ (xQ ?_))))))
  rcases zE H with⟨h8,H⟩|⟨h8,H⟩
  ·refine zi eZ (dT h8) (AW.skip (TQ.qn (aS (AW.block (aV (za rfl (za rfl (za rfl ?_))))))))
   obtain⟨v9,h10,H⟩:=zo H
   exact Yh rfl rfl bZ rfl h10 (jZ (t:=v9) (t':=s6.2.1) (es:=[(.int .i64 s6.2.1)]) eZ rfl rfl rfl bZ (qi h10) rfl rfl (xQ (aR (za rfl (qE eZ eC (za eZ (zj (BQ.qn (TQ.qn (aR (za rfl (qE eZ eC (za eZ (zj (TQ.qn ⟨(s6.1.set (Int.toNat s6.2.2) s6.2.1,(IntKind.wrap .i64 (s6.2.1+1)),(IntKind.wrap .i64 (s6.2.2+1))),H,(zt [] (SL.cons rfl rfl (VWk.one (CWk.len (by first|(simp;done)|(simp;omega)|omega|(simp only[List.length_map];omega)))) (sR rfl rfl)) (blR rfl) (bkR rfl rfl rfl) (GK.cons rfl GK.nil))⟩)))))))))))))))
  ·exact zg eZ (dF h8) (AW.exit (TQ.qe (TQ.qe (BQ.qe (TQ.qn ⟨(s6.1,s6.2.1),H,(zt [] (sR rfl rfl) (blR rfl) (bkR rfl rfl rfl) (GK.cons rfl GK.nil))⟩)))))
theorem YY{a1:zw}{a2:Int}{r:(Int×zw)}(H:qZ a1 a2=some r):Fn Try.prog 36 [⟨(.agg (qL a1)),.m (.agg (qL r.2))⟩,⟨(.int .i64 a2),.b⟩] true [(.int .i64 r.1)]:=by
 refine m36 (fle rfl) (fC nZ rfl (fC nZ rfl fN)) rfl ?_
 rw[YJ]
 refine AW.weaken (t:=mk [(0,(.agg [(.sl 0 0 a1.Recs.length),(.sl 1 0 a1.Order.length)])),(1,(oI a2))] [(1,(.data 1 (List.map zA a1.Order) true none)),(0,(.data 5 (List.map zl a1.Recs) true none))] (lk [(0,(.agg [(.sl 0 0 ((List.map zl a1.Recs).length)),(.sl 1 0 ((List.map zA a1.Order).length))]))])) (zt (gl:=[(0,(.agg [(.sl 0 0 ((List.map zl a1.Recs).length)),(.sl 1 0 ((List.map zA a1.Order).length))]))]) [] (SL.cons (v:=(.agg [(.sl 0 0 a1.Recs.length),(.sl 1 0 a1.Order.length)])) eZ rfl (VWk.agg (Xq.cons (CWk.len lm) (Xq.cons (CWk.len lm) Xq.nil))) (kv 1 (oI a2) rfl rfl SL.nil)) (blR rfl) (BK.cons (n:=1) rfl bZ rfl rfl (BK.cons (n:=0) rfl (bR rfl) rfl rfl BK.nil)) (GK.cons rfl GK.nil)) ?_
 unfold qZ at H
 unfold i36
 refine aV (yX (n:=128) (m:=2) (cs:=[(.sl 0 0 a1.Recs.length),(.sl 1 0 a1.Order.length)]) rfl eZ rfl rfl (nR rfl) (za eC (xQ (aS (zK (zh (ze (m:=0) rfl rfl (zj (zh (zm (q:=0) (c:=(.sl 0 0 a1.Recs.length)) eZ bZ rfl rfl (zj (zh (za rfl (zj ?_))))))))))))))
 obtain⟨v3,h4,H⟩:=zo H
 obtain⟨h5,H⟩:=jf H
 refine Kr (ON:=[0]) (ls:=[]) (G:=[]) (E:=[z9 0]) (MB:=[(0,(.data 5 (List.map zl v3.2) true none))]) (u:=(oI v3.1)) eC Cl.fn (X9 h4) (Ec rfl (Ec eZ En)) (AO.mut (jH (bR rfl) lm rfl) (AO.lent Vp rfl AO.nil)) rfl rfl rfl (SZ.cons (bR rfl) SZ.nil) (erL.cons (v':=(oI a2)) rfl (erL.cons (v':=(.one (.sl 0 0 a1.Recs.length))) rfl (erL.cons (v':=(.one (.ptr (.nm 128 0 0)))) rfl (erL.cons (v':=(oI 0)) rfl (erL.cons (v':=(.one (.ptr (.nm 128 0 0)))) rfl (erL.cons (v':=(.agg [(.sl 0 0 a1.Recs.length),(.sl 1 0 a1.Order.length)])) rfl (erL.cons (v':=(oI a2)) rfl erL.nil))))))) (erH.cons (v':=(.vars 2 [(.sl 0 0 a1.Recs.length),(.sl 1 0 a1.Order.length)])) rfl rfl (erH.cons (v':=(.data 1 (List.map zA a1.Order) true none)) rfl rfl (erH.cons (v':=(.data 5 (List.map zl a1.Recs) true none)) rfl rfl erH.nil))) (erL.cons (v':=(.agg [(.sl 0 0 ((List.map zl a1.Recs).length)),(.sl 1 0 ((List.map zA a1.Order).length))])) rfl erL.nil) rfl rfl (zR (za eZ (xQ (aS (zK (zh (ze (m:=1) rfl rfl (zj (zh (zm (q:=1) (c:=(.sl 1 0 a1.Order.length)) eZ (bR rfl) rfl rfl (zj (zh (za rfl (zj ?_))))))))))))))
 obtain⟨v6,h7,H⟩:=zo H
 obtain⟨h8,H⟩:=jf H
 refine Kr (ON:=[1]) (ls:=[]) (G:=[]) (E:=[z9 1]) (MB:=[(1,(.data 1 (List.map zA v6.2) true none))]) (u:=(oI v6.1)) eC Cl.fn (Kh h7) (Ec rfl (Ec eZ En)) (AO.mut (VO.sl (bR rfl) lm (qq fun _=>rfl)) (AO.lent Vp rfl AO.nil)) rfl rfl rfl (SZ.cons (bR rfl) SZ.nil) (erL.cons (v':=(oI v3.1)) rfl (erL.cons (v':=(.one (.sl 1 0 a1.Order.length))) rfl (erL.cons (v':=(.one (.ptr (.nm 128 0 1)))) rfl (erL.cons (v':=(oI v3.1)) rfl (erL.cons (v':=(oI v3.1)) rfl (erL.cons (v':=(oI a2)) rfl (erL.cons (v':=(.one (.sl 0 0 a1.Recs.length))) rfl (erL.cons (v':=(.one (.ptr (.nm 128 0 0)))) rfl (erL.cons (v':=(oI 0)) rfl (erL.cons (v':=(.one (.ptr (.nm 128 0 0)))) rfl (erL.cons (v':=(.agg [(.sl 0 0 a1.Recs.length),(.sl 1 0 a1.Order.length)])) rfl (erL.cons (v':=(oI a2)) rfl erL.nil)))))))))))) (erH.cons (v':=(.data 5 (List.map zl v3.2) true none)) rfl rfl (erH.cons (v':=(.vars 2 [(.sl 0 0 a1.Recs.length),(.sl 1 0 a1.Order.length)])) rfl rfl (erH.cons (v':=(.data 1 (List.map zA a1.Order) true none)) rfl rfl (erH.cons (v':=(.data 5 (List.map zl a1.Recs) true none)) rfl rfl erH.nil)))) (erL.cons (v':=(.agg [(.sl 0 0 ((List.map zl a1.Recs).length)),(.sl 1 0 ((List.map zA a1.Order).length))])) rfl erL.nil) rfl rfl (zR (za eZ (xQ (aV (za eZ (za eZ (xQ (AW.weaken (zt [128] (kr 4 rfl rfl SL.nil) (blR rfl) (BK.cons (n:=1) rfl bZ rfl rfl (BK.cons (n:=0) rfl (bR rfl) rfl rfl BK.nil)) (GK.cons rfl GK.nil)) (AW.ret ?_)))))))))
 obtain⟨h9,H⟩:=jf H
 obtain⟨h10,H⟩:=jf H
 cases H
 exact XB (RL.cons (RV.tmp eZ) (VO.flat rfl) RL.nil) (ML.mut eZ (VO.aggs (VOs.cons (jH (bR rfl) (by first|(simp;done)|(simp;omega)|omega|(simp only[List.length_map];omega)) rfl) (VOs.cons (VO.sl bZ (by first|(simp;done)|(simp;omega)|omega|(simp only[List.length_map];omega)) (qq fun _=>rfl)) VOs.nil))) (ML.lent ML.nil)) (by decide)
theorem kV{a1:(List zC)}{a2:Int}{r:Int}(H:yc a1 a2=some r):Fn Try.prog 155 (lent [(.sl 2 (List.map zx a1)),(.int .i64 a2)]) true [(.int .i64 r)]:=by
 refine zsz (fle rfl) ?_
 rw[zD]
 refine AW.weaken (zn [] (kv 0 (.one (.d (.sl 2 (List.map zx a1)))) rfl rfl (kv 1 (oI a2) rfl rfl SL.nil)) BL.nil BK.nil) ?_
 unfold yc at H
 unfold zpT
 refine aV (za eC (xQ (zJ (fun t3:Int=>yB t3=some r) (fun t3=>mk [(1,(oI t3))] [] noG) ?_ ?_)))
 ·intro t3 H
  unfold yB at H
  refine aV (za eZ (za eZ (xQ (AW.ret ?_))))
  cases H
  exact eE rfl rfl
 ·refine aV (za eC (xQ (AW.block (AW.iter (fun s5:(Int×Int)=>mk [(0,(.one (.d (.sl 2 (List.map zx a1))))),(1,(oI s5.1)),(5,(oI s5.2))] [] noG) H (zn [] (sR rfl rfl) BL.nil BK.nil) ?_))))
  intro kb6 s5 H
  unfold yJ at H
  refine aS (aV (za rfl (za rfl (zX eZ (n:=a1.length) lm (qJ rfl eZ (xQ ?_))))))
  rcases zE H with⟨h7,H⟩|⟨h7,H⟩
  ·refine zi eZ (dT h7) (AW.skip (TQ.qn (aS (AW.block (aS (aV (za rfl (za rfl ?_))))))))
   obtain⟨v8,h9,H⟩:=zo H
   refine je rfl eZ h9 (qI (m:=0) eZ rfl (qC (e:=(.int .i64 v8.Lo)) eZ rfl (za rfl (Za rfl eZ (xQ ?_)))))
   rcases zE H with⟨h10,H⟩|⟨h10,H⟩
   ·refine zi eZ (dT h10) (aV (za eC (xQ (AW.ret (TQ.qr (BQ.qr (TQ.qr (TQ.qr (BQ.qr (TQ.qr ?_))))))))))
    cases H
    exact eE rfl rfl
   ·refine zg eZ (dF h10) (AW.skip (TQ.qn (aV (za rfl (qE eZ eC (za eZ (xQ (AW.weaken (zn [] (kr 1 rfl rfl (kr 0 rfl rfl (kr 5 rfl rfl SL.nil))) BL.nil BK.nil) (aS (aV (za rfl (za rfl ?_))))))))))))
    obtain⟨v11,h12,H⟩:=zo H
    refine je rfl eZ h12 (qI (m:=1) eZ rfl (qC (e:=(.int .i64 v11.Hi)) eZ rfl (za rfl (Za rfl eZ (xQ ?_)))))
    rcases zE H with⟨h13,H⟩|⟨h13,H⟩
    ·refine zi eZ (dT h13) (aV (za eC (xQ (AW.ret (TQ.qr (BQ.qr (TQ.qr (TQ.qr (BQ.qr (TQ.qr ?_))))))))))
     cases H
     exact eE rfl rfl
    ·exact zg eZ (dF h13) (AW.skip (TQ.qn (aR (za rfl (qE eZ eC (za eZ (zj (BQ.qn (TQ.qn (aR (za rfl (qE eZ eC (za eZ (zj (TQ.qn ⟨((IntKind.wrap .i64 ((IntKind.wrap .i64 (s5.1+1))+1)),(IntKind.wrap .i64 (s5.2+1))),H,(zn [] (sR rfl rfl) BL.nil BK.nil)⟩)))))))))))))))
  ·exact zg eZ (dF h7) (AW.exit (TQ.qe (TQ.qe (BQ.qe (TQ.qn ⟨s5.1,H,(zn [] (sR rfl rfl) BL.nil BK.nil)⟩)))))
theorem kQ{a1:(List zO)}{a2:Int}{r:Int}(H:yg a1 a2=some r):Fn Try.prog 156 (lent [(.sl 2 (List.map zG a1)),(.int .i64 a2)]) true [(.int .i64 r)]:=by
 refine zsm (fle rfl) ?_
 rw[zD]
 refine AW.weaken (zn [] (kv 0 (.one (.d (.sl 2 (List.map zG a1)))) rfl rfl (kv 1 (oI a2) rfl rfl SL.nil)) BL.nil BK.nil) ?_
 unfold yg at H
 unfold zrC
 refine aV (za eC (xQ (zJ (fun t3:Int=>yP t3=some r) (fun t3=>mk [(1,(oI t3))] [] noG) ?_ ?_)))
 ·intro t3 H
  unfold yP at H
  refine aV (za eZ (za eZ (xQ (AW.ret ?_))))
  cases H
  exact eE rfl rfl
 ·refine aV (za eC (xQ (AW.block (AW.iter (fun s5:(Int×Int)=>mk [(0,(.one (.d (.sl 2 (List.map zG a1))))),(1,(oI s5.1)),(5,(oI s5.2))] [] noG) H (zn [] (sR rfl rfl) BL.nil BK.nil) ?_))))
  intro kb6 s5 H
  unfold yL at H
  refine aS (aV (za rfl (za rfl (zX eZ (n:=a1.length) lm (qJ rfl eZ (xQ ?_))))))
  rcases zE H with⟨h7,H⟩|⟨h7,H⟩
  ·refine zi eZ (dT h7) (AW.skip (TQ.qn (aS (AW.block (aS (aV (za rfl (za rfl ?_))))))))
   obtain⟨v8,h9,H⟩:=zo H
   refine je rfl eZ h9 (qI (m:=0) eZ rfl (qC (e:=(.int .i64 v8.Key)) eZ rfl (za rfl (Za rfl eZ (xQ ?_)))))
   rcases zE H with⟨h10,H⟩|⟨h10,H⟩
   ·refine zi eZ (dT h10) (aV (za eC (xQ (AW.ret (TQ.qr (BQ.qr (TQ.qr (TQ.qr (BQ.qr (TQ.qr ?_))))))))))
    cases H
    exact eE rfl rfl
   ·refine zg eZ (dF h10) (AW.skip (TQ.qn (aV (za rfl (qE eZ eC (za eZ (xQ (AW.weaken (zn [] (kr 1 rfl rfl (kr 0 rfl rfl (kr 5 rfl rfl SL.nil))) BL.nil BK.nil) (aS (aV (za rfl (za rfl ?_))))))))))))
    obtain⟨v11,h12,H⟩:=zo H
    refine je rfl eZ h12 (qI (m:=1) eZ rfl (qC (e:=(.int .i64 v11.Value)) eZ rfl (za rfl (Za rfl eZ (xQ ?_)))))
    rcases zE H with⟨h13,H⟩|⟨h13,H⟩
    ·refine zi eZ (dT h13) (aV (za eC (xQ (AW.ret (TQ.qr (BQ.qr (TQ.qr (TQ.qr (BQ.qr (TQ.qr ?_))))))))))
     cases H
     exact eE rfl rfl
    ·exact zg eZ (dF h13) (AW.skip (TQ.qn (aR (za rfl (qE eZ eC (za eZ (zj (BQ.qn (TQ.qn (aR (za rfl (qE eZ eC (za eZ (zj (TQ.qn ⟨((IntKind.wrap .i64 ((IntKind.wrap .i64 (s5.1+1))+1)),(IntKind.wrap .i64 (s5.2+1))),H,(zn [] (sR rfl rfl) BL.nil BK.nil)⟩)))))))))))))))
  ·exact zg eZ (dF h7) (AW.exit (TQ.qe (TQ.qe (BQ.qe (TQ.qn ⟨s5.1,H,(zn [] (sR rfl rfl) BL.nil BK.nil)⟩)))))
theorem kO{a1:(List zb)}{a2:Int}{r:Int}(H:j8 a1 a2=some r):Fn Try.prog 126 (lent [(.sl 4 (List.map zd a1)),(.int .i64 a2)]) true [(.int .i64 r)]:=by
 refine zsv (fle rfl) ?_
 rw[zD]
 refine AW.weaken (zn [] (kv 0 (.one (.d (.sl 4 (List.map zd a1)))) rfl rfl (kv 1 (oI a2) rfl rfl SL.nil)) BL.nil BK.nil) ?_
 unfold j8 at H
 unfold zms
 refine aV (za eC (xQ (zJ (fun t3:Int=>yD t3=some r) (fun t3=>mk [(1,(oI t3))] [] noG) ?_ ?_)))
 ·intro t3 H
  unfold yD at H
  refine aV (za eZ (za eZ (xQ (AW.ret ?_))))
  cases H
  exact eE rfl rfl
 ·refine aV (za eC (xQ (AW.block (AW.iter (fun s5:(Int×Int)=>mk [(0,(.one (.d (.sl 4 (List.map zd a1))))),(1,(oI s5.1)),(5,(oI s5.2))] [] noG) H (zn [] (sR rfl rfl) BL.nil BK.nil) ?_))))
  intro kb6 s5 H
  unfold yR at H
  refine aS (aV (za rfl (za rfl (zX eZ (n:=a1.length) lm (qJ rfl eZ (xQ ?_))))))
  rcases zE H with⟨h7,H⟩|⟨h7,H⟩
  ·refine zi eZ (dT h7) (AW.skip (TQ.qn (aS (AW.block (aS (aV (za rfl (za rfl ?_))))))))
   obtain⟨v8,h9,H⟩:=zo H
   refine je rfl eZ h9 (qI (m:=0) eZ rfl (qC (e:=(.int .i64 v8.Group)) eZ rfl (za rfl (Za rfl eZ (xQ ?_)))))
   rcases zE H with⟨h10,H⟩|⟨h10,H⟩
   ·refine zi eZ (dT h10) (aV (za eC (xQ (AW.ret (TQ.qr (BQ.qr (TQ.qr (TQ.qr (BQ.qr (TQ.qr ?_))))))))))
    cases H
    exact eE rfl rfl
   ·refine zg eZ (dF h10) (AW.skip (TQ.qn (aV (za rfl (qE eZ eC (za eZ (xQ (AW.weaken (zn [] (kr 1 rfl rfl (kr 0 rfl rfl (kr 5 rfl rfl SL.nil))) BL.nil BK.nil) (aV (za rfl (za rfl ?_)))))))))))
    obtain⟨v11,h12,H⟩:=zo H
    refine je rfl eZ h12 (qI (m:=1) eZ rfl (qC (e:=(.sl 2 (List.map zx v11.Reads))) eZ rfl (za rfl ?_)))
    obtain⟨v13,h14,H⟩:=zo H
    refine zM (u:=(oI v13)) eC Cl.fn (kV h14) (Ec rfl (Ec eZ En)) (Vc Vp (Vc Vp Vn)) rfl (za eZ (xQ (aS (aV (za eZ (qJ eZ eC (xQ ?_)))))))
    rcases zE H with⟨h15,H⟩|⟨h15,H⟩
    ·refine zi eZ (dT h15) (aV (za eC (xQ (AW.ret (TQ.qr (BQ.qr (TQ.qr (TQ.qr (BQ.qr (TQ.qr ?_))))))))))
     cases H
     exact eE rfl rfl
    ·refine zg eZ (dF h15) (AW.skip (TQ.qn (aV (za rfl (za rfl ?_)))))
     obtain⟨v16,h17,H⟩:=zo H
     refine je rfl eZ h17 (qI (m:=2) eZ rfl (qC (e:=(.sl 2 (List.map zG v16.Writes))) eZ rfl (za rfl ?_)))
     obtain⟨v18,h19,H⟩:=zo H
     refine zM (u:=(oI v18)) eC Cl.fn (kQ h19) (Ec rfl (Ec eZ En)) (Vc Vp (Vc Vp Vn)) rfl (za eZ (xQ (AW.weaken (zn [] (kr 1 rfl rfl (kr 0 rfl rfl (kr 5 rfl rfl SL.nil))) BL.nil BK.nil) (aS (aV (za eZ (qJ eZ eC (xQ ?_))))))))
     rcases zE H with⟨h20,H⟩|⟨h20,H⟩
     ·refine zi eZ (dT h20) (aV (za eC (xQ (AW.ret (TQ.qr (BQ.qr (TQ.qr (TQ.qr (BQ.qr (TQ.qr ?_))))))))))
      cases H
      exact eE rfl rfl
     ·refine zg eZ (dF h20) (AW.skip (TQ.qn (aS (aV (za rfl (za rfl ?_))))))
      obtain⟨v21,h22,H⟩:=zo H
      refine je rfl eZ h22 (qI (m:=3) eZ rfl (qC (e:=(.int .i64 v21.Vote)) eZ rfl (za rfl (Za rfl eZ (xQ ?_)))))
      rcases zE H with⟨h23,H⟩|⟨h23,H⟩
      ·refine zi eZ (dT h23) (aV (za eC (xQ (AW.ret (TQ.qr (BQ.qr (TQ.qr (TQ.qr (BQ.qr (TQ.qr ?_))))))))))
       cases H
       exact eE rfl rfl
      ·exact zg eZ (dF h23) (AW.skip (TQ.qn (aR (za rfl (qE eZ eC (za eZ (zj (BQ.qn (TQ.qn (aR (za rfl (qE eZ eC (za eZ (zj (TQ.qn ⟨((IntKind.wrap .i64 (v18+1)),(IntKind.wrap .i64 (s5.2+1))),H,(zn [] (sR rfl rfl) BL.nil BK.nil)⟩)))))))))))))))
  ·exact zg eZ (dF h7) (AW.exit (TQ.qe (TQ.qe (BQ.qe (TQ.qn ⟨s5.1,H,(zn [] (sR rfl rfl) BL.nil BK.nil)⟩)))))
theorem Kg{a1:(List zp)}{a2:Int}{r:Int}(H:y0 a1 a2=some r):Fn Try.prog 95 (lent [(.sl 5 (List.map zl a1)),(.int .i64 a2)]) true [(.int .i64 r)]:=by
 refine f95 (fle rfl) ?_
 rw[zD]
 refine AW.weaken (zn [] (kv 0 (.one (.d (.sl 5 (List.map zl a1)))) rfl rfl (kv 1 (oI a2) rfl rfl SL.nil)) BL.nil BK.nil) ?_
 unfold y0 at H
 unfold i95
 refine aV (za eC (xQ (zJ (fun t3:Int=>Qh t3=some r) (fun t3=>mk [(1,(oI t3))] [] noG) ?_ ?_)))
 ·intro t3 H
  unfold Qh at H
  refine aV (za eZ (za eZ (xQ (AW.ret ?_))))
  cases H
  exact eE rfl rfl
 ·refine aV (za eC (xQ (AW.block (AW.iter (fun s5:(Int×Int)=>mk [(0,(.one (.d (.sl 5 (List.map zl a1))))),(1,(oI s5.1)),(5,(oI s5.2))] [] noG) H (zn [] (sR rfl rfl) BL.nil BK.nil) ?_))))
  intro kb6 s5 H
  unfold ZK at H
  refine aS (aV (za rfl (za rfl (zX eZ (n:=a1.length) lm (qJ rfl eZ (xQ ?_))))))
  rcases zE H with⟨h7,H⟩|⟨h7,H⟩
  ·refine zi eZ (dT h7) (AW.skip (TQ.qn (aS (AW.block (aS (aV (za rfl (za rfl ?_))))))))
   obtain⟨v8,h9,H⟩:=zo H
   refine je rfl eZ h9 (qI (m:=0) eZ rfl (qC (e:=(.int .i64 v8.Tx)) eZ rfl (za rfl (Za rfl eZ (xQ ?_)))))
   rcases zE H with⟨h10,H⟩|⟨h10,H⟩
   ·refine zi eZ (dT h10) (aV (za eC (xQ (AW.ret (TQ.qr (BQ.qr (TQ.qr (TQ.qr (BQ.qr (TQ.qr ?_))))))))))
    cases H
    exact eE rfl rfl
   ·refine zg eZ (dF h10) (AW.skip (TQ.qn (aV (za rfl (qE eZ eC (za eZ (xQ (AW.weaken (zn [] (kr 1 rfl rfl (kr 0 rfl rfl (kr 5 rfl rfl SL.nil))) BL.nil BK.nil) (aS (aV (za rfl (za rfl ?_))))))))))))
    obtain⟨v11,h12,H⟩:=zo H
    refine je rfl eZ h12 (qI (m:=1) eZ rfl (qC (e:=(.int .i64 v11.Client)) eZ rfl (za rfl (Za rfl eZ (xQ ?_)))))
    rcases zE H with⟨h13,H⟩|⟨h13,H⟩
    ·refine zi eZ (dT h13) (aV (za eC (xQ (AW.ret (TQ.qr (BQ.qr (TQ.qr (TQ.qr (BQ.qr (TQ.qr ?_))))))))))
     cases H
     exact eE rfl rfl
    ·refine zg eZ (dF h13) (AW.skip (TQ.qn (aV (za rfl (qE eZ eC (za eZ (xQ (aS (aV (za rfl (za rfl ?_)))))))))))
     obtain⟨v14,h15,H⟩:=zo H
     refine je rfl eZ h15 (qI (m:=2) eZ rfl (qC (e:=(.int .i64 v14.Req)) eZ rfl (za rfl (Za rfl eZ (xQ (AW.weaken (zn [] (kr 36 rfl rfl (kr 1 rfl rfl (kr 0 rfl rfl (kr 5 rfl rfl SL.nil)))) BL.nil BK.nil) ?_))))))
     rcases zE H with⟨h16,H⟩|⟨h16,H⟩
     ·refine zi eZ (dT h16) (aV (za eC (xQ (AW.ret (TQ.qr (BQ.qr (TQ.qr (TQ.qr (BQ.qr (TQ.qr ?_))))))))))
      cases H
      exact eE rfl rfl
     ·refine zg eZ (dF h16) (AW.skip (TQ.qn (aV (za rfl (qE eZ eC (za eZ (xQ (aS (aV (za rfl (za rfl ?_)))))))))))
      obtain⟨v17,h18,H⟩:=zo H
      refine je rfl eZ h18 (qI (m:=3) eZ rfl (qC (e:=(.int .i64 v17.State)) eZ rfl (za rfl (Za rfl eZ (xQ ?_)))))
      rcases zE H with⟨h19,H⟩|⟨h19,H⟩
      ·refine zi eZ (dT h19) (aV (za eC (xQ (AW.ret (TQ.qr (BQ.qr (TQ.qr (TQ.qr (BQ.qr (TQ.qr ?_))))))))))
       cases H
       exact eE rfl rfl
      ·refine zg eZ (dF h19) (AW.skip (TQ.qn (aV (za rfl (qE eZ eC (za eZ (xQ (AW.weaken (zn [] (kr 1 rfl rfl (kr 0 rfl rfl (kr 5 rfl rfl SL.nil))) BL.nil BK.nil) (aV (za rfl (za rfl ?_)))))))))))
       obtain⟨v20,h21,H⟩:=zo H
       refine je rfl eZ h21 (qI (m:=4) eZ rfl (qC (e:=(.sl 4 (List.map zd v20.Shares))) eZ rfl (za rfl ?_)))
       obtain⟨v22,h23,H⟩:=zo H
       refine zM (u:=(oI v22)) eC Cl.fn (kO h23) (Ec rfl (Ec eZ En)) (Vc Vp (Vc Vp Vn)) rfl (za eZ (xQ (aV (za eZ (qJ eZ eC (xQ ?_))))))
       rcases zE H with⟨h24,H⟩|⟨h24,H⟩
       ·refine zi eZ (dT h24) (aV (za eC (xQ (AW.ret (BQ.qr (TQ.qr (TQ.qr (BQ.qr (TQ.qr ?_)))))))))
        cases H
        exact eE rfl rfl
       ·exact zg eZ (dF h24) (AW.skip (BQ.qn (TQ.qn (aR (za rfl (qE eZ eC (za eZ (zj (TQ.qn ⟨(v22,(IntKind.wrap .i64 (s5.2+1))),H,(zn [] (sR rfl rfl) BL.nil BK.nil)⟩)))))))))
  ·exact zg eZ (dF h7) (AW.exit (TQ.qe (TQ.qe (BQ.qe (TQ.qn ⟨s5.1,H,(zn [] (sR rfl rfl) BL.nil BK.nil)⟩)))))
theorem Km{a1:(List Int)}{a2:Int}{r:Int}(H:Ze a1 a2=some r):Fn Try.prog 96 (lent [(.sl 1 (List.map zA a1)),(.int .i64 a2)]) true [(.int .i64 r)]:=by
 refine f96 (fle rfl) ?_
 rw[zD]
 refine AW.weaken (zn [] (kv 0 (.one (.d (.sl 1 (List.map zA a1)))) rfl rfl (kv 1 (oI a2) rfl rfl SL.nil)) BL.nil BK.nil) ?_
 unfold Ze at H
 unfold i96
 refine aV (za eC (xQ (zJ (fun t3:Int=>ZI t3=some r) (fun t3=>mk [(1,(oI t3))] [] noG) ?_ ?_)))
 ·intro t3 H
  unfold ZI at H
  refine aV (za eZ (za eZ (xQ (AW.ret ?_))))
  cases H
  exact eE rfl rfl
 ·refine aV (za eC (xQ (AW.block (AW.iter (fun s5:(Int×Int)=>mk [(0,(.one (.d (.sl 1 (List.map zA a1))))),(1,(oI s5.1)),(5,(oI s5.2))] [] noG) H (zn [] (sR rfl rfl) BL.nil BK.nil) ?_))))
  intro kb6 s5 H
  unfold Z4 at H
  refine aS (aV (za rfl (za rfl (zX eZ (n:=a1.length) lm (qJ rfl eZ (xQ ?_))))))
  rcases zE H with⟨h7,H⟩|⟨h7,H⟩
  ·refine zi eZ (dT h7) (AW.skip (TQ.qn (aS (AW.block (aS (aV (za rfl (za rfl ?_))))))))
   obtain⟨v8,h9,H⟩:=zo H
   refine je rfl eZ h9 (qC (e:=(.int .i64 v8)) eZ rfl (za rfl (Za rfl eZ (xQ ?_))))
   rcases zE H with⟨h10,H⟩|⟨h10,H⟩
   ·refine zi eZ (dT h10) (aV (za eC (xQ (AW.ret (TQ.qr (BQ.qr (TQ.qr (TQ.qr (BQ.qr (TQ.qr ?_))))))))))
    cases H
    exact eE rfl rfl
   ·exact zg eZ (dF h10) (AW.skip (TQ.qn (aR (za rfl (qE eZ eC (za eZ (zj (BQ.qn (TQ.qn (AW.weaken (zn [] (kr 1 rfl rfl (kr 0 rfl rfl (kr 5 rfl rfl SL.nil))) BL.nil BK.nil) (aR (za rfl (qE eZ eC (za eZ (zj (TQ.qn ⟨((IntKind.wrap .i64 (s5.1+1)),(IntKind.wrap .i64 (s5.2+1))),H,(zn [] (sR rfl rfl) BL.nil BK.nil)⟩))))))))))))))))
  ·exact zg eZ (dF h7) (AW.exit (TQ.qe (TQ.qe (BQ.qe (TQ.qn ⟨s5.1,H,(zn [] (sR rfl rfl) BL.nil BK.nil)⟩)))))
theorem YM{a1:zw}{a2:Int}{r:Int}(H:jN a1 a2=some r):Fn Try.prog 37 (lent [(.agg (qL a1)),(.int .i64 a2)]) true [(.int .i64 r)]:=by
 refine f37 (fle rfl) ?_
 rw[zD]
 refine AW.weaken (zn [] (kv 0 (.agg (zH a1)) rfl rfl (kv 1 (oI a2) rfl rfl SL.nil)) BL.nil BK.nil) ?_
 unfold jN at H
 unfold i37
 refine aV (yX (n:=128) (m:=2) (cs:=(zH a1)) rfl eZ rfl rfl nZ (za eC (xQ (aV (ze (m:=0) rfl rfl (zm (q:=0) (c:=(.d (.sl 5 (List.map zl a1.Recs)))) eZ bZ rfl rfl (za rfl ?_)))))))
 obtain⟨v3,h4,H⟩:=zo H
 refine zM (u:=(oI v3)) eC Cl.fn (Kg h4) (Ec rfl (Ec eZ En)) (Vc Vp (Vc Vp Vn)) rfl (za eZ (xQ (aS (aV (za eZ (qJ eZ eC (xQ ?_)))))))
 rcases zE H with⟨h5,H⟩|⟨h5,H⟩
 ·refine zi eZ (dT h5) (aV (za eC (xQ (AW.ret (TQ.qr ?_)))))
  cases H
  exact eE rfl rfl
 ·refine zg eZ (dF h5) (AW.skip (TQ.qn (aV (ze (m:=1) rfl rfl (zm (q:=1) (c:=(.d (.sl 1 (List.map zA a1.Order)))) eZ bZ rfl rfl (za rfl ?_))))))
  obtain⟨v6,h7,H⟩:=zo H
  refine zM (u:=(oI v6)) eC Cl.fn (Km h7) (Ec rfl (Ec eZ En)) (Vc Vp (Vc Vp Vn)) rfl (za eZ (xQ (AW.weaken (zn [128] (kr 1 rfl rfl SL.nil) (blR rfl) BK.nil) (aS (aV (za eZ (qJ eZ eC (xQ ?_))))))))
  rcases zE H with⟨h8,H⟩|⟨h8,H⟩
  ·refine zi eZ (dT h8) (aV (za eC (xQ (AW.ret (TQ.qr ?_)))))
   cases H
   exact eE rfl rfl
  ·refine zg eZ (dF h8) (AW.skip (TQ.qn (aV (za rfl (za eZ (xQ (AW.ret ?_)))))))
   cases H
   exact eE rfl rfl
theorem YV{a1:zw}{a2:Int}{a3:Int}{a4:Bool}{r:Bool}(H:jG a1 a2 a3 a4=some r):Fn Try.prog 6 (lent [(.agg (qL a1)),(.int .i64 a2),(.int .i64 a3),(.bool a4)]) true [(.bool r)]:=by
 refine f6 (fle rfl) ?_
 rw[zD]
 refine AW.weaken (t:=mk [(0,(.agg (zH a1))),(1,(oI a2)),(2,(oI a3)),(3,(oB a4))] [] (lk [])) (zn [] (sR rfl rfl) BL.nil BK.nil) ?_
 unfold jG at H
 unfold i6
 refine aV (yX (n:=256) (m:=2) (cs:=(zH a1)) rfl eZ rfl rfl nZ (za eC (xQ (aV (za eC (xQ (aV (zZ (es:=(zH a1)) rfl bZ rfl (za rfl ?_)))))))))
 obtain⟨v5,h6,H⟩:=zo H
 refine zM (u:=(oI v5)) eC Cl.fn (KA h6) (Ec rfl (Ec eZ En)) (Vc (VD.agg rfl) (Vc Vp Vn)) rfl (za eZ (xQ (aS (aV (za eZ (qJ eZ eC (xQ ?_)))))))
 rcases zE H with⟨h7,H⟩|⟨h7,H⟩
 ·refine zi eZ (dT h7) (aV (za eC (xQ (AW.ret (TQ.qr ?_)))))
  cases H
  exact eE rfl rfl
 ·refine zg eZ (dF h7) (AW.skip (TQ.qn (aS (zK (zh (zZ (es:=(zH a1)) rfl bZ rfl (zj (zh ?_))))))))
  obtain⟨v8,h9,H⟩:=zo H
  refine zM (u:=(.agg (zH v8))) eC Cl.fn (Q7 h9) (Ec eZ En) (Vc (VD.agg rfl) Vn) rfl (zj (zh (za rfl (zj (zh (za rfl (zj (zh (za rfl (zj (zh ?_)))))))))))
  obtain⟨v10,h11,H⟩:=zo H
  refine zM (u:=(.tup [(.agg (zH v10.1)),(oI v10.2)])) eC Cl.fn (XF h11) (Ec rfl (Ec rfl (Ec rfl (Ec eZ En)))) (Vc (VD.agg rfl) (Vc Vp (Vc Vp (Vc Vp Vn)))) rfl (zj (zh (za eZ (zj (zh (zed (v:=(.agg (zH v10.1))) eZ rfl (zj (zh (zed (v:=(oI v10.2)) rfl rfl (zj (zh (Qo (n:=640) (m:=2) rfl rfl (nR rfl) (zj (zh (zN (es:=(zH v10.1)) eZ rfl rfl rfl bZ rfl (zj (zR (za rfl (xQ (AW.weaken (zt [] (kr 11 rfl rfl (kr 10 rfl rfl (kr 4 rfl rfl (kr 1 rfl rfl (kr 2 rfl rfl (kr 3 rfl rfl SL.nil)))))) (blR rfl) (BK.cons (n:=640) rfl bZ rfl rfl (BK.cons (n:=256) rfl (bR rfl) rfl rfl BK.nil)) GK.nil) (aS (zK (zh (zZ (es:=(zH a1)) rfl (bR rfl) rfl (zj (zh ?_))))))))))))))))))))))))))
  obtain⟨v12,h13,H⟩:=zo H
  refine Qj (u:=(.agg [(.sl 2240 0 v12.Recs.length),(.sl 2241 0 v12.Order.length)])) (bs:=[(2240,(.data 5 (List.map zl v12.Recs) true none)),(2241,(.data 1 (List.map zA v12.Order) true none))]) eC Cl.fn (Q7 h13) (Ec eZ En) (Vc (VD.agg rfl) Vn) (by simp[jR,yV,jn,yd,jz]) rfl (fC (nR rfl) rfl (fC (nR rfl) rfl (fC (nR rfl) rfl fN))) (zj (zh (Qo (n:=768) (m:=2) rfl rfl (nR rfl) (zj (zh (zN (es:=[(.sl 2240 0 v12.Recs.length),(.sl 2241 0 v12.Order.length)]) eZ rfl rfl rfl bZ rfl (zj (zR (xQ (aS (zK (zh (zZ (es:=[(.sl 2240 0 v12.Recs.length),(.sl 2241 0 v12.Order.length)]) eZ bZ rfl (zj (zh (za rfl (zj (zh (za rfl (zj (zh (za rfl (zj (zh ?_))))))))))))))))))))))))
  obtain⟨v14,h15,H⟩:=zo H
  refine Qj (u:=(.tup [(.agg [(.sl 2624 0 v14.1.Recs.length),(.sl 2625 0 v14.1.Order.length)]),(oI v14.2)])) (bs:=[(2624,(.data 5 (List.map zl v14.1.Recs) true none)),(2625,(.data 1 (List.map zA v14.1.Order) true none))]) eC Cl.fn (YI h15) (Ec rfl (Ec rfl (Ec rfl (Ec eZ En)))) (Vc (VD.aggs (CDs.sl (bR rfl) lm (CDs.sl (bR rfl) lm CDs.nil))) (Vc Vp (Vc Vp (Vc Vp Vn)))) (by simp[jR,yV,jn,yd,jz]) rfl (fC (nR rfl) rfl (fC (nR rfl) rfl (fC (nR rfl) rfl fN))) (zj (zh (za eZ (zj (zh (zed (v:=(.agg [(.sl 2624 0 v14.1.Recs.length),(.sl 2625 0 v14.1.Order.length)])) eZ rfl (zj (zh (zed (v:=(oI v14.2)) rfl rfl (zj (zh (Qo (n:=832) (m:=2) rfl rfl (nR rfl) (zj (zh (zN (es:=[(.sl 2624 0 v14.1.Recs.length),(.sl 2625 0 v14.1.Order.length)]) eZ rfl rfl rfl bZ rfl (zj (zR (za rfl (xQ (AW.weaken (zt [] (kr 14 rfl rfl (kr 13 rfl rfl (kr 12 rfl rfl (kr 11 rfl rfl (kr 10 rfl rfl (kr 4 rfl rfl (kr 1 rfl rfl (kr 2 rfl rfl (kr 3 rfl rfl SL.nil))))))))) (blR rfl) (BK.cons (n:=832) rfl bZ rfl rfl (BK.cons (n:=2625) rfl (bR rfl) rfl rfl (BK.cons (n:=2624) rfl (bR rfl) rfl rfl (BK.cons (n:=768) rfl (bR rfl) rfl rfl (BK.cons (n:=2241) rfl (bR rfl) rfl rfl (BK.cons (n:=2240) rfl (bR rfl) rfl rfl (BK.cons (n:=640) rfl (bR rfl) rfl rfl (BK.cons (n:=256) rfl (bR rfl) rfl rfl BK.nil)))))))) GK.nil) (aS (zJ (fun t16:Bool=>(qM a1 v12 v14 a2 a3 a4 v10) t16=some r) (fun t16=>mk [(1,(oI a2)),(2,(oI a3)),(3,(oB a4)),(4,(.one (.ptr (.nm 256 0 0)))),(10,(.one (.ptr (.nm 640 0 0)))),(11,(oI v10.2)),(12,(.one (.ptr (.nm 768 0 0)))),(13,(.one (.ptr (.nm 832 0 0)))),(14,(oI v14.2)),(52,(oB t16))] [(256,(.vars 2 (zH a1))),(640,(.vars 2 (zH v10.1))),(768,(.vars 2 [(.sl 2240 0 v12.Recs.length),(.sl 2241 0 v12.Order.length)])),(832,(.vars 2 [(.sl 2624 0 v14.1.Recs.length),(.sl 2625 0 v14.1.Order.length)])),(2240,(.data 5 (List.map zl v12.Recs) true none)),(2241,(.data 1 (List.map zA v12.Order) true none)),(2624,(.data 5 (List.map zl v14.1.Recs) true none)),(2625,(.data 1 (List.map zA v14.1.Order) true none))] (lk [])) ?_ ?_))))))))))))))))))))))
  ·intro t16 H
   unfold qM at H
   rcases zE H with⟨h18,H⟩|⟨h18,H⟩
   ·refine zi rfl h18 (aV (za eC (xQ (AW.ret (TQ.qr ?_)))))
    cases H
    exact eE rfl rfl
   ·refine zg rfl (nt h18) (AW.skip (TQ.qn (aS (aS (AW.regd (zZ (es:=[(.sl 2240 0 v12.Recs.length),(.sl 2241 0 v12.Order.length)]) rfl (hB rfl (bR rfl)) rfl (zZ (es:=(zH a1)) rfl bZ rfl ?_)))))))
    obtain⟨v19,h20,H⟩:=zo H
    refine zM (u:=(.agg (zH v19))) eC Cl.fn (Q7 h20) (Ec eZ En) (Vc (VD.agg rfl) Vn) rfl ?_
    obtain⟨v21,h22,H⟩:=zo H
    refine zM (u:=(oB v21)) eC Cl.fn (Jk h22) (Ec rfl (Ec eZ En)) (Vc (VD.aggs (CDs.sl (bR rfl) lm (CDs.sl (bR rfl) lm CDs.nil))) (Vc (VD.agg rfl) Vn)) rfl (jE eZ (xQ ?_))
    rcases zE H with⟨h23,H⟩|⟨h23,H⟩
    ·refine zg eZ (cN h23) (AW.skip (TQ.qn (aV (za eC (xQ (AW.weaken (zt [] (kr 15 rfl rfl (kr 1 rfl rfl (kr 2 rfl rfl (kr 3 rfl rfl (kr 4 rfl rfl (kr 10 rfl rfl (kr 11 rfl rfl (kr 12 rfl rfl (kr 13 rfl rfl (kr 14 rfl rfl SL.nil)))))))))) (blR rfl) (BK.cons (n:=256) rfl bZ rfl rfl (BK.cons (n:=640) rfl (bR rfl) rfl rfl (BK.cons (n:=768) rfl (bR rfl) rfl rfl (BK.cons (n:=832) rfl (bR rfl) rfl rfl (BK.cons (n:=2240) rfl (bR rfl) rfl rfl (BK.cons (n:=2241) rfl (bR rfl) rfl rfl (BK.cons (n:=2624) rfl (bR rfl) rfl rfl (BK.cons (n:=2625) rfl (bR rfl) rfl rfl BK.nil)))))))) GK.nil) (aS (zK (zh (zZ (es:=[(.sl 2240 0 v12.Recs.length),(.sl 2241 0 v12.Order.length)]) rfl (bR rfl) rfl (zj (zh (za rfl (zj ?_))))))))))))))
     obtain⟨v24,h25,H⟩:=zo H
     obtain⟨h26,H⟩:=jf H
     obtain⟨h27,H⟩:=jf H
     refine Kr (ON:=[2240,2241]) (ls:=[]) (G:=[]) (E:=[z9 2240,z9 2241]) (MB:=[(2240,(.data 5 (List.map zl v24.2.Recs) true none)),(2241,(.data 1 (List.map zA v24.2.Order) true none))]) (u:=(oI v24.1)) eC Cl.fn (YY h25) (Ec rfl (Ec eZ En)) (AO.mut (VO.aggs (VOs.cons (jH (bR rfl) lm rfl) (VOs.cons (VO.sl (bR rfl) lm (qq fun _=>rfl)) VOs.nil))) (AO.lent Vp rfl AO.nil)) rfl rfl rfl (SZ.cons (bR rfl) (SZ.cons (bR rfl) SZ.nil)) (erL.cons (v':=(oI 1)) rfl (erL.cons (v':=(.agg [(.sl 2240 0 v12.Recs.length),(.sl 2241 0 v12.Order.length)])) rfl (erL.cons (v':=(oI 1)) rfl (erL.cons (v':=(oI a2)) rfl (erL.cons (v':=(oI a3)) rfl (erL.cons (v':=(oB a4)) rfl (erL.cons (v':=(.one (.ptr (.nm 256 0 0)))) rfl (erL.cons (v':=(.one (.ptr (.nm 640 0 0)))) rfl (erL.cons (v':=(oI v10.2)) rfl (erL.cons (v':=(.one (.ptr (.nm 768 0 0)))) rfl (erL.cons (v':=(.one (.ptr (.nm 832 0 0)))) rfl (erL.cons (v':=(oI v14.2)) rfl erL.nil)))))))))))) (erH.cons (v':=(.vars 2 (zH a1))) rfl rfl (erH.cons (v':=(.vars 2 (zH v10.1))) rfl rfl (erH.cons (v':=(.vars 2 [(.sl 2240 0 v12.Recs.length),(.sl 2241 0 v12.Order.length)])) rfl rfl (erH.cons (v':=(.vars 2 [(.sl 2624 0 v14.1.Recs.length),(.sl 2625 0 v14.1.Order.length)])) rfl rfl (erH.cons (v':=(.data 5 (List.map zl v12.Recs) true none)) rfl rfl (erH.cons (v':=(.data 1 (List.map zA v12.Order) true none)) rfl rfl (erH.cons (v':=(.data 5 (List.map zl v14.1.Recs) true none)) rfl rfl (erH.cons (v':=(.data 1 (List.map zA v14.1.Order) true none)) rfl rfl erH.nil)))))))) erL.nil rfl rfl (zR (za eZ (xQ (aS (zJ (fun t28:Bool=>(qu v14 a1 a2 a3 a4 v10) t28=some r) (fun t28=>mk [(1,(oI a2)),(2,(oI a3)),(3,(oB a4)),(4,(.one (.ptr (.nm 256 0 0)))),(10,(.one (.ptr (.nm 640 0 0)))),(11,(oI v10.2)),(13,(.one (.ptr (.nm 832 0 0)))),(73,(oB t28))] [(256,(.vars 2 (zH a1))),(640,(.vars 2 (zH v10.1))),(832,(.vars 2 [(.sl 2624 0 v14.1.Recs.length),(.sl 2625 0 v14.1.Order.length)])),(2624,(.data 5 (List.map zl v14.1.Recs) true none)),(2625,(.data 1 (List.map zA v14.1.Order) true none))] (lk [])) ?_ ?_)))))
     ·intro t28 H
      unfold qu at H
      rcases zE H with⟨h30,H⟩|⟨h30,H⟩
      ·refine zi rfl h30 (aV (za eC (xQ (AW.ret (TQ.qr ?_)))))
       cases H
       exact eE rfl rfl
      ·refine zg rfl (nt h30) (AW.skip (TQ.qn (aV (za eC (xQ (aS (zK (zh (zZ (es:=[(.sl 2624 0 v14.1.Recs.length),(.sl 2625 0 v14.1.Order.length)]) rfl (bR rfl) rfl (zj (zh (za rfl (zj ?_)))))))))))))
       obtain⟨v31,h32,H⟩:=zo H
       obtain⟨h33,H⟩:=jf H
       obtain⟨h34,H⟩:=jf H
       refine Kr (ON:=[2624,2625]) (ls:=[]) (G:=[]) (E:=[z9 2624,z9 2625]) (MB:=[(2624,(.data 5 (List.map zl v31.2.Recs) true none)),(2625,(.data 1 (List.map zA v31.2.Order) true none))]) (u:=(oI v31.1)) eC Cl.fn (YY h32) (Ec rfl (Ec eZ En)) (AO.mut (VO.aggs (VOs.cons (jH (bR rfl) lm rfl) (VOs.cons (VO.sl (bR rfl) lm (qq fun _=>rfl)) VOs.nil))) (AO.lent Vp rfl AO.nil)) rfl rfl rfl (SZ.cons (bR rfl) (SZ.cons (bR rfl) SZ.nil)) (erL.cons (v':=(oI 1)) rfl (erL.cons (v':=(.agg [(.sl 2624 0 v14.1.Recs.length),(.sl 2625 0 v14.1.Order.length)])) rfl (erL.cons (v':=(oI 1)) rfl (erL.cons (v':=(oI a2)) rfl (erL.cons (v':=(oI a3)) rfl (erL.cons (v':=(oB a4)) rfl (erL.cons (v':=(.one (.ptr (.nm 256 0 0)))) rfl (erL.cons (v':=(.one (.ptr (.nm 640 0 0)))) rfl (erL.cons (v':=(oI v10.2)) rfl (erL.cons (v':=(.one (.ptr (.nm 832 0 0)))) rfl (erL.cons (v':=(oB t28)) rfl erL.nil))))))))))) (erH.cons (v':=(.vars 2 (zH a1))) rfl rfl (erH.cons (v':=(.vars 2 (zH v10.1))) rfl rfl (erH.cons (v':=(.vars 2 [(.sl 2624 0 v14.1.Recs.length),(.sl 2625 0 v14.1.Order.length)])) rfl rfl (erH.cons (v':=(.data 5 (List.map zl v14.1.Recs) true none)) rfl rfl (erH.cons (v':=(.data 1 (List.map zA v14.1.Order) true none)) rfl rfl erH.nil))))) erL.nil rfl rfl (zR (za eZ (xQ (aV (za eC (xQ (aV (zZ (es:=[(.sl 2624 0 v14.1.Recs.length),(.sl 2625 0 v14.1.Order.length)]) rfl (bR rfl) rfl (za rfl ?_)))))))))
       obtain⟨v35,h36,H⟩:=zo H
       refine zM (u:=(oI v35)) eC Cl.fn (YM h36) (Ec rfl (Ec eZ En)) (Vc (VD.aggs (CDs.sl (bR rfl) (by first|(simp;done)|(simp;omega)|omega|(simp only[List.length_map];omega)) (CDs.sl bZ (by first|(simp;done)|(simp;omega)|omega|(simp only[List.length_map];omega)) CDs.nil))) (Vc Vp Vn)) rfl (za eZ (xQ (AW.weaken (zt [] (kr 17 rfl rfl (kr 16 rfl rfl (kr 1 rfl rfl (kr 2 rfl rfl (kr 3 rfl rfl (kr 4 rfl rfl (kr 10 rfl rfl (kr 11 rfl rfl (kr 13 rfl rfl SL.nil))))))))) (blR rfl) (BK.cons (n:=2625) rfl bZ rfl rfl (BK.cons (n:=2624) rfl (bR rfl) rfl rfl (BK.cons (n:=256) rfl (bR rfl) rfl rfl (BK.cons (n:=640) rfl (bR rfl) rfl rfl (BK.cons (n:=832) rfl (bR rfl) rfl rfl BK.nil))))) GK.nil) (aS (aV (za eZ (qJ eZ eC (xQ ?_))))))))
       rcases zE H with⟨h37,H⟩|⟨h37,H⟩
       ·refine zi eZ (dT h37) (aV (za eC (xQ (AW.ret (TQ.qr ?_)))))
        cases H
        exact eE rfl rfl
       ·refine zg eZ (dF h37) (AW.skip (TQ.qn (aS (aV (za rfl (za rfl (Za rfl eZ (xQ ?_))))))))
        rcases zE H with⟨h38,H⟩|⟨h38,H⟩
        ·refine zi eZ (dT h38) (aV (za eC (xQ (AW.ret (TQ.qr ?_)))))
         cases H
         exact eE rfl rfl
        ·refine zg eZ (dF h38) (AW.skip (TQ.qn (aS (zK (zh (zZ (es:=(zH a1)) rfl (bR rfl) rfl (zj (zh ?_))))))))
         obtain⟨v39,h40,H⟩:=zo H
         refine zM (u:=(.agg (zH v39))) eC Cl.fn (Q7 h40) (Ec eZ En) (Vc (VD.agg rfl) Vn) rfl (zj (zh (za rfl (zj (zh (za rfl (zj (zh (za rfl (zj (zh ?_)))))))))))
         obtain⟨v41,h42,H⟩:=zo H
         refine zM (u:=(.tup [(.agg (zH v41.1)),(oI v41.2)])) eC Cl.fn (YI h42) (Ec rfl (Ec rfl (Ec rfl (Ec eZ En)))) (Vc (VD.agg rfl) (Vc Vp (Vc Vp (Vc Vp Vn)))) rfl (zj (zh (za eZ (zj (zh (zed (v:=(.agg (zH v41.1))) eZ rfl (zj (zh (zed (v:=(oI v41.2)) rfl rfl (zj (zh (Qo (n:=1152) (m:=2) rfl rfl (nR rfl) (zj (zh (zN (es:=(zH v41.1)) eZ rfl rfl rfl bZ rfl (zj (zR (za rfl (xQ (AW.weaken (zt [256] (kr 19 rfl rfl (kr 18 rfl rfl (kr 16 rfl rfl (kr 10 rfl rfl (kr 11 rfl rfl (kr 13 rfl rfl SL.nil)))))) (blR rfl) (BK.cons (n:=1152) rfl bZ rfl rfl (BK.cons (n:=2625) rfl (bR rfl) rfl rfl (BK.cons (n:=2624) rfl (bR rfl) rfl rfl (BK.cons (n:=640) rfl (bR rfl) rfl rfl (BK.cons (n:=832) rfl (bR rfl) rfl rfl BK.nil))))) GK.nil) (aS (zJ (fun t43:Bool=>(qN v31) t43=some r) (fun t43=>mk [(13,(.one (.ptr (.nm 832 0 0)))),(16,(oI v31.1)),(102,(oB t43))] [(832,(.vars 2 [(.sl 2624 0 v14.1.Recs.length),(.sl 2625 0 v14.1.Order.length)])),(2624,(.data 5 (List.map zl v31.2.Recs) true none)),(2625,(.data 1 (List.map zA v31.2.Order) true none))] (lk [])) ?_ ?_))))))))))))))))))))))
         ·intro t43 H
          unfold qN at H
          rcases zE H with⟨h45,H⟩|⟨h45,H⟩
          ·refine zi rfl h45 (aV (za eC (xQ (AW.ret (TQ.qr ?_)))))
           cases H
           exact eE rfl rfl
          ·refine zg rfl (nt h45) (AW.skip (TQ.qn (aV (za eC (xQ (aV (zZ (es:=[(.sl 2624 0 v14.1.Recs.length),(.sl 2625 0 v14.1.Order.length)]) rfl bZ rfl (za rfl ?_))))))))
           obtain⟨v46,h47,H⟩:=zo H
           refine zM (u:=(oI v46)) eC Cl.fn (YM h47) (Ec rfl (Ec eZ En)) (Vc (VD.aggs (CDs.sl (bR rfl) (by first|(simp;done)|(simp;omega)|omega|(simp only[List.length_map];omega)) (CDs.sl (bR rfl) (by first|(simp;done)|(simp;omega)|omega|(simp only[List.length_map];omega)) CDs.nil))) (Vc Vp Vn)) rfl (za eZ (xQ (aS (aV (za eZ (qJ eZ eC (xQ ?_)))))))
           rcases zE H with⟨h48,H⟩|⟨h48,H⟩
           ·refine zi eZ (dT h48) (aV (za eC (xQ (AW.ret (TQ.qr ?_)))))
            cases H
            exact eE rfl rfl
           ·refine zg eZ (dF h48) (AW.skip (TQ.qn (aS (aV (za rfl (za rfl (Za rfl eZ (xQ ?_))))))))
            rcases zE H with⟨h49,H⟩|⟨h49,H⟩
            ·refine zi eZ (dT h49) (aV (za eC (xQ (AW.ret (TQ.qr ?_)))))
             cases H
             exact eE rfl rfl
            ·refine zg eZ (dF h49) (AW.skip (TQ.qn (aV (za eC (xQ (AW.ret ?_))))))
             cases H
             exact eE rfl rfl
         ·refine aR (zZ (es:=(zH v41.1)) rfl bZ rfl (zZ (es:=(zH v10.1)) rfl (bR rfl) rfl ?_))
          obtain⟨v50,h51,H⟩:=zo H
          refine zM (u:=(oB v50)) eC Cl.fn (Jk h51) (Ec rfl (Ec eZ En)) (Vc (VD.agg rfl) (Vc (VD.agg rfl) Vn)) rfl (jE eZ (za eZ ?_))
          rcases zE H with⟨h52,H⟩|⟨h52,H⟩
          ·exact gDo eZ (cN h52) (za rfl (gDo rfl (cN h52) (za rfl (gDo rfl (cN h52) (Za rfl eZ (zV rfl (cN h52) eZ (zj (TQ.qn ⟨(decide (¬v41.2=v10.2)),H,(zt [1152,640] (sR rfl rfl) (blR rfl) (BK.cons rfl (bR rfl) rfl (by first|rfl|simp) (bkR rfl rfl rfl)) GK.nil)⟩))))))))
          ·exact zf eZ (cN (nt h52)) rfl (zf rfl (cN (nt h52)) rfl (zf rfl (cN (nt h52)) rfl (zL rfl (cN (nt h52)) eC (zj (TQ.qn ⟨true,H,(zt [1152,640] (sR rfl rfl) (blR rfl) (BK.cons rfl (bR rfl) rfl (by first|rfl|simp) (bkR rfl rfl rfl)) GK.nil)⟩)))))
     ·refine aR (za eZ (qJ eZ eC (za eZ ?_)))
      rcases zE H with⟨h53,H⟩|⟨h53,H⟩
      ·exact zf eZ (dT h53) rfl (zf rfl (dT h53) rfl (zf rfl (dT h53) rfl (zf rfl (dT h53) rfl (zL rfl (dT h53) eC (za eZ (zf eZ rfl rfl (zf rfl rfl rfl (zf rfl rfl rfl (zL rfl rfl eC (zj (TQ.qn ⟨true,H,(zt [2241,2240,768] (sR rfl rfl) (blR rfl) (BK.cons rfl (bR rfl) rfl rfl (BK.cons rfl (bR rfl) rfl rfl (BK.cons rfl (bR rfl) rfl (by first|rfl|simp) (bkR rfl rfl rfl)))) GK.nil)⟩)))))))))))
      ·refine gDo eZ (dF h53) (zZ (es:=[(.sl 2624 0 v14.1.Recs.length),(.sl 2625 0 v14.1.Order.length)]) rfl (bR rfl) rfl (gDo rfl (dF h53) (zZ (es:=(zH v10.1)) rfl (bR rfl) rfl (gDo rfl (dF h53) ?_))))
       obtain⟨v54,h55,H⟩:=zo H
       refine zM (u:=(oB v54)) eC Cl.fn (Jk h55) (Ec rfl (Ec eZ En)) (Vc (VD.aggs (CDs.sl (bR rfl) lm (CDs.sl (bR rfl) lm CDs.nil))) (Vc (VD.agg rfl) Vn)) rfl (gDo rfl (dF h53) (jE eZ (zV rfl (dF h53) eZ (za eZ ?_))))
       rcases zE H with⟨h56,H⟩|⟨h56,H⟩
       ·exact gDo eZ (cN h56) (za rfl (gDo rfl (cN h56) (za rfl (gDo rfl (cN h56) (Za rfl eZ (zV rfl (cN h56) eZ (zj (TQ.qn ⟨(decide (¬v14.2=v10.2)),H,(zt [2241,2240,768] (sR rfl rfl) (blR rfl) (BK.cons rfl (bR rfl) rfl rfl (BK.cons rfl (bR rfl) rfl rfl (BK.cons rfl (bR rfl) rfl (by first|rfl|simp) (bkR rfl rfl rfl)))) GK.nil)⟩))))))))
       ·exact zf eZ (cN (nt h56)) rfl (zf rfl (cN (nt h56)) rfl (zf rfl (cN (nt h56)) rfl (zL rfl (cN (nt h56)) eC (zj (TQ.qn ⟨true,H,(zt [2241,2240,768] (sR rfl rfl) (blR rfl) (BK.cons rfl (bR rfl) rfl rfl (BK.cons rfl (bR rfl) rfl rfl (BK.cons rfl (bR rfl) rfl (by first|rfl|simp) (bkR rfl rfl rfl)))) GK.nil)⟩)))))
    ·refine zi eZ (cN (nt h23)) (aV (za eC (xQ (AW.weaken (zt [256,640,768,832,2240,2241,2624,2625] (kr 8 rfl rfl SL.nil) (blR rfl) BK.nil GK.nil) (AW.ret (TQ.qr ?_))))))
     cases H
     exact eE rfl rfl
  ·refine aR (zZ (es:=[(.sl 2624 0 v14.1.Recs.length),(.sl 2625 0 v14.1.Order.length)]) rfl bZ rfl (zZ (es:=(zH v10.1)) rfl (bR rfl) rfl ?_))
   obtain⟨v57,h58,H⟩:=zo H
   refine zM (u:=(oB v57)) eC Cl.fn (Jk h58) (Ec rfl (Ec eZ En)) (Vc (VD.aggs (CDs.sl (bR rfl) lm (CDs.sl (bR rfl) lm CDs.nil))) (Vc (VD.agg rfl) Vn)) rfl (jE eZ (za eZ ?_))
   rcases zE H with⟨h59,H⟩|⟨h59,H⟩
   ·exact gDo eZ (cN h59) (za rfl (gDo rfl (cN h59) (za rfl (gDo rfl (cN h59) (Za rfl eZ (zV rfl (cN h59) eZ (zj (TQ.qn ⟨(decide (¬v14.2=v10.2)),H,(zt [] (sR rfl rfl) (blR rfl) (BK.cons rfl (bR rfl) rfl rfl (BK.cons rfl (bR rfl) rfl rfl (BK.cons rfl (bR rfl) rfl (by first|rfl|simp) (BK.cons rfl bZ rfl (by first|rfl|simp) (bkR rfl rfl rfl))))) GK.nil)⟩))))))))
   ·exact zf eZ (cN (nt h59)) rfl (zf rfl (cN (nt h59)) rfl (zf rfl (cN (nt h59)) rfl (zL rfl (cN (nt h59)) eC (zj (TQ.qn ⟨true,H,(zt [] (sR rfl rfl) (blR rfl) (BK.cons rfl (bR rfl) rfl rfl (BK.cons rfl (bR rfl) rfl rfl (BK.cons rfl (bR rfl) rfl (by first|rfl|simp) (BK.cons rfl bZ rfl (by first|rfl|simp) (bkR rfl rfl rfl))))) GK.nil)⟩)))))
end Go.AW
