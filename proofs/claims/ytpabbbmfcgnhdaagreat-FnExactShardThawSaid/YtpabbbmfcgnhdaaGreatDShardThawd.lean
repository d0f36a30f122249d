/- That functions of the program compute what the plain functions say. Conditions: each theorem's own. -/
import Derived.Test.YtpabbbmfcgnhdaaGreatMShardThaw
import Derived.Test.YtpabbbmfcgnhdaaGreatGShardThaw
import Derived.Test.YtpabbbmfcgnhdaaGreatSShardThaw
import Derived.Test.YtpabbbmfcgnhdaaGreatYt
import Derived.KernelRfl
import Derived.Test.YtpabbbmfcgnhdaaGreatDShardThawa
import Derived.Test.YtpabbbmfcgnhdaaGreatDShardThawb
import Derived.Test.YtpabbbmfcgnhdaaGreatDShardThawc
set_option linter.unusedVariables false
set_option linter.unusedSimpArgs false
set_option maxRecDepth 100000
namespace Go.AW
open Go.Proofs
theorem KL{a1:zn}{a2:Int}{a3:ze}{r:(zn×Int)}(H:Zg a1 a2 a3=some r):Fn Tryz.prog 22 (lent [(.agg (zR a1)),(.int .i64 a2),(.agg (zd a3))]) true [(.agg (zR r.1)),(.int .i64 r.2)]:=by
 refine f22 (fle rfl) ?_
 rw[zx]
 refine AW.weaken (t:=mk [(0,(.agg (zE a1))),(1,(oI a2)),(2,(.agg [(dI a3.Lo),(dI a3.Hi)]))] [] (lk [])) (zg [] (sR rfl rfl) BL.nil BK.nil) ?_
 unfold Zg at H
 unfold i22
 refine aV (jh (n:=192) (m:=9) (cs:=(zE a1)) rfl eZ rfl rfl nZ (jh (n:=320) (m:=2) (cs:=[(dI a3.Lo),(dI a3.Hi)]) rfl rfl rfl rfl (nR rfl) (Zl (n:=384) (m:=9) rfl rfl (nR rfl) (za eC (xQ (aV (zN (es:=(zE a1)) rfl (bR rfl) rfl (za rfl (zN (es:=[(dI a3.Lo),(dI a3.Hi)]) rfl (bR rfl) rfl ?_)))))))))
 obtain⟨v4,h5,H⟩:=zk H
 refine zD (u:=(oI v4)) eC Cl.fn (zec h5) (Ec rfl (Ec rfl (Ec eZ En))) (Vc (VD.agg rfl) (Vc Vp (Vc (VD.agg rfl) Vn))) rfl (za eZ (xQ (aS (AW.block (aV (za eZ (ZO eZ eC (za eZ (xQ ?_)))))))))
 rcases zC H with⟨h6,H⟩|⟨h6,H⟩
 ·refine zi eZ (dT h6) (aS (zW (zw (zN (es:=(zE a1)) rfl (bR rfl) rfl (zm (zw (za rfl (zm (zw ?_)))))))))
  obtain⟨v7,h8,H⟩:=zk H
  refine jK (u:=(.tup [(.agg [(dI v7.1.Me),(.sl 1345 0 v7.1.Own.length),(.sl 1346 0 v7.1.Frozen.length),(.sl 1347 0 v7.1.Cells.length),(.sl 1348 0 v7.1.Locks.length),(.sl 1349 0 v7.1.Helds.length),(.sl 1350 0 v7.1.Wounded.length),(.sl 1351 0 v7.1.Ended.length),(dI v7.1.Rank)]),(oI v7.2)])) (bs:=[(1345,(.data 2 (List.map zd v7.1.Own) true none)),(1346,(.data 2 (List.map zd v7.1.Frozen) true none)),(1347,(.data 2 (List.map zj v7.1.Cells) true none)),(1348,(.data 4 (List.map zp v7.1.Locks) true none)),(1349,(.data 2 (List.map zA v7.1.Helds) true none)),(1350,(.data 1 (List.map zt v7.1.Wounded) true none)),(1351,(.data 1 (List.map zt v7.1.Ended) true none))]) eC Cl.fn (zfo h8) (Ec rfl (Ec eZ En)) (Vc (VD.agg rfl) (Vc Vp Vn)) (by simp[jr,jV,qF,jx,qK]) rfl (fC (nR rfl) rfl (fC (nR rfl) rfl (fC (nR rfl) rfl (fC (nR rfl) rfl (fC (nR rfl) rfl (fC (nR rfl) rfl (fC (nR rfl) rfl (fC (nR rfl) rfl fN)))))))) (zm (zw (XO (v:=(.agg [(dI v7.1.Me),(.sl 1345 0 v7.1.Own.length),(.sl 1346 0 v7.1.Frozen.length),(.sl 1347 0 v7.1.Cells.length),(.sl 1348 0 v7.1.Locks.length),(.sl 1349 0 v7.1.Helds.length),(.sl 1350 0 v7.1.Wounded.length),(.sl 1351 0 v7.1.Ended.length),(dI v7.1.Rank)])) eZ rfl (zm (zw (XO (v:=(oI v7.2)) rfl rfl (zm (zw (zP (es:=[(dI v7.1.Me),(.sl 1345 0 v7.1.Own.length),(.sl 1346 0 v7.1.Frozen.length),(.sl 1347 0 v7.1.Cells.length),(.sl 1348 0 v7.1.Locks.length),(.sl 1349 0 v7.1.Helds.length),(.sl 1350 0 v7.1.Wounded.length),(.sl 1351 0 v7.1.Ended.length),(dI v7.1.Rank)]) rfl rfl rfl rfl (bR rfl) rfl (zm (qc (za eZ (xQ (AW.weaken (zM [320,192] (kr 7 rfl rfl (kr 6 rfl rfl SL.nil)) (blR rfl) (BK.cons (n:=384) rfl bZ rfl rfl (BK.cons (n:=1351) rfl (bR rfl) rfl rfl (BK.cons (n:=1350) rfl (bR rfl) rfl rfl (BK.cons (n:=1349) rfl (bR rfl) rfl rfl (BK.cons (n:=1348) rfl (bR rfl) rfl rfl (BK.cons (n:=1347) rfl (bR rfl) rfl rfl (BK.cons (n:=1346) rfl (bR rfl) rfl rfl (BK.cons (n:=1345) rfl (bR rfl) rfl rfl BK.nil)))))))) GK.nil) (AW.ret (BQ.qr (TQ.qr ?_)))))))))))))))))
  cases H
  exact qI (RL.cons (qS (es:=[(dI v7.1.Me),(.sl 1345 0 v7.1.Own.length),(.sl 1346 0 v7.1.Frozen.length),(.sl 1347 0 v7.1.Cells.length),(.sl 1348 0 v7.1.Locks.length),(.sl 1349 0 v7.1.Helds.length),(.sl 1350 0 v7.1.Wounded.length),(.sl 1351 0 v7.1.Ended.length),(dI v7.1.Rank)]) rfl bZ rfl) (VO.aggs (VOs.cons (VO.flat rfl) (VOs.cons (VO.sl (bR rfl) lm (zy fun _=>rfl)) (VOs.cons (VO.sl (bR rfl) lm (zy fun _=>rfl)) (VOs.cons (VO.sl (bR rfl) lm (zy fun _=>rfl)) (VOs.cons (VO.sl (bR rfl) lm (zy fun _=>rfl)) (VOs.cons (ZN (bR rfl) lm rfl) (VOs.cons (VO.sl (bR rfl) lm (zy fun _=>rfl)) (VOs.cons (VO.sl (bR rfl) lm (zy fun _=>rfl)) (VOs.cons (VO.flat rfl) VOs.nil)))))))))) (RL.cons (RV.tmp eZ) (VO.flat rfl) RL.nil)) (by decide)
 ·refine zh eZ (dF h6) (zF (fun t9:Bool=>(ZD a1 a3 a2) t9=some r) (fun t9=>mk [(1,(oI a2)),(3,(.one (.ptr (.nm 192 0 0)))),(5,(.one (.ptr (.nm 320 0 0)))),(6,(.one (.ptr (.nm 384 0 0)))),(24,(oB t9))] [(192,(.vars 9 (zE a1))),(320,(.vars 2 [(dI a3.Lo),(dI a3.Hi)])),(384,(.vars 9 [(dI 0),.zs,.zs,.zs,.zs,.zs,.zs,.zs,(dI 0)]))] (lk [])) ?_ ?_)
  ·intro t9 H
   unfold ZD at H
   rcases zC H with⟨h11,H⟩|⟨h11,H⟩
   ·refine zi rfl h11 (aS (zW (zw (zN (es:=(zE a1)) rfl bZ rfl (zm (zw ?_))))))
    obtain⟨v12,h13,H⟩:=zk H
    refine jK (u:=(.agg [(dI v12.Me),(.sl 2369 0 v12.Own.length),(.sl 2370 0 v12.Frozen.length),(.sl 2371 0 v12.Cells.length),(.sl 2372 0 v12.Locks.length),(.sl 2373 0 v12.Helds.length),(.sl 2374 0 v12.Wounded.length),(.sl 2375 0 v12.Ended.length),(dI v12.Rank)])) (bs:=[(2369,(.data 2 (List.map zd v12.Own) true none)),(2370,(.data 2 (List.map zd v12.Frozen) true none)),(2371,(.data 2 (List.map zj v12.Cells) true none)),(2372,(.data 4 (List.map zp v12.Locks) true none)),(2373,(.data 2 (List.map zA v12.Helds) true none)),(2374,(.data 1 (List.map zt v12.Wounded) true none)),(2375,(.data 1 (List.map zt v12.Ended) true none))]) eC Cl.fn (Yj h13) (Ec eZ En) (Vc (VD.agg rfl) Vn) (by simp[jr,jV,qF,jx,qK]) rfl (fC (nR rfl) rfl (fC (nR rfl) rfl (fC (nR rfl) rfl (fC (nR rfl) rfl (fC (nR rfl) rfl (fC (nR rfl) rfl (fC (nR rfl) rfl (fC (nR rfl) rfl fN)))))))) (zm (zw (zP (es:=[(dI v12.Me),(.sl 2369 0 v12.Own.length),(.sl 2370 0 v12.Frozen.length),(.sl 2371 0 v12.Cells.length),(.sl 2372 0 v12.Locks.length),(.sl 2373 0 v12.Helds.length),(.sl 2374 0 v12.Wounded.length),(.sl 2375 0 v12.Ended.length),(dI v12.Rank)]) rfl eZ rfl rfl (bR rfl) rfl (zm (qc (za eC (xQ (AW.ret (BQ.qr (TQ.qr ?_))))))))))
    cases H
    exact qI (RL.cons (qS (es:=[(dI v12.Me),(.sl 2369 0 v12.Own.length),(.sl 2370 0 v12.Frozen.length),(.sl 2371 0 v12.Cells.length),(.sl 2372 0 v12.Locks.length),(.sl 2373 0 v12.Helds.length),(.sl 2374 0 v12.Wounded.length),(.sl 2375 0 v12.Ended.length),(dI v12.Rank)]) rfl bZ rfl) (VO.aggs (VOs.cons (VO.flat rfl) (VOs.cons (VO.sl (bR rfl) lm (zy fun _=>rfl)) (VOs.cons (VO.sl (bR rfl) lm (zy fun _=>rfl)) (VOs.cons (VO.sl (bR rfl) lm (zy fun _=>rfl)) (VOs.cons (VO.sl (bR rfl) lm (zy fun _=>rfl)) (VOs.cons (ZN (bR rfl) lm rfl) (VOs.cons (VO.sl (bR rfl) lm (zy fun _=>rfl)) (VOs.cons (VO.sl (bR rfl) lm (zy fun _=>rfl)) (VOs.cons (VO.flat rfl) VOs.nil)))))))))) (RL.cons (RV.tmp eZ) (VO.flat rfl) RL.nil)) (by decide)
   ·refine zh rfl (nt h11) (aV (zf (m:=2) rfl rfl (zl (q:=2) (c:=(.d (.sl 2 (List.map zd a1.Frozen)))) eZ bZ rfl rfl (zN (es:=[(dI a3.Lo),(dI a3.Hi)]) rfl (bR rfl) rfl ?_))))
    obtain⟨v14,h15,H⟩:=zk H
    refine zD (u:=(oB v14)) eC Cl.fn (kf h15) (Ec rfl (Ec eZ En)) (Vc Vp (Vc (VD.agg rfl) Vn)) rfl (qG eZ (za eZ (xQ ?_)))
    rcases zC H with⟨h16,H⟩|⟨h16,H⟩
    ·refine zh eZ (cN h16) (AW.skip (BQ.qn (TQ.qn (aV (zf (m:=2) rfl rfl (zl (q:=2) (c:=(.d (.sl 2 (List.map zd a1.Frozen)))) eZ bZ rfl rfl (zN (es:=[(dI a3.Lo),(dI a3.Hi)]) rfl (bR rfl) rfl ?_)))))))
     obtain⟨v17,h18,H⟩:=zk H
     refine jK (u:=(.tup [(.one (.sl 3200 0 v17.1.length)),(oB v17.2)])) (bs:=[(3200,(.data 2 (List.map zd v17.1) true none))]) eC Cl.fn (zcW h18) (Ec rfl (Ec eZ En)) (Vc Vp (Vc (VD.agg rfl) Vn)) (by simp[jr,jV,qF,jx,qK]) rfl (fC (nR rfl) rfl (fC (nR rfl) rfl fN)) (za eZ (XO (v:=(.one (.sl 3200 0 v17.1.length))) eZ rfl (XO (v:=(oB v17.2)) rfl rfl (za rfl (za rfl (xQ (AW.weaken (zM [320] (kr 10 rfl rfl (kr 9 rfl rfl (kr 1 rfl rfl (kr 3 rfl rfl (kr 6 rfl rfl SL.nil))))) (blR rfl) (BK.cons (n:=3200) rfl bZ rfl rfl (BK.cons (n:=192) rfl (bR rfl) rfl rfl (BK.cons (n:=384) rfl (bR rfl) rfl rfl BK.nil))) GK.nil) (aS (zW (zw (zN (es:=(zE a1)) rfl (bR rfl) rfl (zm (zw ?_)))))))))))))
     obtain⟨v19,h20,H⟩:=zk H
     refine jK (u:=(.agg [(dI v19.Me),(.sl 3457 0 v19.Own.length),(.sl 3458 0 v19.Frozen.length),(.sl 3459 0 v19.Cells.length),(.sl 3460 0 v19.Locks.length),(.sl 3461 0 v19.Helds.length),(.sl 3462 0 v19.Wounded.length),(.sl 3463 0 v19.Ended.length),(dI v19.Rank)])) (bs:=[(3457,(.data 2 (List.map zd v19.Own) true none)),(3458,(.data 2 (List.map zd v19.Frozen) true none)),(3459,(.data 2 (List.map zj v19.Cells) true none)),(3460,(.data 4 (List.map zp v19.Locks) true none)),(3461,(.data 2 (List.map zA v19.Helds) true none)),(3462,(.data 1 (List.map zt v19.Wounded) true none)),(3463,(.data 1 (List.map zt v19.Ended) true none))]) eC Cl.fn (Yj h20) (Ec eZ En) (Vc (VD.agg rfl) Vn) (by simp[jr,jV,qF,jx,qK]) rfl (fC (nR rfl) rfl (fC (nR rfl) rfl (fC (nR rfl) rfl (fC (nR rfl) rfl (fC (nR rfl) rfl (fC (nR rfl) rfl (fC (nR rfl) rfl (fC (nR rfl) rfl fN)))))))) (zm (zw (Zl (n:=704) (m:=9) rfl rfl (nR rfl) (zm (zw (zP (es:=[(dI v19.Me),(.sl 3457 0 v19.Own.length),(.sl 3458 0 v19.Frozen.length),(.sl 3459 0 v19.Cells.length),(.sl 3460 0 v19.Locks.length),(.sl 3461 0 v19.Helds.length),(.sl 3462 0 v19.Wounded.length),(.sl 3463 0 v19.Ended.length),(dI v19.Rank)]) eZ rfl rfl rfl bZ rfl (zm (qc (xQ (aS (aV (za rfl (qG eZ (xQ ?_))))))))))))))
     rcases zC H with⟨h21,H⟩|⟨h21,H⟩
     ·refine zh eZ (cN h21) (AW.skip (TQ.qn (aV (za rfl (zf (m:=8) rfl rfl (zP (es:=[(dI v19.Me),(.sl 3457 0 v19.Own.length),(.sl 3458 0 v19.Frozen.length),(.sl 3459 0 v19.Cells.length),(.sl 3460 0 v19.Locks.length),(.sl 3461 0 v19.Helds.length),(.sl 3462 0 v19.Wounded.length),(.sl 3463 0 v19.Ended.length),(dI a2)]) eZ rfl rfl rfl bZ rfl (xQ (aS (zW (zw (za rfl (zm (zw (zf (m:=2) rfl rfl (zm (zw (zP (es:=[(dI v19.Me),(.sl 3457 0 v19.Own.length),(.sl 3200 0 v17.1.length),(.sl 3459 0 v19.Cells.length),(.sl 3460 0 v19.Locks.length),(.sl 3461 0 v19.Helds.length),(.sl 3462 0 v19.Wounded.length),(.sl 3463 0 v19.Ended.length),(dI a2)]) eZ rfl rfl rfl bZ rfl (zm (qc (xQ (aS (zW (zw (zN (es:=[(dI v19.Me),(.sl 3457 0 v19.Own.length),(.sl 3200 0 v17.1.length),(.sl 3459 0 v19.Cells.length),(.sl 3460 0 v19.Locks.length),(.sl 3461 0 v19.Helds.length),(.sl 3462 0 v19.Wounded.length),(.sl 3463 0 v19.Ended.length),(dI a2)]) rfl bZ rfl (zm (zw (zP (es:=[(dI v19.Me),(.sl 3457 0 v19.Own.length),(.sl 3200 0 v17.1.length),(.sl 3459 0 v19.Cells.length),(.sl 3460 0 v19.Locks.length),(.sl 3461 0 v19.Helds.length),(.sl 3462 0 v19.Wounded.length),(.sl 3463 0 v19.Ended.length),(dI a2)]) rfl eZ rfl rfl (bR rfl) rfl (zm (qc (za eC (xQ (AW.weaken (zM [704,3458,192] (kr 7 rfl rfl (kr 6 rfl rfl SL.nil)) (blR rfl) (BK.cons (n:=384) rfl bZ rfl rfl (BK.cons (n:=3463) rfl (bR rfl) rfl rfl (BK.cons (n:=3462) rfl (bR rfl) rfl rfl (BK.cons (n:=3461) rfl (bR rfl) rfl rfl (BK.cons (n:=3460) rfl (bR rfl) rfl rfl (BK.cons (n:=3459) rfl (bR rfl) rfl rfl (BK.cons (n:=3457) rfl (bR rfl) rfl rfl (BK.cons (n:=3200) rfl (bR rfl) rfl rfl BK.nil)))))))) GK.nil) (AW.ret ?_)))))))))))))))))))))))))))))))))
      cases H
      exact qI (RL.cons (qS (es:=[(dI v19.Me),(.sl 3457 0 v19.Own.length),(.sl 3200 0 v17.1.length),(.sl 3459 0 v19.Cells.length),(.sl 3460 0 v19.Locks.length),(.sl 3461 0 v19.Helds.length),(.sl 3462 0 v19.Wounded.length),(.sl 3463 0 v19.Ended.length),(dI a2)]) rfl bZ rfl) (VO.aggs (VOs.cons (VO.flat rfl) (VOs.cons (VO.sl (bR rfl) lm (zy fun _=>rfl)) (VOs.cons (VO.sl (bR rfl) lm (zy fun _=>rfl)) (VOs.cons (VO.sl (bR rfl) lm (zy fun _=>rfl)) (VOs.cons (VO.sl (bR rfl) lm (zy fun _=>rfl)) (VOs.cons (ZN (bR rfl) lm rfl) (VOs.cons (VO.sl (bR rfl) lm (zy fun _=>rfl)) (VOs.cons (VO.sl (bR rfl) lm (zy fun _=>rfl)) (VOs.cons (VO.flat rfl) VOs.nil)))))))))) (RL.cons (RV.tmp eZ) (VO.flat rfl) RL.nil)) (by decide)
     ·refine zi eZ (cN (nt h21)) (aS (zW (zw (zN (es:=[(dI v19.Me),(.sl 3457 0 v19.Own.length),(.sl 3458 0 v19.Frozen.length),(.sl 3459 0 v19.Cells.length),(.sl 3460 0 v19.Locks.length),(.sl 3461 0 v19.Helds.length),(.sl 3462 0 v19.Wounded.length),(.sl 3463 0 v19.Ended.length),(dI v19.Rank)]) rfl bZ rfl (zm (zw (zP (es:=[(dI v19.Me),(.sl 3457 0 v19.Own.length),(.sl 3458 0 v19.Frozen.length),(.sl 3459 0 v19.Cells.length),(.sl 3460 0 v19.Locks.length),(.sl 3461 0 v19.Helds.length),(.sl 3462 0 v19.Wounded.length),(.sl 3463 0 v19.Ended.length),(dI v19.Rank)]) rfl eZ rfl rfl (bR rfl) rfl (zm (qc (za eC (xQ (AW.ret (TQ.qr ?_)))))))))))))
      cases H
      exact qI (RL.cons (qS (es:=[(dI v19.Me),(.sl 3457 0 v19.Own.length),(.sl 3458 0 v19.Frozen.length),(.sl 3459 0 v19.Cells.length),(.sl 3460 0 v19.Locks.length),(.sl 3461 0 v19.Helds.length),(.sl 3462 0 v19.Wounded.length),(.sl 3463 0 v19.Ended.length),(dI v19.Rank)]) rfl bZ rfl) (VO.aggs (VOs.cons (VO.flat rfl) (VOs.cons (VO.sl (bR rfl) lm (zy fun _=>rfl)) (VOs.cons (VO.sl (bR rfl) lm (zy fun _=>rfl)) (VOs.cons (VO.sl (bR rfl) lm (zy fun _=>rfl)) (VOs.cons (VO.sl (bR rfl) lm (zy fun _=>rfl)) (VOs.cons (ZN (bR rfl) lm rfl) (VOs.cons (VO.sl (bR rfl) lm (zy fun _=>rfl)) (VOs.cons (VO.sl (bR rfl) lm (zy fun _=>rfl)) (VOs.cons (VO.flat rfl) VOs.nil)))))))))) (RL.cons (RV.tmp eZ) (VO.flat rfl) RL.nil)) (by decide)
    ·refine zi eZ (cN (nt h16)) (aS (zW (zw (zN (es:=(zE a1)) rfl bZ rfl (zm (zw ?_))))))
     obtain⟨v22,h23,H⟩:=zk H
     refine jK (u:=(.agg [(dI v22.Me),(.sl 2881 0 v22.Own.length),(.sl 2882 0 v22.Frozen.length),(.sl 2883 0 v22.Cells.length),(.sl 2884 0 v22.Locks.length),(.sl 2885 0 v22.Helds.length),(.sl 2886 0 v22.Wounded.length),(.sl 2887 0 v22.Ended.length),(dI v22.Rank)])) (bs:=[(2881,(.data 2 (List.map zd v22.Own) true none)),(2882,(.data 2 (List.map zd v22.Frozen) true none)),(2883,(.data 2 (List.map zj v22.Cells) true none)),(2884,(.data 4 (List.map zp v22.Locks) true none)),(2885,(.data 2 (List.map zA v22.Helds) true none)),(2886,(.data 1 (List.map zt v22.Wounded) true none)),(2887,(.data 1 (List.map zt v22.Ended) true none))]) eC Cl.fn (Yj h23) (Ec eZ En) (Vc (VD.agg rfl) Vn) (by simp[jr,jV,qF,jx,qK]) rfl (fC (nR rfl) rfl (fC (nR rfl) rfl (fC (nR rfl) rfl (fC (nR rfl) rfl (fC (nR rfl) rfl (fC (nR rfl) rfl (fC (nR rfl) rfl (fC (nR rfl) rfl fN)))))))) (zm (zw (zP (es:=[(dI v22.Me),(.sl 2881 0 v22.Own.length),(.sl 2882 0 v22.Frozen.length),(.sl 2883 0 v22.Cells.length),(.sl 2884 0 v22.Locks.length),(.sl 2885 0 v22.Helds.length),(.sl 2886 0 v22.Wounded.length),(.sl 2887 0 v22.Ended.length),(dI v22.Rank)]) rfl eZ rfl rfl (bR rfl) rfl (zm (qc (za eC (xQ (AW.ret (BQ.qr (TQ.qr ?_))))))))))
     cases H
     exact qI (RL.cons (qS (es:=[(dI v22.Me),(.sl 2881 0 v22.Own.length),(.sl 2882 0 v22.Frozen.length),(.sl 2883 0 v22.Cells.length),(.sl 2884 0 v22.Locks.length),(.sl 2885 0 v22.Helds.length),(.sl 2886 0 v22.Wounded.length),(.sl 2887 0 v22.Ended.length),(dI v22.Rank)]) rfl bZ rfl) (VO.aggs (VOs.cons (VO.flat rfl) (VOs.cons (VO.sl (bR rfl) lm (zy fun _=>rfl)) (VOs.cons (VO.sl (bR rfl) lm (zy fun _=>rfl)) (VOs.cons (VO.sl (bR rfl) lm (zy fun _=>rfl)) (VOs.cons (VO.sl (bR rfl) lm (zy fun _=>rfl)) (VOs.cons (ZN (bR rfl) lm rfl) (VOs.cons (VO.sl (bR rfl) lm (zy fun _=>rfl)) (VOs.cons (VO.sl (bR rfl) lm (zy fun _=>rfl)) (VOs.cons (VO.flat rfl) VOs.nil)))))))))) (RL.cons (RV.tmp eZ) (VO.flat rfl) RL.nil)) (by decide)
  ·refine aR (za rfl (zf (m:=8) rfl rfl (zl (q:=8) (c:=(dI a1.Rank)) eZ (bR rfl) rfl rfl (Kl rfl eZ (za eZ ?_)))))
   rcases zC H with⟨h24,H⟩|⟨h24,H⟩
   ·refine gDo eZ (dT h24) (zf (m:=2) rfl rfl (gDo rfl (dT h24) (zl (q:=2) (c:=(.d (.sl 2 (List.map zd a1.Frozen)))) eZ (bR rfl) rfl rfl (gDo rfl (dT h24) (zN (es:=[(dI a3.Lo),(dI a3.Hi)]) rfl (bR rfl) rfl (gDo rfl (dT h24) ?_))))))
    obtain⟨v25,h26,H⟩:=zk H
    exact zD (u:=(oB v25)) eC Cl.fn (zfk h26) (Ec rfl (Ec eZ En)) (Vc Vp (Vc (VD.agg rfl) Vn)) rfl (gDo rfl (dT h24) (qG eZ (zB rfl (dT h24) eZ (za eZ (zm (TQ.qn ⟨(!v25),H,(zM [] (sR rfl rfl) (blR rfl) (bkR rfl rfl rfl) GK.nil)⟩))))))
   ·exact zb eZ (dF h24) rfl (zb rfl (dF h24) rfl (zb rfl (dF h24) rfl (zb rfl (dF h24) rfl (zb rfl (dF h24) rfl (zJ rfl (dF h24) eC (za eZ (zm (TQ.qn ⟨false,H,(zM [] (sR rfl rfl) (blR rfl) (bkR rfl rfl rfl) GK.nil)⟩))))))))
theorem zeF{a1:ze}{a2:ze}{r:Bool}(H:JV a1 a2=some r):Fn Tryz.prog 209 (lent [(.agg (zd a1)),(.agg (zd a2))]) true [(.bool r)]:=by
 refine zFm (fle rfl) ?_
 rw[zx]
 refine AW.weaken (zg [] (kv 0 (.agg [(dI a1.Lo),(dI a1.Hi)]) rfl rfl (kv 1 (.agg [(dI a2.Lo),(dI a2.Hi)]) rfl rfl SL.nil)) BL.nil BK.nil) ?_
 unfold JV at H
 unfold zBq
 refine aV (jh (n:=128) (m:=2) (cs:=[(dI a1.Lo),(dI a1.Hi)]) rfl eZ rfl rfl nZ (jh (n:=192) (m:=2) (cs:=[(dI a2.Lo),(dI a2.Hi)]) rfl rfl rfl rfl (nR rfl) (za eC (xQ (aS (aV (zf (m:=0) rfl rfl (zl (q:=0) (c:=(dI a1.Lo)) eZ (bR rfl) rfl rfl (zf (m:=0) rfl rfl (zl (q:=0) (c:=(dI a2.Lo)) eZ bZ rfl rfl (ZO rfl eZ (xQ ?_))))))))))))
 rcases zC H with⟨h3,H⟩|⟨h3,H⟩
 ·refine zi eZ (dT h3) (aV (za eC (xQ (AW.ret (TQ.qr ?_)))))
  cases H
  exact eE rfl rfl
 ·refine zh eZ (dF h3) (AW.skip (TQ.qn (aS (aV (zf (m:=1) rfl rfl (zl (q:=1) (c:=(dI a1.Hi)) eZ (bR rfl) rfl rfl (zf (m:=1) rfl rfl (zl (q:=1) (c:=(dI a2.Hi)) eZ bZ rfl rfl (ZO rfl eZ (xQ ?_))))))))))
  rcases zC H with⟨h4,H⟩|⟨h4,H⟩
  ·refine zi eZ (dT h4) (aV (za eC (xQ (AW.weaken (zg [192,128] (kr 4 rfl rfl SL.nil) (blR rfl) BK.nil) (AW.ret (TQ.qr ?_))))))
   cases H
   exact eE rfl rfl
  ·refine zh eZ (dF h4) (AW.skip (TQ.qn (aV (za eC (xQ (AW.weaken (zg [192,128] (kr 4 rfl rfl SL.nil) (blR rfl) BK.nil) (AW.ret ?_)))))))
   cases H
   exact eE rfl rfl
theorem zaq{a1:(List ze)}{a2:(List ze)}{r:Bool}(H:Zx a1 a2=some r):Fn Tryz.prog 95 (lent [(.sl 2 (List.map zd a1)),(.sl 2 (List.map zd a2))]) true [(.bool r)]:=by
 refine f95 (fle rfl) ?_
 rw[zx]
 refine AW.weaken (zg [] (kv 0 (.one (.d (.sl 2 (List.map zd a1)))) rfl rfl (kv 1 (.one (.d (.sl 2 (List.map zd a2)))) rfl rfl SL.nil)) BL.nil BK.nil) ?_
 unfold Zx at H
 unfold i95
 refine aV (za eC (xQ (aS (aV (za rfl (zX eZ (n:=a1.length) lm (za rfl (zX eZ (n:=a2.length) lm (ZO rfl eZ (xQ ?_))))))))))
 rcases zC H with⟨h3,H⟩|⟨h3,H⟩
 ·refine zi eZ (dT h3) (aV (za eC (xQ (AW.ret (TQ.qr ?_)))))
  cases H
  exact eE rfl rfl
 ·refine zh eZ (dF h3) (AW.skip (TQ.qn (zF (fun t4:Unit=>k8 t4=some r) (fun t4=>mk [] [] noG) ?_ ?_)))
  ·intro t4 H
   unfold k8 at H
   refine aV (za eC (xQ (AW.ret ?_)))
   cases H
   exact eE rfl rfl
  ·refine aV (za eC (xQ (AW.block (AW.iter (fun s6:Int=>mk [(0,(.one (.d (.sl 2 (List.map zd a1))))),(1,(.one (.d (.sl 2 (List.map zd a2))))),(5,(oI s6))] [] noG) H (zg [] (sR rfl rfl) BL.nil BK.nil) ?_))))
   intro kb7 s6 H
   unfold YQ at H
   refine aS (aV (za rfl (za rfl (zX eZ (n:=a1.length) lm (qh rfl eZ (xQ ?_))))))
   rcases zC H with⟨h8,H⟩|⟨h8,H⟩
   ·refine zi eZ (dT h8) (AW.skip (TQ.qn (aS (AW.block (aS (AW.regd (za rfl (za rfl ?_))))))))
    obtain⟨v9,h10,H⟩:=zk H
    refine qy rfl eZ h10 (qf (es:=[(dI v9.Lo),(dI v9.Hi)]) eZ rfl (za rfl (za rfl ?_)))
    obtain⟨v11,h12,H⟩:=zk H
    refine qy rfl eZ h12 (qf (es:=[(dI v11.Lo),(dI v11.Hi)]) eZ rfl ?_)
    obtain⟨v13,h14,H⟩:=zk H
    refine zD (u:=(oB v13)) eC Cl.fn (zeF h14) (Ec rfl (Ec eZ En)) (Vc (VD.agg rfl) (Vc (VD.agg rfl) Vn)) rfl (qG eZ (xQ (AW.weaken (zg [] (kr 26 rfl rfl (kr 0 rfl rfl (kr 1 rfl rfl (kr 5 rfl rfl SL.nil)))) BL.nil BK.nil) ?_)))
    rcases zC H with⟨h15,H⟩|⟨h15,H⟩
    ·exact zh eZ (cN h15) (AW.skip (BQ.qn (TQ.qn (aR (za rfl (qj eZ eC (za eZ (zm (TQ.qn ⟨(IntKind.wrap .i64 (s6+1)),H,(zg [] (sR rfl rfl) BL.nil BK.nil)⟩)))))))))
    ·refine zi eZ (cN (nt h15)) (aV (za eC (xQ (AW.ret (BQ.qr (TQ.qr (TQ.qr (BQ.qr (TQ.qr ?_)))))))))
     cases H
     exact eE rfl rfl
   ·exact zh eZ (dF h8) (AW.exit (TQ.qe (TQ.qe (BQ.qe (TQ.qn ⟨(),H,(zg [] SL.nil BL.nil BK.nil)⟩)))))
theorem zfA{a1:zu}{a2:zu}{r:Bool}(H:Y6 a1 a2=some r):Fn Tryz.prog 146 (lent [(.agg (zj a1)),(.agg (zj a2))]) true [(.bool r)]:=by
 refine zE7 (fle rfl) ?_
 rw[zx]
 refine AW.weaken (zg [] (kv 0 (.agg [(dI a1.Key),(dI a1.Value)]) rfl rfl (kv 1 (.agg [(dI a2.Key),(dI a2.Value)]) rfl rfl SL.nil)) BL.nil BK.nil) ?_
 unfold Y6 at H
 unfold zxe
 refine aV (jh (n:=128) (m:=2) (cs:=[(dI a1.Key),(dI a1.Value)]) rfl eZ rfl rfl nZ (jh (n:=192) (m:=2) (cs:=[(dI a2.Key),(dI a2.Value)]) rfl rfl rfl rfl (nR rfl) (za eC (xQ (aS (aV (zf (m:=0) rfl rfl (zl (q:=0) (c:=(dI a1.Key)) eZ (bR rfl) rfl rfl (zf (m:=0) rfl rfl (zl (q:=0) (c:=(dI a2.Key)) eZ bZ rfl rfl (ZO rfl eZ (xQ ?_))))))))))))
 rcases zC H with⟨h3,H⟩|⟨h3,H⟩
 ·refine zi eZ (dT h3) (aV (za eC (xQ (AW.ret (TQ.qr ?_)))))
  cases H
  exact eE rfl rfl
 ·refine zh eZ (dF h3) (AW.skip (TQ.qn (aS (aV (zf (m:=1) rfl rfl (zl (q:=1) (c:=(dI a1.Value)) eZ (bR rfl) rfl rfl (zf (m:=1) rfl rfl (zl (q:=1) (c:=(dI a2.Value)) eZ bZ rfl rfl (ZO rfl eZ (xQ ?_))))))))))
  rcases zC H with⟨h4,H⟩|⟨h4,H⟩
  ·refine zi eZ (dT h4) (aV (za eC (xQ (AW.weaken (zg [192,128] (kr 4 rfl rfl SL.nil) (blR rfl) BK.nil) (AW.ret (TQ.qr ?_))))))
   cases H
   exact eE rfl rfl
  ·refine zh eZ (dF h4) (AW.skip (TQ.qn (aV (za eC (xQ (AW.weaken (zg [192,128] (kr 4 rfl rfl SL.nil) (blR rfl) BK.nil) (AW.ret ?_)))))))
   cases H
   exact eE rfl rfl
theorem zer{a1:(List zu)}{a2:(List zu)}{r:Bool}(H:Ya a1 a2=some r):Fn Tryz.prog 32 (lent [(.sl 2 (List.map zj a1)),(.sl 2 (List.map zj a2))]) true [(.bool r)]:=by
 refine f32 (fle rfl) ?_
 rw[zx]
 refine AW.weaken (zg [] (kv 0 (.one (.d (.sl 2 (List.map zj a1)))) rfl rfl (kv 1 (.one (.d (.sl 2 (List.map zj a2)))) rfl rfl SL.nil)) BL.nil BK.nil) ?_
 unfold Ya at H
 unfold i32
 refine aV (za eC (xQ (aS (aV (za rfl (zX eZ (n:=a1.length) lm (za rfl (zX eZ (n:=a2.length) lm (ZO rfl eZ (xQ ?_))))))))))
 rcases zC H with⟨h3,H⟩|⟨h3,H⟩
 ·refine zi eZ (dT h3) (aV (za eC (xQ (AW.ret (TQ.qr ?_)))))
  cases H
  exact eE rfl rfl
 ·refine zh eZ (dF h3) (AW.skip (TQ.qn (zF (fun t4:Unit=>XJ t4=some r) (fun t4=>mk [] [] noG) ?_ ?_)))
  ·intro t4 H
   unfold XJ at H
   refine aV (za eC (xQ (AW.ret ?_)))
   cases H
   exact eE rfl rfl
  ·refine aV (za eC (xQ (AW.block (AW.iter (fun s6:Int=>mk [(0,(.one (.d (.sl 2 (List.map zj a1))))),(1,(.one (.d (.sl 2 (List.map zj a2))))),(5,(oI s6))] [] noG) H (zg [] (sR rfl rfl) BL.nil BK.nil) ?_))))
   intro kb7 s6 H
   unfold xo at H
   refine aS (aV (za rfl (za rfl (zX eZ (n:=a1.length) lm (qh rfl eZ (xQ ?_))))))
   rcases zC H with⟨h8,H⟩|⟨h8,H⟩
   ·refine zi eZ (dT h8) (AW.skip (TQ.qn (aS (AW.block (aS (AW.regd (za rfl (za rfl ?_))))))))
    obtain⟨v9,h10,H⟩:=zk H
    refine qy rfl eZ h10 (qf (es:=[(dI v9.Key),(dI v9.Value)]) eZ rfl (za rfl (za rfl ?_)))
    obtain⟨v11,h12,H⟩:=zk H
    refine qy rfl eZ h12 (qf (es:=[(dI v11.Key),(dI v11.Value)]) eZ rfl ?_)
    obtain⟨v13,h14,H⟩:=zk H
    refine zD (u:=(oB v13)) eC Cl.fn (zfA h14) (Ec rfl (Ec eZ En)) (Vc (VD.agg rfl) (Vc (VD.agg rfl) Vn)) rfl (qG eZ (xQ (AW.weaken (zg [] (kr 26 rfl rfl (kr 0 rfl rfl (kr 1 rfl rfl (kr 5 rfl rfl SL.nil)))) BL.nil BK.nil) ?_)))
    rcases zC H with⟨h15,H⟩|⟨h15,H⟩
    ·exact zh eZ (cN h15) (AW.skip (BQ.qn (TQ.qn (aR (za rfl (qj eZ eC (za eZ (zm (TQ.qn ⟨(IntKind.wrap .i64 (s6+1)),H,(zg [] (sR rfl rfl) BL.nil BK.nil)⟩)))))))))
    ·refine zi eZ (cN (nt h15)) (aV (za eC (xQ (AW.ret (BQ.qr (TQ.qr (TQ.qr (BQ.qr (TQ.qr ?_)))))))))
     cases H
     exact eE rfl rfl
   ·exact zh eZ (dF h8) (AW.exit (TQ.qe (TQ.qe (BQ.qe (TQ.qn ⟨(),H,(zg [] SL.nil BL.nil BK.nil)⟩)))))
theorem zfC{a1:zK}{a2:zK}{r:Bool}(H:Y4 a1 a2=some r):Fn Tryz.prog 210 (lent [(.agg (zp a1)),(.agg (zp a2))]) true [(.bool r)]:=by
 refine zFA (fle rfl) ?_
 rw[zx]
 refine AW.weaken (zg [] (kv 0 (.agg (qo a1)) rfl rfl (kv 1 (.agg (qo a2)) rfl rfl SL.nil)) BL.nil BK.nil) ?_
 unfold Y4 at H
 unfold zAo
 refine aV (jh (n:=128) (m:=4) (cs:=(qo a1)) rfl eZ rfl rfl nZ (jh (n:=192) (m:=4) (cs:=(qo a2)) rfl rfl rfl rfl (nR rfl) (za eC (xQ (aS (aV (zf (m:=0) rfl rfl (zl (q:=0) (c:=(dI a1.Tx)) eZ (bR rfl) rfl rfl (zf (m:=0) rfl rfl (zl (q:=0) (c:=(dI a2.Tx)) eZ bZ rfl rfl (ZO rfl eZ (xQ ?_))))))))))))
 rcases zC H with⟨h3,H⟩|⟨h3,H⟩
 ·refine zi eZ (dT h3) (aV (za eC (xQ (AW.ret (TQ.qr ?_)))))
  cases H
  exact eE rfl rfl
 ·refine zh eZ (dF h3) (AW.skip (TQ.qn (aS (aV (zf (m:=1) rfl rfl (zl (q:=1) (c:=(dI a1.Lo)) eZ (bR rfl) rfl rfl (zf (m:=1) rfl rfl (zl (q:=1) (c:=(dI a2.Lo)) eZ bZ rfl rfl (ZO rfl eZ (xQ ?_))))))))))
  rcases zC H with⟨h4,H⟩|⟨h4,H⟩
  ·refine zi eZ (dT h4) (aV (za eC (xQ (AW.weaken (zg [192,128] (kr 4 rfl rfl SL.nil) (blR rfl) BK.nil) (AW.ret (TQ.qr ?_))))))
   cases H
   exact eE rfl rfl
  ·refine zh eZ (dF h4) (AW.skip (TQ.qn (aS (aV (zf (m:=2) rfl rfl (zl (q:=2) (c:=(dI a1.Hi)) eZ (bR rfl) rfl rfl (zf (m:=2) rfl rfl (zl (q:=2) (c:=(dI a2.Hi)) eZ bZ rfl rfl (ZO rfl eZ (xQ (AW.weaken (zg [] (kr 19 rfl rfl (kr 3 rfl rfl (kr 2 rfl rfl SL.nil))) (blR rfl) (BK.cons (n:=192) rfl bZ rfl rfl (BK.cons (n:=128) rfl (bR rfl) rfl rfl BK.nil))) ?_)))))))))))
   rcases zC H with⟨h5,H⟩|⟨h5,H⟩
   ·refine zi eZ (dT h5) (aV (za eC (xQ (AW.ret (TQ.qr ?_)))))
    cases H
    exact eE rfl rfl
   ·refine zh eZ (dF h5) (AW.skip (TQ.qn (aS (aV (zf (m:=3) rfl rfl (zl (q:=3) (c:=(dI a1.Mode)) eZ (bR rfl) rfl rfl (zf (m:=3) rfl rfl (zl (q:=3) (c:=(dI a2.Mode)) eZ bZ rfl rfl (ZO rfl eZ (xQ ?_))))))))))
    rcases zC H with⟨h6,H⟩|⟨h6,H⟩
    ·refine zi eZ (dT h6) (aV (za eC (xQ (AW.ret (TQ.qr ?_)))))
     cases H
     exact eE rfl rfl
    ·refine zh eZ (dF h6) (AW.skip (TQ.qn (aV (za eC (xQ (AW.ret ?_))))))
     cases H
     exact eE rfl rfl
theorem zeG{a1:(List zK)}{a2:(List zK)}{r:Bool}(H:JL a1 a2=some r):Fn Tryz.prog 96 (lent [(.sl 4 (List.map zp a1)),(.sl 4 (List.map zp a2))]) true [(.bool r)]:=by
 refine f96 (fle rfl) ?_
 rw[zx]
 refine AW.weaken (zg [] (kv 0 (.one (.d (.sl 4 (List.map zp a1)))) rfl rfl (kv 1 (.one (.d (.sl 4 (List.map zp a2)))) rfl rfl SL.nil)) BL.nil BK.nil) ?_
 unfold JL at H
 unfold i96
 refine aV (za eC (xQ (aS (aV (za rfl (zX eZ (n:=a1.length) lm (za rfl (zX eZ (n:=a2.length) lm (ZO rfl eZ (xQ ?_))))))))))
 rcases zC H with⟨h3,H⟩|⟨h3,H⟩
 ·refine zi eZ (dT h3) (aV (za eC (xQ (AW.ret (TQ.qr ?_)))))
  cases H
  exact eE rfl rfl
 ·refine zh eZ (dF h3) (AW.skip (TQ.qn (zF (fun t4:Unit=>XF t4=some r) (fun t4=>mk [] [] noG) ?_ ?_)))
  ·intro t4 H
   unfold XF at H
   refine aV (za eC (xQ (AW.ret ?_)))
   cases H
   exact eE rfl rfl
  ·refine aV (za eC (xQ (AW.block (AW.iter (fun s6:Int=>mk [(0,(.one (.d (.sl 4 (List.map zp a1))))),(1,(.one (.d (.sl 4 (List.map zp a2))))),(5,(oI s6))] [] noG) H (zg [] (sR rfl rfl) BL.nil BK.nil) ?_))))
   intro kb7 s6 H
   unfold xk at H
   refine aS (aV (za rfl (za rfl (zX eZ (n:=a1.length) lm (qh rfl eZ (xQ ?_))))))
   rcases zC H with⟨h8,H⟩|⟨h8,H⟩
   ·refine zi eZ (dT h8) (AW.skip (TQ.qn (aS (AW.block (aS (AW.regd (za rfl (za rfl ?_))))))))
    obtain⟨v9,h10,H⟩:=zk H
    refine qy rfl eZ h10 (qf (es:=(qo v9)) eZ rfl (za rfl (za rfl ?_)))
    obtain⟨v11,h12,H⟩:=zk H
    refine qy rfl eZ h12 (qf (es:=(qo v11)) eZ rfl ?_)
    obtain⟨v13,h14,H⟩:=zk H
    refine zD (u:=(oB v13)) eC Cl.fn (zfC h14) (Ec rfl (Ec eZ En)) (Vc (VD.agg rfl) (Vc (VD.agg rfl) Vn)) rfl (qG eZ (xQ (AW.weaken (zg [] (kr 26 rfl rfl (kr 0 rfl rfl (kr 1 rfl rfl (kr 5 rfl rfl SL.nil)))) BL.nil BK.nil) ?_)))
    rcases zC H with⟨h15,H⟩|⟨h15,H⟩
    ·exact zh eZ (cN h15) (AW.skip (BQ.qn (TQ.qn (aR (za rfl (qj eZ eC (za eZ (zm (TQ.qn ⟨(IntKind.wrap .i64 (s6+1)),H,(zg [] (sR rfl rfl) BL.nil BK.nil)⟩)))))))))
    ·refine zi eZ (cN (nt h15)) (aV (za eC (xQ (AW.ret (BQ.qr (TQ.qr (TQ.qr (BQ.qr (TQ.qr ?_)))))))))
     cases H
     exact eE rfl rfl
   ·exact zh eZ (dF h8) (AW.exit (TQ.qe (TQ.qe (BQ.qe (TQ.qn ⟨(),H,(zg [] SL.nil BL.nil BK.nil)⟩)))))
theorem ze2{a1:zu}{a2:zu}{r:Bool}(H:JY a1 a2=some r):Fn Tryz.prog 345 (lent [(.agg (zj a1)),(.agg (zj a2))]) true [(.bool r)]:=by
 refine zFi (fle rfl) ?_
 rw[zx]
 refine AW.weaken (zg [] (kv 0 (.agg [(dI a1.Key),(dI a1.Value)]) rfl rfl (kv 1 (.agg [(dI a2.Key),(dI a2.Value)]) rfl rfl SL.nil)) BL.nil BK.nil) ?_
 unfold JY at H
 unfold zzo
 refine aV (jh (n:=128) (m:=2) (cs:=[(dI a1.Key),(dI a1.Value)]) rfl eZ rfl rfl nZ (jh (n:=192) (m:=2) (cs:=[(dI a2.Key),(dI a2.Value)]) rfl rfl rfl rfl (nR rfl) (za eC (xQ (aS (aV (zf (m:=0) rfl rfl (zl (q:=0) (c:=(dI a1.Key)) eZ (bR rfl) rfl rfl (zf (m:=0) rfl rfl (zl (q:=0) (c:=(dI a2.Key)) eZ bZ rfl rfl (ZO rfl eZ (xQ ?_))))))))))))
 rcases zC H with⟨h3,H⟩|⟨h3,H⟩
 ·refine zi eZ (dT h3) (aV (za eC (xQ (AW.ret (TQ.qr ?_)))))
  cases H
  exact eE rfl rfl
 ·refine zh eZ (dF h3) (AW.skip (TQ.qn (aS (aV (zf (m:=1) rfl rfl (zl (q:=1) (c:=(dI a1.Value)) eZ (bR rfl) rfl rfl (zf (m:=1) rfl rfl (zl (q:=1) (c:=(dI a2.Value)) eZ bZ rfl rfl (ZO rfl eZ (xQ ?_))))))))))
  rcases zC H with⟨h4,H⟩|⟨h4,H⟩
  ·refine zi eZ (dT h4) (aV (za eC (xQ (AW.weaken (zg [192,128] (kr 4 rfl rfl SL.nil) (blR rfl) BK.nil) (AW.ret (TQ.qr ?_))))))
   cases H
   exact eE rfl rfl
  ·refine zh eZ (dF h4) (AW.skip (TQ.qn (aV (za eC (xQ (AW.weaken (zg [192,128] (kr 4 rfl rfl SL.nil) (blR rfl) BK.nil) (AW.ret ?_)))))))
   cases H
   exact eE rfl rfl
theorem zd6{a1:(List zu)}{a2:(List zu)}{r:Bool}(H:QP a1 a2=some r):Fn Tryz.prog 289 (lent [(.sl 2 (List.map zj a1)),(.sl 2 (List.map zj a2))]) true [(.bool r)]:=by
 refine zFd (fle rfl) ?_
 rw[zx]
 refine AW.weaken (zg [] (kv 0 (.one (.d (.sl 2 (List.map zj a1)))) rfl rfl (kv 1 (.one (.d (.sl 2 (List.map zj a2)))) rfl rfl SL.nil)) BL.nil BK.nil) ?_
 unfold QP at H
 unfold zAk
 refine aV (za eC (xQ (aS (aV (za rfl (zX eZ (n:=a1.length) lm (za rfl (zX eZ (n:=a2.length) lm (ZO rfl eZ (xQ ?_))))))))))
 rcases zC H with⟨h3,H⟩|⟨h3,H⟩
 ·refine zi eZ (dT h3) (aV (za eC (xQ (AW.ret (TQ.qr ?_)))))
  cases H
  exact eE rfl rfl
 ·refine zh eZ (dF h3) (AW.skip (TQ.qn (zF (fun t4:Unit=>k9 t4=some r) (fun t4=>mk [] [] noG) ?_ ?_)))
  ·intro t4 H
   unfold k9 at H
   refine aV (za eC (xQ (AW.ret ?_)))
   cases H
   exact eE rfl rfl
  ·refine aV (za eC (xQ (AW.block (AW.iter (fun s6:Int=>mk [(0,(.one (.d (.sl 2 (List.map zj a1))))),(1,(.one (.d (.sl 2 (List.map zj a2))))),(5,(oI s6))] [] noG) H (zg [] (sR rfl rfl) BL.nil BK.nil) ?_))))
   intro kb7 s6 H
   unfold YH at H
   refine aS (aV (za rfl (za rfl (zX eZ (n:=a1.length) lm (qh rfl eZ (xQ ?_))))))
   rcases zC H with⟨h8,H⟩|⟨h8,H⟩
   ·refine zi eZ (dT h8) (AW.skip (TQ.qn (aS (AW.block (aS (AW.regd (za rfl (za rfl ?_))))))))
    obtain⟨v9,h10,H⟩:=zk H
    refine qy rfl eZ h10 (qf (es:=[(dI v9.Key),(dI v9.Value)]) eZ rfl (za rfl (za rfl ?_)))
    obtain⟨v11,h12,H⟩:=zk H
    refine qy rfl eZ h12 (qf (es:=[(dI v11.Key),(dI v11.Value)]) eZ rfl ?_)
    obtain⟨v13,h14,H⟩:=zk H
    refine zD (u:=(oB v13)) eC Cl.fn (ze2 h14) (Ec rfl (Ec eZ En)) (Vc (VD.agg rfl) (Vc (VD.agg rfl) Vn)) rfl (qG eZ (xQ (AW.weaken (zg [] (kr 26 rfl rfl (kr 0 rfl rfl (kr 1 rfl rfl (kr 5 rfl rfl SL.nil)))) BL.nil BK.nil) ?_)))
    rcases zC H with⟨h15,H⟩|⟨h15,H⟩
    ·exact zh eZ (cN h15) (AW.skip (BQ.qn (TQ.qn (aR (za rfl (qj eZ eC (za eZ (zm (TQ.qn ⟨(IntKind.wrap .i64 (s6+1)),H,(zg [] (sR rfl rfl) BL.nil BK.nil)⟩)))))))))
    ·refine zi eZ (cN (nt h15)) (aV (za eC (xQ (AW.ret (BQ.qr (TQ.qr (TQ.qr (BQ.qr (TQ.qr ?_)))))))))
     cases H
     exact eE rfl rfl
   ·exact zh eZ (dF h8) (AW.exit (TQ.qe (TQ.qe (BQ.qe (TQ.qn ⟨(),H,(zg [] SL.nil BL.nil BK.nil)⟩)))))
theorem zfB{a1:zL}{a2:zL}{r:Bool}(H:xe a1 a2=some r):Fn Tryz.prog 211 (lent [(.agg (zA a1)),(.agg (zA a2))]) true [(.bool r)]:=by
 refine zEE (fle rfl) ?_
 rw[zx]
 refine AW.weaken (zg [] (kv 0 (.agg (jE a1)) rfl rfl (kv 1 (.agg (jE a2)) rfl rfl SL.nil)) BL.nil BK.nil) ?_
 unfold xe at H
 unfold zAH
 refine aV (jh (n:=128) (m:=2) (cs:=(jE a1)) rfl eZ rfl rfl nZ (jh (n:=192) (m:=2) (cs:=(jE a2)) rfl rfl rfl rfl (nR rfl) (za eC (xQ (aS (aV (zf (m:=0) rfl rfl (zl (q:=0) (c:=(dI a1.Tx)) eZ (bR rfl) rfl rfl (zf (m:=0) rfl rfl (zl (q:=0) (c:=(dI a2.Tx)) eZ bZ rfl rfl (ZO rfl eZ (xQ ?_))))))))))))
 rcases zC H with⟨h3,H⟩|⟨h3,H⟩
 ·refine zi eZ (dT h3) (aV (za eC (xQ (AW.ret (TQ.qr ?_)))))
  cases H
  exact eE rfl rfl
 ·refine zh eZ (dF h3) (AW.skip (TQ.qn (aS (aV (zf (m:=1) rfl rfl (zl (q:=1) (c:=(.d (.sl 2 (List.map zj a1.Writes)))) eZ (bR rfl) rfl rfl (zf (m:=1) rfl rfl (zl (q:=1) (c:=(.d (.sl 2 (List.map zj a2.Writes)))) eZ bZ rfl rfl ?_))))))))
  obtain⟨v4,h5,H⟩:=zk H
  refine zD (u:=(oB v4)) eC Cl.fn (zd6 h5) (Ec rfl (Ec eZ En)) (Vc Vp (Vc Vp Vn)) rfl (qG eZ (xQ (AW.weaken (zg [192,128] (kr 15 rfl rfl SL.nil) (blR rfl) BK.nil) ?_)))
  rcases zC H with⟨h6,H⟩|⟨h6,H⟩
  ·refine zh eZ (cN h6) (AW.skip (TQ.qn (aV (za eC (xQ (AW.ret ?_))))))
   cases H
   exact eE rfl rfl
  ·refine zi eZ (cN (nt h6)) (aV (za eC (xQ (AW.ret (TQ.qr ?_)))))
   cases H
   exact eE rfl rfl
theorem zee{a1:(List zL)}{a2:(List zL)}{r:Bool}(H:J4 a1 a2=some r):Fn Tryz.prog 97 (lent [(.sl 2 (List.map zA a1)),(.sl 2 (List.map zA a2))]) true [(.bool r)]:=by
 refine f97 (fle rfl) ?_
 rw[zx]
 refine AW.weaken (zg [] (kv 0 (.one (.d (.sl 2 (List.map zA a1)))) rfl rfl (kv 1 (.one (.d (.sl 2 (List.map zA a2)))) rfl rfl SL.nil)) BL.nil BK.nil) ?_
 unfold J4 at H
 unfold i97
 refine aV (za eC (xQ (aS (aV (za rfl (zX eZ (n:=a1.length) lm (za rfl (zX eZ (n:=a2.length) lm (ZO rfl eZ (xQ ?_))))))))))
 rcases zC H with⟨h3,H⟩|⟨h3,H⟩
 ·refine zi eZ (dT h3) (aV (za eC (xQ (AW.ret (TQ.qr ?_)))))
  cases H
  exact eE rfl rfl
 ·refine zh eZ (dF h3) (AW.skip (TQ.qn (zF (fun t4:Unit=>XB t4=some r) (fun t4=>mk [] [] noG) ?_ ?_)))
  ·intro t4 H
   unfold XB at H
   refine aV (za eC (xQ (AW.ret ?_)))
   cases H
   exact eE rfl rfl
  ·refine aV (za eC (xQ (AW.block (AW.iter (fun s6:Int=>mk [(0,(.one (.d (.sl 2 (List.map zA a1))))),(1,(.one (.d (.sl 2 (List.map zA a2))))),(5,(oI s6))] [] noG) H (zg [] (sR rfl rfl) BL.nil BK.nil) ?_))))
   intro kb7 s6 H
   unfold xF at H
   refine aS (aV (za rfl (za rfl (zX eZ (n:=a1.length) lm (qh rfl eZ (xQ ?_))))))
   rcases zC H with⟨h8,H⟩|⟨h8,H⟩
   ·refine zi eZ (dT h8) (AW.skip (TQ.qn (aS (AW.block (aS (AW.regd (za rfl (za rfl ?_))))))))
    obtain⟨v9,h10,H⟩:=zk H
    refine qy rfl eZ h10 (qf (es:=(jE v9)) eZ rfl (za rfl (za rfl ?_)))
    obtain⟨v11,h12,H⟩:=zk H
    refine qy rfl eZ h12 (qf (es:=(jE v11)) eZ rfl ?_)
    obtain⟨v13,h14,H⟩:=zk H
    refine zD (u:=(oB v13)) eC Cl.fn (zfB h14) (Ec rfl (Ec eZ En)) (Vc (VD.agg rfl) (Vc (VD.agg rfl) Vn)) rfl (qG eZ (xQ (AW.weaken (zg [] (kr 26 rfl rfl (kr 0 rfl rfl (kr 1 rfl rfl (kr 5 rfl rfl SL.nil)))) BL.nil BK.nil) ?_)))
    rcases zC H with⟨h15,H⟩|⟨h15,H⟩
    ·exact zh eZ (cN h15) (AW.skip (BQ.qn (TQ.qn (aR (za rfl (qj eZ eC (za eZ (zm (TQ.qn ⟨(IntKind.wrap .i64 (s6+1)),H,(zg [] (sR rfl rfl) BL.nil BK.nil)⟩)))))))))
    ·refine zi eZ (cN (nt h15)) (aV (za eC (xQ (AW.ret (BQ.qr (TQ.qr (TQ.qr (BQ.qr (TQ.qr ?_)))))))))
     cases H
     exact eE rfl rfl
   ·exact zh eZ (dF h8) (AW.exit (TQ.qe (TQ.qe (BQ.qe (TQ.qn ⟨(),H,(zg [] SL.nil BL.nil BK.nil)⟩)))))
theorem zbG{a1:(List Int)}{a2:(List Int)}{r:Bool}(H:Q3 a1 a2=some r):Fn Tryz.prog 98 (lent [(.sl 1 (List.map zt a1)),(.sl 1 (List.map zt a2))]) true [(.bool r)]:=by
 refine f98 (fle rfl) ?_
 rw[zx]
 refine AW.weaken (zg [] (kv 0 (.one (.d (.sl 1 (List.map zt a1)))) rfl rfl (kv 1 (.one (.d (.sl 1 (List.map zt a2)))) rfl rfl SL.nil)) BL.nil BK.nil) ?_
 unfold Q3 at H
 unfold i98
 refine aV (za eC (xQ (aS (aV (za rfl (zX eZ (n:=a1.length) lm (za rfl (zX eZ (n:=a2.length) lm (ZO rfl eZ (xQ ?_))))))))))
 rcases zC H with⟨h3,H⟩|⟨h3,H⟩
 ·refine zi eZ (dT h3) (aV (za eC (xQ (AW.ret (TQ.qr ?_)))))
  cases H
  exact eE rfl rfl
 ·refine zh eZ (dF h3) (AW.skip (TQ.qn (zF (fun t4:Unit=>X2 t4=some r) (fun t4=>mk [] [] noG) ?_ ?_)))
  ·intro t4 H
   unfold X2 at H
   refine aV (za eC (xQ (AW.ret ?_)))
   cases H
   exact eE rfl rfl
  ·refine aV (za eC (xQ (AW.block (AW.iter (fun s6:Int=>mk [(0,(.one (.d (.sl 1 (List.map zt a1))))),(1,(.one (.d (.sl 1 (List.map zt a2))))),(5,(oI s6))] [] noG) H (zg [] (sR rfl rfl) BL.nil BK.nil) ?_))))
   intro kb7 s6 H
   unfold kI at H
   refine aS (aV (za rfl (za rfl (zX eZ (n:=a1.length) lm (qh rfl eZ (xQ ?_))))))
   rcases zC H with⟨h8,H⟩|⟨h8,H⟩
   ·refine zi eZ (dT h8) (AW.skip (TQ.qn (aS (AW.block (aS (AW.regd (za rfl (za rfl ?_))))))))
    obtain⟨v9,h10,H⟩:=zk H
    refine qy rfl eZ h10 (zY (e:=(.int .i64 v9)) eZ rfl (za rfl (za rfl ?_)))
    obtain⟨v11,h12,H⟩:=zk H
    refine qy rfl eZ h12 (zY (e:=(.int .i64 v11)) eZ rfl (ZO rfl eZ (xQ (AW.weaken (zg [] (kr 25 rfl rfl (kr 0 rfl rfl (kr 1 rfl rfl (kr 5 rfl rfl SL.nil)))) BL.nil BK.nil) ?_))))
    rcases zC H with⟨h13,H⟩|⟨h13,H⟩
    ·refine zi eZ (dT h13) (aV (za eC (xQ (AW.ret (BQ.qr (TQ.qr (TQ.qr (BQ.qr (TQ.qr ?_)))))))))
     cases H
     exact eE rfl rfl
    ·exact zh eZ (dF h13) (AW.skip (BQ.qn (TQ.qn (aR (za rfl (qj eZ eC (za eZ (zm (TQ.qn ⟨(IntKind.wrap .i64 (s6+1)),H,(zg [] (sR rfl rfl) BL.nil BK.nil)⟩)))))))))
   ·exact zh eZ (dF h8) (AW.exit (TQ.qe (TQ.qe (BQ.qe (TQ.qn ⟨(),H,(zg [] SL.nil BL.nil BK.nil)⟩)))))
theorem ky{a1:zn}{a2:zn}{r:Bool}(H:yA a1 a2=some r):Fn Tryz.prog 23 (lent [(.agg (zR a1)),(.agg (zR a2))]) true [(.bool r)]:=by
 refine f23 (fle rfl) ?_
 rw[zx]
 refine AW.weaken (zg [] (kv 0 (.agg (zE a1)) rfl rfl (kv 1 (.agg (zE a2)) rfl rfl SL.nil)) BL.nil BK.nil) ?_
 unfold yA at H
 unfold i23
 refine aV (jh (n:=128) (m:=9) (cs:=(zE a1)) rfl eZ rfl rfl nZ (jh (n:=192) (m:=9) (cs:=(zE a2)) rfl rfl rfl rfl (nR rfl) (za eC (xQ (aS (aV (zf (m:=0) rfl rfl (zl (q:=0) (c:=(dI a1.Me)) eZ (bR rfl) rfl rfl (zf (m:=0) rfl rfl (zl (q:=0) (c:=(dI a2.Me)) eZ bZ rfl rfl (ZO rfl eZ (xQ ?_))))))))))))
 rcases zC H with⟨h3,H⟩|⟨h3,H⟩
 ·refine zi eZ (dT h3) (aV (za eC (xQ (AW.ret (TQ.qr ?_)))))
  cases H
  exact eE rfl rfl
 ·refine zh eZ (dF h3) (AW.skip (TQ.qn (aS (aV (zf (m:=1) rfl rfl (zl (q:=1) (c:=(.d (.sl 2 (List.map zd a1.Own)))) eZ (bR rfl) rfl rfl (zf (m:=1) rfl rfl (zl (q:=1) (c:=(.d (.sl 2 (List.map zd a2.Own)))) eZ bZ rfl rfl ?_))))))))
  obtain⟨v4,h5,H⟩:=zk H
  refine zD (u:=(oB v4)) eC Cl.fn (zaq h5) (Ec rfl (Ec eZ En)) (Vc Vp (Vc Vp Vn)) rfl (qG eZ (xQ (AW.weaken (zg [] (kr 15 rfl rfl (kr 3 rfl rfl (kr 2 rfl rfl SL.nil))) (blR rfl) (BK.cons (n:=192) rfl bZ rfl rfl (BK.cons (n:=128) rfl (bR rfl) rfl rfl BK.nil))) ?_)))
  rcases zC H with⟨h6,H⟩|⟨h6,H⟩
  ·refine zh eZ (cN h6) (AW.skip (TQ.qn (aS (aV (zf (m:=2) rfl rfl (zl (q:=2) (c:=(.d (.sl 2 (List.map zd a1.Frozen)))) eZ (bR rfl) rfl rfl (zf (m:=2) rfl rfl (zl (q:=2) (c:=(.d (.sl 2 (List.map zd a2.Frozen)))) eZ bZ rfl rfl ?_))))))))
   obtain⟨v7,h8,H⟩:=zk H
   refine zD (u:=(oB v7)) eC Cl.fn (zaq h8) (Ec rfl (Ec eZ En)) (Vc Vp (Vc Vp Vn)) rfl (qG eZ (xQ ?_))
   rcases zC H with⟨h9,H⟩|⟨h9,H⟩
   ·refine zh eZ (cN h9) (AW.skip (TQ.qn (aS (aV (zf (m:=3) rfl rfl (zl (q:=3) (c:=(.d (.sl 2 (List.map zj a1.Cells)))) eZ (bR rfl) rfl rfl (zf (m:=3) rfl rfl (zl (q:=3) (c:=(.d (.sl 2 (List.map zj a2.Cells)))) eZ bZ rfl rfl ?_))))))))
    obtain⟨v10,h11,H⟩:=zk H
    refine zD (u:=(oB v10)) eC Cl.fn (zer h11) (Ec rfl (Ec eZ En)) (Vc Vp (Vc Vp Vn)) rfl (qG eZ (xQ ?_))
    rcases zC H with⟨h12,H⟩|⟨h12,H⟩
    ·refine zh eZ (cN h12) (AW.skip (TQ.qn (aS (aV (zf (m:=4) rfl rfl (zl (q:=4) (c:=(.d (.sl 4 (List.map zp a1.Locks)))) eZ (bR rfl) rfl rfl (zf (m:=4) rfl rfl (zl (q:=4) (c:=(.d (.sl 4 (List.map zp a2.Locks)))) eZ bZ rfl rfl ?_))))))))
     obtain⟨v13,h14,H⟩:=zk H
     refine zD (u:=(oB v13)) eC Cl.fn (zeG h14) (Ec rfl (Ec eZ En)) (Vc Vp (Vc Vp Vn)) rfl (qG eZ (xQ (AW.weaken (zg [] (kr 33 rfl rfl (kr 3 rfl rfl (kr 2 rfl rfl SL.nil))) (blR rfl) (BK.cons (n:=192) rfl bZ rfl rfl (BK.cons (n:=128) rfl (bR rfl) rfl rfl BK.nil))) ?_)))
     rcases zC H with⟨h15,H⟩|⟨h15,H⟩
     ·refine zh eZ (cN h15) (AW.skip (TQ.qn (aS (aV (zf (m:=5) rfl rfl (zl (q:=5) (c:=(.d (.sl 2 (List.map zA a1.Helds)))) eZ (bR rfl) rfl rfl (zf (m:=5) rfl rfl (zl (q:=5) (c:=(.d (.sl 2 (List.map zA a2.Helds)))) eZ bZ rfl rfl ?_))))))))
      obtain⟨v16,h17,H⟩:=zk H
      refine zD (u:=(oB v16)) eC Cl.fn (zee h17) (Ec rfl (Ec eZ En)) (Vc Vp (Vc Vp Vn)) rfl (qG eZ (xQ ?_))
      rcases zC H with⟨h18,H⟩|⟨h18,H⟩
      ·refine zh eZ (cN h18) (AW.skip (TQ.qn (aS (aV (zf (m:=6) rfl rfl (zl (q:=6) (c:=(.d (.sl 1 (List.map zt a1.Wounded)))) eZ (bR rfl) rfl rfl (zf (m:=6) rfl rfl (zl (q:=6) (c:=(.d (.sl 1 (List.map zt a2.Wounded)))) eZ bZ rfl rfl ?_))))))))
       obtain⟨v19,h20,H⟩:=zk H
       refine zD (u:=(oB v19)) eC Cl.fn (zbG h20) (Ec rfl (Ec eZ En)) (Vc Vp (Vc Vp Vn)) rfl (qG eZ (xQ ?_))
       rcases zC H with⟨h21,H⟩|⟨h21,H⟩
       ·refine zh eZ (cN h21) (AW.skip (TQ.qn (aS (aV (zf (m:=7) rfl rfl (zl (q:=7) (c:=(.d (.sl 1 (List.map zt a1.Ended)))) eZ (bR rfl) rfl rfl (zf (m:=7) rfl rfl (zl (q:=7) (c:=(.d (.sl 1 (List.map zt a2.Ended)))) eZ bZ rfl rfl ?_))))))))
        obtain⟨v22,h23,H⟩:=zk H
        refine zD (u:=(oB v22)) eC Cl.fn (zbG h23) (Ec rfl (Ec eZ En)) (Vc Vp (Vc Vp Vn)) rfl (qG eZ (xQ (AW.weaken (zg [] (kr 51 rfl rfl (kr 3 rfl rfl (kr 2 rfl rfl SL.nil))) (blR rfl) (BK.cons (n:=192) rfl bZ rfl rfl (BK.cons (n:=128) rfl (bR rfl) rfl rfl BK.nil))) ?_)))
        rcases zC H with⟨h24,H⟩|⟨h24,H⟩
        ·refine zh eZ (cN h24) (AW.skip (TQ.qn (aS (aV (zf (m:=8) rfl rfl (zl (q:=8) (c:=(dI a1.Rank)) eZ (bR rfl) rfl rfl (zf (m:=8) rfl rfl (zl (q:=8) (c:=(dI a2.Rank)) eZ bZ rfl rfl (ZO rfl eZ (xQ ?_))))))))))
         rcases zC H with⟨h25,H⟩|⟨h25,H⟩
         ·refine zi eZ (dT h25) (aV (za eC (xQ (AW.ret (TQ.qr ?_)))))
          cases H
          exact eE rfl rfl
         ·refine zh eZ (dF h25) (AW.skip (TQ.qn (aV (za eC (xQ (AW.ret ?_))))))
          cases H
          exact eE rfl rfl
        ·refine zi eZ (cN (nt h24)) (aV (za eC (xQ (AW.ret (TQ.qr ?_)))))
         cases H
         exact eE rfl rfl
       ·refine zi eZ (cN (nt h21)) (aV (za eC (xQ (AW.weaken (zg [192,128] (kr 4 rfl rfl SL.nil) (blR rfl) BK.nil) (AW.ret (TQ.qr ?_))))))
        cases H
        exact eE rfl rfl
      ·refine zi eZ (cN (nt h18)) (aV (za eC (xQ (AW.ret (TQ.qr ?_)))))
       cases H
       exact eE rfl rfl
     ·refine zi eZ (cN (nt h15)) (aV (za eC (xQ (AW.ret (TQ.qr ?_)))))
      cases H
      exact eE rfl rfl
    ·refine zi eZ (cN (nt h12)) (aV (za eC (xQ (AW.weaken (zg [192,128] (kr 4 rfl rfl SL.nil) (blR rfl) BK.nil) (AW.ret (TQ.qr ?_))))))
     cases H
     exact eE rfl rfl
   ·refine zi eZ (cN (nt h9)) (aV (za eC (xQ (AW.ret (TQ.qr ?_)))))
    cases H
    exact eE rfl rfl
  ·refine zi eZ (cN (nt h6)) (aV (za eC (xQ (AW.ret (TQ.qr ?_)))))
   cases H
   exact eE rfl rfl
theorem Kr{a1:(List ze)}{a2:Int}{r:(Int×(List ze))}(H:jP a1 a2=some r):Fn Tryz.prog 99 [⟨(.sl 2 (List.map zd a1)),.m (.sl 2 (List.map zd r.2))⟩,⟨(.int .i64 a2),.b⟩] true [(.int .i64 r.1)]:=by
 refine m99 (fle rfl) (fC nZ rfl fN) rfl ?_
 rw[Kf]
 refine AW.weaken (t:=mk [(0,(.one (.sl 0 0 a1.length))),(1,(oI a2))] [(0,(.data 2 (List.map zd a1) true none))] (lk [(0,(.one (.sl 0 0 ((List.map zd a1).length))))])) (zM (gl:=[(0,(.one (.sl 0 0 ((List.map zd a1).length))))]) [] (SL.cons (v:=(.one (.sl 0 0 a1.length))) eZ rfl (VWk.one (CWk.len lm)) (kv 1 (oI a2) rfl rfl SL.nil)) (blR rfl) (BK.cons (n:=0) rfl bZ rfl rfl BK.nil) (GK.cons rfl GK.nil)) ?_
 unfold jP at H
 unfold i99
 refine aV (za eC (xQ (zF (fun t3:((List ze)×Int)=>(QM a1) t3=some r) (fun t3=>mk [(1,(oI t3.2))] [(0,(.data 2 (List.map zd t3.1) true none))] (lk [(0,(.one (.sl 0 0 ((List.map zd a1).length))))])) ?_ ?_)))
 ·intro t3 H
  unfold QM at H
  refine aV (za eZ (za eZ (xQ (AW.ret ?_))))
  obtain⟨h5,H⟩:=qa H
  cases H
  exact zbY (RL.cons (RV.tmp eZ) (VO.flat rfl) RL.nil) (ML.mut eZ (VO.sl bZ (by first|(simp;done)|(simp;omega)|omega|(simp only[List.length_map];omega)) (zy fun _=>rfl)) (ML.lent ML.nil)) (by decide)
 ·refine aV (za eC (xQ (AW.block (AW.iter (fun s6:((List ze)×Int×Int)=>mk [(0,(.one (.sl 0 0 s6.1.length))),(1,(oI s6.2.1)),(5,(oI s6.2.2))] [(0,(.data 2 (List.map zd s6.1) true none))] (lk [(0,(.one (.sl 0 0 ((List.map zd a1).length))))])) H (zM [] (sR rfl rfl) (blR rfl) (bkR rfl rfl rfl) (GK.cons rfl GK.nil)) ?_))))
  intro kb7 s6 H
  unfold Qu at H
  refine aS (aV (za rfl (za rfl (zbL eZ (qh rfl eZ (xQ ?_))))))
  rcases zC H with⟨h8,H⟩|⟨h8,H⟩
  ·refine zi eZ (dT h8) (AW.skip (TQ.qn (aS (AW.block (aV (za rfl (za rfl (za rfl ?_))))))))
   obtain⟨v9,h10,H⟩:=zk H
   refine Xt rfl rfl bZ rfl h10 (zf (m:=0) eZ rfl (yF (t:=v9) (t':=(ze.mk s6.2.1 v9.Hi)) (es:=[(.int .i64 s6.2.1)]) eZ rfl rfl rfl bZ (yu h10) rfl rfl (xQ (aV (za rfl (qj eZ eC (za eZ (xQ (aV (za rfl (za rfl (za rfl ?_))))))))))))
   obtain⟨v11,h12,H⟩:=zk H
   exact Xt rfl rfl bZ (by first|(simp;done)|(simp;omega)|omega|(simp only[List.length_map];omega)) h12 (zf (m:=1) eZ rfl (yF (t:=v11) (t':=(ze.mk v11.Lo (IntKind.wrap .i64 (s6.2.1+1)))) (es:=[(.int .i64 (IntKind.wrap .i64 (s6.2.1+1)))]) eZ rfl rfl rfl bZ (yu h12) rfl rfl (xQ (AW.weaken (zM [] (kr 1 rfl rfl (kr 0 rfl rfl (kr 5 rfl rfl SL.nil))) (blR rfl) (BK.cons (n:=0) rfl bZ rfl rfl BK.nil) (GK.cons rfl GK.nil)) (aR (za eZ (qj eZ eC (za eZ (zm (BQ.qn (TQ.qn (aR (za rfl (qj eZ eC (za eZ (zm (TQ.qn ⟨((s6.1.set (Int.toNat s6.2.2) (ze.mk s6.2.1 v9.Hi)).set (Int.toNat s6.2.2) (ze.mk v11.Lo (IntKind.wrap .i64 (s6.2.1+1))),(IntKind.wrap .i64 ((IntKind.wrap .i64 (s6.2.1+1))+1)),(IntKind.wrap .i64 (s6.2.2+1))),H,(zM [] (SL.cons rfl rfl (VWk.one (CWk.len (by first|(simp;done)|(simp;omega)|omega|(simp only[List.length_map];omega)))) (sR rfl rfl)) (blR rfl) (bkR rfl rfl rfl) (GK.cons rfl GK.nil))⟩)))))))))))))))))
  ·exact zh eZ (dF h8) (AW.exit (TQ.qe (TQ.qe (BQ.qe (TQ.qn ⟨(s6.1,s6.2.1),H,(zM [] (sR rfl rfl) (blR rfl) (bkR rfl rfl rfl) (GK.cons rfl GK.nil))⟩)))))
theorem zc4{a1:(List zu)}{a2:Int}{r:(Int×(List zu))}(H:Za a1 a2=some r):Fn Tryz.prog 33 [⟨(.sl 2 (List.map zj a1)),.m (.sl 2 (List.map zj r.2))⟩,⟨(.int .i64 a2),.b⟩] true [(.int .i64 r.1)]:=by
 refine m33 (fle rfl) (fC nZ rfl fN) rfl ?_
 rw[Kf]
 refine AW.weaken (t:=mk [(0,(.one (.sl 0 0 a1.length))),(1,(oI a2))] [(0,(.data 2 (List.map zj a1) true none))] (lk [(0,(.one (.sl 0 0 ((List.map zj a1).length))))])) (zM (gl:=[(0,(.one (.sl 0 0 ((List.map zj a1).length))))]) [] (SL.cons (v:=(.one (.sl 0 0 a1.length))) eZ rfl (VWk.one (CWk.len lm)) (kv 1 (oI a2) rfl rfl SL.nil)) (blR rfl) (BK.cons (n:=0) rfl bZ rfl rfl BK.nil) (GK.cons rfl GK.nil)) ?_
 unfold Za at H
 unfold i33
 refine aV (za eC (xQ (zF (fun t3:((List zu)×Int)=>(Jl a1) t3=some r) (fun t3=>mk [(1,(oI t3.2))] [(0,(.data 2 (List.map zj t3.1) true none))] (lk [(0,(.one (.sl 0 0 ((List.map zj a1).length))))])) ?_ ?_)))
 ·intro t3 H
  unfold Jl at H
  refine aV (za eZ (za eZ (xQ (AW.ret ?_))))
  obtain⟨h5,H⟩:=qa H
  cases H
  exact zbY (RL.cons (RV.tmp eZ) (VO.flat rfl) RL.nil) (ML.mut eZ (VO.sl bZ (by first|(simp;done)|(simp;omega)|omega|(simp only[List.length_map];omega)) (zy fun _=>rfl)) (ML.lent ML.nil)) (by decide)
 ·refine aV (za eC (xQ (AW.block (AW.iter (fun s6:((List zu)×Int×Int)=>mk [(0,(.one (.sl 0 0 s6.1.length))),(1,(oI s6.2.1)),(5,(oI s6.2.2))] [(0,(.data 2 (List.map zj s6.1) true none))] (lk [(0,(.one (.sl 0 0 ((List.map zj a1).length))))])) H (zM [] (sR rfl rfl) (blR rfl) (bkR rfl rfl rfl) (GK.cons rfl GK.nil)) ?_))))
  intro kb7 s6 H
  unfold Jc at H
  refine aS (aV (za rfl (za rfl (zbL eZ (qh rfl eZ (xQ ?_))))))
  rcases zC H with⟨h8,H⟩|⟨h8,H⟩
  ·refine zi eZ (dT h8) (AW.skip (TQ.qn (aS (AW.block (aV (za rfl (za rfl (za rfl ?_))))))))
   obtain⟨v9,h10,H⟩:=zk H
   refine Xt rfl rfl bZ rfl h10 (zf (m:=0) eZ rfl (yF (t:=v9) (t':=(zu.mk s6.2.1 v9.Value)) (es:=[(.int .i64 s6.2.1)]) eZ rfl rfl rfl bZ (yu h10) rfl rfl (xQ (aV (za rfl (qj eZ eC (za eZ (xQ (aV (za rfl (za rfl (za rfl ?_))))))))))))
   obtain⟨v11,h12,H⟩:=zk H
   exact Xt rfl rfl bZ (by first|(simp;done)|(simp;omega)|omega|(simp only[List.length_map];omega)) h12 (zf (m:=1) eZ rfl (yF (t:=v11) (t':=(zu.mk v11.Key (IntKind.wrap .i64 (s6.2.1+1)))) (es:=[(.int .i64 (IntKind.wrap .i64 (s6.2.1+1)))]) eZ rfl rfl rfl bZ (yu h12) rfl rfl (xQ (AW.weaken (zM [] (kr 1 rfl rfl (kr 0 rfl rfl (kr 5 rfl rfl SL.nil))) (blR rfl) (BK.cons (n:=0) rfl bZ rfl rfl BK.nil) (GK.cons rfl GK.nil)) (aR (za eZ (qj eZ eC (za eZ (zm (BQ.qn (TQ.qn (aR (za rfl (qj eZ eC (za eZ (zm (TQ.qn ⟨((s6.1.set (Int.toNat s6.2.2) (zu.mk s6.2.1 v9.Value)).set (Int.toNat s6.2.2) (zu.mk v11.Key (IntKind.wrap .i64 (s6.2.1+1))),(IntKind.wrap .i64 ((IntKind.wrap .i64 (s6.2.1+1))+1)),(IntKind.wrap .i64 (s6.2.2+1))),H,(zM [] (SL.cons rfl rfl (VWk.one (CWk.len (by first|(simp;done)|(simp;omega)|omega|(simp only[List.length_map];omega)))) (sR rfl rfl)) (blR rfl) (bkR rfl rfl rfl) (GK.cons rfl GK.nil))⟩)))))))))))))))))
  ·exact zh eZ (dF h8) (AW.exit (TQ.qe (TQ.qe (BQ.qe (TQ.qn ⟨(s6.1,s6.2.1),H,(zM [] (sR rfl rfl) (blR rfl) (bkR rfl rfl rfl) (GK.cons rfl GK.nil))⟩)))))
theorem zdj{a1:(List zK)}{a2:Int}{r:(Int×(List zK))}(H:Ze a1 a2=some r):Fn Tryz.prog 100 [⟨(.sl 4 (List.map zp a1)),.m (.sl 4 (List.map zp r.2))⟩,⟨(.int .i64 a2),.b⟩] true [(.int .i64 r.1)]:=by
 refine zEl (fle rfl) (fC nZ rfl fN) rfl ?_
 rw[Kf]
 refine AW.weaken (t:=mk [(0,(.one (.sl 0 0 a1.length))),(1,(oI a2))] [(0,(.data 4 (List.map zp a1) true none))] (lk [(0,(.one (.sl 0 0 ((List.map zp a1).length))))])) (zM (gl:=[(0,(.one (.sl 0 0 ((List.map zp a1).length))))]) [] (SL.cons (v:=(.one (.sl 0 0 a1.length))) eZ rfl (VWk.one (CWk.len lm)) (kv 1 (oI a2) rfl rfl SL.nil)) (blR rfl) (BK.cons (n:=0) rfl bZ rfl rfl BK.nil) (GK.cons rfl GK.nil)) ?_
 unfold Ze at H
 unfold zC1
 refine aV (za eC (xQ (zF (fun t3:((List zK)×Int)=>(Jg a1) t3=some r) (fun t3=>mk [(1,(oI t3.2))] [(0,(.data 4 (List.map zp t3.1) true none))] (lk [(0,(.one (.sl 0 0 ((List.map zp a1).length))))])) ?_ ?_)))
 ·intro t3 H
  unfold Jg at H
  refine aV (za eZ (za eZ (xQ (AW.ret ?_))))
  obtain⟨h5,H⟩:=qa H
  cases H
  exact zbY (RL.cons (RV.tmp eZ) (VO.flat rfl) RL.nil) (ML.mut eZ (VO.sl bZ (by first|(simp;done)|(simp;omega)|omega|(simp only[List.length_map];omega)) (zy fun _=>rfl)) (ML.lent ML.nil)) (by decide)
 ·refine aV (za eC (xQ (AW.block (AW.iter (fun s6:((List zK)×Int×Int)=>mk [(0,(.one (.sl 0 0 s6.1.length))),(1,(oI s6.2.1)),(5,(oI s6.2.2))] [(0,(.data 4 (List.map zp s6.1) true none))] (lk [(0,(.one (.sl 0 0 ((List.map zp a1).length))))])) H (zM [] (sR rfl rfl) (blR rfl) (bkR rfl rfl rfl) (GK.cons rfl GK.nil)) ?_))))
  intro kb7 s6 H
  unfold Jq at H
  refine aS (aV (za rfl (za rfl (zbL eZ (qh rfl eZ (xQ ?_))))))
  rcases zC H with⟨h8,H⟩|⟨h8,H⟩
  ·refine zi eZ (dT h8) (AW.skip (TQ.qn (aS (AW.block (aV (za rfl (za rfl (za rfl ?_))))))))
   obtain⟨v9,h10,H⟩:=zk H
   refine Xt rfl rfl bZ rfl h10 (zf (m:=0) eZ rfl (yF (t:=v9) (t':=(zK.mk s6.2.1 v9.Lo v9.Hi v9.Mode)) (es:=[(.int .i64 s6.2.1)]) eZ rfl rfl rfl bZ (yu h10) rfl rfl (xQ (aV (za rfl (qj eZ eC (za eZ (xQ (aV (za rfl (za rfl (za rfl ?_))))))))))))
   obtain⟨v11,h12,H⟩:=zk H
   refine Xt rfl rfl bZ (by first|(simp;done)|(simp;omega)|omega|(simp only[List.length_map];omega)) h12 (zf (m:=1) eZ rfl (yF (t:=v11) (t':=(zK.mk v11.Tx (IntKind.wrap .i64 (s6.2.1+1)) v11.Hi v11.Mode)) (es:=[(.int .i64 (IntKind.wrap .i64 (s6.2.1+1)))]) eZ rfl rfl rfl bZ (yu h12) rfl rfl (xQ (AW.weaken (zM [] (kr 1 rfl rfl (kr 0 rfl rfl (kr 5 rfl rfl SL.nil))) (blR rfl) (BK.cons (n:=0) rfl bZ rfl rfl BK.nil) (GK.cons rfl GK.nil)) (aV (za eZ (qj eZ eC (za eZ (xQ (aV (za rfl (za rfl (za rfl ?_)))))))))))))
   obtain⟨v13,h14,H⟩:=zk H
   refine Xt rfl rfl bZ (by first|(simp;done)|(simp;omega)|omega|(simp only[List.length_map];omega)) h14 (zf (m:=2) eZ rfl (yF (t:=v13) (t':=(zK.mk v13.Tx v13.Lo (IntKind.wrap .i64 ((IntKind.wrap .i64 (s6.2.1+1))+1)) v13.Mode)) (es:=[(.int .i64 (IntKind.wrap .i64 ((IntKind.wrap .i64 (s6.2.1+1))+1)))]) eZ rfl rfl rfl bZ (yu h14) rfl rfl (xQ (aV (za rfl (qj eZ eC (za eZ (xQ (aV (za rfl (za rfl (za rfl ?_))))))))))))
   obtain⟨v15,h16,H⟩:=zk H
   exact Xt rfl rfl bZ (by first|(simp;done)|(simp;omega)|omega|(simp only[List.length_map];omega)) h16 (zf (m:=3) eZ rfl (yF (t:=v15) (t':=(zK.mk v15.Tx v15.Lo v15.Hi (IntKind.wrap .i64 ((IntKind.wrap .i64 ((IntKind.wrap .i64 (s6.2.1+1))+1))+1)))) (es:=[(.int .i64 (IntKind.wrap .i64 ((IntKind.wrap .i64 ((IntKind.wrap .i64 (s6.2.1+1))+1))+1)))]) eZ rfl rfl rfl bZ (yu h16) rfl rfl (xQ (AW.weaken (zM [] (kr 1 rfl rfl (kr 0 rfl rfl (kr 5 rfl rfl SL.nil))) (blR rfl) (BK.cons (n:=0) rfl bZ rfl rfl BK.nil) (GK.cons rfl GK.nil)) (aR (za eZ (qj eZ eC (za eZ (zm (BQ.qn (TQ.qn (aR (za rfl (qj eZ eC (za eZ (zm (TQ.qn ⟨((((s6.1.set (Int.toNat s6.2.2) (zK.mk s6.2.1 v9.Lo v9.Hi v9.Mode)).set (Int.toNat s6.2.2) (zK.mk v11.Tx (IntKind.wrap .i64 (s6.2.1+1)) v11.Hi v11.Mode)).set (Int.toNat s6.2.2) (zK.mk v13.Tx v13.Lo (IntKind.wrap .i64 ((IntKind.wrap .i64 (s6.2.1+1))+1)) v13.Mode)).set (Int.toNat s6.2.2) (zK.mk v15.Tx v15.Lo v15.Hi (IntKind.wrap .i64 ((IntKind.wrap .i64 ((IntKind.wrap .i64 (s6.2.1+1))+1))+1))),(IntKind.wrap .i64 ((IntKind.wrap .i64 ((IntKind.wrap .i64 ((IntKind.wrap .i64 (s6.2.1+1))+1))+1))+1)),(IntKind.wrap .i64 (s6.2.2+1))),H,(zM [] (SL.cons rfl rfl (VWk.one (CWk.len (by first|(simp;done)|(simp;omega)|omega|(simp only[List.length_map];omega)))) (sR rfl rfl)) (blR rfl) (bkR rfl rfl rfl) (GK.cons rfl GK.nil))⟩)))))))))))))))))
  ·exact zh eZ (dF h8) (AW.exit (TQ.qe (TQ.qe (BQ.qe (TQ.qn ⟨(s6.1,s6.2.1),H,(zM [] (sR rfl rfl) (blR rfl) (bkR rfl rfl rfl) (GK.cons rfl GK.nil))⟩)))))
theorem zck{a1:(List zu)}{a2:Int}{r:(Int×(List zu))}(H:ZC a1 a2=some r):Fn Tryz.prog 212 [⟨(.sl 2 (List.map zj a1)),.m (.sl 2 (List.map zj r.2))⟩,⟨(.int .i64 a2),.b⟩] true [(.int .i64 r.1)]:=by
 refine zEm (fle rfl) (fC nZ rfl fN) rfl ?_
 rw[Kf]
 refine AW.weaken (t:=mk [(0,(.one (.sl 0 0 a1.length))),(1,(oI a2))] [(0,(.data 2 (List.map zj a1) true none))] (lk [(0,(.one (.sl 0 0 ((List.map zj a1).length))))])) (zM (gl:=[(0,(.one (.sl 0 0 ((List.map zj a1).length))))]) [] (SL.cons (v:=(.one (.sl 0 0 a1.length))) eZ rfl (VWk.one (CWk.len lm)) (kv 1 (oI a2) rfl rfl SL.nil)) (blR rfl) (BK.cons (n:=0) rfl bZ rfl rfl BK.nil) (GK.cons rfl GK.nil)) ?_
 unfold ZC at H
 unfold zyu
 refine aV (za eC (xQ (zF (fun t3:((List zu)×Int)=>(QK a1) t3=some r) (fun t3=>mk [(1,(oI t3.2))] [(0,(.data 2 (List.map zj t3.1) true none))] (lk [(0,(.one (.sl 0 0 ((List.map zj a1).length))))])) ?_ ?_)))
 ·intro t3 H
  unfold QK at H
  refine aV (za eZ (za eZ (xQ (AW.ret ?_))))
  obtain⟨h5,H⟩:=qa H
  cases H
  exact zbY (RL.cons (RV.tmp eZ) (VO.flat rfl) RL.nil) (ML.mut eZ (VO.sl bZ (by first|(simp;done)|(simp;omega)|omega|(simp only[List.length_map];omega)) (zy fun _=>rfl)) (ML.lent ML.nil)) (by decide)
 ·refine aV (za eC (xQ (AW.block (AW.iter (fun s6:((List zu)×Int×Int)=>mk [(0,(.one (.sl 0 0 s6.1.length))),(1,(oI s6.2.1)),(5,(oI s6.2.2))] [(0,(.data 2 (List.map zj s6.1) true none))] (lk [(0,(.one (.sl 0 0 ((List.map zj a1).length))))])) H (zM [] (sR rfl rfl) (blR rfl) (bkR rfl rfl rfl) (GK.cons rfl GK.nil)) ?_))))
  intro kb7 s6 H
  unfold QJ at H
  refine aS (aV (za rfl (za rfl (zbL eZ (qh rfl eZ (xQ ?_))))))
  rcases zC H with⟨h8,H⟩|⟨h8,H⟩
  ·refine zi eZ (dT h8) (AW.skip (TQ.qn (aS (AW.block (aV (za rfl (za rfl (za rfl ?_))))))))
   obtain⟨v9,h10,H⟩:=zk H
   refine Xt rfl rfl bZ rfl h10 (zf (m:=0) eZ rfl (yF (t:=v9) (t':=(zu.mk s6.2.1 v9.Value)) (es:=[(.int .i64 s6.2.1)]) eZ rfl rfl rfl bZ (yu h10) rfl rfl (xQ (aV (za rfl (qj eZ eC (za eZ (xQ (aV (za rfl (za rfl (za rfl ?_))))))))))))
   obtain⟨v11,h12,H⟩:=zk H
   exact Xt rfl rfl bZ (by first|(simp;done)|(simp;omega)|omega|(simp only[List.length_map];omega)) h12 (zf (m:=1) eZ rfl (yF (t:=v11) (t':=(zu.mk v11.Key (IntKind.wrap .i64 (s6.2.1+1)))) (es:=[(.int .i64 (IntKind.wrap .i64 (s6.2.1+1)))]) eZ rfl rfl rfl bZ (yu h12) rfl rfl (xQ (AW.weaken (zM [] (kr 1 rfl rfl (kr 0 rfl rfl (kr 5 rfl rfl SL.nil))) (blR rfl) (BK.cons (n:=0) rfl bZ rfl rfl BK.nil) (GK.cons rfl GK.nil)) (aR (za eZ (qj eZ eC (za eZ (zm (BQ.qn (TQ.qn (aR (za rfl (qj eZ eC (za eZ (zm (TQ.qn ⟨((s6.1.set (Int.toNat s6.2.2) (zu.mk s6.2.1 v9.Value)).set (Int.toNat s6.2.2) (zu.mk v11.Key (IntKind.wrap .i64 (s6.2.1+1))),(IntKind.wrap .i64 ((IntKind.wrap .i64 (s6.2.1+1))+1)),(IntKind.wrap .i64 (s6.2.2+1))),H,(zM [] (SL.cons rfl rfl (VWk.one (CWk.len (by first|(simp;done)|(simp;omega)|omega|(simp only[List.length_map];omega)))) (sR rfl rfl)) (blR rfl) (bkR rfl rfl rfl) (GK.cons rfl GK.nil))⟩)))))))))))))))))
  ·exact zh eZ (dF h8) (AW.exit (TQ.qe (TQ.qe (BQ.qe (TQ.qn ⟨(s6.1,s6.2.1),H,(zM [] (sR rfl rfl) (blR rfl) (bkR rfl rfl rfl) (GK.cons rfl GK.nil))⟩)))))
theorem zdx{a1:(List zL)}{a2:Int}{r:(Int×(List zL))}(H:y8 a1 a2=some r):Fn Tryz.prog 101 [⟨(.sl 2 (List.map zA a1)),.m (.sl 2 (List.map zA r.2))⟩,⟨(.int .i64 a2),.b⟩] true [(.int .i64 r.1)]:=by
 refine zEb (fle rfl) (fC nZ rfl fN) rfl ?_
 rw[Kf]
 refine AW.weaken (t:=mk [(0,(.one (.sl 0 0 a1.length))),(1,(oI a2))] [(0,(.data 2 (List.map zA a1) true none))] (lk [(0,(.one (.sl 0 0 ((List.map zA a1).length))))])) (zM (gl:=[(0,(.one (.sl 0 0 ((List.map zA a1).length))))]) [] (SL.cons (v:=(.one (.sl 0 0 a1.length))) eZ rfl (VWk.one (CWk.len lm)) (kv 1 (oI a2) rfl rfl SL.nil)) (blR rfl) (BK.cons (n:=0) rfl bZ rfl rfl BK.nil) (GK.cons rfl GK.nil)) ?_
 unfold y8 at H
 unfold zxQ
 refine aV (za eC (xQ (zF (fun t3:((List zL)×Int)=>(Jp a1) t3=some r) (fun t3=>mk [(1,(oI t3.2))] [(0,(.data 2 (List.map zA t3.1) true none))] (lk [(0,(.one (.sl 0 0 ((List.map zA a1).length))))])) ?_ ?_)))
 ·intro t3 H
  unfold Jp at H
  refine aV (za eZ (za eZ (xQ (AW.ret ?_))))
  obtain⟨h5,H⟩:=qa H
  cases H
  exact zbY (RL.cons (RV.tmp eZ) (VO.flat rfl) RL.nil) (ML.mut eZ (ZN bZ (by first|(simp;done)|(simp;omega)|omega|(simp only[List.length_map];omega)) rfl) (ML.lent ML.nil)) (by decide)
 ·refine aV (za eC (xQ (AW.block (AW.iter (fun s6:((List zL)×Int×Int)=>mk [(0,(.one (.sl 0 0 s6.1.length))),(1,(oI s6.2.1)),(5,(oI s6.2.2))] [(0,(.data 2 (List.map zA s6.1) true none))] (lk [(0,(.one (.sl 0 0 ((List.map zA a1).length))))])) H (zM [] (sR rfl rfl) (blR rfl) (bkR rfl rfl rfl) (GK.cons rfl GK.nil)) ?_))))
  intro kb7 s6 H
  unfold Jk at H
  refine aS (aV (za rfl (za rfl (zbL eZ (qh rfl eZ (xQ ?_))))))
  rcases zC H with⟨h8,H⟩|⟨h8,H⟩
  ·refine zi eZ (dT h8) (AW.skip (TQ.qn (aS (AW.block (aV (za rfl (za rfl (za rfl ?_))))))))
   obtain⟨v9,h10,H⟩:=zk H
   refine Xt rfl rfl bZ rfl h10 (zf (m:=0) eZ rfl (yF (t:=v9) (t':=(zL.mk s6.2.1 v9.Writes)) (es:=[(.int .i64 s6.2.1)]) eZ rfl rfl rfl bZ (yu h10) rfl rfl (xQ (aV (za rfl (qj eZ eC (za eZ (xQ (zW (zw (za rfl (zm (zw (za rfl (zm (zw ?_))))))))))))))))
   obtain⟨v11,h12,H⟩:=zk H
   refine Xt rfl eZ bZ (by first|(simp;done)|(simp;omega)|omega|(simp only[List.length_map];omega)) h12 (zm (zw (zf (m:=1) eZ rfl (zm ?_))))
   obtain⟨v13,h14,H⟩:=zk H
   exact zlx (f:=zA) (f':=zj) (t:=v11) (t':=(zL.mk v11.Tx v13.2)) (ys:=v11.Writes) (ys':=v13.2) eZ bZ (yu h12) rfl rfl rfl rfl rfl (zck h14) rfl rfl (erL.cons (v':=(oI (IntKind.wrap .i64 (s6.2.1+1)))) rfl (erL.cons (v':=(.one .any)) rfl (erL.cons (v':=(.one (.ptr (.nm 0 (Int.toNat s6.2.2) 1)))) rfl (erL.cons (v':=(.one (.ptr (.nm 0 (Int.toNat s6.2.2) 0)))) rfl (erL.cons (v':=(oI s6.2.2)) rfl (erL.cons (v':=(.one (.sl 0 0 s6.1.length))) rfl (erL.cons (v':=(oI (IntKind.wrap .i64 (s6.2.1+1)))) rfl (erL.cons (v':=(oI (IntKind.wrap .i64 (s6.2.1+1)))) rfl (erL.cons (v':=(oI s6.2.1)) rfl (erL.cons (v':=(.one (.ptr (.nm 0 (Int.toNat s6.2.2) 0)))) rfl (erL.cons (v':=(.one (.ptr (.nm 0 (Int.toNat s6.2.2) 0)))) rfl (erL.cons (v':=(oI s6.2.1)) rfl (erL.cons (v':=(oI s6.2.2)) rfl (erL.cons (v':=(.one (.sl 0 0 s6.1.length))) rfl (erL.cons (v':=(oB (decide (s6.2.2 < ((s6.1.length:Nat):Int))))) rfl (erL.cons (v':=(oI ((s6.1.length:Nat):Int))) rfl (erL.cons (v':=(.one (.sl 0 0 s6.1.length))) rfl (erL.cons (v':=(oI s6.2.2)) rfl (erL.cons (v':=(.one (.sl 0 0 s6.1.length))) rfl (erL.cons (v':=(oI s6.2.1)) rfl (erL.cons (v':=(oI s6.2.2)) rfl erL.nil))))))))))))))))))))) (erH.cons (v':=(.data 2 (List.map zA (s6.1.set (Int.toNat s6.2.2) (zL.mk s6.2.1 v9.Writes))) true none)) rfl rfl (erH.cons (v':=(.data 2 (List.map zA s6.1) true none)) rfl rfl erH.nil)) (erL.cons (v':=(.one (.sl 0 0 ((List.map zA a1).length)))) rfl erL.nil) (qc (za eZ (zm (BQ.qn (TQ.qn (AW.weaken (zM [] (kr 1 rfl rfl (kr 0 rfl rfl (kr 5 rfl rfl SL.nil))) (blR rfl) (BK.cons (n:=0) rfl bZ rfl rfl BK.nil) (GK.cons rfl GK.nil)) (aR (za rfl (qj eZ eC (za eZ (zm (TQ.qn ⟨((s6.1.set (Int.toNat s6.2.2) (zL.mk s6.2.1 v9.Writes)).set (Int.toNat s6.2.2) (zL.mk v11.Tx v13.2),v13.1,(IntKind.wrap .i64 (s6.2.2+1))),H,(zM [] (SL.cons rfl rfl (VWk.one (CWk.len (by first|(simp;done)|(simp;omega)|omega|(simp only[List.length_map];omega)))) (sR rfl rfl)) (blR rfl) (bkR rfl rfl rfl) (GK.cons rfl GK.nil))⟩))))))))))))
  ·exact zh eZ (dF h8) (AW.exit (TQ.qe (TQ.qe (BQ.qe (TQ.qn ⟨(s6.1,s6.2.1),H,(zM [] (sR rfl rfl) (blR rfl) (bkR rfl rfl rfl) (GK.cons rfl GK.nil))⟩)))))
theorem zat{a1:(List Int)}{a2:Int}{r:(Int×(List Int))}(H:yj a1 a2=some r):Fn Tryz.prog 102 [⟨(.sl 1 (List.map zt a1)),.m (.sl 1 (List.map zt r.2))⟩,⟨(.int .i64 a2),.b⟩] true [(.int .i64 r.1)]:=by
 refine zEr (fle rfl) (fC nZ rfl fN) rfl ?_
 rw[Kf]
 refine AW.weaken (t:=mk [(0,(.one (.sl 0 0 a1.length))),(1,(oI a2))] [(0,(.data 1 (List.map zt a1) true none))] (lk [(0,(.one (.sl 0 0 ((List.map zt a1).length))))])) (zM (gl:=[(0,(.one (.sl 0 0 ((List.map zt a1).length))))]) [] (SL.cons (v:=(.one (.sl 0 0 a1.length))) eZ rfl (VWk.one (CWk.len lm)) (kv 1 (oI a2) rfl rfl SL.nil)) (blR rfl) (BK.cons (n:=0) rfl bZ rfl rfl BK.nil) (GK.cons rfl GK.nil)) ?_
 unfold yj at H
 unfold zzM
 refine aV (za eC (xQ (zF (fun t3:((List Int)×Int)=>(Yo a1) t3=some r) (fun t3=>mk [(1,(oI t3.2))] [(0,(.data 1 (List.map zt t3.1) true none))] (lk [(0,(.one (.sl 0 0 ((List.map zt a1).length))))])) ?_ ?_)))
 ·intro t3 H
  unfold Yo at H
  refine aV (za eZ (za eZ (xQ (AW.ret ?_))))
  obtain⟨h5,H⟩:=qa H
  cases H
  exact zbY (RL.cons (RV.tmp eZ) (VO.flat rfl) RL.nil) (ML.mut eZ (VO.sl bZ (by first|(simp;done)|(simp;omega)|omega|(simp only[List.length_map];omega)) (zy fun _=>rfl)) (ML.lent ML.nil)) (by decide)
 ·refine aV (za eC (xQ (AW.block (AW.iter (fun s6:((List Int)×Int×Int)=>mk [(0,(.one (.sl 0 0 s6.1.length))),(1,(oI s6.2.1)),(5,(oI s6.2.2))] [(0,(.data 1 (List.map zt s6.1) true none))] (lk [(0,(.one (.sl 0 0 ((List.map zt a1).length))))])) H (zM [] (sR rfl rfl) (blR rfl) (bkR rfl rfl rfl) (GK.cons rfl GK.nil)) ?_))))
  intro kb7 s6 H
  unfold YK at H
  refine aS (aV (za rfl (za rfl (zbL eZ (qh rfl eZ (xQ ?_))))))
  rcases zC H with⟨h8,H⟩|⟨h8,H⟩
  ·refine zi eZ (dT h8) (AW.skip (TQ.qn (aS (AW.block (aV (za rfl (za rfl (za rfl ?_))))))))
   obtain⟨v9,h10,H⟩:=zk H
   exact Xt rfl rfl bZ rfl h10 (yF (t:=v9) (t':=s6.2.1) (es:=[(.int .i64 s6.2.1)]) eZ rfl rfl rfl bZ (yu h10) rfl rfl (xQ (aR (za rfl (qj eZ eC (za eZ (zm (BQ.qn (TQ.qn (aR (za rfl (qj eZ eC (za eZ (zm (TQ.qn ⟨(s6.1.set (Int.toNat s6.2.2) s6.2.1,(IntKind.wrap .i64 (s6.2.1+1)),(IntKind.wrap .i64 (s6.2.2+1))),H,(zM [] (SL.cons rfl rfl (VWk.one (CWk.len (by first|(simp;done)|(simp;omega)|omega|(simp only[List.length_map];omega)))) (sR rfl rfl)) (blR rfl) (bkR rfl rfl rfl) (GK.cons rfl GK.nil))⟩)))))))))))))))
  ·exact zh eZ (dF h8) (AW.exit (TQ.qe (TQ.qe (BQ.qe (TQ.qn ⟨(s6.1,s6.2.1),H,(zM [] (sR rfl rfl) (blR rfl) (bkR rfl rfl rfl) (GK.cons rfl GK.nil))⟩)))))
theorem KM{a1:zn}{a2:Int}{r:(Int×zn)}(H:Zn a1 a2=some r):Fn Tryz.prog 24 [⟨(.agg (zR a1)),.m (.agg (zR r.2))⟩,⟨(.int .i64 a2),.b⟩] true [(.int .i64 r.1)]:=by
 refine m24 (fle rfl) (fC nZ rfl (fC nZ rfl (fC nZ rfl (fC nZ rfl (fC nZ rfl (fC nZ rfl (fC nZ rfl fN))))))) rfl ?_
 rw[Kf]
 refine AW.weaken (t:=mk [(0,(.agg [(dI a1.Me),(.sl 1 0 a1.Own.length),(.sl 2 0 a1.Frozen.length),(.sl 3 0 a1.Cells.length),(.sl 4 0 a1.Locks.length),(.sl 5 0 a1.Helds.length),(.sl 6 0 a1.Wounded.length),(.sl 7 0 a1.Ended.length),(dI a1.Rank)])),(1,(oI a2))] [(7,(.data 1 (List.map zt a1.Ended) true none)),(6,(.data 1 (List.map zt a1.Wounded) true none)),(5,(.data 2 (List.map zA a1.Helds) true none)),(4,(.data 4 (List.map zp a1.Locks) true none)),(3,(.data 2 (List.map zj a1.Cells) true none)),(2,(.data 2 (List.map zd a1.Frozen) true none)),(1,(.data 2 (List.map zd a1.Own) true none))] (lk [(0,(.agg [(dI a1.Me),(.sl 1 0 ((List.map zd a1.Own).length)),(.sl 2 0 ((List.map zd a1.Frozen).length)),(.sl 3 0 ((List.map zj a1.Cells).length)),(.sl 4 0 ((List.map zp a1.Locks).length)),(.sl 5 0 ((List.map zA a1.Helds).length)),(.sl 6 0 ((List.map zt a1.Wounded).length)),(.sl 7 0 ((List.map zt a1.Ended).length)),(dI a1.Rank)]))])) (zM (gl:=[(0,(.agg [(dI a1.Me),(.sl 1 0 ((List.map zd a1.Own).length)),(.sl 2 0 ((List.map zd a1.Frozen).length)),(.sl 3 0 ((List.map zj a1.Cells).length)),(.sl 4 0 ((List.map zp a1.Locks).length)),(.sl 5 0 ((List.map zA a1.Helds).length)),(.sl 6 0 ((List.map zt a1.Wounded).length)),(.sl 7 0 ((List.map zt a1.Ended).length)),(dI a1.Rank)]))]) [] (SL.cons (v:=(.agg [(dI a1.Me),(.sl 1 0 a1.Own.length),(.sl 2 0 a1.Frozen.length),(.sl 3 0 a1.Cells.length),(.sl 4 0 a1.Locks.length),(.sl 5 0 a1.Helds.length),(.sl 6 0 a1.Wounded.length),(.sl 7 0 a1.Ended.length),(dI a1.Rank)])) eZ rfl (VWk.agg (KU.cons CWk.rfl (KU.cons (CWk.len lm) (KU.cons (CWk.len lm) (KU.cons (CWk.len lm) (KU.cons (CWk.len lm) (KU.cons (CWk.len lm) (KU.cons (CWk.len lm) (KU.cons (CWk.len lm) (KU.cons CWk.rfl KU.nil)))))))))) (kv 1 (oI a2) rfl rfl SL.nil)) (blR rfl) (BK.cons (n:=7) rfl bZ rfl rfl (BK.cons (n:=6) rfl (bR rfl) rfl rfl (BK.cons (n:=5) rfl (bR rfl) rfl rfl (BK.cons (n:=4) rfl (bR rfl) rfl rfl (BK.cons (n:=3) rfl (bR rfl) rfl rfl (BK.cons (n:=2) rfl (bR rfl) rfl rfl (BK.cons (n:=1) rfl (bR rfl) rfl rfl BK.nil))))))) (GK.cons rfl GK.nil)) ?_
 unfold Zn at H
 unfold i24
 refine aV (jh (n:=128) (m:=9) (cs:=[(dI a1.Me),(.sl 1 0 a1.Own.length),(.sl 2 0 a1.Frozen.length),(.sl 3 0 a1.Cells.length),(.sl 4 0 a1.Locks.length),(.sl 5 0 a1.Helds.length),(.sl 6 0 a1.Wounded.length),(.sl 7 0 a1.Ended.length),(dI a1.Rank)]) rfl eZ rfl rfl (nR rfl) (za eC (xQ (aS (zW (zw (zf (m:=1) rfl rfl (zm (zw (zl (q:=1) (c:=(.sl 1 0 a1.Own.length)) eZ bZ rfl rfl (zm (zw (za rfl (zm ?_))))))))))))))
 obtain⟨v3,h4,H⟩:=zk H
 obtain⟨h5,H⟩:=qa H
 refine xW (ON:=[1]) (ls:=[]) (G:=[]) (E:=[qg 1]) (MB:=[(1,(.data 2 (List.map zd v3.2) true none))]) (u:=(oI v3.1)) eC Cl.fn (Kr h4) (Ec rfl (Ec eZ En)) (AO.mut (VO.sl (bR rfl) lm (zy fun _=>rfl)) (AO.lent Vp rfl AO.nil)) rfl rfl rfl (SZ.cons (bR rfl) SZ.nil) (erL.cons (v':=(oI a2)) rfl (erL.cons (v':=(.one (.sl 1 0 a1.Own.length))) rfl (erL.cons (v':=(.one (.ptr (.nm 128 0 1)))) rfl (erL.cons (v':=(oI 0)) rfl (erL.cons (v':=(.one (.ptr (.nm 128 0 0)))) rfl (erL.cons (v':=(.agg [(dI a1.Me),(.sl 1 0 a1.Own.length),(.sl 2 0 a1.Frozen.length),(.sl 3 0 a1.Cells.length),(.sl 4 0 a1.Locks.length),(.sl 5 0 a1.Helds.length),(.sl 6 0 a1.Wounded.length),(.sl 7 0 a1.Ended.length),(dI a1.Rank)])) rfl (erL.cons (v':=(oI a2)) rfl erL.nil))))))) (erH.cons (v':=(.vars 9 [(dI a1.Me),(.sl 1 0 a1.Own.length),(.sl 2 0 a1.Frozen.length),(.sl 3 0 a1.Cells.length),(.sl 4 0 a1.Locks.length),(.sl 5 0 a1.Helds.length),(.sl 6 0 a1.Wounded.length),(.sl 7 0 a1.Ended.length),(dI a1.Rank)])) rfl rfl (erH.cons (v':=(.data 1 (List.map zt a1.Ended) true none)) rfl rfl (erH.cons (v':=(.data 1 (List.map zt a1.Wounded) true none)) rfl rfl (erH.cons (v':=(.data 2 (List.map zA a1.Helds) true none)) rfl rfl (erH.cons (v':=(.data 4 (List.map zp a1.Locks) true none)) rfl rfl (erH.cons (v':=(.data 2 (List.map zj a1.Cells) true none)) rfl rfl (erH.cons (v':=(.data 2 (List.map zd a1.Frozen) true none)) rfl rfl (erH.cons (v':=(.data 2 (List.map zd a1.Own) true none)) rfl rfl erH.nil)))))))) (erL.cons (v':=(.agg [(dI a1.Me),(.sl 1 0 ((List.map zd a1.Own).length)),(.sl 2 0 ((List.map zd a1.Frozen).length)),(.sl 3 0 ((List.map zj a1.Cells).length)),(.sl 4 0 ((List.map zp a1.Locks).length)),(.sl 5 0 ((List.map zA a1.Helds).length)),(.sl 6 0 ((List.map zt a1.Wounded).length)),(.sl 7 0 ((List.map zt a1.Ended).length)),(dI a1.Rank)])) rfl erL.nil) rfl rfl (qc (za eZ (xQ (aS (zW (zw (zf (m:=2) rfl rfl (zm (zw (zl (q:=2) (c:=(.sl 2 0 a1.Frozen.length)) eZ (bR rfl) rfl rfl (zm (zw (za rfl (zm ?_))))))))))))))
 obtain⟨v6,h7,H⟩:=zk H
 obtain⟨h8,H⟩:=qa H
 refine xW (ON:=[2]) (ls:=[]) (G:=[]) (E:=[qg 2]) (MB:=[(2,(.data 2 (List.map zd v6.2) true none))]) (u:=(oI v6.1)) eC Cl.fn (Kr h7) (Ec rfl (Ec eZ En)) (AO.mut (VO.sl (bR rfl) lm (zy fun _=>rfl)) (AO.lent Vp rfl AO.nil)) rfl rfl rfl (SZ.cons (bR rfl) SZ.nil) (erL.cons (v':=(oI v3.1)) rfl (erL.cons (v':=(.one (.sl 2 0 a1.Frozen.length))) rfl (erL.cons (v':=(.one (.ptr (.nm 128 0 2)))) rfl (erL.cons (v':=(oI v3.1)) rfl (erL.cons (v':=(oI v3.1)) rfl (erL.cons (v':=(oI a2)) rfl (erL.cons (v':=(.one (.sl 1 0 a1.Own.length))) rfl (erL.cons (v':=(.one (.ptr (.nm 128 0 1)))) rfl (erL.cons (v':=(oI 0)) rfl (erL.cons (v':=(.one (.ptr (.nm 128 0 0)))) rfl (erL.cons (v':=(.agg [(dI a1.Me),(.sl 1 0 a1.Own.length),(.sl 2 0 a1.Frozen.length),(.sl 3 0 a1.Cells.length),(.sl 4 0 a1.Locks.length),(.sl 5 0 a1.Helds.length),(.sl 6 0 a1.Wounded.length),(.sl 7 0 a1.Ended.length),(dI a1.Rank)])) rfl (erL.cons (v':=(oI a2)) rfl erL.nil)))))))))))) (erH.cons (v':=(.data 2 (List.map zd v3.2) true none)) rfl rfl (erH.cons (v':=(.vars 9 [(dI a1.Me),(.sl 1 0 a1.Own.length),(.sl 2 0 a1.Frozen.length),(.sl 3 0 a1.Cells.length),(.sl 4 0 a1.Locks.length),(.sl 5 0 a1.Helds.length),(.sl 6 0 a1.Wounded.length),(.sl 7 0 a1.Ended.length),(dI a1.Rank)])) rfl rfl (erH.cons (v':=(.data 1 (List.map zt a1.Ended) true none)) rfl rfl (erH.cons (v':=(.data 1 (List.map zt a1.Wounded) true none)) rfl rfl (erH.cons (v':=(.data 2 (List.map zA a1.Helds) true none)) rfl rfl (erH.cons (v':=(.data 4 (List.map zp a1.Locks) true none)) rfl rfl (erH.cons (v':=(.data 2 (List.map zj a1.Cells) true none)) rfl rfl (erH.cons (v':=(.data 2 (List.map zd a1.Frozen) true none)) rfl rfl (erH.cons (v':=(.data 2 (List.map zd a1.Own) true none)) rfl rfl erH.nil))))))))) (erL.cons (v':=(.agg [(dI a1.Me),(.sl 1 0 ((List.map zd a1.Own).length)),(.sl 2 0 ((List.map zd a1.Frozen).length)),(.sl 3 0 ((List.map zj a1.Cells).length)),(.sl 4 0 ((List.map zp a1.Locks).length)),(.sl 5 0 ((List.map zA a1.Helds).length)),(.sl 6 0 ((List.map zt a1.Wounded).length)),(.sl 7 0 ((List.map zt a1.Ended).length)),(dI a1.Rank)])) rfl erL.nil) rfl rfl (qc (za eZ (xQ (aS (zW (zw (zf (m:=3) rfl rfl (zm (zw (zl (q:=3) (c:=(.sl 3 0 a1.Cells.length)) eZ (bR rfl) rfl rfl (zm (zw (za rfl (zm ?_))))))))))))))
 obtain⟨v9,h10,H⟩:=zk H
 obtain⟨h11,H⟩:=qa H
 refine xW (ON:=[3]) (ls:=[]) (G:=[]) (E:=[qg 3]) (MB:=[(3,(.data 2 (List.map zj v9.2) true none))]) (u:=(oI v9.1)) eC Cl.fn (zc4 h10) (Ec rfl (Ec eZ En)) (AO.mut (VO.sl (bR rfl) lm (zy fun _=>rfl)) (AO.lent Vp rfl AO.nil)) rfl rfl rfl (SZ.cons (bR rfl) SZ.nil) (erL.cons (v':=(oI v6.1)) rfl (erL.cons (v':=(.one (.sl 3 0 a1.Cells.length))) rfl (erL.cons (v':=(.one (.ptr (.nm 128 0 3)))) rfl (erL.cons (v':=(oI v6.1)) rfl (erL.cons (v':=(oI v6.1)) rfl (erL.cons (v':=(oI v3.1)) rfl (erL.cons (v':=(.one (.sl 2 0 a1.Frozen.length))) rfl (erL.cons (v':=(.one (.ptr (.nm 128 0 2)))) rfl (erL.cons (v':=(oI v3.1)) rfl (erL.cons (v':=(oI v3.1)) rfl (erL.cons (v':=(oI a2)) rfl (erL.cons (v':=(.one (.sl 1 0 a1.Own.length))) rfl (erL.cons (v':=(.one (.ptr (.nm 128 0 1)))) rfl (erL.cons (v':=(oI 0)) rfl (erL.cons (v':=(.one (.ptr (.nm 128 0 0)))) rfl (erL.cons (v':=(.agg [(dI a1.Me),(.sl 1 0 a1.Own.length),(.sl 2 0 a1.Frozen.length),(.sl 3 0 a1.Cells.length),(.sl 4 0 a1.Locks.length),(.sl 5 0 a1.Helds.length),(.sl 6 0 a1.Wounded.length),(.sl 7 0 a1.Ended.length),(dI a1.Rank)])) rfl (erL.cons (v':=(oI a2)) rfl erL.nil))))))))))))))))) (erH.cons (v':=(.data 2 (List.map zd v6.2) true none)) rfl rfl (erH.cons (v':=(.data 2 (List.map zd v3.2) true none)) rfl rfl (erH.cons (v':=(.vars 9 [(dI a1.Me),(.sl 1 0 a1.Own.length),(.sl 2 0 a1.Frozen.length),(.sl 3 0 a1.Cells.length),(.sl 4 0 a1.Locks.length),(.sl 5 0 a1.Helds.length),(.sl 6 0 a1.Wounded.length),(.sl 7 0 a1.Ended.length),(dI a1.Rank)])) rfl rfl (erH.cons (v':=(.data 1 (List.map zt a1.Ended) true none)) rfl rfl (erH.cons (v':=(.data 1 (List.map zt a1.Wounded) true none)) rfl rfl (erH.cons (v':=(.data 2 (List.map zA a1.Helds) true none)) rfl rfl (erH.cons (v':=(.data 4 (List.map zp a1.Locks) true none)) rfl rfl (erH.cons (v':=(.data 2 (List.map zj a1.Cells) true none)) rfl rfl (erH.cons (v':=(.data 2 (List.map zd a1.Frozen) true none)) rfl rfl (erH.cons (v':=(.data 2 (List.map zd a1.Own) true none)) rfl rfl erH.nil)))))))))) (erL.cons (v':=(.agg [(dI a1.Me),(.sl 1 0 ((List.map zd a1.Own).length)),(.sl 2 0 ((List.map zd a1.Frozen).length)),(.sl 3 0 ((List.map zj a1.Cells).length)),(.sl 4 0 ((List.map zp a1.Locks).length)),(.sl 5 0 ((List.map zA a1.Helds).length)),(.sl 6 0 ((List.map zt a1.Wounded).length)),(.sl 7 0 ((List.map zt a1.Ended).length)),(dI a1.Rank)])) rfl erL.nil) rfl rfl (qc (za eZ (xQ (AW.weaken (zM [] (kr 1 rfl rfl (kr 2 rfl rfl SL.nil)) (blR rfl) (BK.cons (n:=3) rfl bZ rfl rfl (BK.cons (n:=2) rfl (bR rfl) rfl rfl (BK.cons (n:=1) rfl (bR rfl) rfl rfl (BK.cons (n:=128) rfl (bR rfl) rfl rfl (BK.cons (n:=7) rfl (bR rfl) rfl rfl (BK.cons (n:=6) rfl (bR rfl) rfl rfl (BK.cons (n:=5) rfl (bR rfl) rfl rfl (BK.cons (n:=4) rfl (bR rfl) rfl rfl BK.nil)))))))) (GK.cons rfl GK.nil)) (aS (zW (zw (zf (m:=4) rfl rfl (zm (zw (zl (q:=4) (c:=(.sl 4 0 a1.Locks.length)) eZ (bR rfl) rfl rfl (zm (zw (za rfl (zm ?_)))))))))))))))
 obtain⟨v12,h13,H⟩:=zk H
 obtain⟨h14,H⟩:=qa H
 refine xW (ON:=[4]) (ls:=[]) (G:=[]) (E:=[qg 4]) (MB:=[(4,(.data 4 (List.map zp v12.2) true none))]) (u:=(oI v12.1)) eC Cl.fn (zdj h13) (Ec rfl (Ec eZ En)) (AO.mut (VO.sl (bR rfl) lm (zy fun _=>rfl)) (AO.lent Vp rfl AO.nil)) rfl rfl rfl (SZ.cons (bR rfl) SZ.nil) (erL.cons (v':=(oI v9.1)) rfl (erL.cons (v':=(.one (.sl 4 0 a1.Locks.length))) rfl (erL.cons (v':=(.one (.ptr (.nm 128 0 4)))) rfl (erL.cons (v':=(oI v9.1)) rfl (erL.cons (v':=(.one (.ptr (.nm 128 0 0)))) rfl erL.nil))))) (erH.cons (v':=(.data 2 (List.map zj v9.2) true none)) rfl rfl (erH.cons (v':=(.data 2 (List.map zd v6.2) true none)) rfl rfl (erH.cons (v':=(.data 2 (List.map zd v3.2) true none)) rfl rfl (erH.cons (v':=(.vars 9 [(dI a1.Me),(.sl 1 0 a1.Own.length),(.sl 2 0 a1.Frozen.length),(.sl 3 0 a1.Cells.length),(.sl 4 0 a1.Locks.length),(.sl 5 0 a1.Helds.length),(.sl 6 0 a1.Wounded.length),(.sl 7 0 a1.Ended.length),(dI a1.Rank)])) rfl rfl (erH.cons (v':=(.data 1 (List.map zt a1.Ended) true none)) rfl rfl (erH.cons (v':=(.data 1 (List.map zt a1.Wounded) true none)) rfl rfl (erH.cons (v':=(.data 2 (List.map zA a1.Helds) true none)) rfl rfl (erH.cons (v':=(.data 4 (List.map zp a1.Locks) true none)) rfl rfl erH.nil)))))))) (erL.cons (v':=(.agg [(dI a1.Me),(.sl 1 0 ((List.map zd a1.Own).length)),(.sl 2 0 ((List.map zd a1.Frozen).length)),(.sl 3 0 ((List.map zj a1.Cells).length)),(.sl 4 0 ((List.map zp a1.Locks).length)),(.sl 5 0 ((List.map zA a1.Helds).length)),(.sl 6 0 ((List.map zt a1.Wounded).length)),(.sl 7 0 ((List.map zt a1.Ended).length)),(dI a1.Rank)])) rfl erL.nil) rfl rfl (qc (za eZ (xQ (aS (zW (zw (zf (m:=5) rfl rfl (zm (zw (zl (q:=5) (c:=(.sl 5 0 a1.Helds.length)) eZ (bR rfl) rfl rfl (zm (zw (za rfl (zm ?_))))))))))))))
 obtain⟨v15,h16,H⟩:=zk H
 obtain⟨h17,H⟩:=qa H
 refine xW (ON:=[5]) (ls:=[]) (G:=[]) (E:=[qg 5]) (MB:=[(5,(.data 2 (List.map zA v15.2) true none))]) (u:=(oI v15.1)) eC Cl.fn (zdx h16) (Ec rfl (Ec eZ En)) (AO.mut (ZN (bR rfl) lm rfl) (AO.lent Vp rfl AO.nil)) rfl rfl rfl (SZ.cons (bR rfl) SZ.nil) (erL.cons (v':=(oI v12.1)) rfl (erL.cons (v':=(.one (.sl 5 0 a1.Helds.length))) rfl (erL.cons (v':=(.one (.ptr (.nm 128 0 5)))) rfl (erL.cons (v':=(oI v12.1)) rfl (erL.cons (v':=(oI v12.1)) rfl (erL.cons (v':=(oI v9.1)) rfl (erL.cons (v':=(.one (.sl 4 0 a1.Locks.length))) rfl (erL.cons (v':=(.one (.ptr (.nm 128 0 4)))) rfl (erL.cons (v':=(oI v9.1)) rfl (erL.cons (v':=(.one (.ptr (.nm 128 0 0)))) rfl erL.nil)))))))))) (erH.cons (v':=(.data 4 (List.map zp v12.2) true none)) rfl rfl (erH.cons (v':=(.data 2 (List.map zj v9.2) true none)) rfl rfl (erH.cons (v':=(.data 2 (List.map zd v6.2) true none)) rfl rfl (erH.cons (v':=(.data 2 (List.map zd v3.2) true none)) rfl rfl (erH.cons (v':=(.vars 9 [(dI a1.Me),(.sl 1 0 a1.Own.length),(.sl 2 0 a1.Frozen.length),(.sl 3 0 a1.Cells.length),(.sl 4 0 a1.Locks.length),(.sl 5 0 a1.Helds.length),(.sl 6 0 a1.Wounded.length),(.sl 7 0 a1.Ended.length),(dI a1.Rank)])) rfl rfl (erH.cons (v':=(.data 1 (List.map zt a1.Ended) true none)) rfl rfl (erH.cons (v':=(.data 1 (List.map zt a1.Wounded) true none)) rfl rfl (erH.cons (v':=(.data 2 (List.map zA a1.Helds) true none)) rfl rfl (erH.cons (v':=(.data 4 (List.map zp a1.Locks) true none)) rfl rfl erH.nil))))))))) (erL.cons (v':=(.agg [(dI a1.Me),(.sl 1 0 ((List.map zd a1.Own).length)),(.sl 2 0 ((List.map zd a1.Frozen).length)),(.sl 3 0 ((List.map zj a1.Cells).length)),(.sl 4 0 ((List.map zp a1.Locks).length)),(.sl 5 0 ((List.map zA a1.Helds).length)),(.sl 6 0 ((List.map zt a1.Wounded).length)),(.sl 7 0 ((List.map zt a1.Ended).length)),(dI a1.Rank)])) rfl erL.nil) rfl rfl (qc (za eZ (xQ (aS (zW (zw (zf (m:=6) rfl rfl (zm (zw (zl (q:=6) (c:=(.sl 6 0 a1.Wounded.length)) eZ (bR rfl) rfl rfl (zm (zw (za rfl (zm ?_))))))))))))))
 obtain⟨v18,h19,H⟩:=zk H
 obtain⟨h20,H⟩:=qa H
 refine xW (ON:=[6]) (ls:=[]) (G:=[]) (E:=[qg 6]) (MB:=[(6,(.data 1 (List.map zt v18.2) true none))]) (u:=(oI v18.1)) eC Cl.fn (zat h19) (Ec rfl (Ec eZ En)) (AO.mut (VO.sl (bR rfl) lm (zy fun _=>rfl)) (AO.lent Vp rfl AO.nil)) rfl rfl rfl (SZ.cons (bR rfl) SZ.nil) (erL.cons (v':=(oI v15.1)) rfl (erL.cons (v':=(.one (.sl 6 0 a1.Wounded.length))) rfl (erL.cons (v':=(.one (.ptr (.nm 128 0 6)))) rfl (erL.cons (v':=(oI v15.1)) rfl (erL.cons (v':=(oI v15.1)) rfl (erL.cons (v':=(oI v12.1)) rfl (erL.cons (v':=(.one (.sl 5 0 a1.Helds.length))) rfl (erL.cons (v':=(.one (.ptr (.nm 128 0 5)))) rfl (erL.cons (v':=(oI v12.1)) rfl (erL.cons (v':=(oI v12.1)) rfl (erL.cons (v':=(oI v9.1)) rfl (erL.cons (v':=(.one (.sl 4 0 a1.Locks.length))) rfl (erL.cons (v':=(.one (.ptr (.nm 128 0 4)))) rfl (erL.cons (v':=(oI v9.1)) rfl (erL.cons (v':=(.one (.ptr (.nm 128 0 0)))) rfl erL.nil))))))))))))))) (erH.cons (v':=(.data 2 (List.map zA v15.2) true none)) rfl rfl (erH.cons (v':=(.data 4 (List.map zp v12.2) true none)) rfl rfl (erH.cons (v':=(.data 2 (List.map zj v9.2) true none)) rfl rfl (erH.cons (v':=(.data 2 (List.map zd v6.2) true none)) rfl rfl (erH.cons (v':=(.data 2 (List.map zd v3.2) true none)) rfl rfl (erH.cons (v':=(.vars 9 [(dI a1.Me),(.sl 1 0 a1.Own.length),(.sl 2 0 a1.Frozen.length),(.sl 3 0 a1.Cells.length),(.sl 4 0 a1.Locks.length),(.sl 5 0 a1.Helds.length),(.sl 6 0 a1.Wounded.length),(.sl 7 0 a1.Ended.length),(dI a1.Rank)])) rfl rfl (erH.cons (v':=(.data 1 (List.map zt a1.Ended) true none)) rfl rfl (erH.cons (v':=(.data 1 (List.map zt a1.Wounded) true none)) rfl rfl (erH.cons (v':=(.data 2 (List.map zA a1.Helds) true none)) rfl rfl (erH.cons (v':=(.data 4 (List.map zp a1.Locks) true none)) rfl rfl erH.nil)))))))))) (erL.cons (v':=(.agg [(dI a1.Me),(.sl 1 0 ((List.map zd a1.Own).length)),(.sl 2 0 ((List.map zd a1.Frozen).length)),(.sl 3 0 ((List.map zj a1.Cells).length)),(.sl 4 0 ((List.map zp a1.Locks).length)),(.sl 5 0 ((List.map zA a1.Helds).length)),(.sl 6 0 ((List.map zt a1.Wounded).length)),(.sl 7 0 ((List.map zt a1.Ended).length)),(dI a1.Rank)])) rfl erL.nil) rfl rfl (qc (za eZ (xQ (AW.weaken (zM [] (kr 1 rfl rfl (kr 2 rfl rfl SL.nil)) (blR rfl) (BK.cons (n:=6) rfl bZ rfl rfl (BK.cons (n:=5) rfl (bR rfl) rfl rfl (BK.cons (n:=4) rfl (bR rfl) rfl rfl (BK.cons (n:=3) rfl (bR rfl) rfl rfl (BK.cons (n:=2) rfl (bR rfl) rfl rfl (BK.cons (n:=1) rfl (bR rfl) rfl rfl (BK.cons (n:=128) rfl (bR rfl) rfl rfl (BK.cons (n:=7) rfl (bR rfl) rfl rfl BK.nil)))))))) (GK.cons rfl GK.nil)) (aS (zW (zw (zf (m:=7) rfl rfl (zm (zw (zl (q:=7) (c:=(.sl 7 0 a1.Ended.length)) eZ (bR rfl) rfl rfl (zm (zw (za rfl (zm ?_)))))))))))))))
 obtain⟨v21,h22,H⟩:=zk H
 obtain⟨h23,H⟩:=qa H
 refine xW (ON:=[7]) (ls:=[]) (G:=[]) (E:=[qg 7]) (MB:=[(7,(.data 1 (List.map zt v21.2) true none))]) (u:=(oI v21.1)) eC Cl.fn (zat h22) (Ec rfl (Ec eZ En)) (AO.mut (VO.sl (bR rfl) lm (zy fun _=>rfl)) (AO.lent Vp rfl AO.nil)) rfl rfl rfl (SZ.cons (bR rfl) SZ.nil) (erL.cons (v':=(oI v18.1)) rfl (erL.cons (v':=(.one (.sl 7 0 a1.Ended.length))) rfl (erL.cons (v':=(.one (.ptr (.nm 128 0 7)))) rfl (erL.cons (v':=(oI v18.1)) rfl (erL.cons (v':=(.one (.ptr (.nm 128 0 0)))) rfl erL.nil))))) (erH.cons (v':=(.data 1 (List.map zt v18.2) true none)) rfl rfl (erH.cons (v':=(.data 2 (List.map zA v15.2) true none)) rfl rfl (erH.cons (v':=(.data 4 (List.map zp v12.2) true none)) rfl rfl (erH.cons (v':=(.data 2 (List.map zj v9.2) true none)) rfl rfl (erH.cons (v':=(.data 2 (List.map zd v6.2) true none)) rfl rfl (erH.cons (v':=(.data 2 (List.map zd v3.2) true none)) rfl rfl (erH.cons (v':=(.vars 9 [(dI a1.Me),(.sl 1 0 a1.Own.length),(.sl 2 0 a1.Frozen.length),(.sl 3 0 a1.Cells.length),(.sl 4 0 a1.Locks.length),(.sl 5 0 a1.Helds.length),(.sl 6 0 a1.Wounded.length),(.sl 7 0 a1.Ended.length),(dI a1.Rank)])) rfl rfl (erH.cons (v':=(.data 1 (List.map zt a1.Ended) true none)) rfl rfl erH.nil)))))))) (erL.cons (v':=(.agg [(dI a1.Me),(.sl 1 0 ((List.map zd a1.Own).length)),(.sl 2 0 ((List.map zd a1.Frozen).length)),(.sl 3 0 ((List.map zj a1.Cells).length)),(.sl 4 0 ((List.map zp a1.Locks).length)),(.sl 5 0 ((List.map zA a1.Helds).length)),(.sl 6 0 ((List.map zt a1.Wounded).length)),(.sl 7 0 ((List.map zt a1.Ended).length)),(dI a1.Rank)])) rfl erL.nil) rfl rfl (qc (za eZ (xQ (aV (za eZ (za eZ (xQ (AW.ret ?_))))))))
 obtain⟨h24,H⟩:=qa H
 obtain⟨h25,H⟩:=qa H
 obtain⟨h26,H⟩:=qa H
 obtain⟨h27,H⟩:=qa H
 obtain⟨h28,H⟩:=qa H
 obtain⟨h29,H⟩:=qa H
 obtain⟨h30,H⟩:=qa H
 cases H
 exact zbY (RL.cons (RV.tmp eZ) (VO.flat rfl) RL.nil) (ML.mut eZ (VO.aggs (VOs.cons (VO.flat rfl) (VOs.cons (VO.sl (bR rfl) (by first|(simp;done)|(simp;omega)|omega|(simp only[List.length_map];omega)) (zy fun _=>rfl)) (VOs.cons (VO.sl (bR rfl) (by first|(simp;done)|(simp;omega)|omega|(simp only[List.length_map];omega)) (zy fun _=>rfl)) (VOs.cons (VO.sl (bR rfl) (by first|(simp;done)|(simp;omega)|omega|(simp only[List.length_map];omega)) (zy fun _=>rfl)) (VOs.cons (VO.sl (bR rfl) (by first|(simp;done)|(simp;omega)|omega|(simp only[List.length_map];omega)) (zy fun _=>rfl)) (VOs.cons (ZN (bR rfl) (by first|(simp;done)|(simp;omega)|omega|(simp only[List.length_map];omega)) rfl) (VOs.cons (VO.sl (bR rfl) (by first|(simp;done)|(simp;omega)|omega|(simp only[List.length_map];omega)) (zy fun _=>rfl)) (VOs.cons (VO.sl bZ (by first|(simp;done)|(simp;omega)|omega|(simp only[List.length_map];omega)) (zy fun _=>rfl)) (VOs.cons (VO.flat rfl) VOs.nil)))))))))) (ML.lent ML.nil)) (by decide)
theorem Ku{a1:(List ze)}{a2:Int}{r:Int}(H:jQ a1 a2=some r):Fn Tryz.prog 103 (lent [(.sl 2 (List.map zd a1)),(.int .i64 a2)]) true [(.int .i64 r)]:=by
 refine zEj (fle rfl) ?_
 rw[zx]
 refine AW.weaken (zg [] (kv 0 (.one (.d (.sl 2 (List.map zd a1)))) rfl rfl (kv 1 (oI a2) rfl rfl SL.nil)) BL.nil BK.nil) ?_
 unfold jQ at H
 unfold zy2
 refine aV (za eC (xQ (zF (fun t3:Int=>QH t3=some r) (fun t3=>mk [(1,(oI t3))] [] noG) ?_ ?_)))
 ·intro t3 H
  unfold QH at H
  refine aV (za eZ (za eZ (xQ (AW.ret ?_))))
  cases H
  exact eE rfl rfl
 ·refine aV (za eC (xQ (AW.block (AW.iter (fun s5:(Int×Int)=>mk [(0,(.one (.d (.sl 2 (List.map zd a1))))),(1,(oI s5.1)),(5,(oI s5.2))] [] noG) H (zg [] (sR rfl rfl) BL.nil BK.nil) ?_))))
  intro kb6 s5 H
  unfold QN at H
  refine aS (aV (za rfl (za rfl (zX eZ (n:=a1.length) lm (qh rfl eZ (xQ ?_))))))
  rcases zC H with⟨h7,H⟩|⟨h7,H⟩
  ·refine zi eZ (dT h7) (AW.skip (TQ.qn (aS (AW.block (aS (aV (za rfl (za rfl ?_))))))))
   obtain⟨v8,h9,H⟩:=zk H
   refine qy rfl eZ h9 (z6 (m:=0) eZ rfl (zY (e:=(.int .i64 v8.Lo)) eZ rfl (za rfl (ZO rfl eZ (xQ ?_)))))
   rcases zC H with⟨h10,H⟩|⟨h10,H⟩
   ·refine zi eZ (dT h10) (aV (za eC (xQ (AW.ret (TQ.qr (BQ.qr (TQ.qr (TQ.qr (BQ.qr (TQ.qr ?_))))))))))
    cases H
    exact eE rfl rfl
   ·refine zh eZ (dF h10) (AW.skip (TQ.qn (aV (za rfl (qj eZ eC (za eZ (xQ (AW.weaken (zg [] (kr 1 rfl rfl (kr 0 rfl rfl (kr 5 rfl rfl SL.nil))) BL.nil BK.nil) (aS (aV (za rfl (za rfl ?_))))))))))))
    obtain⟨v11,h12,H⟩:=zk H
    refine qy rfl eZ h12 (z6 (m:=1) eZ rfl (zY (e:=(.int .i64 v11.Hi)) eZ rfl (za rfl (ZO rfl eZ (xQ ?_)))))
    rcases zC H with⟨h13,H⟩|⟨h13,H⟩
    ·refine zi eZ (dT h13) (aV (za eC (xQ (AW.ret (TQ.qr (BQ.qr (TQ.qr (TQ.qr (BQ.qr (TQ.qr ?_))))))))))
     cases H
     exact eE rfl rfl
    ·exact zh eZ (dF h13) (AW.skip (TQ.qn (aR (za rfl (qj eZ eC (za eZ (zm (BQ.qn (TQ.qn (aR (za rfl (qj eZ eC (za eZ (zm (TQ.qn ⟨((IntKind.wrap .i64 ((IntKind.wrap .i64 (s5.1+1))+1)),(IntKind.wrap .i64 (s5.2+1))),H,(zg [] (sR rfl rfl) BL.nil BK.nil)⟩)))))))))))))))
  ·exact zh eZ (dF h7) (AW.exit (TQ.qe (TQ.qe (BQ.qe (TQ.qn ⟨s5.1,H,(zg [] (sR rfl rfl) BL.nil BK.nil)⟩)))))
theorem zdd{a1:(List zu)}{a2:Int}{r:Int}(H:Zc a1 a2=some r):Fn Tryz.prog 34 (lent [(.sl 2 (List.map zj a1)),(.int .i64 a2)]) true [(.int .i64 r)]:=by
 refine f34 (fle rfl) ?_
 rw[zx]
 refine AW.weaken (zg [] (kv 0 (.one (.d (.sl 2 (List.map zj a1)))) rfl rfl (kv 1 (oI a2) rfl rfl SL.nil)) BL.nil BK.nil) ?_
 unfold Zc at H
 unfold i34
 refine aV (za eC (xQ (zF (fun t3:Int=>Jo t3=some r) (fun t3=>mk [(1,(oI t3))] [] noG) ?_ ?_)))
 ·intro t3 H
  unfold Jo at H
  refine aV (za eZ (za eZ (xQ (AW.ret ?_))))
  cases H
  exact eE rfl rfl
 ·refine aV (za eC (xQ (AW.block (AW.iter (fun s5:(Int×Int)=>mk [(0,(.one (.d (.sl 2 (List.map zj a1))))),(1,(oI s5.1)),(5,(oI s5.2))] [] noG) H (zg [] (sR rfl rfl) BL.nil BK.nil) ?_))))
  intro kb6 s5 H
  unfold Jn at H
  refine aS (aV (za rfl (za rfl (zX eZ (n:=a1.length) lm (qh rfl eZ (xQ ?_))))))
  rcases zC H with⟨h7,H⟩|⟨h7,H⟩
  ·refine zi eZ (dT h7) (AW.skip (TQ.qn (aS (AW.block (aS (aV (za rfl (za rfl ?_))))))))
   obtain⟨v8,h9,H⟩:=zk H
   refine qy rfl eZ h9 (z6 (m:=0) eZ rfl (zY (e:=(.int .i64 v8.Key)) eZ rfl (za rfl (ZO rfl eZ (xQ ?_)))))
   rcases zC H with⟨h10,H⟩|⟨h10,H⟩
   ·refine zi eZ (dT h10) (aV (za eC (xQ (AW.ret (TQ.qr (BQ.qr (TQ.qr (TQ.qr (BQ.qr (TQ.qr ?_))))))))))
    cases H
    exact eE rfl rfl
   ·refine zh eZ (dF h10) (AW.skip (TQ.qn (aV (za rfl (qj eZ eC (za eZ (xQ (AW.weaken (zg [] (kr 1 rfl rfl (kr 0 rfl rfl (kr 5 rfl rfl SL.nil))) BL.nil BK.nil) (aS (aV (za rfl (za rfl ?_))))))))))))
    obtain⟨v11,h12,H⟩:=zk H
    refine qy rfl eZ h12 (z6 (m:=1) eZ rfl (zY (e:=(.int .i64 v11.Value)) eZ rfl (za rfl (ZO rfl eZ (xQ ?_)))))
    rcases zC H with⟨h13,H⟩|⟨h13,H⟩
    ·refine zi eZ (dT h13) (aV (za eC (xQ (AW.ret (TQ.qr (BQ.qr (TQ.qr (TQ.qr (BQ.qr (TQ.qr ?_))))))))))
     cases H
     exact eE rfl rfl
    ·exact zh eZ (dF h13) (AW.skip (TQ.qn (aR (za rfl (qj eZ eC (za eZ (zm (BQ.qn (TQ.qn (aR (za rfl (qj eZ eC (za eZ (zm (TQ.qn ⟨((IntKind.wrap .i64 ((IntKind.wrap .i64 (s5.1+1))+1)),(IntKind.wrap .i64 (s5.2+1))),H,(zg [] (sR rfl rfl) BL.nil BK.nil)⟩)))))))))))))))
  ·exact zh eZ (dF h7) (AW.exit (TQ.qe (TQ.qe (BQ.qe (TQ.qn ⟨s5.1,H,(zg [] (sR rfl rfl) BL.nil BK.nil)⟩)))))
theorem zdk{a1:(List zK)}{a2:Int}{r:Int}(H:Zm a1 a2=some r):Fn Tryz.prog 104 (lent [(.sl 4 (List.map zp a1)),(.int .i64 a2)]) true [(.int .i64 r)]:=by
 refine zED (fle rfl) ?_
 rw[zx]
 refine AW.weaken (zg [] (kv 0 (.one (.d (.sl 4 (List.map zp a1)))) rfl rfl (kv 1 (oI a2) rfl rfl SL.nil)) BL.nil BK.nil) ?_
 unfold Zm at H
 unfold zAN
 refine aV (za eC (xQ (zF (fun t3:Int=>Jj t3=some r) (fun t3=>mk [(1,(oI t3))] [] noG) ?_ ?_)))
 ·intro t3 H
  unfold Jj at H
  refine aV (za eZ (za eZ (xQ (AW.ret ?_))))
  cases H
  exact eE rfl rfl
 ·refine aV (za eC (xQ (AW.block (AW.iter (fun s5:(Int×Int)=>mk [(0,(.one (.d (.sl 4 (List.map zp a1))))),(1,(oI s5.1)),(5,(oI s5.2))] [] noG) H (zg [] (sR rfl rfl) BL.nil BK.nil) ?_))))
  intro kb6 s5 H
  unfold Je at H
  refine aS (aV (za rfl (za rfl (zX eZ (n:=a1.length) lm (qh rfl eZ (xQ ?_))))))
  rcases zC H with⟨h7,H⟩|⟨h7,H⟩
  ·refine zi eZ (dT h7) (AW.skip (TQ.qn (aS (AW.block (aS (aV (za rfl (za rfl ?_))))))))
   obtain⟨v8,h9,H⟩:=zk H
   refine qy rfl eZ h9 (z6 (m:=0) eZ rfl (zY (e:=(.int .i64 v8.Tx)) eZ rfl (za rfl (ZO rfl eZ (xQ ?_)))))
   rcases zC H with⟨h10,H⟩|⟨h10,H⟩
   ·refine zi eZ (dT h10) (aV (za eC (xQ (AW.ret (TQ.qr (BQ.qr (TQ.qr (TQ.qr (BQ.qr (TQ.qr ?_))))))))))
    cases H
    exact eE rfl rfl
   ·refine zh eZ (dF h10) (AW.skip (TQ.qn (aV (za rfl (qj eZ eC (za eZ (xQ (AW.weaken (zg [] (kr 1 rfl rfl (kr 0 rfl rfl (kr 5 rfl rfl SL.nil))) BL.nil BK.nil) (aS (aV (za rfl (za rfl ?_))))))))))))
    obtain⟨v11,h12,H⟩:=zk H
    refine qy rfl eZ h12 (z6 (m:=1) eZ rfl (zY (e:=(.int .i64 v11.Lo)) eZ rfl (za rfl (ZO rfl eZ (xQ ?_)))))
    rcases zC H with⟨h13,H⟩|⟨h13,H⟩
    ·refine zi eZ (dT h13) (aV (za eC (xQ (AW.ret (TQ.qr (BQ.qr (TQ.qr (TQ.qr (BQ.qr (TQ.qr ?_))))))))))
     cases H
     exact eE rfl rfl
    ·refine zh eZ (dF h13) (AW.skip (TQ.qn (aV (za rfl (qj eZ eC (za eZ (xQ (aS (aV (za rfl (za rfl ?_)))))))))))
     obtain⟨v14,h15,H⟩:=zk H
     refine qy rfl eZ h15 (z6 (m:=2) eZ rfl (zY (e:=(.int .i64 v14.Hi)) eZ rfl (za rfl (ZO rfl eZ (xQ (AW.weaken (zg [] (kr 36 rfl rfl (kr 1 rfl rfl (kr 0 rfl rfl (kr 5 rfl rfl SL.nil)))) BL.nil BK.nil) ?_))))))
     rcases zC H with⟨h16,H⟩|⟨h16,H⟩
     ·refine zi eZ (dT h16) (aV (za eC (xQ (AW.ret (TQ.qr (BQ.qr (TQ.qr (TQ.qr (BQ.qr (TQ.qr ?_))))))))))
      cases H
      exact eE rfl rfl
     ·refine zh eZ (dF h16) (AW.skip (TQ.qn (aV (za rfl (qj eZ eC (za eZ (xQ (aS (aV (za rfl (za rfl ?_)))))))))))
      obtain⟨v17,h18,H⟩:=zk H
      refine qy rfl eZ h18 (z6 (m:=3) eZ rfl (zY (e:=(.int .i64 v17.Mode)) eZ rfl (za rfl (ZO rfl eZ (xQ ?_)))))
      rcases zC H with⟨h19,H⟩|⟨h19,H⟩
      ·refine zi eZ (dT h19) (aV (za eC (xQ (AW.ret (TQ.qr (BQ.qr (TQ.qr (TQ.qr (BQ.qr (TQ.qr ?_))))))))))
       cases H
       exact eE rfl rfl
      ·exact zh eZ (dF h19) (AW.skip (TQ.qn (aR (za rfl (qj eZ eC (za eZ (zm (BQ.qn (TQ.qn (AW.weaken (zg [] (kr 1 rfl rfl (kr 0 rfl rfl (kr 5 rfl rfl SL.nil))) BL.nil BK.nil) (aR (za rfl (qj eZ eC (za eZ (zm (TQ.qn ⟨((IntKind.wrap .i64 ((IntKind.wrap .i64 ((IntKind.wrap .i64 ((IntKind.wrap .i64 (s5.1+1))+1))+1))+1)),(IntKind.wrap .i64 (s5.2+1))),H,(zg [] (sR rfl rfl) BL.nil BK.nil)⟩))))))))))))))))
  ·exact zh eZ (dF h7) (AW.exit (TQ.qe (TQ.qe (BQ.qe (TQ.qn ⟨s5.1,H,(zg [] (sR rfl rfl) BL.nil BK.nil)⟩)))))
theorem zcI{a1:(List zu)}{a2:Int}{r:Int}(H:ZA a1 a2=some r):Fn Tryz.prog 213 (lent [(.sl 2 (List.map zj a1)),(.int .i64 a2)]) true [(.int .i64 r)]:=by
 refine zEd (fle rfl) ?_
 rw[zx]
 refine AW.weaken (zg [] (kv 0 (.one (.d (.sl 2 (List.map zj a1)))) rfl rfl (kv 1 (oI a2) rfl rfl SL.nil)) BL.nil BK.nil) ?_
 unfold ZA at H
 unfold zCA
 refine aV (za eC (xQ (zF (fun t3:Int=>Qw t3=some r) (fun t3=>mk [(1,(oI t3))] [] noG) ?_ ?_)))
 ·intro t3 H
  unfold Qw at H
  refine aV (za eZ (za eZ (xQ (AW.ret ?_))))
  cases H
  exact eE rfl rfl
 ·refine aV (za eC (xQ (AW.block (AW.iter (fun s5:(Int×Int)=>mk [(0,(.one (.d (.sl 2 (List.map zj a1))))),(1,(oI s5.1)),(5,(oI s5.2))] [] noG) H (zg [] (sR rfl rfl) BL.nil BK.nil) ?_))))
  intro kb6 s5 H
  unfold Qy at H
  refine aS (aV (za rfl (za rfl (zX eZ (n:=a1.length) lm (qh rfl eZ (xQ ?_))))))
  rcases zC H with⟨h7,H⟩|⟨h7,H⟩
  ·refine zi eZ (dT h7) (AW.skip (TQ.qn (aS (AW.block (aS (aV (za rfl (za rfl ?_))))))))
   obtain⟨v8,h9,H⟩:=zk H
   refine qy rfl eZ h9 (z6 (m:=0) eZ rfl (zY (e:=(.int .i64 v8.Key)) eZ rfl (za rfl (ZO rfl eZ (xQ ?_)))))
   rcases zC H with⟨h10,H⟩|⟨h10,H⟩
   ·refine zi eZ (dT h10) (aV (za eC (xQ (AW.ret (TQ.qr (BQ.qr (TQ.qr (TQ.qr (BQ.qr (TQ.qr ?_))))))))))
    cases H
    exact eE rfl rfl
   ·refine zh eZ (dF h10) (AW.skip (TQ.qn (aV (za rfl (qj eZ eC (za eZ (xQ (AW.weaken (zg [] (kr 1 rfl rfl (kr 0 rfl rfl (kr 5 rfl rfl SL.nil))) BL.nil BK.nil) (aS (aV (za rfl (za rfl ?_))))))))))))
    obtain⟨v11,h12,H⟩:=zk H
    refine qy rfl eZ h12 (z6 (m:=1) eZ rfl (zY (e:=(.int .i64 v11.Value)) eZ rfl (za rfl (ZO rfl eZ (xQ ?_)))))
    rcases zC H with⟨h13,H⟩|⟨h13,H⟩
    ·refine zi eZ (dT h13) (aV (za eC (xQ (AW.ret (TQ.qr (BQ.qr (TQ.qr (TQ.qr (BQ.qr (TQ.qr ?_))))))))))
     cases H
     exact eE rfl rfl
    ·exact zh eZ (dF h13) (AW.skip (TQ.qn (aR (za rfl (qj eZ eC (za eZ (zm (BQ.qn (TQ.qn (aR (za rfl (qj eZ eC (za eZ (zm (TQ.qn ⟨((IntKind.wrap .i64 ((IntKind.wrap .i64 (s5.1+1))+1)),(IntKind.wrap .i64 (s5.2+1))),H,(zg [] (sR rfl rfl) BL.nil BK.nil)⟩)))))))))))))))
  ·exact zh eZ (dF h7) (AW.exit (TQ.qe (TQ.qe (BQ.qe (TQ.qn ⟨s5.1,H,(zg [] (sR rfl rfl) BL.nil BK.nil)⟩)))))
theorem zdq{a1:(List zL)}{a2:Int}{r:Int}(H:y4 a1 a2=some r):Fn Tryz.prog 105 (lent [(.sl 2 (List.map zA a1)),(.int .i64 a2)]) true [(.int .i64 r)]:=by
 refine zD8 (fle rfl) ?_
 rw[zx]
 refine AW.weaken (zg [] (kv 0 (.one (.d (.sl 2 (List.map zA a1)))) rfl rfl (kv 1 (oI a2) rfl rfl SL.nil)) BL.nil BK.nil) ?_
 unfold y4 at H
 unfold zAt
 refine aV (za eC (xQ (zF (fun t3:Int=>Jh t3=some r) (fun t3=>mk [(1,(oI t3))] [] noG) ?_ ?_)))
 ·intro t3 H
  unfold Jh at H
  refine aV (za eZ (za eZ (xQ (AW.ret ?_))))
  cases H
  exact eE rfl rfl
 ·refine aV (za eC (xQ (AW.block (AW.iter (fun s5:(Int×Int)=>mk [(0,(.one (.d (.sl 2 (List.map zA a1))))),(1,(oI s5.1)),(5,(oI s5.2))] [] noG) H (zg [] (sR rfl rfl) BL.nil BK.nil) ?_))))
  intro kb6 s5 H
  unfold Jf at H
  refine aS (aV (za rfl (za rfl (zX eZ (n:=a1.length) lm (qh rfl eZ (xQ ?_))))))
  rcases zC H with⟨h7,H⟩|⟨h7,H⟩
  ·refine zi eZ (dT h7) (AW.skip (TQ.qn (aS (AW.block (aS (aV (za rfl (za rfl ?_))))))))
   obtain⟨v8,h9,H⟩:=zk H
   refine qy rfl eZ h9 (z6 (m:=0) eZ rfl (zY (e:=(.int .i64 v8.Tx)) eZ rfl (za rfl (ZO rfl eZ (xQ ?_)))))
   rcases zC H with⟨h10,H⟩|⟨h10,H⟩
   ·refine zi eZ (dT h10) (aV (za eC (xQ (AW.ret (TQ.qr (BQ.qr (TQ.qr (TQ.qr (BQ.qr (TQ.qr ?_))))))))))
    cases H
    exact eE rfl rfl
   ·refine zh eZ (dF h10) (AW.skip (TQ.qn (aV (za rfl (qj eZ eC (za eZ (xQ (AW.weaken (zg [] (kr 1 rfl rfl (kr 0 rfl rfl (kr 5 rfl rfl SL.nil))) BL.nil BK.nil) (aV (za rfl (za rfl ?_)))))))))))
    obtain⟨v11,h12,H⟩:=zk H
    refine qy rfl eZ h12 (z6 (m:=1) eZ rfl (zY (e:=(.sl 2 (List.map zj v11.Writes))) eZ rfl (za rfl ?_)))
    obtain⟨v13,h14,H⟩:=zk H
    refine zD (u:=(oI v13)) eC Cl.fn (zcI h14) (Ec rfl (Ec eZ En)) (Vc Vp (Vc Vp Vn)) rfl (za eZ (xQ (aV (za eZ (qh eZ eC (xQ ?_))))))
    rcases zC H with⟨h15,H⟩|⟨h15,H⟩
    ·refine zi eZ (dT h15) (aV (za eC (xQ (AW.ret (BQ.qr (TQ.qr (TQ.qr (BQ.qr (TQ.qr ?_)))))))))
     cases H
     exact eE rfl rfl
    ·exact zh eZ (dF h15) (AW.skip (BQ.qn (TQ.qn (aR (za rfl (qj eZ eC (za eZ (zm (TQ.qn ⟨(v13,(IntKind.wrap .i64 (s5.2+1))),H,(zg [] (sR rfl rfl) BL.nil BK.nil)⟩)))))))))
  ·exact zh eZ (dF h7) (AW.exit (TQ.qe (TQ.qe (BQ.qe (TQ.qn ⟨s5.1,H,(zg [] (sR rfl rfl) BL.nil BK.nil)⟩)))))
theorem zaw{a1:(List Int)}{a2:Int}{r:Int}(H:yg a1 a2=some r):Fn Tryz.prog 106 (lent [(.sl 1 (List.map zt a1)),(.int .i64 a2)]) true [(.int .i64 r)]:=by
 refine zEe (fle rfl) ?_
 rw[zx]
 refine AW.weaken (zg [] (kv 0 (.one (.d (.sl 1 (List.map zt a1)))) rfl rfl (kv 1 (oI a2) rfl rfl SL.nil)) BL.nil BK.nil) ?_
 unfold yg at H
 unfold zCX
 refine aV (za eC (xQ (zF (fun t3:Int=>YV t3=some r) (fun t3=>mk [(1,(oI t3))] [] noG) ?_ ?_)))
 ·intro t3 H
  unfold YV at H
  refine aV (za eZ (za eZ (xQ (AW.ret ?_))))
  cases H
  exact eE rfl rfl
 ·refine aV (za eC (xQ (AW.block (AW.iter (fun s5:(Int×Int)=>mk [(0,(.one (.d (.sl 1 (List.map zt a1))))),(1,(oI s5.1)),(5,(oI s5.2))] [] noG) H (zg [] (sR rfl rfl) BL.nil BK.nil) ?_))))
  intro kb6 s5 H
  unfold YO at H
  refine aS (aV (za rfl (za rfl (zX eZ (n:=a1.length) lm (qh rfl eZ (xQ ?_))))))
  rcases zC H with⟨h7,H⟩|⟨h7,H⟩
  ·refine zi eZ (dT h7) (AW.skip (TQ.qn (aS (AW.block (aS (aV (za rfl (za rfl ?_))))))))
   obtain⟨v8,h9,H⟩:=zk H
   refine qy rfl eZ h9 (zY (e:=(.int .i64 v8)) eZ rfl (za rfl (ZO rfl eZ (xQ ?_))))
   rcases zC H with⟨h10,H⟩|⟨h10,H⟩
   ·refine zi eZ (dT h10) (aV (za eC (xQ (AW.ret (TQ.qr (BQ.qr (TQ.qr (TQ.qr (BQ.qr (TQ.qr ?_))))))))))
    cases H
    exact eE rfl rfl
   ·exact zh eZ (dF h10) (AW.skip (TQ.qn (aR (za rfl (qj eZ eC (za eZ (zm (BQ.qn (TQ.qn (AW.weaken (zg [] (kr 1 rfl rfl (kr 0 rfl rfl (kr 5 rfl rfl SL.nil))) BL.nil BK.nil) (aR (za rfl (qj eZ eC (za eZ (zm (TQ.qn ⟨((IntKind.wrap .i64 (s5.1+1)),(IntKind.wrap .i64 (s5.2+1))),H,(zg [] (sR rfl rfl) BL.nil BK.nil)⟩))))))))))))))))
  ·exact zh eZ (dF h7) (AW.exit (TQ.qe (TQ.qe (BQ.qe (TQ.qn ⟨s5.1,H,(zg [] (sR rfl rfl) BL.nil BK.nil)⟩)))))
theorem K3{a1:zn}{a2:Int}{r:Int}(H:y9 a1 a2=some r):Fn Tryz.prog 25 (lent [(.agg (zR a1)),(.int .i64 a2)]) true [(.int .i64 r)]:=by
 refine f25 (fle rfl) ?_
 rw[zx]
 refine AW.weaken (zg [] (kv 0 (.agg (zE a1)) rfl rfl (kv 1 (oI a2) rfl rfl SL.nil)) BL.nil BK.nil) ?_
 unfold y9 at H
 unfold i25
 refine aV (jh (n:=128) (m:=9) (cs:=(zE a1)) rfl eZ rfl rfl nZ (za eC (xQ (aV (zf (m:=1) rfl rfl (zl (q:=1) (c:=(.d (.sl 2 (List.map zd a1.Own)))) eZ bZ rfl rfl (za rfl ?_)))))))
 obtain⟨v3,h4,H⟩:=zk H
 refine zD (u:=(oI v3)) eC Cl.fn (Ku h4) (Ec rfl (Ec eZ En)) (Vc Vp (Vc Vp Vn)) rfl (za eZ (xQ (aS (aV (za eZ (qh eZ eC (xQ ?_)))))))
 rcases zC H with⟨h5,H⟩|⟨h5,H⟩
 ·refine zi eZ (dT h5) (aV (za eC (xQ (AW.ret (TQ.qr ?_)))))
  cases H
  exact eE rfl rfl
 ·refine zh eZ (dF h5) (AW.skip (TQ.qn (aV (zf (m:=2) rfl rfl (zl (q:=2) (c:=(.d (.sl 2 (List.map zd a1.Frozen)))) eZ bZ rfl rfl (za rfl ?_))))))
  obtain⟨v6,h7,H⟩:=zk H
  refine zD (u:=(oI v6)) eC Cl.fn (Ku h7) (Ec rfl (Ec eZ En)) (Vc Vp (Vc Vp Vn)) rfl (za eZ (xQ (AW.weaken (zg [] (kr 1 rfl rfl (kr 2 rfl rfl SL.nil)) (blR rfl) (BK.cons (n:=128) rfl bZ rfl rfl BK.nil)) (aS (aV (za eZ (qh eZ eC (xQ ?_))))))))
  rcases zC H with⟨h8,H⟩|⟨h8,H⟩
  ·refine zi eZ (dT h8) (aV (za eC (xQ (AW.ret (TQ.qr ?_)))))
   cases H
   exact eE rfl rfl
  ·refine zh eZ (dF h8) (AW.skip (TQ.qn (aV (zf (m:=3) rfl rfl (zl (q:=3) (c:=(.d (.sl 2 (List.map zj a1.Cells)))) eZ bZ rfl rfl (za rfl ?_))))))
   obtain⟨v9,h10,H⟩:=zk H
   refine zD (u:=(oI v9)) eC Cl.fn (zdd h10) (Ec rfl (Ec eZ En)) (Vc Vp (Vc Vp Vn)) rfl (za eZ (xQ (aS (aV (za eZ (qh eZ eC (xQ ?_)))))))
   rcases zC H with⟨h11,H⟩|⟨h11,H⟩
   ·refine zi eZ (dT h11) (aV (za eC (xQ (AW.ret (TQ.qr ?_)))))
    cases H
    exact eE rfl rfl
   ·refine zh eZ (dF h11) (AW.skip (TQ.qn (aV (zf (m:=4) rfl rfl (zl (q:=4) (c:=(.d (.sl 4 (List.map zp a1.Locks)))) eZ bZ rfl rfl (za rfl ?_))))))
    obtain⟨v12,h13,H⟩:=zk H
    refine zD (u:=(oI v12)) eC Cl.fn (zdk h13) (Ec rfl (Ec eZ En)) (Vc Vp (Vc Vp Vn)) rfl (za eZ (xQ (AW.weaken (zg [] (kr 1 rfl rfl (kr 2 rfl rfl SL.nil)) (blR rfl) (BK.cons (n:=128) rfl bZ rfl rfl BK.nil)) (aS (aV (za eZ (qh eZ eC (xQ ?_))))))))
    rcases zC H with⟨h14,H⟩|⟨h14,H⟩
    ·refine zi eZ (dT h14) (aV (za eC (xQ (AW.ret (TQ.qr ?_)))))
     cases H
     exact eE rfl rfl
    ·refine zh eZ (dF h14) (AW.skip (TQ.qn (aV (zf (m:=5) rfl rfl (zl (q:=5) (c:=(.d (.sl 2 (List.map zA a1.Helds)))) eZ bZ rfl rfl (za rfl ?_))))))
     obtain⟨v15,h16,H⟩:=zk H
     refine zD (u:=(oI v15)) eC Cl.fn (zdq h16) (Ec rfl (Ec eZ En)) (Vc Vp (Vc Vp Vn)) rfl (za eZ (xQ (aS (aV (za eZ (qh eZ eC (xQ ?_)))))))
     rcases zC H with⟨h17,H⟩|⟨h17,H⟩
     ·refine zi eZ (dT h17) (aV (za eC (xQ (AW.ret (TQ.qr ?_)))))
      cases H
      exact eE rfl rfl
     ·refine zh eZ (dF h17) (AW.skip (TQ.qn (aV (zf (m:=6) rfl rfl (zl (q:=6) (c:=(.d (.sl 1 (List.map zt a1.Wounded)))) eZ bZ rfl rfl (za rfl ?_))))))
      obtain⟨v18,h19,H⟩:=zk H
      refine zD (u:=(oI v18)) eC Cl.fn (zaw h19) (Ec rfl (Ec eZ En)) (Vc Vp (Vc Vp Vn)) rfl (za eZ (xQ (AW.weaken (zg [] (kr 1 rfl rfl (kr 2 rfl rfl SL.nil)) (blR rfl) (BK.cons (n:=128) rfl bZ rfl rfl BK.nil)) (aS (aV (za eZ (qh eZ eC (xQ ?_))))))))
      rcases zC H with⟨h20,H⟩|⟨h20,H⟩
      ·refine zi eZ (dT h20) (aV (za eC (xQ (AW.ret (TQ.qr ?_)))))
       cases H
       exact eE rfl rfl
      ·refine zh eZ (dF h20) (AW.skip (TQ.qn (aV (zf (m:=7) rfl rfl (zl (q:=7) (c:=(.d (.sl 1 (List.map zt a1.Ended)))) eZ bZ rfl rfl (za rfl ?_))))))
       obtain⟨v21,h22,H⟩:=zk H
       refine zD (u:=(oI v21)) eC Cl.fn (zaw h22) (Ec rfl (Ec eZ En)) (Vc Vp (Vc Vp Vn)) rfl (za eZ (xQ (aS (aV (za eZ (qh eZ eC (xQ ?_)))))))
       rcases zC H with⟨h23,H⟩|⟨h23,H⟩
       ·refine zi eZ (dT h23) (aV (za eC (xQ (AW.ret (TQ.qr ?_)))))
        cases H
        exact eE rfl rfl
       ·refine zh eZ (dF h23) (AW.skip (TQ.qn (aV (za rfl (za eZ (xQ (AW.ret ?_)))))))
        cases H
        exact eE rfl rfl
end Go.AW
