/- That functions of the program compute what the plain functions say. Conditions: each theorem's own. -/
import Derived.Test.YtlcjjljmjdmobaaMFnBegunOnce
import Derived.Test.YtlcjjljmjdmobaaGFnBegunOnce
import Derived.Test.YtlcjjljmjdmobaaYp
import Derived.Test.YtlcjjljmjdmobaaDFnBegunOncea
import Derived.Test.YtlcjjljmjdmobaaDFnBegunOnceb
import Derived.Test.YtlcjjljmjdmobaaDFnBegunOncec
set_option linter.unusedVariables false
set_option linter.unusedSimpArgs false
set_option maxRecDepth 100000
namespace Go.AW
open Go.Proofs
theorem kS{pv:Value}{cb1:(List Int)}{a2:(Int×Int)}{a3:Int}{r:(zl×(Int×Int))}(H:y9 cb1 a2 a3=some r):FnC Try.prog pv (.sl 1 (List.map zM cb1)) 57 [⟨(.ptr [(.pin pv),(.int .i64 a2.1),(.int .i64 a2.2)]),.m (.ptr [(.pin pv),(.int .i64 r.2.1),(.int .i64 r.2.2)])⟩,⟨(.int .i64 a3),.b⟩] [(.agg (qI r.1))]:=by
 refine n57 (fle rfl) (fle rfl) (fC nZ rfl fN) rfl ?_
 rw[Zr]
 refine AW.weaken (t:=mk [(0,(.one (.ptr (.nm 0 0 0)))),(1,(oI a3))] [(0,(.vars 3 [(.d (.pin pv)),(dI a2.1),(dI a2.2)]))] (lk [(63,(.one (.d (.both pv (.sl 1 (List.map zM cb1)))))),(0,(.one (.ptr (.nm 0 0 0))))])) (zg (gl:=[(63,(.one (.d (.both pv (.sl 1 (List.map zM cb1)))))),(0,(.one (.ptr (.nm 0 0 0))))]) [] (kv 0 (.one (.ptr (.nm 0 0 0))) rfl rfl (kv 1 (oI a3) rfl rfl SL.nil)) (blR rfl) (BK.cons (n:=0) rfl bZ rfl rfl BK.nil) (GK.cons rfl (GK.cons rfl GK.nil))) ?_
 unfold y9 at H
 unfold i57
 refine aV (Zy (n:=256) (m:=2) rfl rfl (nR rfl) (xQ (aS (zp (ze (za rfl (zb (ze (za rfl (zb ?_))))))))))
 obtain⟨v4,h5,H⟩:=zo H
 refine Kh (v0:=pv) (hg:=by exact rfl) (ON:=[0]) (ls:=[]) (G:=[]) (E:=[zJ 0]) (MB:=[(0,(.vars 3 [(.d (.pin pv)),(dI v4.2.1),(dI v4.2.2)]))]) (u:=(.agg [(.sl 512 0 v4.1.Recs.length),(.sl 513 0 v4.1.Order.length)])) (bs:=[(512,(.data 5 (List.map zm v4.1.Recs) true none)),(513,(.data 1 (List.map zt v4.1.Order) true none))]) eC Cl.fn (xT h5) (Ec rfl (Ec eZ En)) (AO.mut (VO.ptr (es:=[(.pin pv),(.int .i64 a2.1),(.int .i64 a2.2)]) (bR rfl) rfl rfl rfl) (AO.lent Vp rfl AO.nil)) rfl rfl rfl (zO (bR rfl) rfl SZ.nil) (erL.cons (v':=(oI a3)) rfl (erL.cons (v':=(.one (.ptr (.nm 0 0 0)))) rfl (erL.cons (v':=(.one (.ptr (.nm 256 0 0)))) rfl (erL.cons (v':=(.one (.ptr (.nm 0 0 0)))) rfl (erL.cons (v':=(oI a3)) rfl erL.nil))))) (erH.cons (v':=(.vars 2 [.zs,.zs])) rfl rfl (erH.cons (v':=(.vars 3 [(.d (.pin pv)),(dI a2.1),(dI a2.2)])) rfl rfl erH.nil)) (erL.cons (v':=(.one (.d (.both pv (.sl 1 (List.map zM cb1)))))) rfl (erL.cons (v':=(.one (.ptr (.nm 0 0 0)))) rfl erL.nil)) (by simp[qW,jB,qz,jn,qH]) rfl (fC (nR rfl) rfl (fC (nR rfl) rfl (fC (nR rfl) rfl fN))) (ze (Zy (n:=320) (m:=2) rfl rfl (nR rfl) (zb (ze (zw (es:=[(.sl 512 0 v4.1.Recs.length),(.sl 513 0 v4.1.Order.length)]) eZ rfl rfl rfl bZ rfl (zb (zx (xQ (aS (aS (zp (ze (za rfl (zb ?_))))))))))))))
 obtain⟨v6,h7,H⟩:=zo H
 refine z8 (v0:=pv) (hg:=by exact rfl) (ON:=[0]) (ls:=[]) (G:=[]) (E:=[zJ 0]) (MB:=[(0,(.vars 3 [(.d (.pin pv)),(dI v6.2.1),(dI v6.2.2)]))]) (u:=(oI v6.1)) eC Cl.fn (zH h7) (Ec eZ (Ec eC En)) (AO.mut (VO.ptr (es:=[(.pin pv),(.int .i64 v4.2.1),(.int .i64 v4.2.2)]) (bR rfl) rfl rfl rfl) (AO.lent Vp rfl AO.nil)) rfl rfl rfl (zO (bR rfl) rfl SZ.nil) (erL.cons (v':=(.one (.ptr (.nm 0 0 0)))) rfl (erL.cons (v':=(.one (.ptr (.nm 320 0 0)))) rfl (erL.cons (v':=(.agg [(.sl 512 0 v4.1.Recs.length),(.sl 513 0 v4.1.Order.length)])) rfl (erL.cons (v':=(oI a3)) rfl (erL.cons (v':=(.one (.ptr (.nm 0 0 0)))) rfl (erL.cons (v':=(.one (.ptr (.nm 256 0 0)))) rfl (erL.cons (v':=(.one (.ptr (.nm 0 0 0)))) rfl (erL.cons (v':=(oI a3)) rfl erL.nil)))))))) (erH.cons (v':=(.vars 2 [(.sl 512 0 v4.1.Recs.length),(.sl 513 0 v4.1.Order.length)])) rfl rfl (erH.cons (v':=(.vars 2 [.zs,.zs])) rfl rfl (erH.cons (v':=(.data 1 (List.map zt v4.1.Order) true none)) rfl rfl (erH.cons (v':=(.data 5 (List.map zm v4.1.Recs) true none)) rfl rfl (erH.cons (v':=(.vars 3 [(.d (.pin pv)),(dI v4.2.1),(dI v4.2.2)])) rfl rfl (erH.cons (v':=(.vars 2 [.zs,.zs])) rfl rfl (erH.cons (v':=(.vars 3 [(.d (.pin pv)),(dI a2.1),(dI a2.2)])) rfl rfl erH.nil))))))) (erL.cons (v':=(.one (.d (.both pv (.sl 1 (List.map zM cb1)))))) rfl (erL.cons (v':=(.one (.ptr (.nm 0 0 0)))) rfl erL.nil)) rfl rfl (zx (xQ (AW.block (aV (jC eZ eC (za eZ (xQ ?_)))))))
 rcases zF H with⟨h8,H⟩|⟨h8,H⟩
 ·refine zk eZ (dT h8) (AW.regp [320] (yb rfl (zi (m:=1) rfl rfl (zb (ZE eZ rfl (zr (q:=1) (c:=(.sl 513 0 v4.1.Order.length)) eZ (bR rfl) rfl rfl (zb (yb rfl (za rfl (zb (Yn ?_)))))))))))
  obtain⟨v9,h10,H⟩:=zo H
  refine jG (v0:=pv) (hg:=by exact rfl) (ON:=[0]) (ls:=[]) (G:=[]) (E:=[zJ 0]) (MB:=[(0,(.vars 3 [(.d (.pin pv)),(dI v9.2.1),(dI v9.2.2)]))]) (u:=(oI v9.1)) eC Cl.fn (zH h10) (Ec eZ (Ec eC En)) (AO.mut (VO.ptr (es:=[(.pin pv),(.int .i64 v6.2.1),(.int .i64 v6.2.2)]) bZ rfl rfl rfl) (AO.lent Vp rfl AO.nil)) rfl rfl rfl (zO bZ rfl SZ.nil) (erL.cons (v':=(.one (.ptr (.nm 0 0 0)))) rfl (erL.cons (v':=(.one (.sl 513 0 v4.1.Order.length))) rfl (erL.cons (v':=(.one (.ptr (.nm 320 0 1)))) rfl (erL.cons (v':=(oB (decide (v6.1=0)))) rfl (erL.cons (v':=(oB (decide (v6.1=0)))) rfl (erL.cons (v':=(oI v6.1)) rfl (erL.cons (v':=(.one (.ptr (.nm 0 0 0)))) rfl (erL.cons (v':=(.one (.ptr (.nm 320 0 0)))) rfl (erL.cons (v':=(.agg [(.sl 512 0 v4.1.Recs.length),(.sl 513 0 v4.1.Order.length)])) rfl (erL.cons (v':=(oI a3)) rfl (erL.cons (v':=(.one (.ptr (.nm 0 0 0)))) rfl (erL.cons (v':=(.one (.ptr (.nm 256 0 0)))) rfl (erL.cons (v':=(.one (.ptr (.nm 0 0 0)))) rfl (erL.cons (v':=(oI a3)) rfl erL.nil)))))))))))))) (erH.cons (v':=(.vars 3 [(.d (.pin pv)),(dI v6.2.1),(dI v6.2.2)])) rfl rfl (erH.cons (v':=(.vars 2 [(.sl 512 0 v4.1.Recs.length),(.sl 513 0 v4.1.Order.length)])) rfl rfl (erH.cons (v':=(.vars 2 [.zs,.zs])) rfl rfl (erH.cons (v':=(.data 1 (List.map zt v4.1.Order) true none)) rfl rfl (erH.cons (v':=(.data 5 (List.map zm v4.1.Recs) true none)) rfl rfl (erH.cons (v':=(.vars 3 [(.d (.pin pv)),(dI v4.2.1),(dI v4.2.2)])) rfl rfl (erH.cons (v':=(.vars 2 [.zs,.zs])) rfl rfl (erH.cons (v':=(.vars 3 [(.d (.pin pv)),(dI a2.1),(dI a2.2)])) rfl rfl erH.nil)))))))) (erL.cons (v':=(.one (.d (.both pv (.sl 1 (List.map zM cb1)))))) rfl (erL.cons (v':=(.one (.ptr (.nm 0 0 0)))) rfl erL.nil)) rfl rfl rfl (KX (yU (m:=1088) (q:=1) (cs:=[(dI v9.1)]) rfl (qk eZ j0) rfl (List.cons_ne_nil _ _) (by simp) (nR rfl) (zb (Yo (jP rfl ?_)))))
  obtain⟨h11,H⟩:=ym H
  refine Xl (f:=zt) (xs:=v4.1.Order) (ys:=[v9.1]) (q:=(v4.1.Order++([v9.1])).length) rfl eZ (bR rfl) rfl (El.one (f:=zt) (t:=v9.1) (es:=[(.int .i64 v9.1)]) bZ rfl rfl rfl) rfl h11 (by decide) (by decide) (erL.cons (v':=(.one (.sl 1088 0 1))) rfl (erL.cons (v':=(oI v9.1)) rfl (erL.cons (v':=(.one (.ptr (.nm 0 0 0)))) rfl (erL.cons (v':=(.one .any)) rfl (erL.cons (v':=(.one (.ptr (.nm 320 0 1)))) rfl (erL.cons (v':=(oB (decide (v6.1=0)))) rfl (erL.cons (v':=(oB (decide (v6.1=0)))) rfl (erL.cons (v':=(oI v6.1)) rfl (erL.cons (v':=(.one (.ptr (.nm 0 0 0)))) rfl (erL.cons (v':=(.one (.ptr (.nm 320 0 0)))) rfl (erL.cons (v':=(.agg [(.sl 512 0 v4.1.Recs.length),.any])) rfl (erL.cons (v':=(oI a3)) rfl (erL.cons (v':=(.one (.ptr (.nm 0 0 0)))) rfl (erL.cons (v':=(.one (.ptr (.nm 256 0 0)))) rfl (erL.cons (v':=(.one (.ptr (.nm 0 0 0)))) rfl (erL.cons (v':=(oI a3)) rfl erL.nil)))))))))))))))) (erH.cons (v':=(.vars 1 [(dI v9.1)])) rfl rfl (erH.cons (v':=(.vars 3 [(.d (.pin pv)),(dI v9.2.1),(dI v9.2.2)])) rfl rfl (erH.cons (v':=(.vars 3 [(.d (.pin pv)),(dI v6.2.1),(dI v6.2.2)])) rfl rfl (erH.cons (v':=(.vars 2 [(.sl 512 0 v4.1.Recs.length),.any])) rfl rfl (erH.cons (v':=(.vars 2 [.zs,.zs])) rfl rfl (erH.drop rfl (erH.cons (v':=(.data 5 (List.map zm v4.1.Recs) true none)) rfl rfl (erH.cons (v':=(.vars 3 [(.d (.pin pv)),(dI v4.2.1),(dI v4.2.2)])) rfl rfl (erH.cons (v':=(.vars 2 [.zs,.zs])) rfl rfl (erH.cons (v':=(.vars 3 [(.d (.pin pv)),(dI a2.1),(dI a2.2)])) rfl rfl erH.nil)))))))))) (GK.cons rfl (GK.cons rfl GK.nil)) (zb (qC rfl (zi (m:=1) rfl rfl (zb (jP rfl (zw (es:=[(.sl 512 0 v4.1.Recs.length),(.sl 513 0 ((v4.1.Order++([v9.1])).length))]) eZ rfl rfl rfl (bR rfl) rfl (zb (Yq (BQ.qn (TQ.qn (AW.weaken (zg [1088] (kr 5 rfl rfl (kr 4 rfl rfl SL.nil)) (blR rfl) (BK.cons (n:=320) rfl bZ rfl rfl (BK.cons (n:=513) rfl (bR rfl) rfl rfl (BK.cons (n:=0) rfl (bR rfl) rfl rfl (BK.cons (n:=512) rfl (bR rfl) rfl rfl (BK.cons (n:=256) rfl (bR rfl) rfl rfl BK.nil))))) (GK.cons rfl (GK.cons rfl GK.nil))) (aS (zp (ze (zB (es:=[(.sl 512 0 v4.1.Recs.length),(.sl 513 0 ((v4.1.Order++([v9.1])).length))]) eZ bZ rfl (zb (ze (zw (es:=[(.sl 512 0 v4.1.Recs.length),(.sl 513 0 ((v4.1.Order++([v9.1])).length))]) rfl eZ rfl rfl (bR rfl) rfl (zb (zx (xQ (AW.ret ?_))))))))))))))))))))))
  cases H
  exact j6 (RL.cons (qj (es:=[(.sl 512 0 v4.1.Recs.length),(.sl 513 0 ((v4.1.Order++([v9.1])).length))]) rfl bZ rfl) (VO.aggs (VOs.cons (jd (bR rfl) lm rfl) (VOs.cons (VO.sl (bR rfl) lm (ql fun _=>rfl)) VOs.nil))) RL.nil) (ML.mut (eS rfl eZ) (VO.ptr (es:=[(.pin pv),(.int .i64 v9.2.1),(.int .i64 v9.2.2)]) (bR rfl) rfl rfl rfl) (ML.lent ML.nil)) (by decide)
 ·refine zj eZ (dF h8) (aV (jC rfl eC (za eZ (xQ ?_))))
  rcases zF H with⟨h12,H⟩|⟨h12,H⟩
  ·refine zk eZ (dT h12) (aV (zi (m:=0) rfl rfl (zr (q:=0) (c:=(.sl 512 0 v4.1.Recs.length)) eZ (bR rfl) rfl rfl (kM eZ (JT eZ eC (xQ (AW.weaken (zg [] (kr 25 rfl rfl (kr 5 rfl rfl (kr 4 rfl rfl (kr 0 rfl rfl SL.nil)))) (blR rfl) (BK.cons (n:=0) rfl bZ rfl rfl (BK.cons (n:=320) rfl (bR rfl) rfl rfl (BK.cons (n:=513) rfl (bR rfl) rfl rfl (BK.cons (n:=512) rfl (bR rfl) rfl rfl (BK.cons (n:=256) rfl (bR rfl) rfl rfl BK.nil))))) (GK.cons rfl (GK.cons rfl GK.nil))) ?_)))))))
   rcases zF H with⟨h13,H⟩|⟨h13,H⟩
   ·refine zk eZ (dT h13) (AW.regp [320] (yb rfl (zi (m:=0) rfl rfl (zb (ZE eZ rfl (zr (q:=0) (c:=(.sl 512 0 v4.1.Recs.length)) eZ (bR rfl) rfl rfl (zb (yb rfl (za rfl (zb (yb rfl (zi (m:=0) rfl rfl (zb (ZE eZ rfl (zr (q:=0) (c:=(.sl 512 0 v4.1.Recs.length)) eZ (bR rfl) rfl rfl (zb (yb rfl (za rfl (zb (Yn (znp rfl (kM rfl (zb ?_)))))))))))))))))))))))
    obtain⟨v14,h15,H⟩:=zo H
    refine jG (v0:=pv) (hg:=by exact rfl) (ON:=[0]) (ls:=[]) (G:=[]) (E:=[zJ 0]) (MB:=[(0,(.vars 3 [(.d (.pin pv)),(dI v14.2.1),(dI v14.2.2)]))]) (u:=(oI v14.1)) eC Cl.fn (zH h15) (Ec rfl (Ec eZ En)) (AO.mut (VO.ptr (es:=[(.pin pv),(.int .i64 v6.2.1),(.int .i64 v6.2.2)]) bZ rfl rfl rfl) (AO.lent Vp rfl AO.nil)) rfl rfl rfl (zO bZ rfl SZ.nil) (erL.cons (v':=(oI ((v4.1.Recs.length:Nat):Int))) rfl (erL.cons (v':=(.one (.ptr (.nm 0 0 0)))) rfl (erL.cons (v':=(.one (.sl 512 0 v4.1.Recs.length))) rfl (erL.cons (v':=(.one (.ptr (.nm 320 0 0)))) rfl (erL.cons (v':=(.one (.ptr (.nm 0 0 0)))) rfl (erL.cons (v':=(.one (.sl 512 0 v4.1.Recs.length))) rfl (erL.cons (v':=(.one (.ptr (.nm 320 0 0)))) rfl (erL.cons (v':=(oB (decide (0 < ((v4.1.Recs.length:Nat):Int))))) rfl (erL.cons (v':=(.one (.ptr (.nm 320 0 0)))) rfl (erL.cons (v':=(.one (.ptr (.nm 256 0 0)))) rfl (erL.cons (v':=(.one (.ptr (.nm 0 0 0)))) rfl erL.nil))))))))))) (erH.cons (v':=(.vars 3 [(.d (.pin pv)),(dI v6.2.1),(dI v6.2.2)])) rfl rfl (erH.cons (v':=(.vars 2 [(.sl 512 0 v4.1.Recs.length),(.sl 513 0 v4.1.Order.length)])) rfl rfl (erH.cons (v':=(.data 1 (List.map zt v4.1.Order) true none)) rfl rfl (erH.cons (v':=(.data 5 (List.map zm v4.1.Recs) true none)) rfl rfl (erH.cons (v':=(.vars 2 [.zs,.zs])) rfl rfl erH.nil))))) (erL.cons (v':=(.one (.d (.both pv (.sl 1 (List.map zM cb1)))))) rfl (erL.cons (v':=(.one (.ptr (.nm 0 0 0)))) rfl erL.nil)) rfl rfl rfl ?_
    obtain⟨v16,h17,H⟩:=zo H
    refine jG (v0:=pv) (hg:=by exact rfl) (ON:=[0]) (ls:=[]) (G:=[]) (E:=[zJ 0]) (MB:=[(0,(.vars 3 [(.d (.pin pv)),(dI v16.2.1),(dI v16.2.2)]))]) (u:=(oI v16.1)) eC Cl.fn (zH h17) (Ec rfl (Ec eC En)) (AO.mut (VO.ptr (es:=[(.pin pv),(.int .i64 v14.2.1),(.int .i64 v14.2.2)]) bZ rfl rfl rfl) (AO.lent Vp rfl AO.nil)) rfl rfl rfl (zO bZ rfl SZ.nil) (erL.cons (v':=(oI v14.1)) rfl (erL.cons (v':=(oI ((v4.1.Recs.length:Nat):Int))) rfl (erL.cons (v':=(.one (.ptr (.nm 0 0 0)))) rfl (erL.cons (v':=(.one (.sl 512 0 v4.1.Recs.length))) rfl (erL.cons (v':=(.one (.ptr (.nm 320 0 0)))) rfl (erL.cons (v':=(.one (.ptr (.nm 0 0 0)))) rfl (erL.cons (v':=(.one (.sl 512 0 v4.1.Recs.length))) rfl (erL.cons (v':=(.one (.ptr (.nm 320 0 0)))) rfl (erL.cons (v':=(oB (decide (0 < ((v4.1.Recs.length:Nat):Int))))) rfl (erL.cons (v':=(.one (.ptr (.nm 320 0 0)))) rfl (erL.cons (v':=(.one (.ptr (.nm 256 0 0)))) rfl (erL.cons (v':=(.one (.ptr (.nm 0 0 0)))) rfl erL.nil)))))))))))) (erH.cons (v':=(.vars 3 [(.d (.pin pv)),(dI v14.2.1),(dI v14.2.2)])) rfl rfl (erH.cons (v':=(.vars 3 [(.d (.pin pv)),(dI v6.2.1),(dI v6.2.2)])) rfl rfl (erH.cons (v':=(.vars 2 [(.sl 512 0 v4.1.Recs.length),(.sl 513 0 v4.1.Order.length)])) rfl rfl (erH.cons (v':=(.data 1 (List.map zt v4.1.Order) true none)) rfl rfl (erH.cons (v':=(.data 5 (List.map zm v4.1.Recs) true none)) rfl rfl (erH.cons (v':=(.vars 2 [.zs,.zs])) rfl rfl erH.nil)))))) (erL.cons (v':=(.one (.d (.both pv (.sl 1 (List.map zM cb1)))))) rfl (erL.cons (v':=(.one (.ptr (.nm 0 0 0)))) rfl erL.nil)) rfl rfl rfl (Yo (jP rfl ?_))
    obtain⟨v18,h19,H⟩:=zo H
    refine Xw rfl rfl (bR rfl) rfl h19 (zb (qC rfl (zi (m:=3) eZ rfl (zb (jP rfl (YR (t:=v18) (t':=(zD.mk v18.Tx v18.Client v18.Req v16.1 v18.Shares)) (es:=[(.int .i64 v16.1)]) eZ rfl rfl rfl (bR rfl) (Zf h19) rfl rfl (zb (Yq (BQ.qn (TQ.qn (aS (zp (ze (zB (es:=[(.sl 512 0 v4.1.Recs.length),(.sl 513 0 v4.1.Order.length)]) rfl (bR rfl) rfl (zb (ze (zw (es:=[(.sl 512 0 v4.1.Recs.length),(.sl 513 0 v4.1.Order.length)]) rfl eZ rfl rfl (bR rfl) rfl (zb (zx (xQ (AW.weaken (zg [320] (kr 4 rfl rfl SL.nil) (blR rfl) (BK.cons (n:=256) rfl bZ rfl rfl (BK.cons (n:=512) rfl (bR rfl) rfl rfl (BK.cons (n:=0) rfl (bR rfl) rfl rfl (BK.cons (n:=513) rfl (bR rfl) rfl rfl BK.nil)))) (GK.cons rfl (GK.cons rfl GK.nil))) (AW.ret ?_))))))))))))))))))))))
    cases H
    exact j6 (RL.cons (qj (es:=[(.sl 512 0 v4.1.Recs.length),(.sl 513 0 v4.1.Order.length)]) eZ bZ rfl) (VO.aggs (VOs.cons (jd (bR rfl) (by first|(simp;done)|(simp;omega)|omega|(simp only[List.length_map];omega)) rfl) (VOs.cons (VO.sl (bR rfl) lm (ql fun _=>rfl)) VOs.nil))) RL.nil) (ML.mut (eS rfl eZ) (VO.ptr (es:=[(.pin pv),(.int .i64 v16.2.1),(.int .i64 v16.2.2)]) (bR rfl) rfl rfl rfl) (ML.lent ML.nil)) (by decide)
   ·refine zj eZ (dF h13) (AW.skip (BQ.qn (TQ.qn (aS (zp (ze (zB (es:=[(.sl 512 0 v4.1.Recs.length),(.sl 513 0 v4.1.Order.length)]) rfl (bR rfl) rfl (zb (ze (zw (es:=[(.sl 512 0 v4.1.Recs.length),(.sl 513 0 v4.1.Order.length)]) rfl eZ rfl rfl (bR rfl) rfl (zb (zx (xQ (AW.ret ?_))))))))))))))
    cases H
    exact j6 (RL.cons (qj (es:=[(.sl 512 0 v4.1.Recs.length),(.sl 513 0 v4.1.Order.length)]) rfl bZ rfl) (VO.aggs (VOs.cons (jd (bR rfl) lm rfl) (VOs.cons (VO.sl (bR rfl) lm (ql fun _=>rfl)) VOs.nil))) RL.nil) (ML.mut (eS rfl eZ) (VO.ptr (es:=[(.pin pv),(.int .i64 v6.2.1),(.int .i64 v6.2.2)]) (bR rfl) rfl rfl rfl) (ML.lent ML.nil)) (by decide)
  ·refine zj eZ (dF h12) (aV (jC rfl eC (za eZ (xQ ?_))))
   rcases zF H with⟨h20,H⟩|⟨h20,H⟩
   ·refine zk eZ (dT h20) (AW.regp [320] (yb rfl (zi (m:=0) rfl rfl (zb (ZE eZ rfl (zr (q:=0) (c:=(.sl 512 0 v4.1.Recs.length)) eZ (bR rfl) rfl rfl (zb (yb rfl (za rfl (zb (Yn ?_)))))))))))
    obtain⟨v21,h22,H⟩:=zo H
    refine jG (v0:=pv) (hg:=by exact rfl) (ON:=[0]) (ls:=[]) (G:=[]) (E:=[zJ 0]) (MB:=[(0,(.vars 3 [(.d (.pin pv)),(dI v21.2.1),(dI v21.2.2)]))]) (u:=(oI v21.1)) eC Cl.fn (zH h22) (Ec eZ (Ec eC En)) (AO.mut (VO.ptr (es:=[(.pin pv),(.int .i64 v6.2.1),(.int .i64 v6.2.2)]) bZ rfl rfl rfl) (AO.lent Vp rfl AO.nil)) rfl rfl rfl (zO bZ rfl SZ.nil) (erL.cons (v':=(.one (.ptr (.nm 0 0 0)))) rfl (erL.cons (v':=(.one (.sl 512 0 v4.1.Recs.length))) rfl (erL.cons (v':=(.one (.ptr (.nm 320 0 0)))) rfl (erL.cons (v':=(oB (decide (v6.1=2)))) rfl (erL.cons (v':=(oB (decide (v6.1=2)))) rfl (erL.cons (v':=(oB (decide (v6.1=1)))) rfl (erL.cons (v':=(oB (decide (v6.1=1)))) rfl (erL.cons (v':=(oB (decide (v6.1=0)))) rfl (erL.cons (v':=(oB (decide (v6.1=0)))) rfl (erL.cons (v':=(oI v6.1)) rfl (erL.cons (v':=(.one (.ptr (.nm 0 0 0)))) rfl (erL.cons (v':=(.one (.ptr (.nm 320 0 0)))) rfl (erL.cons (v':=(.agg [(.sl 512 0 v4.1.Recs.length),(.sl 513 0 v4.1.Order.length)])) rfl (erL.cons (v':=(oI a3)) rfl (erL.cons (v':=(.one (.ptr (.nm 0 0 0)))) rfl (erL.cons (v':=(.one (.ptr (.nm 256 0 0)))) rfl (erL.cons (v':=(.one (.ptr (.nm 0 0 0)))) rfl (erL.cons (v':=(oI a3)) rfl erL.nil)))))))))))))))))) (erH.cons (v':=(.vars 3 [(.d (.pin pv)),(dI v6.2.1),(dI v6.2.2)])) rfl rfl (erH.cons (v':=(.vars 2 [(.sl 512 0 v4.1.Recs.length),(.sl 513 0 v4.1.Order.length)])) rfl rfl (erH.cons (v':=(.vars 2 [.zs,.zs])) rfl rfl (erH.cons (v':=(.data 1 (List.map zt v4.1.Order) true none)) rfl rfl (erH.cons (v':=(.data 5 (List.map zm v4.1.Recs) true none)) rfl rfl (erH.cons (v':=(.vars 3 [(.d (.pin pv)),(dI v4.2.1),(dI v4.2.2)])) rfl rfl (erH.cons (v':=(.vars 2 [.zs,.zs])) rfl rfl (erH.cons (v':=(.vars 3 [(.d (.pin pv)),(dI a2.1),(dI a2.2)])) rfl rfl erH.nil)))))))) (erL.cons (v':=(.one (.d (.both pv (.sl 1 (List.map zM cb1)))))) rfl (erL.cons (v':=(.one (.ptr (.nm 0 0 0)))) rfl erL.nil)) rfl rfl rfl (zmi rfl (Z6 (cs:=[(dI v21.1),(dI 0),(dI 1),(dI 1),.zs]) (qk eZ (qk eC (qk eC j0))) rfl (zb (KX (yU (m:=2816) (q:=1) (cs:=[(dI v21.1),(dI 0),(dI 1),(dI 1),.zs]) rfl (qk eZ j0) rfl (List.cons_ne_nil _ _) (by simp) (nR rfl) (zb (Yo ?_)))))))
    obtain⟨h23,H⟩:=ym H
    refine zdT (f:=zm) (xs:=v4.1.Recs) (t:=(zD.mk v21.1 0 1 1 ([]:List zn))) (q:=(v4.1.Recs++[(zD.mk v21.1 0 1 1 ([]:List zn))]).length) (ds:=[(.int .i64 v21.1),(.int .i64 0),(.int .i64 1),(.int .i64 1),(.sl 4 (List.map zh ([]:List zn)))]) (ns:=[]) rfl eZ (bR rfl) rfl bZ rfl (VOs.cons (VO.flat rfl) (VOs.cons (VO.flat rfl) (VOs.cons (VO.flat rfl) (VOs.cons (VO.flat rfl) (VOs.cons VO.zs VOs.nil))))) rfl rfl rfl rfl h23 (by decide) (erL.cons (v':=(.one (.sl 2816 0 1))) rfl (erL.cons (v':=(.agg [(dI v21.1),(dI 0),(dI 1),(dI 1),.zs])) rfl (erL.cons (v':=(oI v21.1)) rfl (erL.cons (v':=(.one (.ptr (.nm 0 0 0)))) rfl (erL.cons (v':=(.one (.sl 512 0 v4.1.Recs.length))) rfl (erL.cons (v':=(.one (.ptr (.nm 320 0 0)))) rfl (erL.cons (v':=(oB (decide (v6.1=2)))) rfl (erL.cons (v':=(oB (decide (v6.1=2)))) rfl (erL.cons (v':=(oB (decide (v6.1=1)))) rfl (erL.cons (v':=(oB (decide (v6.1=1)))) rfl (erL.cons (v':=(oB (decide (v6.1=0)))) rfl (erL.cons (v':=(oB (decide (v6.1=0)))) rfl (erL.cons (v':=(oI v6.1)) rfl (erL.cons (v':=(.one (.ptr (.nm 0 0 0)))) rfl (erL.cons (v':=(.one (.ptr (.nm 320 0 0)))) rfl (erL.cons (v':=(.agg [(.sl 512 0 v4.1.Recs.length),(.sl 513 0 v4.1.Order.length)])) rfl (erL.cons (v':=(oI a3)) rfl (erL.cons (v':=(.one (.ptr (.nm 0 0 0)))) rfl (erL.cons (v':=(.one (.ptr (.nm 256 0 0)))) rfl (erL.cons (v':=(.one (.ptr (.nm 0 0 0)))) rfl (erL.cons (v':=(oI a3)) rfl erL.nil))))))))))))))))))))) (erH.cons (v':=(.vars 5 [(dI v21.1),(dI 0),(dI 1),(dI 1),.zs])) rfl rfl (erH.cons (v':=(.vars 3 [(.d (.pin pv)),(dI v21.2.1),(dI v21.2.2)])) rfl rfl (erH.cons (v':=(.vars 3 [(.d (.pin pv)),(dI v6.2.1),(dI v6.2.2)])) rfl rfl (erH.cons (v':=(.vars 2 [(.sl 512 0 v4.1.Recs.length),(.sl 513 0 v4.1.Order.length)])) rfl rfl (erH.cons (v':=(.vars 2 [.zs,.zs])) rfl rfl (erH.cons (v':=(.data 1 (List.map zt v4.1.Order) true none)) rfl rfl (erH.cons (v':=(.data 5 (List.map zm v4.1.Recs) true none)) rfl rfl (erH.cons (v':=(.vars 3 [(.d (.pin pv)),(dI v4.2.1),(dI v4.2.2)])) rfl rfl (erH.cons (v':=(.vars 2 [.zs,.zs])) rfl rfl (erH.cons (v':=(.vars 3 [(.d (.pin pv)),(dI a2.1),(dI a2.2)])) rfl rfl erH.nil)))))))))) (erL.cons (v':=(.one (.d (.both pv (.sl 1 (List.map zM cb1)))))) rfl (erL.cons (v':=(.one (.ptr (.nm 0 0 0)))) rfl erL.nil)) (erL.cons (v':=(.one (.sl 2816 0 1))) rfl (erL.cons (v':=(.agg [(dI v21.1),(dI 0),(dI 1),(dI 1),.zs])) rfl (erL.cons (v':=(oI v21.1)) rfl (erL.cons (v':=(.one (.ptr (.nm 0 0 0)))) rfl (erL.cons (v':=(.one .any)) rfl (erL.cons (v':=(.one (.ptr (.nm 320 0 0)))) rfl (erL.cons (v':=(oB (decide (v6.1=2)))) rfl (erL.cons (v':=(oB (decide (v6.1=2)))) rfl (erL.cons (v':=(oB (decide (v6.1=1)))) rfl (erL.cons (v':=(oB (decide (v6.1=1)))) rfl (erL.cons (v':=(oB (decide (v6.1=0)))) rfl (erL.cons (v':=(oB (decide (v6.1=0)))) rfl (erL.cons (v':=(oI v6.1)) rfl (erL.cons (v':=(.one (.ptr (.nm 0 0 0)))) rfl (erL.cons (v':=(.one (.ptr (.nm 320 0 0)))) rfl (erL.cons (v':=(.agg [.any,(.sl 513 0 v4.1.Order.length)])) rfl (erL.cons (v':=(oI a3)) rfl (erL.cons (v':=(.one (.ptr (.nm 0 0 0)))) rfl (erL.cons (v':=(.one (.ptr (.nm 256 0 0)))) rfl (erL.cons (v':=(.one (.ptr (.nm 0 0 0)))) rfl (erL.cons (v':=(oI a3)) rfl erL.nil))))))))))))))))))))) (erH.cons (v':=(.vars 5 [(dI v21.1),(dI 0),(dI 1),(dI 1),.zs])) rfl rfl (erH.cons (v':=(.vars 3 [(.d (.pin pv)),(dI v21.2.1),(dI v21.2.2)])) rfl rfl (erH.cons (v':=(.vars 3 [(.d (.pin pv)),(dI v6.2.1),(dI v6.2.2)])) rfl rfl (erH.cons (v':=(.vars 2 [.any,(.sl 513 0 v4.1.Order.length)])) rfl rfl (erH.cons (v':=(.vars 2 [.zs,.zs])) rfl rfl (erH.cons (v':=(.data 1 (List.map zt v4.1.Order) true none)) rfl rfl (erH.drop rfl (erH.cons (v':=(.vars 3 [(.d (.pin pv)),(dI v4.2.1),(dI v4.2.2)])) rfl rfl (erH.cons (v':=(.vars 2 [.zs,.zs])) rfl rfl (erH.cons (v':=(.vars 3 [(.d (.pin pv)),(dI a2.1),(dI a2.2)])) rfl rfl erH.nil)))))))))) (erL.cons (v':=(.one (.d (.both pv (.sl 1 (List.map zM cb1)))))) rfl (erL.cons (v':=(.one (.ptr (.nm 0 0 0)))) rfl erL.nil)) (qC rfl (zi (m:=0) rfl rfl (zb (jP rfl (zw (es:=[(.sl 512 0 ((v4.1.Recs++[(zD.mk v21.1 0 1 1 ([]:List zn))]).length)),(.sl 513 0 v4.1.Order.length)]) eZ rfl rfl rfl (bR rfl) rfl (zb (Yq (BQ.qn (TQ.qn (AW.weaken (zg [2816] (kr 5 rfl rfl (kr 4 rfl rfl SL.nil)) (blR rfl) (BK.cons (n:=320) rfl bZ rfl rfl (BK.cons (n:=512) rfl (bR rfl) rfl rfl (BK.cons (n:=0) rfl (bR rfl) rfl rfl (BK.cons (n:=513) rfl (bR rfl) rfl rfl (BK.cons (n:=256) rfl (bR rfl) rfl rfl BK.nil))))) (GK.cons rfl (GK.cons rfl GK.nil))) (aS (zp (ze (zB (es:=[(.sl 512 0 ((v4.1.Recs++[(zD.mk v21.1 0 1 1 ([]:List zn))]).length)),(.sl 513 0 v4.1.Order.length)]) eZ bZ rfl ?_))))))))))))))
    refine zb (ze (zw (es:=[(.sl 512 0 ((v4.1.Recs++[(zD.mk v21.1 0 1 1 ([]:List zn))]).length)),(.sl 513 0 v4.1.Order.length)]) rfl eZ rfl rfl (bR rfl) rfl (zb (zx (xQ (AW.ret ?_))))))
    cases H
    exact j6 (RL.cons (qj (es:=[(.sl 512 0 ((v4.1.Recs++[(zD.mk v21.1 0 1 1 ([]:List zn))]).length)),(.sl 513 0 v4.1.Order.length)]) rfl bZ rfl) (VO.aggs (VOs.cons (jd (bR rfl) lm rfl) (VOs.cons (VO.sl (bR rfl) lm (ql fun _=>rfl)) VOs.nil))) RL.nil) (ML.mut (eS rfl eZ) (VO.ptr (es:=[(.pin pv),(.int .i64 v21.2.1),(.int .i64 v21.2.2)]) (bR rfl) rfl rfl rfl) (ML.lent ML.nil)) (by decide)
   ·refine zj eZ (dF h20) (AW.skip (BQ.qn (TQ.qn (aS (zp (ze (zB (es:=[(.sl 512 0 v4.1.Recs.length),(.sl 513 0 v4.1.Order.length)]) rfl (bR rfl) rfl (zb (ze (zw (es:=[(.sl 512 0 v4.1.Recs.length),(.sl 513 0 v4.1.Order.length)]) rfl eZ rfl rfl (bR rfl) rfl (zb (zx (xQ (AW.weaken (zg [320] (kr 4 rfl rfl SL.nil) (blR rfl) (BK.cons (n:=256) rfl bZ rfl rfl (BK.cons (n:=0) rfl (bR rfl) rfl rfl (BK.cons (n:=513) rfl (bR rfl) rfl rfl (BK.cons (n:=512) rfl (bR rfl) rfl rfl BK.nil)))) (GK.cons rfl (GK.cons rfl GK.nil))) (AW.ret ?_)))))))))))))))
    cases H
    exact j6 (RL.cons (qj (es:=[(.sl 512 0 v4.1.Recs.length),(.sl 513 0 v4.1.Order.length)]) eZ bZ rfl) (VO.aggs (VOs.cons (jd (bR rfl) lm rfl) (VOs.cons (VO.sl (bR rfl) lm (ql fun _=>rfl)) VOs.nil))) RL.nil) (ML.mut (eS rfl eZ) (VO.ptr (es:=[(.pin pv),(.int .i64 v6.2.1),(.int .i64 v6.2.2)]) (bR rfl) rfl rfl rfl) (ML.lent ML.nil)) (by decide)
theorem YE{pv:Value}{cb1:(List Int)}{a2:(Int×Int)}{a3:(List Int)}{r:(Int×(Int×Int))}(H:yy cb1 a2 a3=some r):FnC Try.prog pv (.sl 1 (List.map zM cb1)) 112 [⟨(.ptr [(.pin pv),(.int .i64 a2.1),(.int .i64 a2.2)]),.m (.ptr [(.pin pv),(.int .i64 r.2.1),(.int .i64 r.2.2)])⟩,⟨(.sl 1 (List.map zt a3)),.b⟩] [(.int .i64 r.1)]:=by
 refine zod (fle rfl) (fle rfl) (fC nZ rfl fN) rfl ?_
 rw[Zr]
 refine AW.weaken (t:=mk [(0,(.one (.ptr (.nm 0 0 0)))),(1,(.one (.d (.sl 1 (List.map zt a3)))))] [(0,(.vars 3 [(.d (.pin pv)),(dI a2.1),(dI a2.2)]))] (lk [(63,(.one (.d (.both pv (.sl 1 (List.map zM cb1)))))),(0,(.one (.ptr (.nm 0 0 0))))])) (zg (gl:=[(63,(.one (.d (.both pv (.sl 1 (List.map zM cb1)))))),(0,(.one (.ptr (.nm 0 0 0))))]) [] (kv 0 (.one (.ptr (.nm 0 0 0))) rfl rfl (kv 1 (.one (.d (.sl 1 (List.map zt a3)))) rfl rfl SL.nil)) (blR rfl) (BK.cons (n:=0) rfl bZ rfl rfl BK.nil) (GK.cons rfl (GK.cons rfl GK.nil))) ?_
 unfold yy at H
 unfold zfY
 refine aV (za eC (xQ (aS (zp (ze (za rfl (zb (ze (za rfl (zb (ze (za rfl (zb (ze (qx eZ (n:=a3.length) lm (zb ?_))))))))))))))))
 obtain⟨v4,h5,H⟩:=zo H
 refine z8 (v0:=pv) (hg:=by exact rfl) (ON:=[0]) (ls:=[]) (G:=[]) (E:=[zJ 0]) (MB:=[(0,(.vars 3 [(.d (.pin pv)),(dI v4.2.1),(dI v4.2.2)]))]) (u:=(oI v4.1)) eC Cl.fn (zH h5) (Ec rfl (Ec eZ En)) (AO.mut (VO.ptr (es:=[(.pin pv),(.int .i64 a2.1),(.int .i64 a2.2)]) bZ rfl rfl rfl) (AO.lent Vp rfl AO.nil)) rfl rfl rfl (zO bZ rfl SZ.nil) (erL.cons (v':=(oI (a3.length:Int))) rfl (erL.cons (v':=(.one (.d (.sl 1 (List.map zt a3))))) rfl (erL.cons (v':=(.one (.ptr (.nm 0 0 0)))) rfl (erL.cons (v':=(.one (.d (.sl 1 (List.map zt a3))))) rfl (erL.cons (v':=(oI 0)) rfl (erL.cons (v':=(.one (.ptr (.nm 0 0 0)))) rfl (erL.cons (v':=(.one (.d (.sl 1 (List.map zt a3))))) rfl erL.nil))))))) (erH.cons (v':=(.vars 3 [(.d (.pin pv)),(dI a2.1),(dI a2.2)])) rfl rfl erH.nil) (erL.cons (v':=(.one (.d (.both pv (.sl 1 (List.map zM cb1)))))) rfl (erL.cons (v':=(.one (.ptr (.nm 0 0 0)))) rfl erL.nil)) rfl rfl (zx ?_)
 obtain⟨v6,h7,H⟩:=zo H
 refine Zd rfl eZ h7 (qY (e:=(.int .i64 v6)) eZ rfl (za eZ (xQ (AW.ret ?_))))
 cases H
 exact j6 (RL.cons (RV.tmp eZ) (VO.flat rfl) RL.nil) (ML.mut (eS rfl eZ) (VO.ptr (es:=[(.pin pv),(.int .i64 v4.2.1),(.int .i64 v4.2.2)]) bZ rfl rfl rfl) (ML.lent ML.nil)) (by decide)
theorem kZ{pv:Value}{cb1:(List Int)}{a2:(Int×Int)}{r:(Int×Int×(Int×Int))}(H:ZV cb1 a2=some r):FnC Try.prog pv (.sl 1 (List.map zM cb1)) 59 [⟨(.ptr [(.pin pv),(.int .i64 a2.1),(.int .i64 a2.2)]),.m (.ptr [(.pin pv),(.int .i64 r.2.2.1),(.int .i64 r.2.2.2)])⟩] [(.int .i64 r.1),(.int .i64 r.2.1)]:=by
 refine n59 (fle rfl) (fle rfl) (fC nZ rfl fN) rfl ?_
 rw[Zr]
 refine AW.weaken (t:=mk [(0,(.one (.ptr (.nm 0 0 0))))] [(0,(.vars 3 [(.d (.pin pv)),(dI a2.1),(dI a2.2)]))] (lk [(63,(.one (.d (.both pv (.sl 1 (List.map zM cb1)))))),(0,(.one (.ptr (.nm 0 0 0))))])) (zg (gl:=[(63,(.one (.d (.both pv (.sl 1 (List.map zM cb1)))))),(0,(.one (.ptr (.nm 0 0 0))))]) [] (kv 0 (.one (.ptr (.nm 0 0 0))) rfl rfl SL.nil) (blR rfl) (BK.cons (n:=0) rfl bZ rfl rfl BK.nil) (GK.cons rfl (GK.cons rfl GK.nil))) ?_
 unfold ZV at H
 unfold i59
 refine aV (za eC (za eC (xQ (aS (aS (zp (ze (za rfl (zb ?_)))))))))
 obtain⟨v3,h4,H⟩:=zo H
 refine z8 (v0:=pv) (hg:=by exact rfl) (ON:=[0]) (ls:=[]) (G:=[]) (E:=[zJ 0]) (MB:=[(0,(.vars 3 [(.d (.pin pv)),(dI v3.2.1),(dI v3.2.2)]))]) (u:=(oB v3.1)) eC Cl.fn (jD h4) (Ec eZ (Ec eC En)) (AO.mut (VO.ptr (es:=[(.pin pv),(.int .i64 a2.1),(.int .i64 a2.2)]) bZ rfl rfl rfl) (AO.lent Vp rfl AO.nil)) rfl rfl rfl (zO bZ rfl SZ.nil) (erL.cons (v':=(.one (.ptr (.nm 0 0 0)))) rfl (erL.cons (v':=(oI 0)) rfl (erL.cons (v':=(oI 0)) rfl (erL.cons (v':=(.one (.ptr (.nm 0 0 0)))) rfl erL.nil)))) (erH.cons (v':=(.vars 3 [(.d (.pin pv)),(dI a2.1),(dI a2.2)])) rfl rfl erH.nil) (erL.cons (v':=(.one (.d (.both pv (.sl 1 (List.map zM cb1)))))) rfl (erL.cons (v':=(.one (.ptr (.nm 0 0 0)))) rfl erL.nil)) rfl rfl (zx (xQ ?_))
 rcases zF H with⟨h5,H⟩|⟨h5,H⟩
 ·refine zk eZ h5 (aS (zp (ze (za rfl (zb (ze (yU (m:=448) (q:=3) (cs:=[(dI (-1)),(dI 1000000000),(dI 1000000001)]) rfl (qk eC (qk eC (qk eC j0))) rfl (List.cons_ne_nil _ _) (by simp) (nR rfl) (zb ?_))))))))
  obtain⟨v6,h7,H⟩:=zo H
  refine z8 (v0:=pv) (hg:=by exact rfl) (ON:=[0]) (ls:=[448]) (G:=[]) (E:=[zJ 0]) (MB:=[(0,(.vars 3 [(.d (.pin pv)),(dI v6.2.1),(dI v6.2.2)]))]) (u:=(oI v6.1)) eC Cl.fn (YE h7) (Ec rfl (Ec eZ En)) (AO.mut (VO.ptr (es:=[(.pin pv),(.int .i64 v3.2.1),(.int .i64 v3.2.2)]) (bR rfl) rfl rfl rfl) (AO.lent (VD.vars [(.int .i64 (-1)),(.int .i64 1000000000),(.int .i64 1000000001)] bZ rfl rfl) rfl AO.nil)) rfl rfl rfl (zO (bR rfl) rfl SZ.nil) (erL.cons (v':=(.one (.sl 448 0 3))) rfl (erL.cons (v':=(.one (.ptr (.nm 0 0 0)))) rfl (erL.cons (v':=(oB v3.1)) rfl (erL.cons (v':=(.one (.ptr (.nm 0 0 0)))) rfl (erL.cons (v':=(oI 0)) rfl (erL.cons (v':=(oI 0)) rfl (erL.cons (v':=(.one (.ptr (.nm 0 0 0)))) rfl erL.nil))))))) (erH.cons (v':=(.vars 1 [(dI (-1)),(dI 1000000000),(dI 1000000001)])) rfl rfl (erH.cons (v':=(.vars 3 [(.d (.pin pv)),(dI v3.2.1),(dI v3.2.2)])) rfl rfl (erH.cons (v':=(.vars 3 [(.d (.pin pv)),(dI a2.1),(dI a2.2)])) rfl rfl erH.nil))) (erL.cons (v':=(.one (.d (.both pv (.sl 1 (List.map zM cb1)))))) rfl (erL.cons (v':=(.one (.ptr (.nm 0 0 0)))) rfl erL.nil)) rfl rfl (ze (za rfl (zb (ze (yU (m:=640) (q:=3) (cs:=[(dI 0),(dI 1000000000),(dI 1000000001)]) rfl (qk eC (qk eC (qk eC j0))) rfl (List.cons_ne_nil _ _) (by simp) (nR rfl) (zb ?_))))))
  obtain⟨v8,h9,H⟩:=zo H
  refine z8 (v0:=pv) (hg:=by exact rfl) (ON:=[0]) (ls:=[640]) (G:=[]) (E:=[zJ 0]) (MB:=[(0,(.vars 3 [(.d (.pin pv)),(dI v8.2.1),(dI v8.2.2)]))]) (u:=(oI v8.1)) eC Cl.fn (YE h9) (Ec rfl (Ec eZ En)) (AO.mut (VO.ptr (es:=[(.pin pv),(.int .i64 v6.2.1),(.int .i64 v6.2.2)]) (bR rfl) rfl rfl rfl) (AO.lent (VD.vars [(.int .i64 0),(.int .i64 1000000000),(.int .i64 1000000001)] bZ rfl rfl) rfl AO.nil)) rfl rfl rfl (zO (bR rfl) rfl SZ.nil) (erL.cons (v':=(.one (.sl 640 0 3))) rfl (erL.cons (v':=(.one (.ptr (.nm 0 0 0)))) rfl (erL.cons (v':=(oI v6.1)) rfl (erL.cons (v':=(.one (.sl 448 0 3))) rfl (erL.cons (v':=(.one (.ptr (.nm 0 0 0)))) rfl (erL.cons (v':=(oB v3.1)) rfl (erL.cons (v':=(.one (.ptr (.nm 0 0 0)))) rfl (erL.cons (v':=(oI 0)) rfl (erL.cons (v':=(oI 0)) rfl (erL.cons (v':=(.one (.ptr (.nm 0 0 0)))) rfl erL.nil)))))))))) (erH.cons (v':=(.vars 1 [(dI 0),(dI 1000000000),(dI 1000000001)])) rfl rfl (erH.cons (v':=(.vars 3 [(.d (.pin pv)),(dI v6.2.1),(dI v6.2.2)])) rfl rfl (erH.cons (v':=(.vars 1 [(dI (-1)),(dI 1000000000),(dI 1000000001)])) rfl rfl (erH.cons (v':=(.vars 3 [(.d (.pin pv)),(dI v3.2.1),(dI v3.2.2)])) rfl rfl (erH.cons (v':=(.vars 3 [(.d (.pin pv)),(dI a2.1),(dI a2.2)])) rfl rfl erH.nil))))) (erL.cons (v':=(.one (.d (.both pv (.sl 1 (List.map zM cb1)))))) rfl (erL.cons (v':=(.one (.ptr (.nm 0 0 0)))) rfl erL.nil)) rfl rfl (zx (za rfl (za rfl (xQ (AW.ret (TQ.qr ?_))))))
  cases H
  exact j6 (RL.cons (RV.tmp rfl) (VO.flat rfl) (RL.cons (RV.tmp eZ) (VO.flat rfl) RL.nil)) (ML.mut (eS rfl eZ) (VO.ptr (es:=[(.pin pv),(.int .i64 v8.2.1),(.int .i64 v8.2.2)]) bZ rfl rfl rfl) ML.nil) (by decide)
 ·refine zj eZ (nt h5) (AW.skip (TQ.qn (aS (zp (ze (za rfl (zb ?_)))))))
  obtain⟨v10,h11,H⟩:=zo H
  refine z8 (v0:=pv) (hg:=by exact rfl) (ON:=[0]) (ls:=[]) (G:=[]) (E:=[zJ 0]) (MB:=[(0,(.vars 3 [(.d (.pin pv)),(dI v10.2.1),(dI v10.2.2)]))]) (u:=(oI v10.1)) eC Cl.fn (zH h11) (Ec eZ (Ec eC En)) (AO.mut (VO.ptr (es:=[(.pin pv),(.int .i64 v3.2.1),(.int .i64 v3.2.2)]) bZ rfl rfl rfl) (AO.lent Vp rfl AO.nil)) rfl rfl rfl (zO bZ rfl SZ.nil) (erL.cons (v':=(.one (.ptr (.nm 0 0 0)))) rfl (erL.cons (v':=(oB v3.1)) rfl (erL.cons (v':=(.one (.ptr (.nm 0 0 0)))) rfl (erL.cons (v':=(oI 0)) rfl (erL.cons (v':=(oI 0)) rfl (erL.cons (v':=(.one (.ptr (.nm 0 0 0)))) rfl erL.nil)))))) (erH.cons (v':=(.vars 3 [(.d (.pin pv)),(dI v3.2.1),(dI v3.2.2)])) rfl rfl (erH.cons (v':=(.vars 3 [(.d (.pin pv)),(dI a2.1),(dI a2.2)])) rfl rfl erH.nil)) (erL.cons (v':=(.one (.d (.both pv (.sl 1 (List.map zM cb1)))))) rfl (erL.cons (v':=(.one (.ptr (.nm 0 0 0)))) rfl erL.nil)) rfl rfl (ze (za rfl (zb ?_)))
  obtain⟨v12,h13,H⟩:=zo H
  refine z8 (v0:=pv) (hg:=by exact rfl) (ON:=[0]) (ls:=[]) (G:=[]) (E:=[zJ 0]) (MB:=[(0,(.vars 3 [(.d (.pin pv)),(dI v12.2.1),(dI v12.2.2)]))]) (u:=(oI v12.1)) eC Cl.fn (zH h13) (Ec eZ (Ec eC En)) (AO.mut (VO.ptr (es:=[(.pin pv),(.int .i64 v10.2.1),(.int .i64 v10.2.2)]) bZ rfl rfl rfl) (AO.lent Vp rfl AO.nil)) rfl rfl rfl (zO bZ rfl SZ.nil) (erL.cons (v':=(.one (.ptr (.nm 0 0 0)))) rfl (erL.cons (v':=(oI v10.1)) rfl (erL.cons (v':=(.one (.ptr (.nm 0 0 0)))) rfl (erL.cons (v':=(oB v3.1)) rfl (erL.cons (v':=(.one (.ptr (.nm 0 0 0)))) rfl (erL.cons (v':=(oI 0)) rfl (erL.cons (v':=(oI 0)) rfl (erL.cons (v':=(.one (.ptr (.nm 0 0 0)))) rfl erL.nil)))))))) (erH.cons (v':=(.vars 3 [(.d (.pin pv)),(dI v10.2.1),(dI v10.2.2)])) rfl rfl (erH.cons (v':=(.vars 3 [(.d (.pin pv)),(dI v3.2.1),(dI v3.2.2)])) rfl rfl (erH.cons (v':=(.vars 3 [(.d (.pin pv)),(dI a2.1),(dI a2.2)])) rfl rfl erH.nil))) (erL.cons (v':=(.one (.d (.both pv (.sl 1 (List.map zM cb1)))))) rfl (erL.cons (v':=(.one (.ptr (.nm 0 0 0)))) rfl erL.nil)) rfl rfl (zx (qf eC eZ (za rfl (za rfl (xQ (AW.ret ?_))))))
  cases H
  exact j6 (RL.cons (RV.tmp rfl) (VO.flat rfl) (RL.cons (RV.tmp eZ) (VO.flat rfl) RL.nil)) (ML.mut (eS rfl eZ) (VO.ptr (es:=[(.pin pv),(.int .i64 v12.2.1),(.int .i64 v12.2.2)]) bZ rfl rfl rfl) ML.nil) (by decide)
theorem YV{pv:Value}{cb1:(List Int)}{r:(zl×Int×Int)}(H:jp cb1=some r):FnC Try.prog pv (.sl 1 (List.map zM cb1)) 16 [⟨(.pin pv),.b⟩] [(.agg (qI r.1)),(.int .i64 r.2.1),(.int .i64 r.2.2)]:=by
 refine n16 (fle rfl) (fle rfl) trivial rfl ?_
 rw[Zr]
 refine AW.weaken (t:=mk [(0,(.one (.d (.pin pv))))] [] (lk [(63,(.one (.d (.both pv (.sl 1 (List.map zM cb1))))))])) (zg (gl:=[(63,(.one (.d (.both pv (.sl 1 (List.map zM cb1))))))]) [] (kv 0 (.one (.d (.pin pv))) rfl rfl SL.nil) BL.nil BK.nil (GK.cons rfl GK.nil)) ?_
 unfold jp at H
 unfold i16
 refine aV (Zy (n:=128) (m:=2) rfl rfl nZ (za eC (za eC (xQ (aS (zp (ze (za rfl (zb ?_)))))))))
 obtain⟨v2,h3,H⟩:=zo H
 refine Kh (v0:=pv) (hg:=by exact rfl) (ON:=[]) (ls:=[]) (G:=[]) (E:=[]) (MB:=[]) (u:=(.one (.ptr (.nm 640 0 0)))) (bs:=[(640,(.vars 3 [(.d (.pin pv)),(dI v2.1),(dI v2.2)]))]) eC Cl.fn (zba h3) (Ec eZ En) (AO.lent Vp rfl AO.nil) rfl rfl rfl SZ.nil (erL.cons (v':=(.one (.d (.pin pv)))) rfl (erL.cons (v':=(oI 0)) rfl (erL.cons (v':=(oI 0)) rfl (erL.cons (v':=(.one (.ptr (.nm 128 0 0)))) rfl (erL.cons (v':=(.one (.d (.pin pv)))) rfl erL.nil))))) (erH.cons (v':=(.vars 2 [.zs,.zs])) rfl rfl erH.nil) (erL.cons (v':=(.one (.d (.both pv (.sl 1 (List.map zM cb1)))))) rfl erL.nil) (by simp[qW,jB,qz,jn,qH,D.flat]) rfl (fC (nR rfl) rfl (fC (nR rfl) rfl fN)) (zx (za eZ (xQ (aS (zp (ze (za eZ (zb (ze (za rfl (zb ?_)))))))))))
 obtain⟨v4,h5,H⟩:=zo H
 refine z8 (v0:=pv) (hg:=by exact rfl) (ON:=[]) (ls:=[]) (G:=[]) (E:=[]) (MB:=[]) (u:=(oI v4)) eC Cl.fn (zaf h5) (Ec eZ (Ec eC En)) (AO.lent Vp rfl (AO.lent Vp rfl AO.nil)) rfl rfl rfl SZ.nil (erL.cons (v':=(.one (.d (.pin pv)))) rfl (erL.cons (v':=(.one (.ptr (.nm 640 0 0)))) rfl (erL.cons (v':=(.one (.ptr (.nm 640 0 0)))) rfl (erL.cons (v':=(.one (.ptr (.nm 640 0 0)))) rfl (erL.cons (v':=(.one (.d (.pin pv)))) rfl (erL.cons (v':=(oI 0)) rfl (erL.cons (v':=(oI 0)) rfl (erL.cons (v':=(.one (.ptr (.nm 128 0 0)))) rfl (erL.cons (v':=(.one (.d (.pin pv)))) rfl erL.nil))))))))) (erH.cons (v':=(.vars 3 [(.d (.pin pv)),(dI v2.1),(dI v2.2)])) rfl rfl (erH.cons (v':=(.vars 2 [.zs,.zs])) rfl rfl erH.nil)) (erL.cons (v':=(.one (.d (.both pv (.sl 1 (List.map zM cb1)))))) rfl erL.nil) rfl rfl ?_
 obtain⟨v6,h7,H⟩:=zo H
 refine Kh (v0:=pv) (hg:=by exact rfl) (ON:=[640]) (ls:=[]) (G:=[]) (E:=[zJ 640]) (MB:=[(640,(.vars 3 [(.d (.pin pv)),(dI v6.2.1),(dI v6.2.2)]))]) (u:=(.agg [(.sl 896 0 v6.1.Recs.length),(.sl 897 0 v6.1.Order.length)])) (bs:=[(896,(.data 5 (List.map zm v6.1.Recs) true none)),(897,(.data 1 (List.map zt v6.1.Order) true none))]) eC Cl.fn (kS h7) (Ec rfl (Ec eZ En)) (AO.mut (VO.ptr (es:=[(.pin pv),(.int .i64 v2.1),(.int .i64 v2.2)]) bZ rfl rfl rfl) (AO.lent Vp rfl AO.nil)) rfl rfl rfl (zO bZ rfl SZ.nil) (erL.cons (v':=(oI v4)) rfl (erL.cons (v':=(.one (.d (.pin pv)))) rfl (erL.cons (v':=(.one (.ptr (.nm 640 0 0)))) rfl (erL.cons (v':=(.one (.ptr (.nm 640 0 0)))) rfl (erL.cons (v':=(.one (.ptr (.nm 640 0 0)))) rfl (erL.cons (v':=(.one (.d (.pin pv)))) rfl (erL.cons (v':=(oI 0)) rfl (erL.cons (v':=(oI 0)) rfl (erL.cons (v':=(.one (.ptr (.nm 128 0 0)))) rfl (erL.cons (v':=(.one (.d (.pin pv)))) rfl erL.nil)))))))))) (erH.cons (v':=(.vars 3 [(.d (.pin pv)),(dI v2.1),(dI v2.2)])) rfl rfl (erH.cons (v':=(.vars 2 [.zs,.zs])) rfl rfl erH.nil)) (erL.cons (v':=(.one (.d (.both pv (.sl 1 (List.map zM cb1)))))) rfl erL.nil) (by simp[qW,jB,qz,jn,qH]) rfl (fC (nR rfl) rfl (fC (nR rfl) rfl (fC (nR rfl) rfl fN))) (ze (Zy (n:=384) (m:=2) rfl rfl (nR rfl) (zb (ze (zw (es:=[(.sl 896 0 v6.1.Recs.length),(.sl 897 0 v6.1.Order.length)]) eZ rfl rfl rfl bZ rfl (zb (zx (xQ (aS (zp (ze (za rfl (zb ?_)))))))))))))
 obtain⟨v8,h9,H⟩:=zo H
 refine z8 (v0:=pv) (hg:=by exact rfl) (ON:=[640]) (ls:=[]) (G:=[]) (E:=[zJ 640]) (MB:=[(640,(.vars 3 [(.d (.pin pv)),(dI v8.2.2.1),(dI v8.2.2.2)]))]) (u:=(.tup [(oI v8.1),(oI v8.2.1)])) eC Cl.fn (kZ h9) (Ec eZ En) (AO.mut (VO.ptr (es:=[(.pin pv),(.int .i64 v6.2.1),(.int .i64 v6.2.2)]) (bR rfl) rfl rfl rfl) AO.nil) rfl rfl rfl (zO (bR rfl) rfl SZ.nil) (erL.cons (v':=(.one (.ptr (.nm 640 0 0)))) rfl (erL.cons (v':=(.one (.ptr (.nm 384 0 0)))) rfl (erL.cons (v':=(.agg [(.sl 896 0 v6.1.Recs.length),(.sl 897 0 v6.1.Order.length)])) rfl (erL.cons (v':=(oI v4)) rfl (erL.cons (v':=(.one (.d (.pin pv)))) rfl (erL.cons (v':=(.one (.ptr (.nm 640 0 0)))) rfl (erL.cons (v':=(.one (.ptr (.nm 640 0 0)))) rfl (erL.cons (v':=(.one (.ptr (.nm 640 0 0)))) rfl (erL.cons (v':=(.one (.d (.pin pv)))) rfl (erL.cons (v':=(oI 0)) rfl (erL.cons (v':=(oI 0)) rfl (erL.cons (v':=(.one (.ptr (.nm 128 0 0)))) rfl (erL.cons (v':=(.one (.d (.pin pv)))) rfl erL.nil))))))))))))) (erH.cons (v':=(.vars 2 [(.sl 896 0 v6.1.Recs.length),(.sl 897 0 v6.1.Order.length)])) rfl rfl (erH.cons (v':=(.vars 2 [.zs,.zs])) rfl rfl (erH.cons (v':=(.data 1 (List.map zt v6.1.Order) true none)) rfl rfl (erH.cons (v':=(.data 5 (List.map zm v6.1.Recs) true none)) rfl rfl (erH.cons (v':=(.vars 3 [(.d (.pin pv)),(dI v6.2.1),(dI v6.2.2)])) rfl rfl (erH.cons (v':=(.vars 3 [(.d (.pin pv)),(dI v2.1),(dI v2.2)])) rfl rfl (erH.cons (v':=(.vars 2 [.zs,.zs])) rfl rfl erH.nil))))))) (erL.cons (v':=(.one (.d (.both pv (.sl 1 (List.map zM cb1)))))) rfl erL.nil) rfl rfl (zx (za eZ (Zi (v:=(oI v8.1)) eZ rfl (Zi (v:=(oI v8.2.1)) rfl rfl (za rfl (za rfl (xQ (AW.weaken (zg [640] (kr 8 rfl rfl (kr 7 rfl rfl (kr 6 rfl rfl (kr 2 rfl rfl SL.nil)))) (blR rfl) (BK.cons (n:=384) rfl (bR rfl) rfl rfl (BK.cons (n:=897) rfl (bR rfl) rfl rfl (BK.cons (n:=896) rfl (bR rfl) rfl rfl (BK.cons (n:=128) rfl (bR rfl) rfl rfl BK.nil)))) (GK.cons rfl GK.nil)) (aS (zp (ze (zB (es:=[(.sl 896 0 v6.1.Recs.length),(.sl 897 0 v6.1.Order.length)]) rfl bZ rfl (zb (ze (za rfl (zb (ze (za rfl (zb (ze (zw (es:=[(.sl 896 0 v6.1.Recs.length),(.sl 897 0 v6.1.Order.length)]) rfl rfl rfl rfl (bR rfl) rfl (zb (zx (za rfl (za rfl (xQ (AW.ret ?_)))))))))))))))))))))))))))
 cases H
 exact j6 (RL.cons (qj (es:=[(.sl 896 0 v6.1.Recs.length),(.sl 897 0 v6.1.Order.length)]) rfl bZ rfl) (VO.aggs (VOs.cons (jd (bR rfl) lm rfl) (VOs.cons (VO.sl (bR rfl) lm (ql fun _=>rfl)) VOs.nil))) (RL.cons (RV.tmp rfl) (VO.flat rfl) (RL.cons (RV.tmp eZ) (VO.flat rfl) RL.nil))) (ML.lent ML.nil) (by decide)
theorem Y7{cb1:(List Int)}{r:(zl×Int×Int)}(H:jp cb1=some r):Fn Try.prog 16 (lent [(.sl 1 (List.map zM cb1))]) true [(.agg (qI r.1)),(.int .i64 r.2.1),(.int .i64 r.2.2)]:=
 FnC.fn fun pv=>YV (pv:=pv) H
theorem Zc{a1:Int}{a2:Int}{a3:Int}{r:Bool}(H:jz a1 a2 a3=some r):Fn Try.prog 76 (lent [(.int .i64 a1),(.int .i64 a2),(.int .i64 a3)]) true [(.bool r)]:=by
 refine f76 (fle rfl) ?_
 rw[zR]
 refine AW.weaken (zE [] (kv 0 (oI a1) rfl rfl (kv 1 (oI a2) rfl rfl (kv 2 (oI a3) rfl rfl SL.nil))) BL.nil BK.nil) ?_
 unfold jz at H
 unfold i76
 refine aV (za eC (xQ (aV (za rfl (za rfl (XY rfl eZ (za eZ ?_)))))))
 rcases zF H with⟨h4,H⟩|⟨h4,H⟩
 ·refine gDo eZ (dT h4) (za rfl (gDo rfl (dT h4) (za rfl (gDo rfl (dT h4) (za7 rfl eZ (zK rfl (dT h4) eZ (za eZ (xQ (AW.ret ?_)))))))))
  cases H
  exact eE rfl rfl
 ·refine zd eZ (dF h4) rfl (zd rfl (dF h4) rfl (zd rfl (dF h4) rfl (zP rfl (dF h4) eC (za eZ (xQ (AW.ret ?_))))))
  cases H
  exact eE rfl rfl
theorem xx{a1:Int}{r:Bool}(H:Zw a1=some r):Fn Try.prog 60 (lent [(.int .i64 a1)]) true [(.bool r)]:=by
 refine f60 (fle rfl) ?_
 rw[zR]
 refine AW.weaken (zE [] (kv 0 (oI a1) rfl rfl SL.nil) BL.nil BK.nil) ?_
 unfold Zw at H
 unfold i60
 refine aV (za eC (xQ (aV (za rfl ?_))))
 obtain⟨v2,h3,H⟩:=zo H
 refine zS (u:=(oB v2)) eC Cl.fn (Zc h3) (Ec eZ (Ec eC (Ec eC En))) (Vc Vp (Vc Vp (Vc Vp Vn))) rfl (za eZ (xQ (AW.ret ?_)))
 cases H
 exact eE rfl rfl
theorem k8{a1:Int}{r:Bool}(H:Qh a1=some r):Fn Try.prog 61 (lent [(.int .i64 a1)]) true [(.bool r)]:=by
 refine f61 (fle rfl) ?_
 rw[zR]
 refine AW.weaken (zE [] (kv 0 (oI a1) rfl rfl SL.nil) BL.nil BK.nil) ?_
 unfold Qh at H
 unfold i61
 refine aV (za eC (xQ (aV (za rfl ?_))))
 obtain⟨v2,h3,H⟩:=zo H
 refine zS (u:=(oB v2)) eC Cl.fn (Zc h3) (Ec eZ (Ec eC (Ec eC En))) (Vc Vp (Vc Vp (Vc Vp Vn))) rfl (za eZ (xQ (AW.ret ?_)))
 cases H
 exact eE rfl rfl
theorem KJ{a1:Int}{r:Bool}(H:Z7 a1=some r):Fn Try.prog 115 (lent [(.int .i64 a1)]) true [(.bool r)]:=by
 refine zoL (fle rfl) ?_
 rw[zR]
 refine AW.weaken (zE [] (kv 0 (oI a1) rfl rfl SL.nil) BL.nil BK.nil) ?_
 unfold Z7 at H
 unfold zl7
 refine aV (za eC (xQ (aV (za rfl ?_))))
 obtain⟨v2,h3,H⟩:=zo H
 refine zS (u:=(oB v2)) eC Cl.fn (Zc h3) (Ec eZ (Ec eC (Ec eC En))) (Vc Vp (Vc Vp (Vc Vp Vn))) rfl (za eZ (xQ (AW.ret ?_)))
 cases H
 exact eE rfl rfl
theorem Kz{a1:qo}{r:Bool}(H:Z1 a1=some r):Fn Try.prog 129 (lent [(.agg (zZ a1))]) true [(.bool r)]:=by
 refine zop (fle rfl) ?_
 rw[zR]
 refine AW.weaken (zE [] (kv 0 (.agg [(dI a1.Lo),(dI a1.Hi)]) rfl rfl SL.nil) BL.nil BK.nil) ?_
 unfold Z1 at H
 unfold zjx
 refine aV (Jh (n:=64) (m:=2) (cs:=[(dI a1.Lo),(dI a1.Hi)]) rfl eZ rfl rfl nZ (za eC (xQ (aV (zi (m:=0) rfl rfl (zr (q:=0) (c:=(dI a1.Lo)) eZ bZ rfl rfl (XY eZ eC (za eZ ?_))))))))
 rcases zF H with⟨h2,H⟩|⟨h2,H⟩
 ·refine gDo eZ (dT h2) (zi (m:=0) rfl rfl (gDo rfl (dT h2) (zr (q:=0) (c:=(dI a1.Lo)) eZ bZ rfl rfl (gDo rfl (dT h2) (zi (m:=1) rfl rfl (gDo rfl (dT h2) (zr (q:=1) (c:=(dI a1.Hi)) eZ bZ rfl rfl (gDo rfl (dT h2) (Z0 rfl eZ (zK rfl (dT h2) eZ (za eZ ?_)))))))))))
  rcases zF H with⟨h3,H⟩|⟨h3,H⟩
  ·refine gDo eZ (dT h3) (zi (m:=1) rfl rfl (gDo rfl (dT h3) (zr (q:=1) (c:=(dI a1.Hi)) eZ bZ rfl rfl (gDo rfl (dT h3) (za7 eZ eC (zK rfl (dT h3) eZ (za eZ (xQ (AW.weaken (zE [64] (kr 2 rfl rfl SL.nil) (blR rfl) BK.nil) (AW.ret ?_))))))))))
   cases H
   exact eE rfl rfl
  ·refine zd eZ (dF h3) rfl (zd rfl (dF h3) rfl (zd rfl (dF h3) rfl (zP rfl (dF h3) eC (za eZ (xQ (AW.weaken (zE [64] (kr 2 rfl rfl SL.nil) (blR rfl) BK.nil) (AW.ret ?_)))))))
   cases H
   exact eE rfl rfl
 ·refine zd eZ (dF h2) rfl (zd rfl (dF h2) rfl (zd rfl (dF h2) rfl (zd rfl (dF h2) rfl (zd rfl (dF h2) rfl (zP rfl (dF h2) eC (za eZ (zd eZ rfl rfl (zd rfl rfl rfl (zd rfl rfl rfl (zP rfl rfl eC (za eZ (xQ (AW.weaken (zE [64] (kr 2 rfl rfl SL.nil) (blR rfl) BK.nil) (AW.ret ?_))))))))))))))
  cases H
  exact eE rfl rfl
theorem Xr{a1:qo}{r:Bool}(H:Zt a1=some r):Fn Try.prog 149 (lent [(.agg (zZ a1))]) true [(.bool r)]:=by
 refine zoK (fle rfl) ?_
 rw[zR]
 refine AW.weaken (zE [] (kv 0 (.agg [(dI a1.Lo),(dI a1.Hi)]) rfl rfl SL.nil) BL.nil BK.nil) ?_
 unfold Zt at H
 unfold zjA
 refine aV (Jh (n:=64) (m:=2) (cs:=[(dI a1.Lo),(dI a1.Hi)]) rfl eZ rfl rfl nZ (za eC (xQ (aV (zB (es:=[(dI a1.Lo),(dI a1.Hi)]) rfl bZ rfl ?_)))))
 obtain⟨v2,h3,H⟩:=zo H
 refine zS (u:=(oB v2)) eC Cl.fn (Kz h3) (Ec eZ En) (Vc (VD.agg rfl) Vn) rfl (jU eZ (za eZ (xQ (AW.ret ?_))))
 cases H
 exact eE rfl rfl
theorem Qw{a1:(List qo)}{r:Int}(H:qK a1=some r):Fn Try.prog 170 (lent [(.sl 2 (List.map zZ a1)),(.fn 149 [])]) true [(.int .i64 r)]:=by
 refine zoU (fle rfl) ?_
 rw[zR]
 refine AW.weaken (zE [] (kv 0 (.one (.d (.sl 2 (List.map zZ a1)))) rfl rfl (SL.cons (v:=(.one (.fn 149 []))) (eS rfl eZ) rfl (VWk.one (CWk.fn (css:=[]))) SL.nil)) BL.nil BK.nil) ?_
 unfold qK at H
 unfold zjW
 refine aV (za eC (xQ (zQ (fun t2:Unit=>jh t2=some r) (fun t2=>mk [] [] noG) ?_ ?_)))
 ·intro t2 H
  unfold jh at H
  refine aV (za eC (xQ (AW.ret ?_)))
  cases H
  exact eE rfl rfl
 ·refine aV (za rfl (qx eZ (n:=a1.length) lm (za eC (xQ (AW.block (AW.iter (fun s4:Int=>mk [(0,(.one (.d (.sl 2 (List.map zZ a1))))),(1,(.one (.fn 149 []))),(7,(oI (a1.length:Int))),(8,(oI s4))] [] noG) H (zE [] (sR rfl rfl) BL.nil BK.nil) ?_))))))
  intro kb5 s4 H
  unfold qD at H
  refine aV (Z0 rfl rfl (xQ (aS ?_)))
  rcases zF H with⟨h6,H⟩|⟨h6,H⟩
  ·refine zk eZ (dT h6) (AW.skip (TQ.qn (aS (AW.block (aV (za rfl (za eZ (xQ (aV (za rfl (za rfl (za rfl ?_))))))))))))
   obtain⟨v7,h8,H⟩:=zo H
   refine Zd rfl eZ h8 (ZF (es:=[(dI v7.Lo),(dI v7.Hi)]) eZ rfl ?_)
   obtain⟨v9,h10,H⟩:=zo H
   refine zS (u:=(oB v9)) rfl Cl.fn (Xr h10) (Ec eZ En) (Vc (VD.agg rfl) Vn) rfl (xQ ?_)
   rcases zF H with⟨h11,H⟩|⟨h11,H⟩
   ·refine zk eZ h11 (aV (za rfl (za eZ (xQ (AW.ret (BQ.qr (TQ.qr (TQ.qr (BQ.qr (TQ.qr ?_))))))))))
    cases H
    exact eE rfl rfl
   ·exact zj eZ (nt h11) (AW.skip (BQ.qn (TQ.qn (aR (qf rfl eC (za eZ (zb (TQ.qn ⟨(IntKind.wrap .i64 (s4+1)),H,(zE [] (sR rfl rfl) BL.nil BK.nil)⟩))))))))
  ·exact zj eZ (dF h6) (AW.exit (TQ.qe (TQ.qe (BQ.qe (TQ.qn ⟨(),H,(zE [] SL.nil BL.nil BK.nil)⟩)))))
theorem Z3{a1:(List qo)}{r:Bool}(H:z7 a1=some r):Fn Try.prog 148 (lent [(.sl 2 (List.map zZ a1)),(.fn 149 [])]) true [(.bool r)]:=by
 refine zok (fle rfl) ?_
 rw[zR]
 refine AW.weaken (zE [] (kv 0 (.one (.d (.sl 2 (List.map zZ a1)))) rfl rfl (SL.cons (v:=(.one (.fn 149 []))) (eS rfl eZ) rfl (VWk.one (CWk.fn (css:=[]))) SL.nil)) BL.nil BK.nil) ?_
 unfold z7 at H
 unfold zlR
 refine aV (za eC (xQ (aV (za rfl (za rfl ?_)))))
 obtain⟨v2,h3,H⟩:=zo H
 refine zS (u:=(oI v2)) eC Cl.fn (Qw h3) (Ec rfl (Ec eZ En)) (Vc Vp (Vc (VD.fn PDs.nil) Vn)) rfl (XY eZ eC (za eZ (xQ (AW.ret ?_))))
 cases H
 exact eE rfl rfl
theorem xd{a1:(List qo)}{r:Bool}(H:Zu a1=some r):Fn Try.prog 116 (lent [(.sl 2 (List.map zZ a1))]) true [(.bool r)]:=by
 refine zn9 (fle rfl) ?_
 rw[zR]
 refine AW.weaken (zE [] (kv 0 (.one (.d (.sl 2 (List.map zZ a1)))) rfl rfl SL.nil) BL.nil BK.nil) ?_
 unfold Zu at H
 unfold zn2
 refine aV (za eC (xQ (aV (za rfl (qx eZ (n:=a1.length) lm (za7 eZ eC (za eZ ?_)))))))
 rcases zF H with⟨h2,H⟩|⟨h2,H⟩
 ·refine gDo eZ (dT h2) (za rfl (gDo rfl (dT h2) ?_))
  obtain⟨v3,h4,H⟩:=zo H
  refine zS (u:=(oB v3)) eC Cl.fn (Z3 h4) (Ec eZ (Ec eC En)) (Vc Vp (Vc (VD.fn PDs.nil) Vn)) rfl (gDo rfl (dT h2) (jU eZ (zK rfl (dT h2) eZ (za eZ (xQ (AW.ret ?_))))))
  cases H
  exact eE rfl rfl
 ·refine zd eZ (dF h2) rfl (zd rfl (dF h2) rfl (zd rfl (dF h2) rfl (zP rfl (dF h2) eC (za eZ (xQ (AW.ret ?_))))))
  cases H
  exact eE rfl rfl
theorem zbm{a1:Int}{r:Bool}(H:QV a1=some r):Fn Try.prog 100 (lent [(.int .i64 a1)]) true [(.bool r)]:=by
 refine zoJ (fle rfl) ?_
 rw[zR]
 refine AW.weaken (zE [] (kv 0 (oI a1) rfl rfl SL.nil) BL.nil BK.nil) ?_
 unfold QV at H
 unfold zkp
 refine aV (za eC (xQ (aV (za rfl ?_))))
 obtain⟨v2,h3,H⟩:=zo H
 refine zS (u:=(oB v2)) eC Cl.fn (Zc h3) (Ec eZ (Ec eC (Ec eC En))) (Vc Vp (Vc Vp (Vc Vp Vn))) rfl (za eZ (xQ (AW.ret ?_)))
 cases H
 exact eE rfl rfl
theorem X5{a1:Int}{r:Bool}(H:ZL a1=some r):Fn Try.prog 134 (lent [(.int .i64 a1)]) true [(.bool r)]:=by
 refine zoy (fle rfl) ?_
 rw[zR]
 refine AW.weaken (zE [] (kv 0 (oI a1) rfl rfl SL.nil) BL.nil BK.nil) ?_
 unfold ZL at H
 unfold zj8
 refine aV (za eC (xQ (aV (za rfl ?_))))
 obtain⟨v2,h3,H⟩:=zo H
 refine zS (u:=(oB v2)) eC Cl.fn (Zc h3) (Ec eZ (Ec eC (Ec eC En))) (Vc Vp (Vc Vp (Vc Vp Vn))) rfl (za eZ (xQ (AW.ret ?_)))
 cases H
 exact eE rfl rfl
theorem Y2{a1:(List qy)}{r:Bool}(H:yZ a1=some r):Fn Try.prog 102 (lent [(.sl 2 (List.map zT a1))]) true [(.bool r)]:=by
 refine zoq (fle rfl) ?_
 rw[zR]
 refine AW.weaken (zE [] (kv 0 (.one (.d (.sl 2 (List.map zT a1)))) rfl rfl SL.nil) BL.nil BK.nil) ?_
 unfold yZ at H
 unfold zjl
 refine aV (za eC (xQ (zQ (fun t2:Unit=>(Qi a1) t2=some r) (fun t2=>mk [(0,(.one (.d (.sl 2 (List.map zT a1)))))] [] noG) ?_ ?_)))
 ·intro t2 H
  unfold Qi at H
  refine aV (za eZ (qx eZ (n:=a1.length) lm (za7 eZ eC (za eZ (xQ (AW.ret ?_))))))
  cases H
  exact eE rfl rfl
 ·refine aV (za rfl (qx eZ (n:=a1.length) lm (za eC (xQ (AW.block (AW.iter (fun s4:Int=>mk [(0,(.one (.d (.sl 2 (List.map zT a1))))),(5,(.one (.d (.sl 2 (List.map zT a1))))),(6,(oI (a1.length:Int))),(7,(oI s4))] [] noG) H (zE [] (sR rfl rfl) BL.nil BK.nil) ?_))))))
  intro kb5 s4 H
  unfold Qn at H
  refine aV (Z0 rfl rfl (xQ (aS ?_)))
  rcases zF H with⟨h6,H⟩|⟨h6,H⟩
  ·refine zk eZ (dT h6) (AW.skip (TQ.qn (aS (AW.block (aV (za rfl ?_))))))
   obtain⟨v7,h8,H⟩:=zo H
   refine Zd rfl rfl h8 (ZF (es:=[(dI v7.Key),(dI v7.Value)]) eZ rfl (Zy (n:=256) (m:=2) rfl rfl nZ (za rfl (zw (es:=[(dI v7.Key),(dI v7.Value)]) rfl rfl rfl rfl bZ rfl (xQ (zQ (fun t9:Bool=>(jT kb5 s4) t9=some r) (fun t9=>mk [(0,(.one (.d (.sl 2 (List.map zT a1))))),(5,(.one (.d (.sl 2 (List.map zT a1))))),(6,(oI (a1.length:Int))),(7,(oI s4)),(36,(oB t9))] [] noG) ?_ ?_))))))
   ·intro t9 H
    unfold jT at H
    rcases zF H with⟨h11,H⟩|⟨h11,H⟩
    ·refine zk rfl h11 (aV (za eC (xQ (AW.ret (BQ.qr (TQ.qr (TQ.qr (BQ.qr (TQ.qr ?_)))))))))
     cases H
     exact eE rfl rfl
    ·exact zj rfl (nt h11) (AW.skip (BQ.qn (TQ.qn (aR (qf rfl eC (za eZ (zb (TQ.qn ⟨(IntKind.wrap .i64 (s4+1)),H,(zE [] (sR rfl rfl) BL.nil BK.nil)⟩))))))))
   ·refine AW.regd (zi (m:=0) rfl rfl (zr (q:=0) (c:=(dI v7.Key)) eZ bZ rfl rfl ?_))
    obtain⟨v12,h13,H⟩:=zo H
    refine zS (u:=(oB v12)) eC Cl.fn (zbm h13) (Ec eZ En) (Vc Vp Vn) rfl (jU eZ (za eZ ?_))
    rcases zF H with⟨h14,H⟩|⟨h14,H⟩
    ·refine gDo eZ (cN h14) (zi (m:=1) rfl rfl (gDo rfl (cN h14) (zr (q:=1) (c:=(dI v7.Value)) eZ bZ rfl rfl (gDo rfl (cN h14) ?_))))
     obtain⟨v15,h16,H⟩:=zo H
     refine zS (u:=(oB v15)) eC Cl.fn (X5 h16) (Ec eZ En) (Vc Vp Vn) rfl (gDo rfl (cN h14) (jU eZ (zP rfl (cN h14) eZ (za eZ ?_))))
     rcases zF H with⟨h17,H⟩|⟨h17,H⟩
     ·refine gDo eZ (cN h17) (za rfl (gDo rfl (cN h17) (JT eZ eC (gDo rfl (cN h17) (za eZ ?_)))))
      rcases zF H with⟨h18,H⟩|⟨h18,H⟩
      ·refine gDo eZ (dT h18) (za rfl (gDo rfl (dT h18) (za rfl (gDo rfl (dT h18) (YJ eZ eC (gDo rfl (dT h18) ?_))))))
       obtain⟨v19,h20,H⟩:=zo H
       exact Zd rfl eZ h20 (gDo rfl (dT h18) (ju (m:=0) eZ rfl (gDo rfl (dT h18) (qY (e:=(.int .i64 v19.Key)) eZ rfl (gDo rfl (dT h18) (zi (m:=0) rfl rfl (gDo rfl (dT h18) (zr (q:=0) (c:=(dI v7.Key)) eZ bZ rfl rfl (gDo rfl (dT h18) (XY rfl eZ (gDo rfl (cN h17) (zK rfl (dT h18) eZ (zP rfl (cN h17) eZ (zb (TQ.qn ⟨(decide (v7.Key≤v19.Key)),H,(zE [256] (sR rfl rfl) (blR rfl) BK.nil)⟩)))))))))))))))
      ·exact zd eZ (dF h18) rfl (zd rfl (dF h18) rfl (zd rfl (dF h18) rfl (zd rfl (dF h18) rfl (zd rfl (dF h18) rfl (zd rfl (dF h18) rfl (zd rfl (dF h18) rfl (zd rfl (dF h18) rfl (zd rfl (dF h18) rfl (gDo rfl (cN h17) (zP rfl (dF h18) eC (zP rfl (cN h17) eZ (zb (TQ.qn ⟨false,H,(zE [256] (sR rfl rfl) (blR rfl) BK.nil)⟩)))))))))))))
     ·exact zd eZ (cN (nt h17)) rfl (zd rfl (cN (nt h17)) rfl (zd rfl (cN (nt h17)) rfl (zV eZ rfl (zV rfl rfl (zV rfl rfl (zV rfl rfl (zV rfl rfl (zV rfl rfl (zV rfl rfl (zV rfl rfl (zV rfl rfl (zd rfl (cN (nt h17)) rfl (zK rfl (cN (nt h17)) eC (zb (TQ.qn ⟨true,H,(zE [256] (sR rfl rfl) (blR rfl) BK.nil)⟩)))))))))))))))
    ·exact zd eZ (cN (nt h14)) rfl (zd rfl (cN (nt h14)) rfl (zd rfl (cN (nt h14)) rfl (zd rfl (cN (nt h14)) rfl (zK rfl (cN (nt h14)) eC (za eZ (zd eZ rfl rfl (zd rfl rfl rfl (zd rfl rfl rfl (zV eZ rfl (zV rfl rfl (zV rfl rfl (zV rfl rfl (zV rfl rfl (zV rfl rfl (zV rfl rfl (zV rfl rfl (zV rfl rfl (zd rfl rfl rfl (zK rfl rfl eC (zb (TQ.qn ⟨true,H,(zE [256] (sR rfl rfl) (blR rfl) BK.nil)⟩)))))))))))))))))))))
  ·exact zj eZ (dF h6) (AW.exit (TQ.qe (TQ.qe (BQ.qe (TQ.qn ⟨(),H,(zE [] (sR rfl rfl) BL.nil BK.nil)⟩)))))
theorem Kf{a1:(List zn)}{r:Bool}(H:ZK a1=some r):Fn Try.prog 78 (lent [(.sl 4 (List.map zh a1))]) true [(.bool r)]:=by
 refine f78 (fle rfl) ?_
 rw[zR]
 refine AW.weaken (t:=mk [(0,(.one (.d (.sl 4 (List.map zh a1)))))] [] (lk [])) (zE [] (sR rfl rfl) BL.nil BK.nil) ?_
 unfold ZK at H
 unfold i78
 refine aV (za eC (xQ (zQ (fun t2:Unit=>(Qj a1) t2=some r) (fun t2=>mk [(0,(.one (.d (.sl 4 (List.map zh a1)))))] [] (lk [])) ?_ ?_)))
 ·intro t2 H
  unfold Qj at H
  refine aV (za eZ (qx eZ (n:=a1.length) lm (za7 eZ eC (za eZ (xQ (AW.ret ?_))))))
  cases H
  exact eE rfl rfl
 ·refine aV (za rfl (qx eZ (n:=a1.length) lm (za eC (xQ (AW.block (AW.iter (fun s4:Int=>mk [(0,(.one (.d (.sl 4 (List.map zh a1))))),(5,(.one (.d (.sl 4 (List.map zh a1))))),(6,(oI (a1.length:Int))),(7,(oI s4))] [] (lk [])) H (zg [] (sR rfl rfl) BL.nil BK.nil GK.nil) ?_))))))
  intro kb5 s4 H
  unfold Qa at H
  refine aV (Z0 rfl rfl (xQ (aS ?_)))
  rcases zF H with⟨h6,H⟩|⟨h6,H⟩
  ·refine zk eZ (dT h6) (AW.skip (TQ.qn (aS (AW.block (aS (zp (ze (za rfl (zb (ze ?_))))))))))
   obtain⟨v7,h8,H⟩:=zo H
   refine Zd rfl rfl h8 (zb (ze (ZF (es:=(jZ v7)) eZ rfl (zb (ze (Zy (n:=256) (m:=4) rfl rfl nZ (zb (ze (za rfl (zb (ze (zw (es:=(jZ v7)) rfl rfl rfl rfl bZ rfl (zb (zx (xQ (zQ (fun t9:Bool=>(qJ kb5 s4) t9=some r) (fun t9=>mk [(0,(.one (.d (.sl 4 (List.map zh a1))))),(5,(.one (.d (.sl 4 (List.map zh a1))))),(6,(oI (a1.length:Int))),(7,(oI s4)),(48,(oB t9))] [] (lk [])) ?_ ?_))))))))))))))))
   ·intro t9 H
    unfold qJ at H
    rcases zF H with⟨h11,H⟩|⟨h11,H⟩
    ·refine zk rfl h11 (aV (za eC (xQ (AW.ret (BQ.qr (TQ.qr (TQ.qr (BQ.qr (TQ.qr ?_)))))))))
     cases H
     exact eE rfl rfl
    ·exact zj rfl (nt h11) (AW.skip (BQ.qn (TQ.qn (aR (qf rfl eC (za eZ (zb (TQ.qn ⟨(IntKind.wrap .i64 (s4+1)),H,(zg [] (sR rfl rfl) BL.nil BK.nil GK.nil)⟩))))))))
   ·refine AW.regd (zi (m:=0) rfl rfl (zr (q:=0) (c:=(dI v7.Group)) eZ bZ rfl rfl ?_))
    obtain⟨v12,h13,H⟩:=zo H
    refine zS (u:=(oB v12)) eC Cl.fn (KJ h13) (Ec eZ En) (Vc Vp Vn) rfl (jU eZ (za eZ ?_))
    rcases zF H with⟨h14,H⟩|⟨h14,H⟩
    ·refine gDo eZ (cN h14) (za rfl (gDo rfl (cN h14) (JT eZ eC (gDo rfl (cN h14) (za eZ ?_)))))
     rcases zF H with⟨h15,H⟩|⟨h15,H⟩
     ·refine gDo eZ (dT h15) (za rfl (gDo rfl (dT h15) (za rfl (gDo rfl (dT h15) (YJ eZ eC (gDo rfl (dT h15) ?_))))))
      obtain⟨v16,h17,H⟩:=zo H
      refine Zd rfl eZ h17 (gDo rfl (dT h15) (ju (m:=0) eZ rfl (gDo rfl (dT h15) (qY (e:=(.int .i64 v16.Group)) eZ rfl (gDo rfl (dT h15) (zi (m:=0) rfl rfl (gDo rfl (dT h15) (zr (q:=0) (c:=(dI v7.Group)) eZ bZ rfl rfl (gDo rfl (dT h15) (XY rfl eZ (gDo rfl (cN h14) (zK rfl (dT h15) eZ (zP rfl (cN h14) eZ (za eZ ?_))))))))))))))
      rcases zF H with⟨h18,H⟩|⟨h18,H⟩
      ·exact zd eZ (dT h18) rfl (zd rfl (dT h18) rfl (zd rfl (dT h18) rfl (zd rfl (dT h18) rfl (zK rfl (dT h18) eC (za eZ (zd eZ rfl rfl (zd rfl rfl rfl (zd rfl rfl rfl (zd rfl rfl rfl (zK rfl rfl eC (za eZ (zd eZ rfl rfl (zd rfl rfl rfl (zd rfl rfl rfl (zd rfl rfl rfl (zK rfl rfl eC (zb (TQ.qn ⟨true,H,(zg [256] (sR rfl rfl) (blR rfl) BK.nil GK.nil)⟩))))))))))))))))))
      ·refine gDo eZ (dF h18) (zi (m:=1) rfl rfl (gDo rfl (dF h18) (zr (q:=1) (c:=(.d (.sl 2 (List.map zZ v7.Reads)))) eZ bZ rfl rfl (gDo rfl (dF h18) ?_))))
       obtain⟨v19,h20,H⟩:=zo H
       refine zS (u:=(oB v19)) eC Cl.fn (xd h20) (Ec eZ En) (Vc Vp Vn) rfl (gDo rfl (dF h18) (jU eZ (zP rfl (dF h18) eZ (za eZ ?_))))
       rcases zF H with⟨h21,H⟩|⟨h21,H⟩
       ·refine gDo eZ (cN h21) (zi (m:=2) rfl rfl (gDo rfl (cN h21) (zr (q:=2) (c:=(.d (.sl 2 (List.map zT v7.Writes)))) eZ bZ rfl rfl (gDo rfl (cN h21) ?_))))
        obtain⟨v22,h23,H⟩:=zo H
        refine zS (u:=(oB v22)) eC Cl.fn (Y2 h23) (Ec eZ En) (Vc Vp Vn) rfl (gDo rfl (cN h21) (jU eZ (zP rfl (cN h21) eZ (za eZ ?_))))
        rcases zF H with⟨h24,H⟩|⟨h24,H⟩
        ·refine gDo eZ (cN h24) (zi (m:=3) rfl rfl (gDo rfl (cN h24) (zr (q:=3) (c:=(dI v7.Vote)) eZ bZ rfl rfl (gDo rfl (cN h24) ?_))))
         obtain⟨v25,h26,H⟩:=zo H
         exact zS (u:=(oB v25)) eC Cl.fn (Zc h26) (Ec eZ (Ec eC (Ec eC En))) (Vc Vp (Vc Vp (Vc Vp Vn))) rfl (gDo rfl (cN h24) (jU eZ (zP rfl (cN h24) eZ (zb (TQ.qn ⟨(!v25),H,(zg [256] (sR rfl rfl) (blR rfl) BK.nil GK.nil)⟩)))))
        ·exact zd eZ (cN (nt h24)) rfl (zd rfl (cN (nt h24)) rfl (zd rfl (cN (nt h24)) rfl (zd rfl (cN (nt h24)) rfl (zK rfl (cN (nt h24)) eC (zb (TQ.qn ⟨true,H,(zg [256] (sR rfl rfl) (blR rfl) BK.nil GK.nil)⟩))))))
       ·exact zd eZ (cN (nt h21)) rfl (zd rfl (cN (nt h21)) rfl (zd rfl (cN (nt h21)) rfl (zd rfl (cN (nt h21)) rfl (zK rfl (cN (nt h21)) eC (za eZ (zd eZ rfl rfl (zd rfl rfl rfl (zd rfl rfl rfl (zd rfl rfl rfl (zK rfl rfl eC (zb (TQ.qn ⟨true,H,(zg [256] (sR rfl rfl) (blR rfl) BK.nil GK.nil)⟩))))))))))))
     ·refine zd eZ (dF h15) rfl (zd rfl (dF h15) rfl (zd rfl (dF h15) rfl (zd rfl (dF h15) rfl (zd rfl (dF h15) rfl (zd rfl (dF h15) rfl (zd rfl (dF h15) rfl (zd rfl (dF h15) rfl (zd rfl (dF h15) rfl (gDo rfl (cN h14) (zP rfl (dF h15) eC (zP rfl (cN h14) eZ (za eZ (gDo eZ rfl (zi (m:=1) rfl rfl (gDo rfl rfl (zr (q:=1) (c:=(.d (.sl 2 (List.map zZ v7.Reads)))) eZ bZ rfl rfl (gDo rfl rfl ?_)))))))))))))))))
      obtain⟨v27,h28,H⟩:=zo H
      refine zS (u:=(oB v27)) eC Cl.fn (xd h28) (Ec eZ En) (Vc Vp Vn) rfl (gDo rfl rfl (jU eZ (zP rfl rfl eZ (za eZ ?_))))
      rcases zF H with⟨h29,H⟩|⟨h29,H⟩
      ·refine gDo eZ (cN h29) (zi (m:=2) rfl rfl (gDo rfl (cN h29) (zr (q:=2) (c:=(.d (.sl 2 (List.map zT v7.Writes)))) eZ bZ rfl rfl (gDo rfl (cN h29) ?_))))
       obtain⟨v30,h31,H⟩:=zo H
       refine zS (u:=(oB v30)) eC Cl.fn (Y2 h31) (Ec eZ En) (Vc Vp Vn) rfl (gDo rfl (cN h29) (jU eZ (zP rfl (cN h29) eZ (za eZ ?_))))
       rcases zF H with⟨h32,H⟩|⟨h32,H⟩
       ·refine gDo eZ (cN h32) (zi (m:=3) rfl rfl (gDo rfl (cN h32) (zr (q:=3) (c:=(dI v7.Vote)) eZ bZ rfl rfl (gDo rfl (cN h32) ?_))))
        obtain⟨v33,h34,H⟩:=zo H
        exact zS (u:=(oB v33)) eC Cl.fn (Zc h34) (Ec eZ (Ec eC (Ec eC En))) (Vc Vp (Vc Vp (Vc Vp Vn))) rfl (gDo rfl (cN h32) (jU eZ (zP rfl (cN h32) eZ (zb (TQ.qn ⟨(!v33),H,(zg [256] (sR rfl rfl) (blR rfl) BK.nil GK.nil)⟩)))))
       ·exact zd eZ (cN (nt h32)) rfl (zd rfl (cN (nt h32)) rfl (zd rfl (cN (nt h32)) rfl (zd rfl (cN (nt h32)) rfl (zK rfl (cN (nt h32)) eC (zb (TQ.qn ⟨true,H,(zg [256] (sR rfl rfl) (blR rfl) BK.nil GK.nil)⟩))))))
      ·exact zd eZ (cN (nt h29)) rfl (zd rfl (cN (nt h29)) rfl (zd rfl (cN (nt h29)) rfl (zd rfl (cN (nt h29)) rfl (zK rfl (cN (nt h29)) eC (za eZ (zd eZ rfl rfl (zd rfl rfl rfl (zd rfl rfl rfl (zd rfl rfl rfl (zK rfl rfl eC (zb (TQ.qn ⟨true,H,(zg [256] (sR rfl rfl) (blR rfl) BK.nil GK.nil)⟩))))))))))))
    ·exact zd eZ (cN (nt h14)) rfl (zd rfl (cN (nt h14)) rfl (zd rfl (cN (nt h14)) rfl (zV eZ rfl (zV rfl rfl (zV rfl rfl (zV rfl rfl (zV rfl rfl (zV rfl rfl (zV rfl rfl (zV rfl rfl (zV rfl rfl (zd rfl (cN (nt h14)) rfl (zK rfl (cN (nt h14)) eC (za eZ (zd eZ rfl rfl (zd rfl rfl rfl (zd rfl rfl rfl (zd rfl rfl rfl (zK rfl rfl eC (za eZ (zd eZ rfl rfl (zd rfl rfl rfl (zd rfl rfl rfl (zd rfl rfl rfl (zK rfl rfl eC (za eZ (zd eZ rfl rfl (zd rfl rfl rfl (zd rfl rfl rfl (zd rfl rfl rfl (zK rfl rfl eC (zb (TQ.qn ⟨true,H,(zg [256] (sR rfl rfl) (blR rfl) BK.nil GK.nil)⟩)))))))))))))))))))))))))))))))))
  ·exact zj eZ (dF h6) (AW.exit (TQ.qe (TQ.qe (BQ.qe (TQ.qn ⟨(),H,(zg [] (sR rfl rfl) BL.nil BK.nil GK.nil)⟩)))))
theorem K3{a1:zn}{a2:Int}{r:Bool}(H:QX a1 a2=some r):Fn Try.prog 118 (lent [(.agg (zh a1)),(.ptr (zt a2))]) true [(.bool r)]:=by
 refine zov (fle rfl) ?_
 rw[zR]
 refine AW.weaken (zE [] (kv 0 (.agg (jZ a1)) rfl rfl (SL.cons (v:=(.one (.ptr (.bd (zt a2) 0)))) (eS rfl eZ) rfl (VWk.one CWk.ptr) SL.nil)) BL.nil BK.nil) ?_
 unfold QX at H
 unfold zlb
 refine aV (Jh (n:=128) (m:=4) (cs:=(jZ a1)) rfl eZ rfl rfl nZ (za eC (xQ (aV (zi (m:=3) rfl rfl (zr (q:=3) (c:=(dI a1.Vote)) eZ bZ rfl rfl (qY (e:=(.int .i64 a2)) rfl rfl (jC rfl eZ (za eZ (xQ (AW.ret ?_)))))))))))
 cases H
 exact eE rfl rfl
theorem QT{a1:(List zn)}{a2:Int}{r:Int}(H:qT a1 a2=some r):Fn Try.prog 84 (lent [(.sl 4 (List.map zh a1)),(.fn 118 [.ptr (zt a2)])]) true [(.int .i64 r)]:=by
 refine f84 (fle rfl) ?_
 rw[zR]
 refine AW.weaken (zE [] (kv 0 (.one (.d (.sl 4 (List.map zh a1)))) rfl rfl (SL.cons (v:=(.one (.fn 118 [(.bd (zt a2) 0)]))) (eS rfl eZ) rfl (VWk.one (CWk.fn (css:=[zt a2]))) SL.nil)) BL.nil BK.nil) ?_
 unfold qT at H
 unfold i84
 refine aV (za eC (xQ (zQ (fun t3:Unit=>jx t3=some r) (fun t3=>mk [] [] noG) ?_ ?_)))
 ·intro t3 H
  unfold jx at H
  refine aV (za eC (xQ (AW.ret ?_)))
  cases H
  exact eE rfl rfl
 ·refine aV (za rfl (qx eZ (n:=a1.length) lm (za eC (xQ (AW.block (AW.iter (fun s5:Int=>mk [(0,(.one (.d (.sl 4 (List.map zh a1))))),(1,(.one (.fn 118 [(.bd (zt a2) 0)]))),(7,(oI (a1.length:Int))),(8,(oI s5))] [] noG) H (zE [] (sR rfl rfl) BL.nil BK.nil) ?_))))))
  intro kb6 s5 H
  unfold qO at H
  refine aV (Z0 rfl rfl (xQ (aS ?_)))
  rcases zF H with⟨h7,H⟩|⟨h7,H⟩
  ·refine zk eZ (dT h7) (AW.skip (TQ.qn (aS (AW.block (aV (za rfl (za eZ (xQ (aV (za rfl (za rfl (za rfl ?_))))))))))))
   obtain⟨v8,h9,H⟩:=zo H
   refine Zd rfl eZ h9 (ZF (es:=(jZ v8)) eZ rfl ?_)
   obtain⟨v10,h11,H⟩:=zo H
   refine zS (u:=(oB v10)) rfl Cl.fn (K3 h11) (Ec eZ En) (Vc (VD.agg rfl) (Vc xO Vn)) rfl (xQ ?_)
   rcases zF H with⟨h12,H⟩|⟨h12,H⟩
   ·refine zk eZ h12 (aV (za rfl (za eZ (xQ (AW.ret (BQ.qr (TQ.qr (TQ.qr (BQ.qr (TQ.qr ?_))))))))))
    cases H
    exact eE rfl rfl
   ·exact zj eZ (nt h12) (AW.skip (BQ.qn (TQ.qn (aR (qf rfl eC (za eZ (zb (TQ.qn ⟨(IntKind.wrap .i64 (s5+1)),H,(zE [] (sR rfl rfl) BL.nil BK.nil)⟩))))))))
  ·exact zj eZ (dF h7) (AW.exit (TQ.qe (TQ.qe (BQ.qe (TQ.qn ⟨(),H,(zE [] SL.nil BL.nil BK.nil)⟩)))))
theorem Qq{a1:(List zn)}{a2:Int}{r:Bool}(H:qE a1 a2=some r):Fn Try.prog 117 (lent [(.sl 4 (List.map zh a1)),(.fn 118 [.ptr (zt a2)])]) true [(.bool r)]:=by
 refine zom (fle rfl) ?_
 rw[zR]
 refine AW.weaken (zE [] (kv 0 (.one (.d (.sl 4 (List.map zh a1)))) rfl rfl (SL.cons (v:=(.one (.fn 118 [(.bd (zt a2) 0)]))) (eS rfl eZ) rfl (VWk.one (CWk.fn (css:=[zt a2]))) SL.nil)) BL.nil BK.nil) ?_
 unfold qE at H
 unfold zni
 refine aV (za eC (xQ (aV (za rfl (za rfl ?_)))))
 obtain⟨v3,h4,H⟩:=zo H
 refine zS (u:=(oI v3)) eC Cl.fn (QT h4) (Ec rfl (Ec eZ En)) (Vc Vp (Vc (VD.fn (PDs.cons xO PDs.nil)) Vn)) rfl (XY eZ eC (za eZ (xQ (AW.ret ?_))))
 cases H
 exact eE rfl rfl
theorem JS{a1:(List zn)}{a2:Int}{r:Bool}(H:y4 a1 a2=some r):Fn Try.prog 79 (lent [(.sl 4 (List.map zh a1)),(.int .i64 a2)]) true [(.bool r)]:=by
 refine f79 (fle rfl) ?_
 rw[zR]
 refine AW.weaken (zE [] (kv 0 (.one (.d (.sl 4 (List.map zh a1)))) rfl rfl (kv 1 (oI a2) rfl rfl SL.nil)) BL.nil BK.nil) ?_
 unfold y4 at H
 unfold i79
 refine aV (Jh (n:=192) (m:=1) (cs:=[(dI a2)]) rfl rfl rfl rfl nZ (za eC (xQ (aV (za rfl (zel (ps:=[(.nm 192 0 0)]) (Ec rfl En) ?_))))))
 obtain⟨v3,h4,H⟩:=zo H
 refine zS (u:=(oB v3)) eC Cl.fn (Qq h4) (Ec rfl (Ec eZ En)) (Vc Vp (Vc (VD.fn (PDs.cons (Kj bZ (CDs.plain CDs.nil)) PDs.nil)) Vn)) rfl (za eZ (xQ (AW.ret ?_)))
 cases H
 exact eE rfl rfl
theorem za6{a1:zD}{r:Bool}(H:Jc a1=some r):Fn Try.prog 73 (lent [(.agg (zm a1))]) true [(.bool r)]:=by
 refine f73 (fle rfl) ?_
 rw[zR]
 refine AW.weaken (zE [] (kv 0 (.agg (yA a1)) rfl rfl SL.nil) BL.nil BK.nil) ?_
 unfold Jc at H
 unfold i73
 refine aV (Jh (n:=64) (m:=5) (cs:=(yA a1)) rfl eZ rfl rfl nZ (za eC (xQ (aS (zQ (fun t2:Bool=>(ZQ a1) t2=some r) (fun t2=>mk [(1,(.one (.ptr (.nm 64 0 0)))),(18,(oB t2))] [(64,(.vars 5 (yA a1)))] noG) ?_ ?_)))))
 ·intro t2 H
  unfold ZQ at H
  rcases zF H with⟨h4,H⟩|⟨h4,H⟩
  ·refine zk rfl h4 (aV (za eC (xQ (AW.ret (TQ.qr ?_)))))
   cases H
   exact eE rfl rfl
  ·refine zj rfl (nt h4) (AW.skip (TQ.qn (aS (aV (zi (m:=3) eZ rfl (zr (q:=3) (c:=(dI a1.State)) eZ bZ rfl rfl (xQ (AW.block (aV (jC eZ eC (za eZ (xQ ?_))))))))))))
   rcases zF H with⟨h5,H⟩|⟨h5,H⟩
   ·refine zk eZ (dT h5) (aV (zi (m:=4) rfl rfl (zr (q:=4) (c:=(.d (.sl 4 (List.map zh a1.Shares)))) eZ bZ rfl rfl (qx eZ (n:=a1.Shares.length) lm (jC eZ eC (za eZ (xQ (AW.ret (BQ.qr (TQ.qr ?_))))))))))
    cases H
    exact eE rfl rfl
   ·refine zj eZ (dF h5) (aV (jC rfl eC (za eZ (xQ ?_))))
    rcases zF H with⟨h6,H⟩|⟨h6,H⟩
    ·refine zk eZ (dT h6) (aV (zi (m:=4) rfl rfl (zr (q:=4) (c:=(.d (.sl 4 (List.map zh a1.Shares)))) eZ bZ rfl rfl ?_)))
     obtain⟨v7,h8,H⟩:=zo H
     refine zS (u:=(oB v7)) eC Cl.fn (JS h8) (Ec eZ (Ec eC En)) (Vc Vp (Vc Vp Vn)) rfl (za eZ ?_)
     rcases zF H with⟨h9,H⟩|⟨h9,H⟩
     ·refine gDo eZ h9 (zi (m:=4) rfl rfl (gDo rfl h9 (zr (q:=4) (c:=(.d (.sl 4 (List.map zh a1.Shares)))) eZ bZ rfl rfl (gDo rfl h9 ?_))))
      obtain⟨v10,h11,H⟩:=zo H
      refine zS (u:=(oB v10)) eC Cl.fn (JS h11) (Ec eZ (Ec eC En)) (Vc Vp (Vc Vp Vn)) rfl (gDo rfl h9 (jU eZ (zK rfl h9 eZ (za eZ (xQ (AW.weaken (zE [64] (kr 2 rfl rfl SL.nil) (blR rfl) BK.nil) (AW.ret (BQ.qr (TQ.qr ?_)))))))))
      cases H
      exact eE rfl rfl
     ·refine zd eZ (nt h9) rfl (zd rfl (nt h9) rfl (zd rfl (nt h9) rfl (zd rfl (nt h9) rfl (zP rfl (nt h9) eC (za eZ (xQ (AW.weaken (zE [64] (kr 2 rfl rfl SL.nil) (blR rfl) BK.nil) (AW.ret (BQ.qr (TQ.qr ?_))))))))))
      cases H
      exact eE rfl rfl
    ·refine zj eZ (dF h6) (aV (jC rfl eC (za eZ (xQ ?_))))
     rcases zF H with⟨h12,H⟩|⟨h12,H⟩
     ·refine zk eZ (dT h12) (aV (zi (m:=4) rfl rfl (zr (q:=4) (c:=(.d (.sl 4 (List.map zh a1.Shares)))) eZ bZ rfl rfl ?_)))
      obtain⟨v13,h14,H⟩:=zo H
      refine zS (u:=(oB v13)) eC Cl.fn (JS h14) (Ec eZ (Ec eC En)) (Vc Vp (Vc Vp Vn)) rfl (jU eZ (za eZ ?_))
      rcases zF H with⟨h15,H⟩|⟨h15,H⟩
      ·refine zd eZ (cN h15) rfl (zd rfl (cN h15) rfl (zd rfl (cN h15) rfl (zd rfl (cN h15) rfl (zP rfl (cN h15) eC (za eZ (xQ (AW.weaken (zE [64] (kr 2 rfl rfl SL.nil) (blR rfl) BK.nil) (AW.ret (BQ.qr (TQ.qr ?_))))))))))
       cases H
       exact eE rfl rfl
      ·refine gDo eZ (cN (nt h15)) (zi (m:=4) rfl rfl (gDo rfl (cN (nt h15)) (zr (q:=4) (c:=(.d (.sl 4 (List.map zh a1.Shares)))) eZ bZ rfl rfl (gDo rfl (cN (nt h15)) ?_))))
       obtain⟨v16,h17,H⟩:=zo H
       refine zS (u:=(oB v16)) eC Cl.fn (JS h17) (Ec eZ (Ec eC En)) (Vc Vp (Vc Vp Vn)) rfl (gDo rfl (cN (nt h15)) (jU eZ (zK rfl (cN (nt h15)) eZ (za eZ (xQ (AW.weaken (zE [64] (kr 2 rfl rfl SL.nil) (blR rfl) BK.nil) (AW.ret (BQ.qr (TQ.qr ?_)))))))))
       cases H
       exact eE rfl rfl
     ·refine zj eZ (dF h12) (AW.skip (BQ.qn (TQ.qn (aV (zi (m:=3) rfl rfl (zr (q:=3) (c:=(dI a1.State)) eZ bZ rfl rfl (jC eZ eC (za eZ (xQ (AW.ret ?_))))))))))
      cases H
      exact eE rfl rfl
 ·refine aR (zi (m:=1) rfl rfl (zr (q:=1) (c:=(dI a1.Client)) eZ bZ rfl rfl ?_))
  obtain⟨v18,h19,H⟩:=zo H
  refine zS (u:=(oB v18)) eC Cl.fn (xx h19) (Ec eZ En) (Vc Vp Vn) rfl (jU eZ (za eZ ?_))
  rcases zF H with⟨h20,H⟩|⟨h20,H⟩
  ·refine gDo eZ (cN h20) (zi (m:=2) rfl rfl (gDo rfl (cN h20) (zr (q:=2) (c:=(dI a1.Req)) eZ bZ rfl rfl (gDo rfl (cN h20) ?_))))
   obtain⟨v21,h22,H⟩:=zo H
   refine zS (u:=(oB v21)) eC Cl.fn (k8 h22) (Ec eZ En) (Vc Vp Vn) rfl (gDo rfl (cN h20) (jU eZ (zP rfl (cN h20) eZ (za eZ ?_))))
   rcases zF H with⟨h23,H⟩|⟨h23,H⟩
   ·refine gDo eZ (cN h23) (zi (m:=4) rfl rfl (gDo rfl (cN h23) (zr (q:=4) (c:=(.d (.sl 4 (List.map zh a1.Shares)))) eZ bZ rfl rfl (gDo rfl (cN h23) ?_))))
    obtain⟨v24,h25,H⟩:=zo H
    exact zS (u:=(oB v24)) eC Cl.fn (Kf h25) (Ec eZ En) (Vc Vp Vn) rfl (gDo rfl (cN h23) (jU eZ (zP rfl (cN h23) eZ (zb (TQ.qn ⟨(!v24),H,(zE [] (sR rfl rfl) (blR rfl) (bkR rfl rfl rfl))⟩)))))
   ·exact zd eZ (cN (nt h23)) rfl (zd rfl (cN (nt h23)) rfl (zd rfl (cN (nt h23)) rfl (zd rfl (cN (nt h23)) rfl (zK rfl (cN (nt h23)) eC (zb (TQ.qn ⟨true,H,(zE [] (sR rfl rfl) (blR rfl) (bkR rfl rfl rfl))⟩))))))
  ·exact zd eZ (cN (nt h20)) rfl (zd rfl (cN (nt h20)) rfl (zd rfl (cN (nt h20)) rfl (zd rfl (cN (nt h20)) rfl (zK rfl (cN (nt h20)) eC (za eZ (zd eZ rfl rfl (zd rfl rfl rfl (zd rfl rfl rfl (zd rfl rfl rfl (zK rfl rfl eC (zb (TQ.qn ⟨true,H,(zE [] (sR rfl rfl) (blR rfl) (bkR rfl rfl rfl))⟩))))))))))))
theorem Xy{a1:zD}{a2:zD}{r:Bool}(H:Z9 a1 a2=some r):Fn Try.prog 75 (lent [(.agg (zm a1)),(.ptr (zm a2))]) true [(.bool r)]:=by
 refine f75 (fle rfl) ?_
 rw[zR]
 refine AW.weaken (zE [] (kv 0 (.agg (yA a1)) rfl rfl (SL.cons (v:=(.one (.ptr (.bd (zm a2) 0)))) (eS rfl eZ) rfl (VWk.one CWk.ptr) SL.nil)) BL.nil BK.nil) ?_
 unfold Z9 at H
 unfold i75
 refine aV (Jh (n:=128) (m:=5) (cs:=(yA a1)) rfl eZ rfl rfl nZ (za eC (xQ (aV (zi (m:=1) rfl rfl (zr (q:=1) (c:=(dI a1.Client)) eZ bZ rfl rfl (ju (m:=1) rfl rfl (qY (e:=(.int .i64 a2.Client)) eZ rfl (jC rfl eZ (za eZ ?_))))))))))
 rcases zF H with⟨h3,H⟩|⟨h3,H⟩
 ·refine gDo eZ (dT h3) (zi (m:=2) rfl rfl (gDo rfl (dT h3) (zr (q:=2) (c:=(dI a1.Req)) eZ bZ rfl rfl (gDo rfl (dT h3) (ju (m:=2) rfl rfl (gDo rfl (dT h3) (qY (e:=(.int .i64 a2.Req)) eZ rfl (gDo rfl (dT h3) (jC rfl eZ (zK rfl (dT h3) eZ (za eZ (xQ (AW.weaken (zE [128] (kr 3 rfl rfl SL.nil) (blR rfl) BK.nil) (AW.ret ?_))))))))))))))
  cases H
  exact eE rfl rfl
 ·refine zd eZ (dF h3) rfl (zd rfl (dF h3) rfl (zd rfl (dF h3) rfl (zd rfl (dF h3) rfl (zd rfl (dF h3) rfl (zP rfl (dF h3) eC (za eZ (xQ (AW.weaken (zE [128] (kr 3 rfl rfl SL.nil) (blR rfl) BK.nil) (AW.ret ?_)))))))))
  cases H
  exact eE rfl rfl
theorem QU{a1:(List zD)}{a2:zD}{r:Int}(H:qS a1 a2=some r):Fn Try.prog 67 (lent [(.sl 5 (List.map zm a1)),(.fn 75 [.ptr (zm a2)])]) true [(.int .i64 r)]:=by
 refine f67 (fle rfl) ?_
 rw[zR]
 refine AW.weaken (zE [] (kv 0 (.one (.d (.sl 5 (List.map zm a1)))) rfl rfl (SL.cons (v:=(.one (.fn 75 [(.bd (zm a2) 0)]))) (eS rfl eZ) rfl (VWk.one (CWk.fn (css:=[zm a2]))) SL.nil)) BL.nil BK.nil) ?_
 unfold qS at H
 unfold i67
 refine aV (za eC (xQ (zQ (fun t3:Unit=>jw t3=some r) (fun t3=>mk [] [] noG) ?_ ?_)))
 ·intro t3 H
  unfold jw at H
  refine aV (za eC (xQ (AW.ret ?_)))
  cases H
  exact eE rfl rfl
 ·refine aV (za rfl (qx eZ (n:=a1.length) lm (za eC (xQ (AW.block (AW.iter (fun s5:Int=>mk [(0,(.one (.d (.sl 5 (List.map zm a1))))),(1,(.one (.fn 75 [(.bd (zm a2) 0)]))),(7,(oI (a1.length:Int))),(8,(oI s5))] [] noG) H (zE [] (sR rfl rfl) BL.nil BK.nil) ?_))))))
  intro kb6 s5 H
  unfold qP at H
  refine aV (Z0 rfl rfl (xQ (aS ?_)))
  rcases zF H with⟨h7,H⟩|⟨h7,H⟩
  ·refine zk eZ (dT h7) (AW.skip (TQ.qn (aS (AW.block (aV (za rfl (za eZ (xQ (aV (za rfl (za rfl (za rfl ?_))))))))))))
   obtain⟨v8,h9,H⟩:=zo H
   refine Zd rfl eZ h9 (ZF (es:=(yA v8)) eZ rfl ?_)
   obtain⟨v10,h11,H⟩:=zo H
   refine zS (u:=(oB v10)) rfl Cl.fn (Xy h11) (Ec eZ En) (Vc (VD.agg rfl) (Vc xO Vn)) rfl (xQ ?_)
   rcases zF H with⟨h12,H⟩|⟨h12,H⟩
   ·refine zk eZ h12 (aV (za rfl (za eZ (xQ (AW.ret (BQ.qr (TQ.qr (TQ.qr (BQ.qr (TQ.qr ?_))))))))))
    cases H
    exact eE rfl rfl
   ·exact zj eZ (nt h12) (AW.skip (BQ.qn (TQ.qn (aR (qf rfl eC (za eZ (zb (TQ.qn ⟨(IntKind.wrap .i64 (s5+1)),H,(zE [] (sR rfl rfl) BL.nil BK.nil)⟩))))))))
  ·exact zj eZ (dF h7) (AW.exit (TQ.qe (TQ.qe (BQ.qe (TQ.qn ⟨(),H,(zE [] SL.nil BL.nil BK.nil)⟩)))))
theorem Qs{a1:(List zD)}{a2:zD}{r:Bool}(H:qg a1 a2=some r):Fn Try.prog 74 (lent [(.sl 5 (List.map zm a1)),(.fn 75 [.ptr (zm a2)])]) true [(.bool r)]:=by
 refine f74 (fle rfl) ?_
 rw[zR]
 refine AW.weaken (zE [] (kv 0 (.one (.d (.sl 5 (List.map zm a1)))) rfl rfl (SL.cons (v:=(.one (.fn 75 [(.bd (zm a2) 0)]))) (eS rfl eZ) rfl (VWk.one (CWk.fn (css:=[zm a2]))) SL.nil)) BL.nil BK.nil) ?_
 unfold qg at H
 unfold i74
 refine aV (za eC (xQ (aV (za rfl (za rfl ?_)))))
 obtain⟨v3,h4,H⟩:=zo H
 refine zS (u:=(oI v3)) eC Cl.fn (QU h4) (Ec rfl (Ec eZ En)) (Vc Vp (Vc (VD.fn (PDs.cons xO PDs.nil)) Vn)) rfl (XY eZ eC (za eZ (xQ (AW.ret ?_))))
 cases H
 exact eE rfl rfl
theorem kf{a1:(List Int)}{a2:Int}{r:Int}(H:yJ a1 a2=some r):Fn Try.prog 114 (lent [(.sl 1 (List.map zt a1)),(.int .i64 a2)]) true [(.int .i64 r)]:=by
 refine zoj (fle rfl) ?_
 rw[zR]
 refine AW.weaken (zE [] (kv 0 (.one (.d (.sl 1 (List.map zt a1)))) rfl rfl (kv 1 (oI a2) rfl rfl SL.nil)) BL.nil BK.nil) ?_
 unfold yJ at H
 unfold zls
 refine aV (za eC (xQ (zQ (fun t3:Unit=>Qr t3=some r) (fun t3=>mk [] [] noG) ?_ ?_)))
 ·intro t3 H
  unfold Qr at H
  refine aV (za eC (xQ (AW.ret ?_)))
  cases H
  exact eE rfl rfl
 ·refine aV (za rfl (qx eZ (n:=a1.length) lm (za eC (xQ (AW.block (AW.iter (fun s5:Int=>mk [(0,(.one (.d (.sl 1 (List.map zt a1))))),(1,(oI a2)),(7,(oI (a1.length:Int))),(8,(oI s5))] [] noG) H (zE [] (sR rfl rfl) BL.nil BK.nil) ?_))))))
  intro kb6 s5 H
  unfold Zl at H
  refine aV (Z0 rfl rfl (xQ (aS ?_)))
  rcases zF H with⟨h7,H⟩|⟨h7,H⟩
  ·refine zk eZ (dT h7) (AW.skip (TQ.qn (aS (AW.block (aV (za rfl (za eZ (xQ (aV (za rfl (za rfl (za rfl ?_))))))))))))
   obtain⟨v8,h9,H⟩:=zo H
   refine Zd rfl eZ h9 (qY (e:=(.int .i64 v8)) eZ rfl (jC rfl eZ (xQ ?_)))
   rcases zF H with⟨h10,H⟩|⟨h10,H⟩
   ·refine zk eZ (dT h10) (aV (za rfl (za eZ (xQ (AW.ret (BQ.qr (TQ.qr (TQ.qr (BQ.qr (TQ.qr ?_))))))))))
    cases H
    exact eE rfl rfl
   ·exact zj eZ (dF h10) (AW.skip (BQ.qn (TQ.qn (aR (qf rfl eC (za eZ (zb (TQ.qn ⟨(IntKind.wrap .i64 (s5+1)),H,(zE [] (sR rfl rfl) BL.nil BK.nil)⟩))))))))
  ·exact zj eZ (dF h7) (AW.exit (TQ.qe (TQ.qe (BQ.qe (TQ.qn ⟨(),H,(zE [] SL.nil BL.nil BK.nil)⟩)))))
theorem Y8{a1:(List Int)}{a2:Int}{r:Bool}(H:jL a1 a2=some r):Fn Try.prog 77 (lent [(.sl 1 (List.map zt a1)),(.int .i64 a2)]) true [(.bool r)]:=by
 refine f77 (fle rfl) ?_
 rw[zR]
 refine AW.weaken (zE [] (kv 0 (.one (.d (.sl 1 (List.map zt a1)))) rfl rfl (kv 1 (oI a2) rfl rfl SL.nil)) BL.nil BK.nil) ?_
 unfold jL at H
 unfold i77
 refine aV (za eC (xQ (aV (za rfl (za rfl ?_)))))
 obtain⟨v3,h4,H⟩:=zo H
 refine zS (u:=(oI v3)) eC Cl.fn (kf h4) (Ec rfl (Ec eZ En)) (Vc Vp (Vc Vp Vn)) rfl (XY eZ eC (za eZ (xQ (AW.ret ?_))))
 cases H
 exact eE rfl rfl
theorem J6{a1:zl}{r:Bool}(H:yH a1=some r):Fn Try.prog 25 (lent [(.agg (qI a1))]) true [(.bool r)]:=by
 refine f25 (fle rfl) ?_
 rw[zR]
 refine AW.weaken (t:=mk [(0,(.agg (zy a1)))] [] (lk [])) (zE [] (sR rfl rfl) BL.nil BK.nil) ?_
 unfold yH at H
 unfold i25
 refine aV (Jh (n:=64) (m:=2) (cs:=(zy a1)) rfl eZ rfl rfl nZ (za eC (xQ (aS (aV (zi (m:=0) rfl rfl (zr (q:=0) (c:=(.d (.sl 5 (List.map zm a1.Recs)))) eZ bZ rfl rfl (qx eZ (n:=a1.Recs.length) lm (JT eZ eC (xQ ?_))))))))))
 rcases zF H with⟨h2,H⟩|⟨h2,H⟩
 ·refine zk eZ (dT h2) (aV (za eC (xQ (AW.ret (TQ.qr ?_)))))
  cases H
  exact eE rfl rfl
 ·refine zj eZ (dF h2) (AW.skip (TQ.qn (aV (za eC (xQ (zQ (fun t3:Int=>(QF a1) t3=some r) (fun t3=>mk [(1,(.one (.ptr (.nm 64 0 0)))),(3,(oI t3))] [(64,(.vars 2 (zy a1)))] (lk [])) ?_ ?_))))))
  ·intro t3 H
   unfold QF at H
   refine zQ (fun t5:Unit=>(QK t3 a1) t5=some r) (fun t5=>mk [(1,(.one (.ptr (.nm 64 0 0)))),(3,(oI t3))] [(64,(.vars 2 (zy a1)))] (lk [])) ?_ ?_
   ·intro t5 H
    unfold QK at H
    refine aV (za rfl (zi (m:=1) rfl rfl (zr (q:=1) (c:=(.d (.sl 1 (List.map zt a1.Order)))) eZ bZ rfl rfl (qx eZ (n:=a1.Order.length) lm (jC rfl eZ (za eZ (xQ (AW.ret ?_))))))))
    cases H
    exact eE rfl rfl
   ·refine aV (zi (m:=1) eZ rfl (zr (q:=1) (c:=(.d (.sl 1 (List.map zt a1.Order)))) eZ bZ rfl rfl (qx eZ (n:=a1.Order.length) lm (za eC (xQ (AW.block (AW.iter (fun s7:Int=>mk [(1,(.one (.ptr (.nm 64 0 0)))),(3,(oI t3)),(45,(.one (.d (.sl 1 (List.map zt a1.Order))))),(46,(oI (a1.Order.length:Int))),(47,(oI s7))] [(64,(.vars 2 (zy a1)))] (lk [])) H (zg [] (sR rfl rfl) (blR rfl) (bkR rfl rfl rfl) GK.nil) ?_)))))))
    intro kb8 s7 H
    unfold QM at H
    refine aV (Z0 rfl rfl (xQ (aS ?_)))
    rcases zF H with⟨h9,H⟩|⟨h9,H⟩
    ·refine zk eZ (dT h9) (AW.skip (TQ.qn (aS (AW.block (aV (za rfl ?_))))))
     obtain⟨v10,h11,H⟩:=zo H
     refine Zd rfl rfl h11 (qY (e:=(.int .i64 v10)) eZ rfl (za rfl (za rfl (xQ (zQ (fun t12:Bool=>(yw kb8 s7) t12=some r) (fun t12=>mk [(1,(.one (.ptr (.nm 64 0 0)))),(3,(oI t3)),(45,(.one (.d (.sl 1 (List.map zt a1.Order))))),(46,(oI (a1.Order.length:Int))),(47,(oI s7)),(75,(oB t12))] [(64,(.vars 2 (zy a1)))] (lk [])) ?_ ?_)))))
     ·intro t12 H
      unfold yw at H
      rcases zF H with⟨h14,H⟩|⟨h14,H⟩
      ·refine zk rfl h14 (aV (za eC (xQ (AW.ret (BQ.qr (TQ.qr (TQ.qr (BQ.qr (TQ.qr ?_)))))))))
       cases H
       exact eE rfl rfl
      ·exact zj rfl (nt h14) (AW.skip (BQ.qn (TQ.qn (aR (qf rfl eC (za eZ (zb (TQ.qn ⟨(IntKind.wrap .i64 (s7+1)),H,(zg [] (sR rfl rfl) (blR rfl) (bkR rfl rfl rfl) GK.nil)⟩))))))))
     ·refine aR (za eZ (zi (m:=0) rfl rfl (zr (q:=0) (c:=(.d (.sl 5 (List.map zm a1.Recs)))) eZ bZ rfl rfl (qx eZ (n:=a1.Recs.length) lm ?_))))
      obtain⟨v15,h16,H⟩:=zo H
      refine zS (u:=(oB v15)) eC Cl.fn (Zc h16) (Ec rfl (Ec eC (Ec eZ En))) (Vc Vp (Vc Vp (Vc Vp Vn))) rfl (jU eZ (za eZ ?_))
      rcases zF H with⟨h17,H⟩|⟨h17,H⟩
      ·refine gDo eZ (cN h17) (zi (m:=0) rfl rfl (gDo rfl (cN h17) (zr (q:=0) (c:=(.d (.sl 5 (List.map zm a1.Recs)))) eZ bZ rfl rfl (gDo rfl (cN h17) (za rfl (gDo rfl (cN h17) (YJ eZ eC (gDo rfl (cN h17) ?_))))))))
       obtain⟨v18,h19,H⟩:=zo H
       refine Zd rfl eZ h19 (gDo rfl (cN h17) (ju (m:=3) eZ rfl (gDo rfl (cN h17) (qY (e:=(.int .i64 v18.State)) eZ rfl (gDo rfl (cN h17) (QS eZ eC (zP rfl (cN h17) eZ (za eZ ?_))))))))
       rcases zF H with⟨h20,H⟩|⟨h20,H⟩
       ·exact zd eZ (dT h20) rfl (zd rfl (dT h20) rfl (zd rfl (dT h20) rfl (zd rfl (dT h20) rfl (zd rfl (dT h20) rfl (zd rfl (dT h20) rfl (zK rfl (dT h20) eC (zb (TQ.qn ⟨true,H,(zg [] (sR rfl rfl) (blR rfl) (bkR rfl rfl rfl) GK.nil)⟩))))))))
       ·refine gDo eZ (dF h20) (zi (m:=1) rfl rfl (gDo rfl (dF h20) (zr (q:=1) (c:=(.d (.sl 1 (List.map zt a1.Order)))) eZ bZ rfl rfl (gDo rfl (dF h20) (za rfl (gDo rfl (dF h20) ?_))))))
        obtain⟨v21,h22,H⟩:=zo H
        refine zdW rfl zex (n:=(a1.Order.length:Int)) rfl (Bd.at eZ) h22 (gDo rfl (dF h20) (za rfl (gDo rfl (dF h20) ?_)))
        obtain⟨v23,h24,H⟩:=zo H
        exact zS (u:=(oB v23)) eC Cl.fn (Y8 h24) (Ec rfl (Ec eZ En)) (Vc Vp (Vc Vp Vn)) rfl (zP rfl (dF h20) eZ (zb (TQ.qn ⟨v23,H,(zg [] (sR rfl rfl) (blR rfl) (bkR rfl rfl rfl) GK.nil)⟩)))
      ·exact zd eZ (cN (nt h17)) rfl (zd rfl (cN (nt h17)) rfl (zd rfl (cN (nt h17)) rfl (zd rfl (cN (nt h17)) rfl (zd rfl (cN (nt h17)) rfl (zd rfl (cN (nt h17)) rfl (zd rfl (cN (nt h17)) rfl (zd rfl (cN (nt h17)) rfl (zK rfl (cN (nt h17)) eC (za eZ (zd eZ rfl rfl (zd rfl rfl rfl (zd rfl rfl rfl (zd rfl rfl rfl (zd rfl rfl rfl (zd rfl rfl rfl (zK rfl rfl eC (zb (TQ.qn ⟨true,H,(zg [] (sR rfl rfl) (blR rfl) (bkR rfl rfl rfl) GK.nil)⟩))))))))))))))))))
    ·exact zj eZ (dF h9) (AW.exit (TQ.qe (TQ.qe (BQ.qe (TQ.qn ⟨(),H,(zg [] (sR rfl rfl) (blR rfl) (bkR rfl rfl rfl) GK.nil)⟩)))))
  ·refine aV (zi (m:=0) rfl rfl (zr (q:=0) (c:=(.d (.sl 5 (List.map zm a1.Recs)))) eZ bZ rfl rfl (qx eZ (n:=a1.Recs.length) lm (za eC (xQ (AW.block (AW.iter (fun s25:(Int×Int)=>mk [(1,(.one (.ptr (.nm 64 0 0)))),(3,(oI s25.1)),(13,(.one (.d (.sl 5 (List.map zm a1.Recs))))),(14,(oI (a1.Recs.length:Int))),(15,(oI s25.2))] [(64,(.vars 2 (zy a1)))] (lk [])) H (zg [] (sR rfl rfl) (blR rfl) (bkR rfl rfl rfl) GK.nil) ?_)))))))
   intro kb26 s25 H
   unfold Qf at H
   refine aV (Z0 rfl rfl (xQ (aS ?_)))
   rcases zF H with⟨h27,H⟩|⟨h27,H⟩
   ·refine zk eZ (dT h27) (AW.skip (TQ.qn (aS (AW.block (aS (zp (ze (za rfl (zb (ze ?_))))))))))
    obtain⟨v28,h29,H⟩:=zo H
    refine Zd rfl rfl h29 (zb (ze (ZF (es:=(yA v28)) eZ rfl (zb (ze (Zy (n:=320) (m:=5) rfl rfl (nR rfl) (zb (ze (za rfl (zb (ze (zw (es:=(yA v28)) rfl rfl rfl rfl bZ rfl (zb (zx (xQ (aS (zQ (fun t30:Bool=>(yu v28 kb26 s25) t30=some r) (fun t30=>mk [(1,(.one (.ptr (.nm 64 0 0)))),(3,(oI s25.1)),(5,(.one (.ptr (.nm 320 0 0)))),(13,(.one (.d (.sl 5 (List.map zm a1.Recs))))),(14,(oI (a1.Recs.length:Int))),(15,(oI s25.2)),(37,(oB t30))] [(64,(.vars 2 (zy a1))),(320,(.vars 5 (yA v28)))] (lk [])) ?_ ?_)))))))))))))))))
    ·intro t30 H
     unfold yu at H
     rcases zF H with⟨h32,H⟩|⟨h32,H⟩
     ·refine zk rfl h32 (aV (za eC (xQ (AW.ret (TQ.qr (BQ.qr (TQ.qr (TQ.qr (BQ.qr (TQ.qr ?_))))))))))
      cases H
      exact eE rfl rfl
     ·refine zj rfl (nt h32) (AW.skip (TQ.qn (aV (zi (m:=3) rfl rfl (zr (q:=3) (c:=(dI v28.State)) eZ (bR rfl) rfl rfl (jC eZ eC (xQ ?_)))))))
      rcases zF H with⟨h33,H⟩|⟨h33,H⟩
      ·exact zk eZ (dT h33) (aR (za rfl (qf eZ eC (za eZ (zb (BQ.qn (TQ.qn (aR (qf rfl eC (za eZ (zb (TQ.qn ⟨((IntKind.wrap .i64 (s25.1+1)),(IntKind.wrap .i64 (s25.2+1))),H,(zg [320] (sR rfl rfl) (blR rfl) (bkR rfl rfl rfl) GK.nil)⟩))))))))))))
      ·exact zj eZ (dF h33) (AW.skip (BQ.qn (TQ.qn (aR (qf rfl eC (za eZ (zb (TQ.qn ⟨(s25.1,(IntKind.wrap .i64 (s25.2+1))),H,(zg [320] (sR rfl rfl) (blR rfl) (bkR rfl rfl rfl) GK.nil)⟩))))))))
    ·refine aR (zi (m:=0) rfl rfl (zr (q:=0) (c:=(dI v28.Tx)) eZ bZ rfl rfl (za rfl (qf eZ eC (QS rfl eZ (za eZ ?_))))))
     rcases zF H with⟨h34,H⟩|⟨h34,H⟩
     ·exact zd eZ (dT h34) rfl (zd rfl (dT h34) rfl (zd rfl (dT h34) rfl (zK rfl (dT h34) eC (za eZ (zd eZ rfl rfl (zd rfl rfl rfl (zd rfl rfl rfl (zd rfl rfl rfl (zd rfl rfl rfl (zd rfl rfl rfl (zK rfl rfl eC (zb (TQ.qn ⟨true,H,(zg [] (sR rfl rfl) (blR rfl) (bkR rfl rfl rfl) GK.nil)⟩)))))))))))))
     ·refine gDo eZ (dF h34) (zB (es:=(yA v28)) rfl bZ rfl (gDo rfl (dF h34) ?_))
      obtain⟨v35,h36,H⟩:=zo H
      refine zS (u:=(oB v35)) eC Cl.fn (za6 h36) (Ec eZ En) (Vc (VD.agg rfl) Vn) rfl (gDo rfl (dF h34) (jU eZ (zP rfl (dF h34) eZ (za eZ ?_))))
      rcases zF H with⟨h37,H⟩|⟨h37,H⟩
      ·refine gDo eZ (cN h37) (zi (m:=0) rfl rfl (gDo rfl (cN h37) (zr (q:=0) (c:=(.d (.sl 5 (List.map zm a1.Recs)))) eZ (bR rfl) rfl rfl (gDo rfl (cN h37) (za rfl (gDo rfl (cN h37) ?_))))))
       obtain⟨v38,h39,H⟩:=zo H
       refine zdW rfl zex (n:=(a1.Recs.length:Int)) rfl (Bd.at eZ) h39 (gDo rfl (cN h37) (zel (ps:=[(.nm 320 0 0)]) (Ec rfl En) (gDo rfl (cN h37) ?_)))
       obtain⟨v40,h41,H⟩:=zo H
       exact zS (u:=(oB v40)) eC Cl.fn (Qs h41) (Ec rfl (Ec eZ En)) (Vc Vp (Vc (VD.fn (PDs.cons (Kj bZ (CDs.plain (CDs.plain (CDs.plain (CDs.plain (CDs.plain CDs.nil)))))) PDs.nil)) Vn)) rfl (zP rfl (cN h37) eZ (zb (TQ.qn ⟨v40,H,(zg [] (sR rfl rfl) (blR rfl) (bkR rfl rfl rfl) GK.nil)⟩)))
      ·exact zd eZ (cN (nt h37)) rfl (zd rfl (cN (nt h37)) rfl (zd rfl (cN (nt h37)) rfl (zd rfl (cN (nt h37)) rfl (zd rfl (cN (nt h37)) rfl (zd rfl (cN (nt h37)) rfl (zK rfl (cN (nt h37)) eC (zb (TQ.qn ⟨true,H,(zg [] (sR rfl rfl) (blR rfl) (bkR rfl rfl rfl) GK.nil)⟩))))))))
   ·exact zj eZ (dF h27) (AW.exit (TQ.qe (TQ.qe (BQ.qe (TQ.qn ⟨s25.1,H,(zg [] (sR rfl rfl) (blR rfl) (bkR rfl rfl rfl) GK.nil)⟩)))))
theorem ko{a1:(List Int)}{r:(List Int)}(H:yL a1=some r):Fn Try.prog 113 (lent [(.sl 1 (List.map zt a1))]) true [(.sl 1 (List.map zt r))]:=by
 refine zoI (fle rfl) ?_
 rw[zR]
 refine AW.weaken (zE [] (kv 0 (.one (.d (.sl 1 (List.map zt a1)))) rfl rfl SL.nil) BL.nil BK.nil) ?_
 unfold yL at H
 unfold zmH
 refine aV (za eC (xQ (zQ (fun t2:Unit=>(jK a1) t2=some r) (fun t2=>mk [(0,(.one (.d (.sl 1 (List.map zt a1)))))] [] noG) ?_ ?_)))
 ·intro t2 H
  unfold jK at H
  refine aV (ZI (m:=320) rfl nZ (za rfl ?_))
  obtain⟨h4,H⟩:=ym H
  refine zaC (f:=zt) (m:=448) (own:=true) (ys:=a1) (q:=a1.length) rfl rfl rfl eZ (El.lent fun _ _=>rfl) rfl h4 (by decide) nZ (za eZ (xQ (AW.ret ?_)))
  obtain rfl:=(Option.some.inj H)
  exact jW (RL.cons (RV.tmp eZ) (VO.sl bZ lm (ql fun _=>rfl)) RL.nil) (by decide)
 ·refine aV (za rfl ?_)
  rcases zF H with⟨h5,H⟩|⟨h5,H⟩
  ·refine zcx eZ h5 (xQ (AW.condU eZ ?_ ?_))
   ·have H:(some ([]:(List Int)))=some r:=by rw[←H];simp[List.eq_nil_of_length_eq_zero h5,jK]
    refine aV (za eC (xQ (AW.ret (TQ.qr ?_))))
    cases H
    exact jW (RL.cons (RV.tmp eZ) VO.zs RL.nil) List.nodup_nil
   ·exact AW.skip (TQ.qn ⟨(),H,(zE [] (sR rfl rfl) BL.nil BK.nil)⟩)
  ·exact zem eZ h5 (xQ (zj eZ rfl (AW.skip (TQ.qn ⟨(),H,(zE [] (sR rfl rfl) BL.nil BK.nil)⟩))))
theorem xo{a1:(List qo)}{r:(List qo)}(H:j5 a1=some r):Fn Try.prog 119 (lent [(.sl 2 (List.map zZ a1))]) true [(.sl 2 (List.map zZ r))]:=by
 refine zoB (fle rfl) ?_
 rw[zR]
 refine AW.weaken (zE [] (kv 0 (.one (.d (.sl 2 (List.map zZ a1)))) rfl rfl SL.nil) BL.nil BK.nil) ?_
 unfold j5 at H
 unfold zm3
 refine aV (za eC (xQ (zQ (fun t2:Unit=>(jo a1) t2=some r) (fun t2=>mk [(0,(.one (.d (.sl 2 (List.map zZ a1)))))] [] noG) ?_ ?_)))
 ·intro t2 H
  unfold jo at H
  refine aV (ZI (m:=320) rfl nZ (za rfl ?_))
  obtain⟨h4,H⟩:=ym H
  refine zaC (f:=zZ) (m:=448) (own:=true) (ys:=a1) (q:=a1.length) rfl rfl rfl eZ (El.lent fun _ _=>rfl) rfl h4 (by decide) nZ (za eZ (xQ (AW.ret ?_)))
  obtain rfl:=(Option.some.inj H)
  exact jW (RL.cons (RV.tmp eZ) (VO.sl bZ lm (ql fun _=>rfl)) RL.nil) (by decide)
 ·refine aV (za rfl ?_)
  rcases zF H with⟨h5,H⟩|⟨h5,H⟩
  ·refine zcx eZ h5 (xQ (AW.condU eZ ?_ ?_))
   ·have H:(some ([]:(List qo)))=some r:=by rw[←H];simp[List.eq_nil_of_length_eq_zero h5,jo]
    refine aV (za eC (xQ (AW.ret (TQ.qr ?_))))
    cases H
    exact jW (RL.cons (RV.tmp eZ) VO.zs RL.nil) List.nodup_nil
   ·exact AW.skip (TQ.qn ⟨(),H,(zE [] (sR rfl rfl) BL.nil BK.nil)⟩)
  ·exact zem eZ h5 (xQ (zj eZ rfl (AW.skip (TQ.qn ⟨(),H,(zE [] (sR rfl rfl) BL.nil BK.nil)⟩))))
theorem xb{a1:(List qy)}{r:(List qy)}(H:j8 a1=some r):Fn Try.prog 120 (lent [(.sl 2 (List.map zT a1))]) true [(.sl 2 (List.map zT r))]:=by
 refine zn8 (fle rfl) ?_
 rw[zR]
 refine AW.weaken (zE [] (kv 0 (.one (.d (.sl 2 (List.map zT a1)))) rfl rfl SL.nil) BL.nil BK.nil) ?_
 unfold j8 at H
 unfold zl3
 refine aV (za eC (xQ (zQ (fun t2:Unit=>(jq a1) t2=some r) (fun t2=>mk [(0,(.one (.d (.sl 2 (List.map zT a1)))))] [] noG) ?_ ?_)))
 ·intro t2 H
  unfold jq at H
  refine aV (ZI (m:=320) rfl nZ (za rfl ?_))
  obtain⟨h4,H⟩:=ym H
  refine zaC (f:=zT) (m:=448) (own:=true) (ys:=a1) (q:=a1.length) rfl rfl rfl eZ (El.lent fun _ _=>rfl) rfl h4 (by decide) nZ (za eZ (xQ (AW.ret ?_)))
  obtain rfl:=(Option.some.inj H)
  exact jW (RL.cons (RV.tmp eZ) (VO.sl bZ lm (ql fun _=>rfl)) RL.nil) (by decide)
 ·refine aV (za rfl ?_)
  rcases zF H with⟨h5,H⟩|⟨h5,H⟩
  ·refine zcx eZ h5 (xQ (AW.condU eZ ?_ ?_))
   ·have H:(some ([]:(List qy)))=some r:=by rw[←H];simp[List.eq_nil_of_length_eq_zero h5,jq]
    refine aV (za eC (xQ (AW.ret (TQ.qr ?_))))
    cases H
    exact jW (RL.cons (RV.tmp eZ) VO.zs RL.nil) List.nodup_nil
   ·exact AW.skip (TQ.qn ⟨(),H,(zE [] (sR rfl rfl) BL.nil BK.nil)⟩)
  ·exact zem eZ h5 (xQ (zj eZ rfl (AW.skip (TQ.qn ⟨(),H,(zE [] (sR rfl rfl) BL.nil BK.nil)⟩))))
theorem kY{a1:(List zn)}{r:(List zn)}(H:y3 a1=some r):Fn Try.prog 80 (lent [(.sl 4 (List.map zh a1))]) true [(.sl 4 (List.map zh r))]:=by
 refine f80 (fle rfl) ?_
 rw[zR]
 refine AW.weaken (t:=mk [(0,(.one (.d (.sl 4 (List.map zh a1)))))] [] (lk [])) (zE [] (sR rfl rfl) BL.nil BK.nil) ?_
 unfold y3 at H
 unfold i80
 refine aV (za eC (xQ (aV (ZI (m:=384) rfl nZ (za eZ (xQ (zQ (fun t2:(List zn)=>ZB t2=some r) (fun t2=>mk [(3,(.one (.sl 320128 0 t2.length)))] [(320128,(.data 4 (List.map zh t2) true none))] (lk [])) ?_ ?_)))))))
 ·intro t2 H
  unfold ZB at H
  refine aV (za eZ (za eZ (xQ (AW.ret ?_))))
  obtain rfl:=(Option.some.inj H)
  exact jW (RL.cons (RV.tmp eZ) (jd bZ lm rfl) RL.nil) (by decide)
 ·refine aV (za rfl (qx eZ (n:=a1.length) lm (za eC (xQ (AW.block (AW.iter (fun s4:((List zn)×Int)=>mk [(3,(.one (.sl 320192 0 s4.1.length))),(7,(.one (.d (.sl 4 (List.map zh a1))))),(8,(oI (a1.length:Int))),(9,(oI s4.2))] [(320192,(.data 4 (List.map zh s4.1) true none))] (lk [])) H ((zg [] (SL.cons eZ rfl (VWk.one (CWk.len (by first|(simp;done)|(simp;omega)|omega|(simp only[List.length_map];omega)))) (sR rfl rfl)) (blR rfl) (bkR rfl rfl rfl) GK.nil).trans (Xq 320192 4 3 true rfl nZ)) ?_))))))
  intro kb5 s4 H
  unfold ZC at H
  refine aV (Z0 rfl rfl (xQ (aS ?_)))
  rcases zF H with⟨h6,H⟩|⟨h6,H⟩
  ·refine zk eZ (dT h6) (AW.skip (TQ.qn (aS (AW.block (aS (zp (ze ?_)))))))
   obtain⟨v7,h8,H⟩:=zo H
   refine Zd rfl rfl h8 (zb (ze (ZF (es:=(jZ v7)) eZ rfl (zb (ze (Zy (n:=320) (m:=4) rfl rfl (nR rfl) (zb (ze (zw (es:=(jZ v7)) eZ rfl rfl rfl bZ rfl (zb (zx (xQ (AW.regt (za rfl (zi (m:=0) rfl rfl (zr (q:=0) (c:=(dI v7.Group)) eZ (hB rfl bZ) rfl rfl (zi (m:=1) rfl rfl (zr (q:=1) (c:=(.d (.sl 2 (List.map zZ v7.Reads)))) eZ bZ rfl rfl ?_))))))))))))))))))
   obtain⟨v9,h10,H⟩:=zo H
   refine jS (u:=(.one (.sl 1152 0 v9.length))) (bs:=[(1152,(.data 2 (List.map zZ v9) true none))]) eC Cl.fn (xo h10) (Ec eZ En) (Vc Vp Vn) (by simp[qW,jB,qz,jn,qH]) rfl (fC (nR rfl) rfl (fC (nR rfl) rfl fN)) (zi (m:=2) rfl rfl (zr (q:=2) (c:=(.d (.sl 2 (List.map zT v7.Writes)))) eZ (hB rfl (bR rfl)) rfl rfl ?_))
   obtain⟨v11,h12,H⟩:=zo H
   refine jS (u:=(.one (.sl 1344 0 v11.length))) (bs:=[(1344,(.data 2 (List.map zT v11) true none))]) eC Cl.fn (xb h12) (Ec eZ En) (Vc Vp Vn) (by simp[qW,jB,qz,jn,qH]) rfl (fC (nR rfl) rfl (fC (nR rfl) rfl fN)) (zi (m:=3) rfl rfl (zr (q:=3) (c:=(dI v7.Vote)) eZ (hB rfl (bR rfl)) rfl rfl (Z6 (cs:=[(dI v7.Group),(.sl 1152 0 v9.length),(.sl 1344 0 v11.length),(dI v7.Vote)]) (qk rfl (qk rfl (qk rfl (qk eZ j0)))) rfl (yU (m:=1600) (q:=1) (cs:=[(dI v7.Group),(.sl 1152 0 v9.length),(.sl 1344 0 v11.length),(dI v7.Vote)]) rfl (qk eZ j0) rfl (List.cons_ne_nil _ _) (by simp) (nR rfl) (zb ?_)))))
   obtain⟨h13,H⟩:=ym H
   exact JJ (f:=zh) (xs:=s4.1) (t:=(zn.mk v7.Group v9 v11 v7.Vote)) (q:=(s4.1++[(zn.mk v7.Group v9 v11 v7.Vote)]).length) (ds:=[(.int .i64 v7.Group),(.sl 2 (List.map zZ v9)),(.sl 2 (List.map zT v11)),(.int .i64 v7.Vote)]) (ns:=[1152,1344]) rfl eZ (bR rfl) rfl bZ rfl (VOs.cons (VO.flat rfl) (VOs.cons (VO.sl (bR rfl) lm (ql fun _=>rfl)) (VOs.cons (VO.sl (bR rfl) lm (ql fun _=>rfl)) (VOs.cons (VO.flat rfl) VOs.nil)))) rfl rfl rfl rfl h13 (by decide) (erL.cons (v':=(.one (.sl 1600 0 1))) rfl (erL.cons (v':=(.agg [(dI v7.Group),.any,.any,(dI v7.Vote)])) rfl (erL.cons (v':=(oI v7.Vote)) rfl (erL.cons (v':=(.one (.ptr (.nm 320 0 3)))) rfl (erL.cons (v':=(.one .any)) rfl (erL.cons (v':=(.one (.d (.sl 2 (List.map zT v7.Writes))))) rfl (erL.cons (v':=(.one (.ptr (.nm 320 0 2)))) rfl (erL.cons (v':=(.one .any)) rfl (erL.cons (v':=(.one (.d (.sl 2 (List.map zZ v7.Reads))))) rfl (erL.cons (v':=(.one (.ptr (.nm 320 0 1)))) rfl (erL.cons (v':=(oI v7.Group)) rfl (erL.cons (v':=(.one (.ptr (.nm 320 0 0)))) rfl (erL.cons (v':=(.one (.sl 320192 0 s4.1.length))) rfl (erL.cons (v':=(.one (.ptr (.nm 320 0 0)))) rfl (erL.cons (v':=(.agg (jZ v7))) rfl (erL.cons (v':=(.one (.ptr (.bd (zh v7) 0)))) rfl (erL.cons (v':=(oB (decide (s4.2 < (a1.length:Int))))) rfl (erL.cons (v':=(.one (.sl 320192 0 s4.1.length))) rfl (erL.cons (v':=(.one (.d (.sl 4 (List.map zh a1))))) rfl (erL.cons (v':=(oI (a1.length:Int))) rfl (erL.cons (v':=(oI s4.2)) rfl erL.nil))))))))))))))))))))) (erH.cons (v':=(.vars 4 [(dI v7.Group),.any,.any,(dI v7.Vote)])) rfl rfl (erH.drop rfl (erH.drop rfl (erH.cons (v':=(.vars 4 (jZ v7))) rfl rfl (erH.cons (v':=(.vars 4 [(dI 0),.zs,.zs,(dI 0)])) rfl rfl (erH.cons (v':=(.data 4 (List.map zh s4.1) true none)) rfl rfl erH.nil)))))) erL.nil (erL.cons (v':=(.one (.sl 1600 0 1))) rfl (erL.cons (v':=(.agg [(dI v7.Group),.any,.any,(dI v7.Vote)])) rfl (erL.cons (v':=(oI v7.Vote)) rfl (erL.cons (v':=(.one (.ptr (.nm 320 0 3)))) rfl (erL.cons (v':=(.one .any)) rfl (erL.cons (v':=(.one (.d (.sl 2 (List.map zT v7.Writes))))) rfl (erL.cons (v':=(.one (.ptr (.nm 320 0 2)))) rfl (erL.cons (v':=(.one .any)) rfl (erL.cons (v':=(.one (.d (.sl 2 (List.map zZ v7.Reads))))) rfl (erL.cons (v':=(.one (.ptr (.nm 320 0 1)))) rfl (erL.cons (v':=(oI v7.Group)) rfl (erL.cons (v':=(.one (.ptr (.nm 320 0 0)))) rfl (erL.cons (v':=(.one .any)) rfl (erL.cons (v':=(.one (.ptr (.nm 320 0 0)))) rfl (erL.cons (v':=(.agg (jZ v7))) rfl (erL.cons (v':=(.one (.ptr (.bd (zh v7) 0)))) rfl (erL.cons (v':=(oB (decide (s4.2 < (a1.length:Int))))) rfl (erL.cons (v':=(.one .any)) rfl (erL.cons (v':=(.one (.d (.sl 4 (List.map zh a1))))) rfl (erL.cons (v':=(oI (a1.length:Int))) rfl (erL.cons (v':=(oI s4.2)) rfl erL.nil))))))))))))))))))))) (erH.cons (v':=(.vars 4 [(dI v7.Group),.any,.any,(dI v7.Vote)])) rfl rfl (erH.cons (v':=(.vars 4 (jZ v7))) rfl rfl (erH.cons (v':=(.vars 4 [(dI 0),.zs,.zs,(dI 0)])) rfl rfl (erH.drop rfl erH.nil)))) erL.nil (zx (za eZ (zb (BQ.qn (TQ.qn (AW.weaken (zg [1600,320] (kr 3 rfl rfl (kr 7 rfl rfl (kr 8 rfl rfl (kr 9 rfl rfl SL.nil)))) (blR rfl) (BK.cons (n:=320192) rfl bZ rfl rfl BK.nil) GK.nil) (aR (qf rfl eC (za eZ (zb (TQ.qn ⟨((s4.1++[(zn.mk v7.Group v9 v11 v7.Vote)]),(IntKind.wrap .i64 (s4.2+1))),H,(zg [] (sR rfl rfl) (blR rfl) (bkR rfl rfl rfl) GK.nil)⟩)))))))))))
  ·exact zj eZ (dF h6) (AW.exit (TQ.qe (TQ.qe (BQ.qe (TQ.qn ⟨s4.1,H,((zg [] (sR rfl rfl) (blR rfl) (bkR rfl rfl rfl) GK.nil).trans (z4 320192 320128 rfl rfl (nR rfl) GR.nil))⟩)))))
theorem Xv{a1:zl}{r:zl}(H:Zv a1=some r):Fn Try.prog 62 (lent [(.agg (qI a1))]) true [(.agg (qI r))]:=by
 refine f62 (fle rfl) ?_
 rw[zR]
 refine AW.weaken (t:=mk [(0,(.agg (zy a1)))] [] (lk [])) (zE [] (sR rfl rfl) BL.nil BK.nil) ?_
 unfold Zv at H
 unfold i62
 refine aV (Jh (n:=64) (m:=2) (cs:=(zy a1)) rfl eZ rfl rfl nZ (Zy (n:=128) (m:=2) rfl rfl (nR rfl) (xQ (aS (zp (ze (zi (m:=1) rfl rfl (zb (ze (zr (q:=1) (c:=(.d (.sl 1 (List.map zt a1.Order)))) eZ (bR rfl) rfl rfl (zb (ze ?_))))))))))))
 obtain⟨v2,h3,H⟩:=zo H
 refine jS (u:=(.one (.sl 512 0 v2.length))) (bs:=[(512,(.data 1 (List.map zt v2) true none))]) eC Cl.fn (ko h3) (Ec eZ En) (Vc Vp Vn) (by simp[qW,jB,qz,jn,qH]) rfl (fC (nR rfl) rfl (fC (nR rfl) rfl fN)) (zb (ze (Z6 (cs:=[.zs,(.sl 512 0 v2.length)]) (qk eZ j0) rfl (zb (ze (Zy (n:=192) (m:=2) rfl rfl (nR rfl) (zb (ze (zw (es:=[.zs,(.sl 512 0 v2.length)]) eZ rfl rfl rfl bZ rfl (zb (zx (xQ (zQ (fun t4:(List zD)=>(ZY v2) t4=some r) (fun t4=>mk [(2,(.one (.ptr (.nm 128 0 0)))),(3,(.one (.ptr (.nm 192 0 0))))] [(128,(.vars 2 [.zs,.zs])),(320128,(.data 5 (List.map zm t4) true none)),(192,(.vars 2 [(.sl 320128 0 t4.length),(.sl 512 0 v2.length)])),(512,(.data 1 (List.map zt v2) true none))] (lk [])) ?_ ?_)))))))))))))
 ·intro t4 H
  unfold ZY at H
  refine aS (zp (ze (zB (es:=[(.sl 320128 0 t4.length),(.sl 512 0 v2.length)]) rfl (bR rfl) rfl (zb (ze (zw (es:=[(.sl 320128 0 t4.length),(.sl 512 0 v2.length)]) rfl eZ rfl rfl bZ rfl (zb (zx (xQ (AW.ret ?_))))))))))
  cases H
  exact jW (RL.cons (qj (es:=[(.sl 320128 0 t4.length),(.sl 512 0 v2.length)]) rfl bZ rfl) (VO.aggs (VOs.cons (jd (bR rfl) lm rfl) (VOs.cons (VO.sl (bR rfl) lm (ql fun _=>rfl)) VOs.nil))) RL.nil) (by decide)
 ·refine aV (zi (m:=0) rfl rfl (zr (q:=0) (c:=(.d (.sl 5 (List.map zm a1.Recs)))) eZ (bR rfl) rfl rfl (qx eZ (n:=a1.Recs.length) lm (za eC (xQ (AW.block (AW.iter (fun s6:(Int×(List zD))=>mk [(2,(.one (.ptr (.nm 128 0 0)))),(3,(.one (.ptr (.nm 192 0 0)))),(11,(.one (.d (.sl 5 (List.map zm a1.Recs))))),(12,(oI (a1.Recs.length:Int))),(13,(oI s6.1))] [(128,(.vars 2 [.zs,.zs])),(320192,(.data 5 (List.map zm s6.2) true none)),(192,(.vars 2 [(.sl 320192 0 s6.2.length),(.sl 512 0 v2.length)])),(512,(.data 1 (List.map zt v2) true none))] (lk [])) H ((zg [64] (sR rfl rfl) (blR rfl) (BK.cons rfl (bR rfl) rfl rfl (BK.cons rfl (bR rfl) rfl rfl (BK.cons rfl bZ rfl (by first|rfl|simp) (bkR rfl rfl rfl)))) GK.nil).trans (kh 320192 5 192 0 true bZ rfl (nR rfl))) ?_)))))))
  intro kb7 s6 H
  unfold ZX at H
  refine aV (Z0 rfl rfl (xQ (aS ?_)))
  rcases zF H with⟨h8,H⟩|⟨h8,H⟩
  ·refine zk eZ (dT h8) (AW.skip (TQ.qn (aS (AW.block (aS (zp (ze ?_)))))))
   obtain⟨v9,h10,H⟩:=zo H
   refine Zd rfl rfl h10 (zb (ze (ZF (es:=(yA v9)) eZ rfl (zb (ze (Zy (n:=320) (m:=5) rfl rfl (nR rfl) (zb (ze (zw (es:=(yA v9)) eZ rfl rfl rfl bZ rfl (zb (zx (xQ (aS (zp (ze (zi (m:=4) eZ rfl (zb (ze (zr (q:=4) (c:=(.d (.sl 4 (List.map zh v9.Shares)))) eZ bZ rfl rfl (zb (ze ?_)))))))))))))))))))))
   obtain⟨v11,h12,H⟩:=zo H
   refine jS (u:=(.one (.sl 1216 0 v11.length))) (bs:=[(1216,(.data 4 (List.map zh v11) true none))]) eC Cl.fn (kY h12) (Ec eZ En) (Vc Vp Vn) (by simp[qW,jB,qz,jn,qH]) rfl (fC (nR rfl) rfl (fC (nR rfl) rfl fN)) (zb (ze (zi (m:=4) rfl rfl (zb (ze (zw (es:=[(dI v9.Tx),(dI v9.Client),(dI v9.Req),(dI v9.State),(.sl 1216 0 v11.length)]) eZ rfl rfl rfl (bR rfl) rfl (zb (zx (xQ (zp (ze (zi (m:=0) rfl rfl (zb (ze (zr (q:=0) (c:=(.sl 320192 0 s6.2.length)) eZ (bR rfl) rfl rfl (zb (ze (zB (es:=[(dI v9.Tx),(dI v9.Client),(dI v9.Req),(dI v9.State),(.sl 1216 0 v11.length)]) rfl bZ rfl (zb (ze (yU (m:=1536) (q:=1) (cs:=[(dI v9.Tx),(dI v9.Client),(dI v9.Req),(dI v9.State),(.sl 1216 0 v11.length)]) rfl (qk eZ j0) rfl (List.cons_ne_nil _ _) (by simp) (nR rfl) (zb ?_))))))))))))))))))))))
   obtain⟨h13,H⟩:=ym H
   exact JJ (f:=zm) (xs:=s6.2) (t:=(zD.mk v9.Tx v9.Client v9.Req v9.State v11)) (q:=(s6.2++[(zD.mk v9.Tx v9.Client v9.Req v9.State v11)]).length) (ds:=[(.int .i64 v9.Tx),(.int .i64 v9.Client),(.int .i64 v9.Req),(.int .i64 v9.State),(.sl 4 (List.map zh v11))]) (ns:=[1216]) rfl eZ (bR rfl) rfl bZ rfl (VOs.cons (VO.flat rfl) (VOs.cons (VO.flat rfl) (VOs.cons (VO.flat rfl) (VOs.cons (VO.flat rfl) (VOs.cons (jd (bR rfl) lm rfl) VOs.nil))))) rfl rfl rfl rfl h13 (by decide) (erL.cons (v':=(.one (.sl 1536 0 1))) rfl (erL.cons (v':=(.agg [(dI v9.Tx),(dI v9.Client),(dI v9.Req),(dI v9.State),.any])) rfl (erL.cons (v':=(.one (.sl 320192 0 s6.2.length))) rfl (erL.cons (v':=(.one (.ptr (.nm 192 0 0)))) rfl (erL.cons (v':=(.one (.ptr (.nm 320 0 4)))) rfl (erL.cons (v':=(.one .any)) rfl (erL.cons (v':=(.one (.d (.sl 4 (List.map zh v9.Shares))))) rfl (erL.cons (v':=(.one (.ptr (.nm 320 0 4)))) rfl (erL.cons (v':=(.one (.ptr (.nm 320 0 0)))) rfl (erL.cons (v':=(.agg (yA v9))) rfl (erL.cons (v':=(.one (.ptr (.bd (zm v9) 0)))) rfl (erL.cons (v':=(oB (decide (s6.1 < (a1.Recs.length:Int))))) rfl (erL.cons (v':=(.one (.ptr (.nm 128 0 0)))) rfl (erL.cons (v':=(.one (.ptr (.nm 192 0 0)))) rfl (erL.cons (v':=(.one (.d (.sl 5 (List.map zm a1.Recs))))) rfl (erL.cons (v':=(oI (a1.Recs.length:Int))) rfl (erL.cons (v':=(oI s6.1)) rfl erL.nil))))))))))))))))) (erH.cons (v':=(.vars 5 [(dI v9.Tx),(dI v9.Client),(dI v9.Req),(dI v9.State),.any])) rfl rfl (erH.cons (v':=(.vars 5 [(dI v9.Tx),(dI v9.Client),(dI v9.Req),(dI v9.State),.any])) rfl rfl (erH.drop rfl (erH.cons (v':=(.vars 5 (yA v9))) rfl rfl (erH.cons (v':=(.vars 5 [(dI 0),(dI 0),(dI 0),(dI 0),.zs])) rfl rfl (erH.cons (v':=(.vars 2 [.zs,.zs])) rfl rfl (erH.cons (v':=(.data 5 (List.map zm s6.2) true none)) rfl rfl (erH.cons (v':=(.vars 2 [(.sl 320192 0 s6.2.length),(.sl 512 0 v2.length)])) rfl rfl (erH.cons (v':=(.data 1 (List.map zt v2) true none)) rfl rfl erH.nil))))))))) erL.nil (erL.cons (v':=(.one (.sl 1536 0 1))) rfl (erL.cons (v':=(.agg [(dI v9.Tx),(dI v9.Client),(dI v9.Req),(dI v9.State),.any])) rfl (erL.cons (v':=(.one .any)) rfl (erL.cons (v':=(.one (.ptr (.nm 192 0 0)))) rfl (erL.cons (v':=(.one (.ptr (.nm 320 0 4)))) rfl (erL.cons (v':=(.one .any)) rfl (erL.cons (v':=(.one (.d (.sl 4 (List.map zh v9.Shares))))) rfl (erL.cons (v':=(.one (.ptr (.nm 320 0 4)))) rfl (erL.cons (v':=(.one (.ptr (.nm 320 0 0)))) rfl (erL.cons (v':=(.agg (yA v9))) rfl (erL.cons (v':=(.one (.ptr (.bd (zm v9) 0)))) rfl (erL.cons (v':=(oB (decide (s6.1 < (a1.Recs.length:Int))))) rfl (erL.cons (v':=(.one (.ptr (.nm 128 0 0)))) rfl (erL.cons (v':=(.one (.ptr (.nm 192 0 0)))) rfl (erL.cons (v':=(.one (.d (.sl 5 (List.map zm a1.Recs))))) rfl (erL.cons (v':=(oI (a1.Recs.length:Int))) rfl (erL.cons (v':=(oI s6.1)) rfl erL.nil))))))))))))))))) (erH.cons (v':=(.vars 5 [(dI v9.Tx),(dI v9.Client),(dI v9.Req),(dI v9.State),.any])) rfl rfl (erH.cons (v':=(.vars 5 [(dI v9.Tx),(dI v9.Client),(dI v9.Req),(dI v9.State),.any])) rfl rfl (erH.cons (v':=(.vars 5 (yA v9))) rfl rfl (erH.cons (v':=(.vars 5 [(dI 0),(dI 0),(dI 0),(dI 0),.zs])) rfl rfl (erH.cons (v':=(.vars 2 [.zs,.zs])) rfl rfl (erH.drop rfl (erH.cons (v':=(.vars 2 [.any,(.sl 512 0 v2.length)])) rfl rfl (erH.cons (v':=(.data 1 (List.map zt v2) true none)) rfl rfl erH.nil)))))))) erL.nil (ze (zi (m:=0) rfl rfl (zb (ze (zw (es:=[(.sl 320192 0 ((s6.2++[(zD.mk v9.Tx v9.Client v9.Req v9.State v11)]).length)),(.sl 512 0 v2.length)]) eZ rfl rfl rfl (bR rfl) rfl (zb (zx (zb (BQ.qn (TQ.qn (AW.weaken (zg [1536,320] (kr 2 rfl rfl (kr 3 rfl rfl (kr 11 rfl rfl (kr 12 rfl rfl (kr 13 rfl rfl SL.nil))))) (blR rfl) (BK.cons (n:=192) rfl bZ rfl rfl (BK.cons (n:=320192) rfl (bR rfl) rfl rfl (BK.cons (n:=128) rfl (bR rfl) rfl rfl (BK.cons (n:=512) rfl (bR rfl) rfl rfl BK.nil)))) GK.nil) (aR (qf rfl eC (za eZ (zb (TQ.qn ⟨((IntKind.wrap .i64 (s6.1+1)),(s6.2++[(zD.mk v9.Tx v9.Client v9.Req v9.State v11)])),H,(zg [] (sR rfl rfl) (blR rfl) (BK.cons rfl (bR rfl) rfl rfl (BK.cons rfl (bR rfl) rfl rfl (BK.cons rfl bZ rfl (by first|rfl|simp) (bkR rfl rfl rfl)))) GK.nil)⟩))))))))))))))))
  ·exact zj eZ (dF h8) (AW.exit (TQ.qe (TQ.qe (BQ.qe (TQ.qn ⟨s6.2,H,((zg [] (sR rfl rfl) (blR rfl) (BK.cons rfl bZ rfl rfl (BK.cons rfl (bR rfl) rfl rfl (BK.cons rfl (bR rfl) rfl (by first|rfl|simp) (bkR rfl rfl rfl)))) GK.nil).trans (z4 320192 320128 rfl rfl (nR rfl) GR.nil))⟩)))))
theorem kj{a1:zD}{a2:Int}{a3:Int}{r:Bool}(H:Zz a1 a2 a3=some r):Fn Try.prog 68 (lent [(.agg (zm a1)),(.ptr (zt a2)),(.ptr (zt a3))]) true [(.bool r)]:=by
 refine f68 (fle rfl) ?_
 rw[zR]
 refine AW.weaken (zE [] (kv 0 (.agg (yA a1)) rfl rfl (SL.cons (v:=(.one (.ptr (.bd (zt a2) 0)))) (eS rfl eZ) rfl (VWk.one CWk.ptr) (SL.cons (v:=(.one (.ptr (.bd (zt a3) 0)))) (eS rfl (eS rfl eZ)) rfl (VWk.one CWk.ptr) SL.nil))) BL.nil BK.nil) ?_
 unfold Zz at H
 unfold i68
 refine aV (Jh (n:=192) (m:=5) (cs:=(yA a1)) rfl eZ rfl rfl nZ (za eC (xQ (aV (zi (m:=1) rfl rfl (zr (q:=1) (c:=(dI a1.Client)) eZ bZ rfl rfl (qY (e:=(.int .i64 a2)) rfl rfl (jC rfl eZ (za eZ ?_)))))))))
 rcases zF H with⟨h4,H⟩|⟨h4,H⟩
 ·refine gDo eZ (dT h4) (zi (m:=2) rfl rfl (gDo rfl (dT h4) (zr (q:=2) (c:=(dI a1.Req)) eZ bZ rfl rfl (gDo rfl (dT h4) (qY (e:=(.int .i64 a3)) rfl rfl (gDo rfl (dT h4) (jC rfl eZ (zK rfl (dT h4) eZ (za eZ (xQ (AW.weaken (zE [192] (kr 4 rfl rfl SL.nil) (blR rfl) BK.nil) (AW.ret ?_))))))))))))
  cases H
  exact eE rfl rfl
 ·refine zd eZ (dF h4) rfl (zd rfl (dF h4) rfl (zd rfl (dF h4) rfl (zd rfl (dF h4) rfl (zP rfl (dF h4) eC (za eZ (xQ (AW.weaken (zE [192] (kr 4 rfl rfl SL.nil) (blR rfl) BK.nil) (AW.ret ?_))))))))
  cases H
  exact eE rfl rfl
theorem QB{a1:(List zD)}{a2:Int}{a3:Int}{r:Int}(H:qi a1 a2 a3=some r):Fn Try.prog 67 (lent [(.sl 5 (List.map zm a1)),(.fn 68 [.ptr (zt a2),.ptr (zt a3)])]) true [(.int .i64 r)]:=by
 refine f67 (fle rfl) ?_
 rw[zR]
 refine AW.weaken (zE [] (kv 0 (.one (.d (.sl 5 (List.map zm a1)))) rfl rfl (SL.cons (v:=(.one (.fn 68 [(.bd (zt a2) 0),(.bd (zt a3) 0)]))) (eS rfl eZ) rfl (VWk.one (CWk.fn (css:=[zt a2,zt a3]))) SL.nil)) BL.nil BK.nil) ?_
 unfold qi at H
 unfold i67
 refine aV (za eC (xQ (zQ (fun t4:Unit=>jg t4=some r) (fun t4=>mk [] [] noG) ?_ ?_)))
 ·intro t4 H
  unfold jg at H
  refine aV (za eC (xQ (AW.ret ?_)))
  cases H
  exact eE rfl rfl
 ·refine aV (za rfl (qx eZ (n:=a1.length) lm (za eC (xQ (AW.block (AW.iter (fun s6:Int=>mk [(0,(.one (.d (.sl 5 (List.map zm a1))))),(1,(.one (.fn 68 [(.bd (zt a2) 0),(.bd (zt a3) 0)]))),(7,(oI (a1.length:Int))),(8,(oI s6))] [] noG) H (zE [] (sR rfl rfl) BL.nil BK.nil) ?_))))))
  intro kb7 s6 H
  unfold qF at H
  refine aV (Z0 rfl rfl (xQ (aS ?_)))
  rcases zF H with⟨h8,H⟩|⟨h8,H⟩
  ·refine zk eZ (dT h8) (AW.skip (TQ.qn (aS (AW.block (aV (za rfl (za eZ (xQ (aV (za rfl (za rfl (za rfl ?_))))))))))))
   obtain⟨v9,h10,H⟩:=zo H
   refine Zd rfl eZ h10 (ZF (es:=(yA v9)) eZ rfl ?_)
   obtain⟨v11,h12,H⟩:=zo H
   refine zS (u:=(oB v11)) rfl Cl.fn (kj h12) (Ec eZ En) (Vc (VD.agg rfl) (Vc xO (Vc xO Vn))) rfl (xQ ?_)
   rcases zF H with⟨h13,H⟩|⟨h13,H⟩
   ·refine zk eZ h13 (aV (za rfl (za eZ (xQ (AW.ret (BQ.qr (TQ.qr (TQ.qr (BQ.qr (TQ.qr ?_))))))))))
    cases H
    exact eE rfl rfl
   ·exact zj eZ (nt h13) (AW.skip (BQ.qn (TQ.qn (aR (qf rfl eC (za eZ (zb (TQ.qn ⟨(IntKind.wrap .i64 (s6+1)),H,(zE [] (sR rfl rfl) BL.nil BK.nil)⟩))))))))
  ·exact zj eZ (dF h8) (AW.exit (TQ.qe (TQ.qe (BQ.qe (TQ.qn ⟨(),H,(zE [] SL.nil BL.nil BK.nil)⟩)))))
theorem YI{a1:zl}{a2:Int}{a3:Int}{r:Int}(H:yp a1 a2 a3=some r):Fn Try.prog 19 (lent [(.agg (qI a1)),(.int .i64 a2),(.int .i64 a3)]) true [(.int .i64 r)]:=by
 refine f19 (fle rfl) ?_
 rw[zR]
 refine AW.weaken (zE [] (kv 0 (.agg (zy a1)) rfl rfl (kv 1 (oI a2) rfl rfl (kv 2 (oI a3) rfl rfl SL.nil))) BL.nil BK.nil) ?_
 unfold yp at H
 unfold i19
 refine aV (Jh (n:=192) (m:=2) (cs:=(zy a1)) rfl eZ rfl rfl nZ (Jh (n:=256) (m:=1) (cs:=[(dI a2)]) rfl rfl rfl rfl (nR rfl) (Jh (n:=320) (m:=1) (cs:=[(dI a3)]) rfl rfl rfl rfl (nR rfl) (za eC (xQ (aS (aV (zB (es:=(zy a1)) rfl (bR rfl) rfl ?_))))))))
 obtain⟨v4,h5,H⟩:=zo H
 refine zS (u:=(oB v4)) eC Cl.fn (J6 h5) (Ec eZ En) (Vc (VD.agg rfl) Vn) rfl (jU eZ (xQ ?_))
 rcases zF H with⟨h6,H⟩|⟨h6,H⟩
 ·refine zj eZ (cN h6) (AW.skip (TQ.qn (aV (zi (m:=0) rfl rfl (zr (q:=0) (c:=(.d (.sl 5 (List.map zm a1.Recs)))) eZ (bR rfl) rfl rfl (zel (ps:=[(.nm 256 0 0),(.nm 320 0 0)]) (Ec rfl (Ec rfl En)) ?_))))))
  obtain⟨v7,h8,H⟩:=zo H
  refine zS (u:=(oI v7)) eC Cl.fn (QB h8) (Ec rfl (Ec eZ En)) (Vc Vp (Vc (VD.fn (PDs.cons (Kj (bR rfl) (CDs.plain CDs.nil)) (PDs.cons (Kj bZ (CDs.plain CDs.nil)) PDs.nil))) Vn)) rfl (qf eC eZ (za eZ (xQ (AW.weaken (zE [320,256,192] (kr 6 rfl rfl SL.nil) (blR rfl) BK.nil) (AW.ret ?_)))))
  cases H
  exact eE rfl rfl
 ·refine zk eZ (cN (nt h6)) (aV (za eC (xQ (AW.ret (TQ.qr ?_)))))
  cases H
  exact eE rfl rfl
theorem Yp{a1:zl}{a2:Int}{a3:Int}{r:(zl×Int×Int)}(H:jl a1 a2 a3=some r):Fn Try.prog 17 (lent [(.agg (qI a1)),(.int .i64 a2),(.int .i64 a3)]) true [(.agg (qI r.1)),(.int .i64 r.2.1),(.int .i64 r.2.2)]:=by
 refine f17 (fle rfl) ?_
 rw[zR]
 refine AW.weaken (t:=mk [(0,(.agg (zy a1))),(1,(oI a2)),(2,(oI a3))] [] (lk [])) (zE [] (sR rfl rfl) BL.nil BK.nil) ?_
 unfold jl at H
 unfold i17
 refine aV (Jh (n:=192) (m:=2) (cs:=(zy a1)) rfl eZ rfl rfl nZ (Zy (n:=384) (m:=2) rfl rfl (nR rfl) (za eC (za eC (xQ (aS (zQ (fun t4:Bool=>(qq a1 a2 a3) t4=some r) (fun t4=>mk [(1,(oI a2)),(2,(oI a3)),(3,(.one (.ptr (.nm 192 0 0)))),(6,(.one (.ptr (.nm 384 0 0)))),(24,(oB t4))] [(192,(.vars 2 (zy a1))),(384,(.vars 2 [.zs,.zs]))] (lk [])) ?_ ?_)))))))
 ·intro t4 H
  unfold qq at H
  rcases zF H with⟨h6,H⟩|⟨h6,H⟩
  ·refine zk rfl h6 (aS (zp (ze (Z6 (cs:=[.zs,.zs]) j0 rfl (zb (ze (zw (es:=[.zs,.zs]) rfl eZ rfl rfl (bR rfl) rfl (zb (zx (za eC (za eC (xQ (AW.ret (TQ.qr ?_))))))))))))))
   cases H
   exact jW (RL.cons (qj (es:=[.zs,.zs]) rfl bZ rfl) (VO.aggs (VOs.cons VO.zs (VOs.cons VO.zs VOs.nil))) (RL.cons (RV.tmp rfl) (VO.flat rfl) (RL.cons (RV.tmp eZ) (VO.flat rfl) RL.nil))) List.nodup_nil
  ·refine zj rfl (nt h6) (AW.skip (TQ.qn (aS (zp (ze (zB (es:=(zy a1)) rfl bZ rfl (zb (ze ?_))))))))
   obtain⟨v7,h8,H⟩:=zo H
   refine jS (u:=(.agg [(.sl 1728 0 v7.Recs.length),(.sl 1729 0 v7.Order.length)])) (bs:=[(1728,(.data 5 (List.map zm v7.Recs) true none)),(1729,(.data 1 (List.map zt v7.Order) true none))]) eC Cl.fn (Xv h8) (Ec eZ En) (Vc (VD.agg rfl) Vn) (by simp[qW,jB,qz,jn,qH]) rfl (fC (nR rfl) rfl (fC (nR rfl) rfl (fC (nR rfl) rfl fN))) (zb (ze (Zy (n:=576) (m:=2) rfl rfl (nR rfl) (zb (ze (zw (es:=[(.sl 1728 0 v7.Recs.length),(.sl 1729 0 v7.Order.length)]) eZ rfl rfl rfl bZ rfl (zb (zx (xQ (aS (aV (zB (es:=(zy a1)) rfl (bR rfl) rfl (za rfl (za rfl ?_))))))))))))))
   obtain⟨v9,h10,H⟩:=zo H
   refine zS (u:=(oI v9)) eC Cl.fn (YI h10) (Ec rfl (Ec rfl (Ec eZ En))) (Vc (VD.agg rfl) (Vc Vp (Vc Vp Vn))) rfl (za eZ (xQ (aV (za eZ (JT eZ eC (xQ ?_))))))
   rcases zF H with⟨h11,H⟩|⟨h11,H⟩
   ·refine zk eZ (dT h11) (aS (zp (ze (zB (es:=[(.sl 1728 0 v7.Recs.length),(.sl 1729 0 v7.Order.length)]) rfl bZ rfl (zb (ze (za rfl (zb (ze (zw (es:=[(.sl 1728 0 v7.Recs.length),(.sl 1729 0 v7.Order.length)]) rfl rfl rfl rfl (bR rfl) rfl (zb (zx (za eZ (za eC (xQ (AW.weaken (zg [576,192] (kr 8 rfl rfl (kr 7 rfl rfl (kr 6 rfl rfl SL.nil))) (blR rfl) (BK.cons (n:=384) rfl bZ rfl rfl (BK.cons (n:=1729) rfl (bR rfl) rfl rfl (BK.cons (n:=1728) rfl (bR rfl) rfl rfl BK.nil))) GK.nil) (AW.ret (TQ.qr ?_))))))))))))))))))
    cases H
    exact jW (RL.cons (qj (es:=[(.sl 1728 0 v7.Recs.length),(.sl 1729 0 v7.Order.length)]) rfl bZ rfl) (VO.aggs (VOs.cons (jd (bR rfl) lm rfl) (VOs.cons (VO.sl (bR rfl) lm (ql fun _=>rfl)) VOs.nil))) (RL.cons (RV.tmp rfl) (VO.flat rfl) (RL.cons (RV.tmp eZ) (VO.flat rfl) RL.nil))) (by decide)
   ·refine zj eZ (dF h11) (AW.skip (TQ.qn (aS (aV (zi (m:=0) rfl rfl (zr (q:=0) (c:=(.d (.sl 5 (List.map zm a1.Recs)))) eZ (bR rfl) rfl rfl (qx eZ (n:=a1.Recs.length) lm (jC eZ eC (xQ (AW.weaken (zg [] (kr 39 rfl rfl (kr 9 rfl rfl (kr 1 rfl rfl (kr 2 rfl rfl (kr 3 rfl rfl (kr 6 rfl rfl SL.nil)))))) (blR rfl) (BK.cons (n:=576) rfl bZ rfl rfl (BK.cons (n:=1729) rfl (bR rfl) rfl rfl (BK.cons (n:=1728) rfl (bR rfl) rfl rfl (BK.cons (n:=192) rfl (bR rfl) rfl rfl (BK.cons (n:=384) rfl (bR rfl) rfl rfl BK.nil))))) GK.nil) ?_))))))))))
    rcases zF H with⟨h12,H⟩|⟨h12,H⟩
    ·refine zk eZ (dT h12) (aS (zp (ze (zB (es:=[(.sl 1728 0 v7.Recs.length),(.sl 1729 0 v7.Order.length)]) rfl bZ rfl (zb (ze (zw (es:=[(.sl 1728 0 v7.Recs.length),(.sl 1729 0 v7.Order.length)]) rfl eZ rfl rfl (bR rfl) rfl (zb (zx (za eC (za eC (xQ (AW.ret (TQ.qr ?_))))))))))))))
     cases H
     exact jW (RL.cons (qj (es:=[(.sl 1728 0 v7.Recs.length),(.sl 1729 0 v7.Order.length)]) rfl bZ rfl) (VO.aggs (VOs.cons (jd (bR rfl) lm rfl) (VOs.cons (VO.sl (bR rfl) lm (ql fun _=>rfl)) VOs.nil))) (RL.cons (RV.tmp rfl) (VO.flat rfl) (RL.cons (RV.tmp eZ) (VO.flat rfl) RL.nil))) (by decide)
    ·refine zj eZ (dF h12) (AW.skip (TQ.qn (aV (zi (m:=0) rfl rfl (zr (q:=0) (c:=(.d (.sl 5 (List.map zm a1.Recs)))) eZ (bR rfl) rfl rfl (qx eZ (n:=a1.Recs.length) lm (qf eZ eC (za eZ (xQ (aS (zp (ze (zi (m:=0) rfl rfl (zb (ze (zr (q:=0) (c:=(.sl 1728 0 v7.Recs.length)) eZ bZ rfl rfl (zb (ze (za rfl (zb (ze (za rfl (zb (ze (za rfl (zb (ze (Z6 (cs:=[(dI (IntKind.wrap .i64 ((a1.Recs.length:Int)+1))),(dI a2),(dI a3),(dI 1),.zs]) (qk rfl (qk rfl (qk eZ (qk eC j0)))) rfl (zb (ze (yU (m:=3264) (q:=1) (cs:=[(dI (IntKind.wrap .i64 ((a1.Recs.length:Int)+1))),(dI a2),(dI a3),(dI 1),.zs]) rfl (qk eZ j0) rfl (List.cons_ne_nil _ _) (by simp) (nR rfl) (zb ?_))))))))))))))))))))))))))))))))
     obtain⟨h13,H⟩:=ym H
     refine JJ (f:=zm) (xs:=v7.Recs) (t:=(zD.mk (IntKind.wrap .i64 ((a1.Recs.length:Int)+1)) a2 a3 1 ([]:List zn))) (q:=(v7.Recs++[(zD.mk (IntKind.wrap .i64 ((a1.Recs.length:Int)+1)) a2 a3 1 ([]:List zn))]).length) (ds:=[(.int .i64 (IntKind.wrap .i64 ((a1.Recs.length:Int)+1))),(.int .i64 a2),(.int .i64 a3),(.int .i64 1),(.sl 4 (List.map zh ([]:List zn)))]) (ns:=[]) rfl eZ (bR rfl) rfl bZ rfl (VOs.cons (VO.flat rfl) (VOs.cons (VO.flat rfl) (VOs.cons (VO.flat rfl) (VOs.cons (VO.flat rfl) (VOs.cons VO.zs VOs.nil))))) rfl rfl rfl rfl h13 (by decide) (erL.cons (v':=(.one (.sl 3264 0 1))) rfl (erL.cons (v':=(.agg [(dI (IntKind.wrap .i64 ((a1.Recs.length:Int)+1))),(dI a2),(dI a3),(dI 1),.zs])) rfl (erL.cons (v':=(oI a3)) rfl (erL.cons (v':=(oI a2)) rfl (erL.cons (v':=(oI (IntKind.wrap .i64 ((a1.Recs.length:Int)+1)))) rfl (erL.cons (v':=(.one (.sl 1728 0 v7.Recs.length))) rfl (erL.cons (v':=(.one (.ptr (.nm 576 0 0)))) rfl (erL.cons (v':=(oI (IntKind.wrap .i64 ((a1.Recs.length:Int)+1)))) rfl (erL.cons (v':=(oI (IntKind.wrap .i64 ((a1.Recs.length:Int)+1)))) rfl (erL.cons (v':=(oI (a1.Recs.length:Int))) rfl (erL.cons (v':=(.one (.d (.sl 5 (List.map zm a1.Recs))))) rfl (erL.cons (v':=(.one (.ptr (.nm 192 0 0)))) rfl (erL.cons (v':=(oB (decide ((a1.Recs.length:Int)=60)))) rfl (erL.cons (v':=(.one (.ptr (.nm 576 0 0)))) rfl (erL.cons (v':=(oI a2)) rfl (erL.cons (v':=(oI a3)) rfl (erL.cons (v':=(.one (.ptr (.nm 192 0 0)))) rfl (erL.cons (v':=(.one (.ptr (.nm 384 0 0)))) rfl erL.nil)))))))))))))))))) (erH.cons (v':=(.vars 5 [(dI (IntKind.wrap .i64 ((a1.Recs.length:Int)+1))),(dI a2),(dI a3),(dI 1),.zs])) rfl rfl (erH.cons (v':=(.vars 2 [(.sl 1728 0 v7.Recs.length),(.sl 1729 0 v7.Order.length)])) rfl rfl (erH.cons (v':=(.data 1 (List.map zt v7.Order) true none)) rfl rfl (erH.cons (v':=(.data 5 (List.map zm v7.Recs) true none)) rfl rfl (erH.cons (v':=(.vars 2 (zy a1))) rfl rfl (erH.cons (v':=(.vars 2 [.zs,.zs])) rfl rfl erH.nil)))))) erL.nil (erL.cons (v':=(.one (.sl 3264 0 1))) rfl (erL.cons (v':=(.agg [(dI (IntKind.wrap .i64 ((a1.Recs.length:Int)+1))),(dI a2),(dI a3),(dI 1),.zs])) rfl (erL.cons (v':=(oI a3)) rfl (erL.cons (v':=(oI a2)) rfl (erL.cons (v':=(oI (IntKind.wrap .i64 ((a1.Recs.length:Int)+1)))) rfl (erL.cons (v':=(.one .any)) rfl (erL.cons (v':=(.one (.ptr (.nm 576 0 0)))) rfl (erL.cons (v':=(oI (IntKind.wrap .i64 ((a1.Recs.length:Int)+1)))) rfl (erL.cons (v':=(oI (IntKind.wrap .i64 ((a1.Recs.length:Int)+1)))) rfl (erL.cons (v':=(oI (a1.Recs.length:Int))) rfl (erL.cons (v':=(.one (.d (.sl 5 (List.map zm a1.Recs))))) rfl (erL.cons (v':=(.one (.ptr (.nm 192 0 0)))) rfl (erL.cons (v':=(oB (decide ((a1.Recs.length:Int)=60)))) rfl (erL.cons (v':=(.one (.ptr (.nm 576 0 0)))) rfl (erL.cons (v':=(oI a2)) rfl (erL.cons (v':=(oI a3)) rfl (erL.cons (v':=(.one (.ptr (.nm 192 0 0)))) rfl (erL.cons (v':=(.one (.ptr (.nm 384 0 0)))) rfl erL.nil)))))))))))))))))) (erH.cons (v':=(.vars 5 [(dI (IntKind.wrap .i64 ((a1.Recs.length:Int)+1))),(dI a2),(dI a3),(dI 1),.zs])) rfl rfl (erH.cons (v':=(.vars 2 [.any,(.sl 1729 0 v7.Order.length)])) rfl rfl (erH.cons (v':=(.data 1 (List.map zt v7.Order) true none)) rfl rfl (erH.drop rfl (erH.cons (v':=(.vars 2 (zy a1))) rfl rfl (erH.cons (v':=(.vars 2 [.zs,.zs])) rfl rfl erH.nil)))))) erL.nil (ze (zi (m:=0) rfl rfl (zb (ze (zw (es:=[(.sl 1728 0 ((v7.Recs++[(zD.mk (IntKind.wrap .i64 ((a1.Recs.length:Int)+1)) a2 a3 1 ([]:List zn))]).length)),(.sl 1729 0 v7.Order.length)]) eZ rfl rfl rfl (bR rfl) rfl (zb (zx (xQ (AW.weaken (zg [3264,192] (kr 11 rfl rfl (kr 9 rfl rfl (kr 6 rfl rfl SL.nil))) (blR rfl) (BK.cons (n:=576) rfl bZ rfl rfl (BK.cons (n:=1728) rfl (bR rfl) rfl rfl (BK.cons (n:=1729) rfl (bR rfl) rfl rfl (BK.cons (n:=384) rfl (bR rfl) rfl rfl BK.nil)))) GK.nil) (aS (zp (ze (zB (es:=[(.sl 1728 0 ((v7.Recs++[(zD.mk (IntKind.wrap .i64 ((a1.Recs.length:Int)+1)) a2 a3 1 ([]:List zn))]).length)),(.sl 1729 0 v7.Order.length)]) rfl bZ rfl (zb (ze (za rfl (zb (ze (zw (es:=[(.sl 1728 0 ((v7.Recs++[(zD.mk (IntKind.wrap .i64 ((a1.Recs.length:Int)+1)) a2 a3 1 ([]:List zn))]).length)),(.sl 1729 0 v7.Order.length)]) rfl rfl rfl rfl (bR rfl) rfl (zb (zx (za eZ (za eC (xQ (AW.ret ?_)))))))))))))))))))))))))
     cases H
     exact jW (RL.cons (qj (es:=[(.sl 1728 0 ((v7.Recs++[(zD.mk (IntKind.wrap .i64 ((a1.Recs.length:Int)+1)) a2 a3 1 ([]:List zn))]).length)),(.sl 1729 0 v7.Order.length)]) rfl bZ rfl) (VO.aggs (VOs.cons (jd (bR rfl) lm rfl) (VOs.cons (VO.sl (bR rfl) lm (ql fun _=>rfl)) VOs.nil))) (RL.cons (RV.tmp rfl) (VO.flat rfl) (RL.cons (RV.tmp eZ) (VO.flat rfl) RL.nil))) (by decide)
 ·refine aR (zB (es:=(zy a1)) rfl (bR rfl) rfl ?_)
  obtain⟨v14,h15,H⟩:=zo H
  refine zS (u:=(oB v14)) eC Cl.fn (J6 h15) (Ec eZ En) (Vc (VD.agg rfl) Vn) rfl (jU eZ (za eZ ?_))
  rcases zF H with⟨h16,H⟩|⟨h16,H⟩
  ·refine gDo eZ (cN h16) (za rfl (gDo rfl (cN h16) ?_))
   obtain⟨v17,h18,H⟩:=zo H
   refine zS (u:=(oB v17)) eC Cl.fn (xx h18) (Ec eZ En) (Vc Vp Vn) rfl (gDo rfl (cN h16) (jU eZ (zP rfl (cN h16) eZ (za eZ ?_))))
   rcases zF H with⟨h19,H⟩|⟨h19,H⟩
   ·refine gDo eZ (cN h19) (za rfl (gDo rfl (cN h19) ?_))
    obtain⟨v20,h21,H⟩:=zo H
    exact zS (u:=(oB v20)) eC Cl.fn (k8 h21) (Ec eZ En) (Vc Vp Vn) rfl (gDo rfl (cN h19) (jU eZ (zP rfl (cN h19) eZ (zb (TQ.qn ⟨(!v20),H,(zg [] (sR rfl rfl) (blR rfl) (bkR rfl rfl rfl) GK.nil)⟩)))))
   ·exact zd eZ (cN (nt h19)) rfl (zd rfl (cN (nt h19)) rfl (zd rfl (cN (nt h19)) rfl (zK rfl (cN (nt h19)) eC (zb (TQ.qn ⟨true,H,(zg [] (sR rfl rfl) (blR rfl) (bkR rfl rfl rfl) GK.nil)⟩)))))
  ·exact zd eZ (cN (nt h16)) rfl (zd rfl (cN (nt h16)) rfl (zd rfl (cN (nt h16)) rfl (zK rfl (cN (nt h16)) eC (za eZ (zd eZ rfl rfl (zd rfl rfl rfl (zd rfl rfl rfl (zK rfl rfl eC (zb (TQ.qn ⟨true,H,(zg [] (sR rfl rfl) (blR rfl) (bkR rfl rfl rfl) GK.nil)⟩))))))))))
theorem zbi{a1:zl}{a2:Int}{r:Bool}(H:Q6 a1 a2=some r):Fn Try.prog 69 (lent [(.agg (qI a1)),(.int .i64 a2)]) true [(.bool r)]:=by
 refine f69 (fle rfl) ?_
 rw[zR]
 refine AW.weaken (zE [] (kv 0 (.agg (zy a1)) rfl rfl (kv 1 (oI a2) rfl rfl SL.nil)) BL.nil BK.nil) ?_
 unfold Q6 at H
 unfold i69
 refine aV (Jh (n:=128) (m:=2) (cs:=(zy a1)) rfl eZ rfl rfl nZ (za eC (xQ (aV (za rfl (zi (m:=0) rfl rfl (zr (q:=0) (c:=(.d (.sl 5 (List.map zm a1.Recs)))) eZ bZ rfl rfl (qx eZ (n:=a1.Recs.length) lm ?_))))))))
 obtain⟨v3,h4,H⟩:=zo H
 refine zS (u:=(oB v3)) eC Cl.fn (Zc h4) (Ec rfl (Ec eC (Ec eZ En))) (Vc Vp (Vc Vp (Vc Vp Vn))) rfl (za eZ (xQ (AW.ret ?_)))
 cases H
 exact eE rfl rfl
theorem Yk{a1:zl}{a2:Int}{r:Int}(H:jm a1 a2=some r):Fn Try.prog 20 (lent [(.agg (qI a1)),(.int .i64 a2)]) true [(.int .i64 r)]:=by
 refine f20 (fle rfl) ?_
 rw[zR]
 refine AW.weaken (zE [] (kv 0 (.agg (zy a1)) rfl rfl (kv 1 (oI a2) rfl rfl SL.nil)) BL.nil BK.nil) ?_
 unfold jm at H
 unfold i20
 refine aV (Jh (n:=128) (m:=2) (cs:=(zy a1)) rfl eZ rfl rfl nZ (za eC (xQ (aS (zQ (fun t3:Bool=>(jM a1 a2) t3=some r) (fun t3=>mk [(1,(oI a2)),(2,(.one (.ptr (.nm 128 0 0)))),(13,(oB t3))] [(128,(.vars 2 (zy a1)))] noG) ?_ ?_)))))
 ·intro t3 H
  unfold jM at H
  rcases zF H with⟨h5,H⟩|⟨h5,H⟩
  ·refine zk rfl h5 (aV (za eC (xQ (AW.ret (TQ.qr ?_)))))
   cases H
   exact eE rfl rfl
  ·refine zj rfl (nt h5) (AW.skip (TQ.qn (aV (zi (m:=0) rfl rfl (zr (q:=0) (c:=(.d (.sl 5 (List.map zm a1.Recs)))) eZ bZ rfl rfl (za rfl (YJ eZ eC ?_)))))))
   obtain⟨v6,h7,H⟩:=zo H
   refine Zd rfl eZ h7 (ju (m:=3) eZ rfl (qY (e:=(.int .i64 v6.State)) eZ rfl (za eZ (xQ (AW.ret ?_)))))
   cases H
   exact eE rfl rfl
 ·refine aR (zB (es:=(zy a1)) rfl bZ rfl ?_)
  obtain⟨v8,h9,H⟩:=zo H
  refine zS (u:=(oB v8)) eC Cl.fn (J6 h9) (Ec eZ En) (Vc (VD.agg rfl) Vn) rfl (jU eZ (za eZ ?_))
  rcases zF H with⟨h10,H⟩|⟨h10,H⟩
  ·refine gDo eZ (cN h10) (zB (es:=(zy a1)) rfl bZ rfl (gDo rfl (cN h10) (za rfl (gDo rfl (cN h10) ?_))))
   obtain⟨v11,h12,H⟩:=zo H
   exact zS (u:=(oB v11)) eC Cl.fn (zbi h12) (Ec rfl (Ec eZ En)) (Vc (VD.agg rfl) (Vc Vp Vn)) rfl (gDo rfl (cN h10) (jU eZ (zP rfl (cN h10) eZ (zb (TQ.qn ⟨(!v11),H,(zE [] (sR rfl rfl) (blR rfl) (bkR rfl rfl rfl))⟩)))))
  ·exact zd eZ (cN (nt h10)) rfl (zd rfl (cN (nt h10)) rfl (zd rfl (cN (nt h10)) rfl (zd rfl (cN (nt h10)) rfl (zK rfl (cN (nt h10)) eC (zb (TQ.qn ⟨true,H,(zE [] (sR rfl rfl) (blR rfl) (bkR rfl rfl rfl))⟩))))))
theorem kJ{a1:zl}{a2:Int}{r:(List Int)}(H:y7 a1 a2=some r):Fn Try.prog 21 (lent [(.agg (qI a1)),(.int .i64 a2)]) true [(.sl 1 (List.map zt r))]:=by
 refine f21 (fle rfl) ?_
 rw[zR]
 refine AW.weaken (t:=mk [(0,(.agg (zy a1))),(1,(oI a2))] [] (lk [])) (zE [] (sR rfl rfl) BL.nil BK.nil) ?_
 unfold y7 at H
 unfold i21
 refine aV (Jh (n:=128) (m:=2) (cs:=(zy a1)) rfl eZ rfl rfl nZ (za eC (xQ (aV (ZI (m:=512) rfl (nR rfl) (za eZ (xQ (aS (aV (zB (es:=(zy a1)) rfl bZ rfl (za rfl ?_)))))))))))
 obtain⟨v3,h4,H⟩:=zo H
 refine zS (u:=(oI v3)) eC Cl.fn (Yk h4) (Ec rfl (Ec eZ En)) (Vc (VD.agg rfl) (Vc Vp Vn)) rfl (QS eZ eC (xQ ?_))
 rcases zF H with⟨h5,H⟩|⟨h5,H⟩
 ·refine zk eZ (dT h5) (aV (za rfl (za eZ (xQ (AW.ret (TQ.qr ?_))))))
  cases H
  exact jW (RL.cons (RV.tmp eZ) VO.zs RL.nil) List.nodup_nil
 ·refine zj eZ (dF h5) (AW.skip (TQ.qn (zQ (fun t6:(List Int)=>yG t6=some r) (fun t6=>mk [(5,(.one (.sl 320128 0 t6.length)))] [(320128,(.data 1 (List.map zt t6) true none))] (lk [])) ?_ ?_)))
  ·intro t6 H
   unfold yG at H
   refine aV (za eZ (za eZ (xQ (AW.ret ?_))))
   obtain rfl:=(Option.some.inj H)
   exact jW (RL.cons (RV.tmp eZ) (VO.sl bZ lm (ql fun _=>rfl)) RL.nil) (by decide)
  ·refine aV (zi (m:=0) rfl rfl (zr (q:=0) (c:=(.d (.sl 5 (List.map zm a1.Recs)))) eZ bZ rfl rfl (za rfl (YJ eZ eC ?_))))
   obtain⟨v8,h9,H⟩:=zo H
   refine Zd rfl eZ h9 (ju (m:=4) eZ rfl (qY (e:=(.sl 4 (List.map zh v8.Shares))) eZ rfl (qx eZ (n:=v8.Shares.length) lm (za eC (xQ (AW.weaken (zg [128] (kr 22 rfl rfl (kr 21 rfl rfl (kr 20 rfl rfl (kr 5 rfl rfl SL.nil)))) (blR rfl) BK.nil GK.nil) (AW.block (AW.iter (fun s10:((List Int)×Int)=>mk [(5,(.one (.sl 320192 0 s10.1.length))),(20,(.one (.d (.sl 4 (List.map zh v8.Shares))))),(21,(oI (v8.Shares.length:Int))),(22,(oI s10.2))] [(320192,(.data 1 (List.map zt s10.1) true none))] (lk [])) H ((zg [] (SL.cons eZ rfl (VWk.one (CWk.len (by first|(simp;done)|(simp;omega)|omega|(simp only[List.length_map];omega)))) (sR rfl rfl)) (blR rfl) (bkR rfl rfl rfl) GK.nil).trans (Xq 320192 1 5 true rfl nZ)) ?_))))))))
   intro kb11 s10 H
   unfold yf at H
   refine aV (Z0 rfl rfl (xQ (aS ?_)))
   rcases zF H with⟨h12,H⟩|⟨h12,H⟩
   ·refine zk eZ (dT h12) (AW.skip (TQ.qn (aS (AW.block (aS (zp (ze ?_)))))))
    obtain⟨v13,h14,H⟩:=zo H
    refine Zd rfl rfl h14 (zb (ze (ZF (es:=(jZ v13)) eZ rfl (zb (ze (Zy (n:=448) (m:=4) rfl rfl (nR rfl) (zb (ze (zw (es:=(jZ v13)) eZ rfl rfl rfl bZ rfl (zb (zx (xQ (aV (zi (m:=3) eZ rfl (zr (q:=3) (c:=(dI v13.Vote)) eZ bZ rfl rfl (jC eZ eC (xQ ?_)))))))))))))))))
    rcases zF H with⟨h15,H⟩|⟨h15,H⟩
    ·refine zk eZ (dT h15) (aR (za rfl (zi (m:=0) rfl rfl (zr (q:=0) (c:=(dI v13.Group)) eZ bZ rfl rfl (yU (m:=2048) (q:=1) (cs:=[(dI v13.Group)]) rfl (qk eZ j0) rfl (List.cons_ne_nil _ _) (by simp) (nR rfl) ?_)))))
     obtain⟨h16,H⟩:=ym H
     exact Xl (f:=zt) (xs:=s10.1) (ys:=[v13.Group]) (q:=(s10.1++([v13.Group])).length) rfl eZ (bR rfl) rfl (El.one (f:=zt) (t:=v13.Group) (es:=[(.int .i64 v13.Group)]) bZ rfl rfl rfl) rfl h16 (by decide) (by decide) (erL.cons (v':=(.one (.sl 2048 0 1))) rfl (erL.cons (v':=(oI v13.Group)) rfl (erL.cons (v':=(.one (.ptr (.nm 448 0 0)))) rfl (erL.cons (v':=(.one .any)) rfl (erL.cons (v':=(oB (decide (v13.Vote=0)))) rfl (erL.cons (v':=(oI v13.Vote)) rfl (erL.cons (v':=(.one (.ptr (.nm 448 0 3)))) rfl (erL.cons (v':=(.one (.ptr (.nm 448 0 0)))) rfl (erL.cons (v':=(.agg (jZ v13))) rfl (erL.cons (v':=(.one (.ptr (.bd (zh v13) 0)))) rfl (erL.cons (v':=(oB (decide (s10.2 < (v8.Shares.length:Int))))) rfl (erL.cons (v':=(.one .any)) rfl (erL.cons (v':=(.one (.d (.sl 4 (List.map zh v8.Shares))))) rfl (erL.cons (v':=(oI (v8.Shares.length:Int))) rfl (erL.cons (v':=(oI s10.2)) rfl erL.nil))))))))))))))) (erH.cons (v':=(.vars 1 [(dI v13.Group)])) rfl rfl (erH.cons (v':=(.vars 4 (jZ v13))) rfl rfl (erH.cons (v':=(.vars 4 [(dI 0),.zs,.zs,(dI 0)])) rfl rfl (erH.drop rfl erH.nil)))) GK.nil (za eZ (zb (BQ.qn (TQ.qn (AW.weaken (zg [2048,448] (kr 5 rfl rfl (kr 20 rfl rfl (kr 21 rfl rfl (kr 22 rfl rfl SL.nil)))) (blR rfl) (BK.cons (n:=320192) rfl bZ rfl rfl BK.nil) GK.nil) (aR (qf rfl eC (za eZ (zb (TQ.qn ⟨((s10.1++([v13.Group])),(IntKind.wrap .i64 (s10.2+1))),H,(zg [] (sR rfl rfl) (blR rfl) (bkR rfl rfl rfl) GK.nil)⟩))))))))))
    ·exact zj eZ (dF h15) (AW.skip (BQ.qn (TQ.qn (aR (qf rfl eC (za eZ (zb (TQ.qn ⟨(s10.1,(IntKind.wrap .i64 (s10.2+1))),H,(zg [448] (sR rfl rfl) (blR rfl) (bkR rfl rfl rfl) GK.nil)⟩))))))))
   ·exact zj eZ (dF h12) (AW.exit (TQ.qe (TQ.qe (BQ.qe (TQ.qn ⟨s10.1,H,((zg [] (sR rfl rfl) (blR rfl) (bkR rfl rfl rfl) GK.nil).trans (z4 320192 320128 rfl rfl (nR rfl) GR.nil))⟩)))))
end Go.AW
