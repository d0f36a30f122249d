/- That functions of the program compute what the plain functions say. Conditions: each theorem's own. -/
import Derived.Test.YtlcjjljmjdmobaaMFnEndsOnce
import Derived.Test.YtlcjjljmjdmobaaGFnEndsOnce
import Derived.Test.YtlcjjljmjdmobaaYp
import Derived.Test.YtlcjjljmjdmobaaDFnEndsOncea
import Derived.Test.YtlcjjljmjdmobaaDFnEndsOnceb
import Derived.Test.YtlcjjljmjdmobaaDFnEndsOncec
set_option linter.unusedVariables false
set_option linter.unusedSimpArgs false
set_option maxRecDepth 100000
namespace Go.AW
open Go.Proofs
theorem XP{pv:Value}{cb1:(List Int)}{a2:(Int×Int)}{a3:Int}{r:(zj×(Int×Int))}(H:ZC cb1 a2 a3=some r):FnC Try.prog pv (.sl 1 (List.map zN cb1)) 57 [⟨(.ptr [(.pin pv),(.int .i64 a2.1),(.int .i64 a2.2)]),.m (.ptr [(.pin pv),(.int .i64 r.2.1),(.int .i64 r.2.2)])⟩,⟨(.int .i64 a3),.b⟩] [(.agg (qu r.1))]:=by
 refine n57 (fle rfl) (fle rfl) (fC nZ rfl fN) rfl ?_
 rw[QC]
 refine AW.weaken (t:=mk [(0,(.one (.ptr (.nm 0 0 0)))),(1,(oI a3))] [(0,(.vars 3 [(.d (.pin pv)),(dI a2.1),(dI a2.2)]))] (lk [(63,(.one (.d (.both pv (.sl 1 (List.map zN cb1)))))),(0,(.one (.ptr (.nm 0 0 0))))])) (zk (gl:=[(63,(.one (.d (.both pv (.sl 1 (List.map zN cb1)))))),(0,(.one (.ptr (.nm 0 0 0))))]) [] (kv 0 (.one (.ptr (.nm 0 0 0))) rfl rfl (kv 1 (oI a3) rfl rfl SL.nil)) (blR rfl) (BK.cons (n:=0) rfl bZ rfl rfl BK.nil) (GK.cons rfl (GK.cons rfl GK.nil))) ?_
 unfold ZC at H
 unfold i57
 refine aV (ZG (n:=256) (m:=2) rfl rfl (nR rfl) (xQ (aS (zt (zd (za rfl (zb (zd (za rfl (zb ?_))))))))))
 obtain⟨v4,h5,H⟩:=zp H
 refine KL (v0:=pv) (hg:=by exact rfl) (ON:=[0]) (ls:=[]) (G:=[]) (E:=[zR 0]) (MB:=[(0,(.vars 3 [(.d (.pin pv)),(dI v4.2.1),(dI v4.2.2)]))]) (u:=(.agg [(.sl 512 0 v4.1.Recs.length),(.sl 513 0 v4.1.Order.length)])) (bs:=[(512,(.data 5 (List.map zh v4.1.Recs) true none)),(513,(.data 1 (List.map zr v4.1.Order) true none))]) eC Cl.fn (kO h5) (Ec rfl (Ec eZ En)) (AO.mut (VO.ptr (es:=[(.pin pv),(.int .i64 a2.1),(.int .i64 a2.2)]) (bR rfl) rfl rfl rfl) (AO.lent Vp rfl AO.nil)) rfl rfl rfl (zV (bR rfl) rfl SZ.nil) (erL.cons (v':=(oI a3)) rfl (erL.cons (v':=(.one (.ptr (.nm 0 0 0)))) rfl (erL.cons (v':=(.one (.ptr (.nm 256 0 0)))) rfl (erL.cons (v':=(.one (.ptr (.nm 0 0 0)))) rfl (erL.cons (v':=(oI a3)) rfl erL.nil))))) (erH.cons (v':=(.vars 2 [.zs,.zs])) rfl rfl (erH.cons (v':=(.vars 3 [(.d (.pin pv)),(dI a2.1),(dI a2.2)])) rfl rfl erH.nil)) (erL.cons (v':=(.one (.d (.both pv (.sl 1 (List.map zN cb1)))))) rfl (erL.cons (v':=(.one (.ptr (.nm 0 0 0)))) rfl erL.nil)) (by simp[jg,jK,qB,jq,qI]) rfl (fC (nR rfl) rfl (fC (nR rfl) rfl (fC (nR rfl) rfl fN))) (zd (ZG (n:=320) (m:=2) rfl rfl (nR rfl) (zb (zd (zv (es:=[(.sl 512 0 v4.1.Recs.length),(.sl 513 0 v4.1.Order.length)]) eZ rfl rfl rfl bZ rfl (zb (zy (xQ (aS (aS (zt (zd (za rfl (zb ?_))))))))))))))
 obtain⟨v6,h7,H⟩:=zp H
 refine qQ (v0:=pv) (hg:=by exact rfl) (ON:=[0]) (ls:=[]) (G:=[]) (E:=[zR 0]) (MB:=[(0,(.vars 3 [(.d (.pin pv)),(dI v6.2.1),(dI v6.2.2)]))]) (u:=(oI v6.1)) eC Cl.fn (zL h7) (Ec eZ (Ec eC En)) (AO.mut (VO.ptr (es:=[(.pin pv),(.int .i64 v4.2.1),(.int .i64 v4.2.2)]) (bR rfl) rfl rfl rfl) (AO.lent Vp rfl AO.nil)) rfl rfl rfl (zV (bR rfl) rfl SZ.nil) (erL.cons (v':=(.one (.ptr (.nm 0 0 0)))) rfl (erL.cons (v':=(.one (.ptr (.nm 320 0 0)))) rfl (erL.cons (v':=(.agg [(.sl 512 0 v4.1.Recs.length),(.sl 513 0 v4.1.Order.length)])) rfl (erL.cons (v':=(oI a3)) rfl (erL.cons (v':=(.one (.ptr (.nm 0 0 0)))) rfl (erL.cons (v':=(.one (.ptr (.nm 256 0 0)))) rfl (erL.cons (v':=(.one (.ptr (.nm 0 0 0)))) rfl (erL.cons (v':=(oI a3)) rfl erL.nil)))))))) (erH.cons (v':=(.vars 2 [(.sl 512 0 v4.1.Recs.length),(.sl 513 0 v4.1.Order.length)])) rfl rfl (erH.cons (v':=(.vars 2 [.zs,.zs])) rfl rfl (erH.cons (v':=(.data 1 (List.map zr v4.1.Order) true none)) rfl rfl (erH.cons (v':=(.data 5 (List.map zh v4.1.Recs) true none)) rfl rfl (erH.cons (v':=(.vars 3 [(.d (.pin pv)),(dI v4.2.1),(dI v4.2.2)])) rfl rfl (erH.cons (v':=(.vars 2 [.zs,.zs])) rfl rfl (erH.cons (v':=(.vars 3 [(.d (.pin pv)),(dI a2.1),(dI a2.2)])) rfl rfl erH.nil))))))) (erL.cons (v':=(.one (.d (.both pv (.sl 1 (List.map zN cb1)))))) rfl (erL.cons (v':=(.one (.ptr (.nm 0 0 0)))) rfl erL.nil)) rfl rfl (zy (xQ (AW.block (aV (jZ eZ eC (za eZ (xQ ?_)))))))
 rcases zD H with⟨h8,H⟩|⟨h8,H⟩
 ·refine zo eZ (dT h8) (AW.regp [320] (jY rfl (zl (m:=1) rfl rfl (zb (Z3 eZ rfl (zu (q:=1) (c:=(.sl 513 0 v4.1.Order.length)) eZ (bR rfl) rfl rfl (zb (jY rfl (za rfl (zb (YP ?_)))))))))))
  obtain⟨v9,h10,H⟩:=zp H
  refine j3 (v0:=pv) (hg:=by exact rfl) (ON:=[0]) (ls:=[]) (G:=[]) (E:=[zR 0]) (MB:=[(0,(.vars 3 [(.d (.pin pv)),(dI v9.2.1),(dI v9.2.2)]))]) (u:=(oI v9.1)) eC Cl.fn (zL h10) (Ec eZ (Ec eC En)) (AO.mut (VO.ptr (es:=[(.pin pv),(.int .i64 v6.2.1),(.int .i64 v6.2.2)]) bZ rfl rfl rfl) (AO.lent Vp rfl AO.nil)) rfl rfl rfl (zV bZ rfl SZ.nil) (erL.cons (v':=(.one (.ptr (.nm 0 0 0)))) rfl (erL.cons (v':=(.one (.sl 513 0 v4.1.Order.length))) rfl (erL.cons (v':=(.one (.ptr (.nm 320 0 1)))) rfl (erL.cons (v':=(oB (decide (v6.1=0)))) rfl (erL.cons (v':=(oB (decide (v6.1=0)))) rfl (erL.cons (v':=(oI v6.1)) rfl (erL.cons (v':=(.one (.ptr (.nm 0 0 0)))) rfl (erL.cons (v':=(.one (.ptr (.nm 320 0 0)))) rfl (erL.cons (v':=(.agg [(.sl 512 0 v4.1.Recs.length),(.sl 513 0 v4.1.Order.length)])) rfl (erL.cons (v':=(oI a3)) rfl (erL.cons (v':=(.one (.ptr (.nm 0 0 0)))) rfl (erL.cons (v':=(.one (.ptr (.nm 256 0 0)))) rfl (erL.cons (v':=(.one (.ptr (.nm 0 0 0)))) rfl (erL.cons (v':=(oI a3)) rfl erL.nil)))))))))))))) (erH.cons (v':=(.vars 3 [(.d (.pin pv)),(dI v6.2.1),(dI v6.2.2)])) rfl rfl (erH.cons (v':=(.vars 2 [(.sl 512 0 v4.1.Recs.length),(.sl 513 0 v4.1.Order.length)])) rfl rfl (erH.cons (v':=(.vars 2 [.zs,.zs])) rfl rfl (erH.cons (v':=(.data 1 (List.map zr v4.1.Order) true none)) rfl rfl (erH.cons (v':=(.data 5 (List.map zh v4.1.Recs) true none)) rfl rfl (erH.cons (v':=(.vars 3 [(.d (.pin pv)),(dI v4.2.1),(dI v4.2.2)])) rfl rfl (erH.cons (v':=(.vars 2 [.zs,.zs])) rfl rfl (erH.cons (v':=(.vars 3 [(.d (.pin pv)),(dI a2.1),(dI a2.2)])) rfl rfl erH.nil)))))))) (erL.cons (v':=(.one (.d (.both pv (.sl 1 (List.map zN cb1)))))) rfl (erL.cons (v':=(.one (.ptr (.nm 0 0 0)))) rfl erL.nil)) rfl rfl rfl (KS (yO (m:=1088) (q:=1) (cs:=[(dI v9.1)]) rfl (qp eZ jV) rfl (List.cons_ne_nil _ _) (by simp) (nR rfl) (zb (YT (j4 rfl ?_)))))
  obtain⟨h11,H⟩:=yx H
  refine Xq (f:=zr) (xs:=v4.1.Order) (ys:=[v9.1]) (q:=(v4.1.Order++([v9.1])).length) rfl eZ (bR rfl) rfl (El.one (f:=zr) (t:=v9.1) (es:=[(.int .i64 v9.1)]) bZ rfl rfl rfl) rfl h11 (by decide) (by decide) (erL.cons (v':=(.one (.sl 1088 0 1))) rfl (erL.cons (v':=(oI v9.1)) rfl (erL.cons (v':=(.one (.ptr (.nm 0 0 0)))) rfl (erL.cons (v':=(.one .any)) rfl (erL.cons (v':=(.one (.ptr (.nm 320 0 1)))) rfl (erL.cons (v':=(oB (decide (v6.1=0)))) rfl (erL.cons (v':=(oB (decide (v6.1=0)))) rfl (erL.cons (v':=(oI v6.1)) rfl (erL.cons (v':=(.one (.ptr (.nm 0 0 0)))) rfl (erL.cons (v':=(.one (.ptr (.nm 320 0 0)))) rfl (erL.cons (v':=(.agg [(.sl 512 0 v4.1.Recs.length),.any])) rfl (erL.cons (v':=(oI a3)) rfl (erL.cons (v':=(.one (.ptr (.nm 0 0 0)))) rfl (erL.cons (v':=(.one (.ptr (.nm 256 0 0)))) rfl (erL.cons (v':=(.one (.ptr (.nm 0 0 0)))) rfl (erL.cons (v':=(oI a3)) rfl erL.nil)))))))))))))))) (erH.cons (v':=(.vars 1 [(dI v9.1)])) rfl rfl (erH.cons (v':=(.vars 3 [(.d (.pin pv)),(dI v9.2.1),(dI v9.2.2)])) rfl rfl (erH.cons (v':=(.vars 3 [(.d (.pin pv)),(dI v6.2.1),(dI v6.2.2)])) rfl rfl (erH.cons (v':=(.vars 2 [(.sl 512 0 v4.1.Recs.length),.any])) rfl rfl (erH.cons (v':=(.vars 2 [.zs,.zs])) rfl rfl (erH.drop rfl (erH.cons (v':=(.data 5 (List.map zh v4.1.Recs) true none)) rfl rfl (erH.cons (v':=(.vars 3 [(.d (.pin pv)),(dI v4.2.1),(dI v4.2.2)])) rfl rfl (erH.cons (v':=(.vars 2 [.zs,.zs])) rfl rfl (erH.cons (v':=(.vars 3 [(.d (.pin pv)),(dI a2.1),(dI a2.2)])) rfl rfl erH.nil)))))))))) (GK.cons rfl (GK.cons rfl GK.nil)) (zb (qz rfl (zl (m:=1) rfl rfl (zb (j4 rfl (zv (es:=[(.sl 512 0 v4.1.Recs.length),(.sl 513 0 ((v4.1.Order++([v9.1])).length))]) eZ rfl rfl rfl (bR rfl) rfl (zb (YO (BQ.qn (TQ.qn (AW.weaken (zk [1088] (kr 5 rfl rfl (kr 4 rfl rfl SL.nil)) (blR rfl) (BK.cons (n:=320) rfl bZ rfl rfl (BK.cons (n:=513) rfl (bR rfl) rfl rfl (BK.cons (n:=0) rfl (bR rfl) rfl rfl (BK.cons (n:=512) rfl (bR rfl) rfl rfl (BK.cons (n:=256) rfl (bR rfl) rfl rfl BK.nil))))) (GK.cons rfl (GK.cons rfl GK.nil))) (aS (zt (zd (zw (es:=[(.sl 512 0 v4.1.Recs.length),(.sl 513 0 ((v4.1.Order++([v9.1])).length))]) eZ bZ rfl (zb (zd (zv (es:=[(.sl 512 0 v4.1.Recs.length),(.sl 513 0 ((v4.1.Order++([v9.1])).length))]) rfl eZ rfl rfl (bR rfl) rfl (zb (zy (xQ (AW.ret ?_))))))))))))))))))))))
  cases H
  exact y7 (RL.cons (zZ (es:=[(.sl 512 0 v4.1.Recs.length),(.sl 513 0 ((v4.1.Order++([v9.1])).length))]) rfl bZ rfl) (VO.aggs (VOs.cons (qF (bR rfl) lm rfl) (VOs.cons (VO.sl (bR rfl) lm (z6 fun _=>rfl)) VOs.nil))) RL.nil) (ML.mut (eS rfl eZ) (VO.ptr (es:=[(.pin pv),(.int .i64 v9.2.1),(.int .i64 v9.2.2)]) (bR rfl) rfl rfl rfl) (ML.lent ML.nil)) (by decide)
 ·refine zn eZ (dF h8) (aV (jZ rfl eC (za eZ (xQ ?_))))
  rcases zD H with⟨h12,H⟩|⟨h12,H⟩
  ·refine zo eZ (dT h12) (aV (zl (m:=0) rfl rfl (zu (q:=0) (c:=(.sl 512 0 v4.1.Recs.length)) eZ (bR rfl) rfl rfl (XF eZ (Yt eZ eC (xQ (AW.weaken (zk [] (kr 25 rfl rfl (kr 5 rfl rfl (kr 4 rfl rfl (kr 0 rfl rfl SL.nil)))) (blR rfl) (BK.cons (n:=0) rfl bZ rfl rfl (BK.cons (n:=320) rfl (bR rfl) rfl rfl (BK.cons (n:=513) rfl (bR rfl) rfl rfl (BK.cons (n:=512) rfl (bR rfl) rfl rfl (BK.cons (n:=256) rfl (bR rfl) rfl rfl BK.nil))))) (GK.cons rfl (GK.cons rfl GK.nil))) ?_)))))))
   rcases zD H with⟨h13,H⟩|⟨h13,H⟩
   ·refine zo eZ (dT h13) (AW.regp [320] (jY rfl (zl (m:=0) rfl rfl (zb (Z3 eZ rfl (zu (q:=0) (c:=(.sl 512 0 v4.1.Recs.length)) eZ (bR rfl) rfl rfl (zb (jY rfl (za rfl (zb (jY rfl (zl (m:=0) rfl rfl (zb (Z3 eZ rfl (zu (q:=0) (c:=(.sl 512 0 v4.1.Recs.length)) eZ (bR rfl) rfl rfl (zb (jY rfl (za rfl (zb (YP (zme rfl (XF rfl (zb ?_)))))))))))))))))))))))
    obtain⟨v14,h15,H⟩:=zp H
    refine j3 (v0:=pv) (hg:=by exact rfl) (ON:=[0]) (ls:=[]) (G:=[]) (E:=[zR 0]) (MB:=[(0,(.vars 3 [(.d (.pin pv)),(dI v14.2.1),(dI v14.2.2)]))]) (u:=(oI v14.1)) eC Cl.fn (zL h15) (Ec rfl (Ec eZ En)) (AO.mut (VO.ptr (es:=[(.pin pv),(.int .i64 v6.2.1),(.int .i64 v6.2.2)]) bZ rfl rfl rfl) (AO.lent Vp rfl AO.nil)) rfl rfl rfl (zV bZ rfl SZ.nil) (erL.cons (v':=(oI ((v4.1.Recs.length:Nat):Int))) rfl (erL.cons (v':=(.one (.ptr (.nm 0 0 0)))) rfl (erL.cons (v':=(.one (.sl 512 0 v4.1.Recs.length))) rfl (erL.cons (v':=(.one (.ptr (.nm 320 0 0)))) rfl (erL.cons (v':=(.one (.ptr (.nm 0 0 0)))) rfl (erL.cons (v':=(.one (.sl 512 0 v4.1.Recs.length))) rfl (erL.cons (v':=(.one (.ptr (.nm 320 0 0)))) rfl (erL.cons (v':=(oB (decide (0 < ((v4.1.Recs.length:Nat):Int))))) rfl (erL.cons (v':=(.one (.ptr (.nm 320 0 0)))) rfl (erL.cons (v':=(.one (.ptr (.nm 256 0 0)))) rfl (erL.cons (v':=(.one (.ptr (.nm 0 0 0)))) rfl erL.nil))))))))))) (erH.cons (v':=(.vars 3 [(.d (.pin pv)),(dI v6.2.1),(dI v6.2.2)])) rfl rfl (erH.cons (v':=(.vars 2 [(.sl 512 0 v4.1.Recs.length),(.sl 513 0 v4.1.Order.length)])) rfl rfl (erH.cons (v':=(.data 1 (List.map zr v4.1.Order) true none)) rfl rfl (erH.cons (v':=(.data 5 (List.map zh v4.1.Recs) true none)) rfl rfl (erH.cons (v':=(.vars 2 [.zs,.zs])) rfl rfl erH.nil))))) (erL.cons (v':=(.one (.d (.both pv (.sl 1 (List.map zN cb1)))))) rfl (erL.cons (v':=(.one (.ptr (.nm 0 0 0)))) rfl erL.nil)) rfl rfl rfl ?_
    obtain⟨v16,h17,H⟩:=zp H
    refine j3 (v0:=pv) (hg:=by exact rfl) (ON:=[0]) (ls:=[]) (G:=[]) (E:=[zR 0]) (MB:=[(0,(.vars 3 [(.d (.pin pv)),(dI v16.2.1),(dI v16.2.2)]))]) (u:=(oI v16.1)) eC Cl.fn (zL h17) (Ec rfl (Ec eC En)) (AO.mut (VO.ptr (es:=[(.pin pv),(.int .i64 v14.2.1),(.int .i64 v14.2.2)]) bZ rfl rfl rfl) (AO.lent Vp rfl AO.nil)) rfl rfl rfl (zV bZ rfl SZ.nil) (erL.cons (v':=(oI v14.1)) rfl (erL.cons (v':=(oI ((v4.1.Recs.length:Nat):Int))) rfl (erL.cons (v':=(.one (.ptr (.nm 0 0 0)))) rfl (erL.cons (v':=(.one (.sl 512 0 v4.1.Recs.length))) rfl (erL.cons (v':=(.one (.ptr (.nm 320 0 0)))) rfl (erL.cons (v':=(.one (.ptr (.nm 0 0 0)))) rfl (erL.cons (v':=(.one (.sl 512 0 v4.1.Recs.length))) rfl (erL.cons (v':=(.one (.ptr (.nm 320 0 0)))) rfl (erL.cons (v':=(oB (decide (0 < ((v4.1.Recs.length:Nat):Int))))) rfl (erL.cons (v':=(.one (.ptr (.nm 320 0 0)))) rfl (erL.cons (v':=(.one (.ptr (.nm 256 0 0)))) rfl (erL.cons (v':=(.one (.ptr (.nm 0 0 0)))) rfl erL.nil)))))))))))) (erH.cons (v':=(.vars 3 [(.d (.pin pv)),(dI v14.2.1),(dI v14.2.2)])) rfl rfl (erH.cons (v':=(.vars 3 [(.d (.pin pv)),(dI v6.2.1),(dI v6.2.2)])) rfl rfl (erH.cons (v':=(.vars 2 [(.sl 512 0 v4.1.Recs.length),(.sl 513 0 v4.1.Order.length)])) rfl rfl (erH.cons (v':=(.data 1 (List.map zr v4.1.Order) true none)) rfl rfl (erH.cons (v':=(.data 5 (List.map zh v4.1.Recs) true none)) rfl rfl (erH.cons (v':=(.vars 2 [.zs,.zs])) rfl rfl erH.nil)))))) (erL.cons (v':=(.one (.d (.both pv (.sl 1 (List.map zN cb1)))))) rfl (erL.cons (v':=(.one (.ptr (.nm 0 0 0)))) rfl erL.nil)) rfl rfl rfl (YT (j4 rfl ?_))
    obtain⟨v18,h19,H⟩:=zp H
    refine kL rfl rfl (bR rfl) rfl h19 (zb (qz rfl (zl (m:=3) eZ rfl (zb (j4 rfl (Jl (t:=v18) (t':=(zi.mk v18.Tx v18.Client v18.Req v16.1 v18.Shares)) (es:=[(.int .i64 v16.1)]) eZ rfl rfl rfl (bR rfl) (ji h19) rfl rfl (zb (YO (BQ.qn (TQ.qn (aS (zt (zd (zw (es:=[(.sl 512 0 v4.1.Recs.length),(.sl 513 0 v4.1.Order.length)]) rfl (bR rfl) rfl (zb (zd (zv (es:=[(.sl 512 0 v4.1.Recs.length),(.sl 513 0 v4.1.Order.length)]) rfl eZ rfl rfl (bR rfl) rfl (zb (zy (xQ (AW.weaken (zk [320] (kr 4 rfl rfl SL.nil) (blR rfl) (BK.cons (n:=256) rfl bZ rfl rfl (BK.cons (n:=512) rfl (bR rfl) rfl rfl (BK.cons (n:=0) rfl (bR rfl) rfl rfl (BK.cons (n:=513) rfl (bR rfl) rfl rfl BK.nil)))) (GK.cons rfl (GK.cons rfl GK.nil))) (AW.ret ?_))))))))))))))))))))))
    cases H
    exact y7 (RL.cons (zZ (es:=[(.sl 512 0 v4.1.Recs.length),(.sl 513 0 v4.1.Order.length)]) eZ bZ rfl) (VO.aggs (VOs.cons (qF (bR rfl) (by first|(simp;done)|(simp;omega)|omega|(simp only[List.length_map];omega)) rfl) (VOs.cons (VO.sl (bR rfl) lm (z6 fun _=>rfl)) VOs.nil))) RL.nil) (ML.mut (eS rfl eZ) (VO.ptr (es:=[(.pin pv),(.int .i64 v16.2.1),(.int .i64 v16.2.2)]) (bR rfl) rfl rfl rfl) (ML.lent ML.nil)) (by decide)
   ·refine zn eZ (dF h13) (AW.skip (BQ.qn (TQ.qn (aS (zt (zd (zw (es:=[(.sl 512 0 v4.1.Recs.length),(.sl 513 0 v4.1.Order.length)]) rfl (bR rfl) rfl (zb (zd (zv (es:=[(.sl 512 0 v4.1.Recs.length),(.sl 513 0 v4.1.Order.length)]) rfl eZ rfl rfl (bR rfl) rfl (zb (zy (xQ (AW.ret ?_))))))))))))))
    cases H
    exact y7 (RL.cons (zZ (es:=[(.sl 512 0 v4.1.Recs.length),(.sl 513 0 v4.1.Order.length)]) rfl bZ rfl) (VO.aggs (VOs.cons (qF (bR rfl) lm rfl) (VOs.cons (VO.sl (bR rfl) lm (z6 fun _=>rfl)) VOs.nil))) RL.nil) (ML.mut (eS rfl eZ) (VO.ptr (es:=[(.pin pv),(.int .i64 v6.2.1),(.int .i64 v6.2.2)]) (bR rfl) rfl rfl rfl) (ML.lent ML.nil)) (by decide)
  ·refine zn eZ (dF h12) (aV (jZ rfl eC (za eZ (xQ ?_))))
   rcases zD H with⟨h20,H⟩|⟨h20,H⟩
   ·refine zo eZ (dT h20) (AW.regp [320] (jY rfl (zl (m:=0) rfl rfl (zb (Z3 eZ rfl (zu (q:=0) (c:=(.sl 512 0 v4.1.Recs.length)) eZ (bR rfl) rfl rfl (zb (jY rfl (za rfl (zb (YP ?_)))))))))))
    obtain⟨v21,h22,H⟩:=zp H
    refine j3 (v0:=pv) (hg:=by exact rfl) (ON:=[0]) (ls:=[]) (G:=[]) (E:=[zR 0]) (MB:=[(0,(.vars 3 [(.d (.pin pv)),(dI v21.2.1),(dI v21.2.2)]))]) (u:=(oI v21.1)) eC Cl.fn (zL h22) (Ec eZ (Ec eC En)) (AO.mut (VO.ptr (es:=[(.pin pv),(.int .i64 v6.2.1),(.int .i64 v6.2.2)]) bZ rfl rfl rfl) (AO.lent Vp rfl AO.nil)) rfl rfl rfl (zV bZ rfl SZ.nil) (erL.cons (v':=(.one (.ptr (.nm 0 0 0)))) rfl (erL.cons (v':=(.one (.sl 512 0 v4.1.Recs.length))) rfl (erL.cons (v':=(.one (.ptr (.nm 320 0 0)))) rfl (erL.cons (v':=(oB (decide (v6.1=2)))) rfl (erL.cons (v':=(oB (decide (v6.1=2)))) rfl (erL.cons (v':=(oB (decide (v6.1=1)))) rfl (erL.cons (v':=(oB (decide (v6.1=1)))) rfl (erL.cons (v':=(oB (decide (v6.1=0)))) rfl (erL.cons (v':=(oB (decide (v6.1=0)))) rfl (erL.cons (v':=(oI v6.1)) rfl (erL.cons (v':=(.one (.ptr (.nm 0 0 0)))) rfl (erL.cons (v':=(.one (.ptr (.nm 320 0 0)))) rfl (erL.cons (v':=(.agg [(.sl 512 0 v4.1.Recs.length),(.sl 513 0 v4.1.Order.length)])) rfl (erL.cons (v':=(oI a3)) rfl (erL.cons (v':=(.one (.ptr (.nm 0 0 0)))) rfl (erL.cons (v':=(.one (.ptr (.nm 256 0 0)))) rfl (erL.cons (v':=(.one (.ptr (.nm 0 0 0)))) rfl (erL.cons (v':=(oI a3)) rfl erL.nil)))))))))))))))))) (erH.cons (v':=(.vars 3 [(.d (.pin pv)),(dI v6.2.1),(dI v6.2.2)])) rfl rfl (erH.cons (v':=(.vars 2 [(.sl 512 0 v4.1.Recs.length),(.sl 513 0 v4.1.Order.length)])) rfl rfl (erH.cons (v':=(.vars 2 [.zs,.zs])) rfl rfl (erH.cons (v':=(.data 1 (List.map zr v4.1.Order) true none)) rfl rfl (erH.cons (v':=(.data 5 (List.map zh v4.1.Recs) true none)) rfl rfl (erH.cons (v':=(.vars 3 [(.d (.pin pv)),(dI v4.2.1),(dI v4.2.2)])) rfl rfl (erH.cons (v':=(.vars 2 [.zs,.zs])) rfl rfl (erH.cons (v':=(.vars 3 [(.d (.pin pv)),(dI a2.1),(dI a2.2)])) rfl rfl erH.nil)))))))) (erL.cons (v':=(.one (.d (.both pv (.sl 1 (List.map zN cb1)))))) rfl (erL.cons (v':=(.one (.ptr (.nm 0 0 0)))) rfl erL.nil)) rfl rfl rfl (zmi rfl (Zo (cs:=[(dI v21.1),(dI 0),(dI 1),(dI 1),.zs]) (qp eZ (qp eC (qp eC jV))) rfl (zb (KS (yO (m:=2816) (q:=1) (cs:=[(dI v21.1),(dI 0),(dI 1),(dI 1),.zs]) rfl (qp eZ jV) rfl (List.cons_ne_nil _ _) (by simp) (nR rfl) (zb (YT ?_)))))))
    obtain⟨h23,H⟩:=yx H
    refine zfe (f:=zh) (xs:=v4.1.Recs) (t:=(zi.mk v21.1 0 1 1 ([]:List zf))) (q:=(v4.1.Recs++[(zi.mk v21.1 0 1 1 ([]:List zf))]).length) (ds:=[(.int .i64 v21.1),(.int .i64 0),(.int .i64 1),(.int .i64 1),(.sl 4 (List.map zg ([]:List zf)))]) (ns:=[]) rfl eZ (bR rfl) rfl bZ rfl (VOs.cons (VO.flat rfl) (VOs.cons (VO.flat rfl) (VOs.cons (VO.flat rfl) (VOs.cons (VO.flat rfl) (VOs.cons VO.zs VOs.nil))))) rfl rfl rfl rfl h23 (by decide) (erL.cons (v':=(.one (.sl 2816 0 1))) rfl (erL.cons (v':=(.agg [(dI v21.1),(dI 0),(dI 1),(dI 1),.zs])) rfl (erL.cons (v':=(oI v21.1)) rfl (erL.cons (v':=(.one (.ptr (.nm 0 0 0)))) rfl (erL.cons (v':=(.one (.sl 512 0 v4.1.Recs.length))) rfl (erL.cons (v':=(.one (.ptr (.nm 320 0 0)))) rfl (erL.cons (v':=(oB (decide (v6.1=2)))) rfl (erL.cons (v':=(oB (decide (v6.1=2)))) rfl (erL.cons (v':=(oB (decide (v6.1=1)))) rfl (erL.cons (v':=(oB (decide (v6.1=1)))) rfl (erL.cons (v':=(oB (decide (v6.1=0)))) rfl (erL.cons (v':=(oB (decide (v6.1=0)))) rfl (erL.cons (v':=(oI v6.1)) rfl (erL.cons (v':=(.one (.ptr (.nm 0 0 0)))) rfl (erL.cons (v':=(.one (.ptr (.nm 320 0 0)))) rfl (erL.cons (v':=(.agg [(.sl 512 0 v4.1.Recs.length),(.sl 513 0 v4.1.Order.length)])) rfl (erL.cons (v':=(oI a3)) rfl (erL.cons (v':=(.one (.ptr (.nm 0 0 0)))) rfl (erL.cons (v':=(.one (.ptr (.nm 256 0 0)))) rfl (erL.cons (v':=(.one (.ptr (.nm 0 0 0)))) rfl (erL.cons (v':=(oI a3)) rfl erL.nil))))))))))))))))))))) (erH.cons (v':=(.vars 5 [(dI v21.1),(dI 0),(dI 1),(dI 1),.zs])) rfl rfl (erH.cons (v':=(.vars 3 [(.d (.pin pv)),(dI v21.2.1),(dI v21.2.2)])) rfl rfl (erH.cons (v':=(.vars 3 [(.d (.pin pv)),(dI v6.2.1),(dI v6.2.2)])) rfl rfl (erH.cons (v':=(.vars 2 [(.sl 512 0 v4.1.Recs.length),(.sl 513 0 v4.1.Order.length)])) rfl rfl (erH.cons (v':=(.vars 2 [.zs,.zs])) rfl rfl (erH.cons (v':=(.data 1 (List.map zr v4.1.Order) true none)) rfl rfl (erH.cons (v':=(.data 5 (List.map zh v4.1.Recs) true none)) rfl rfl (erH.cons (v':=(.vars 3 [(.d (.pin pv)),(dI v4.2.1),(dI v4.2.2)])) rfl rfl (erH.cons (v':=(.vars 2 [.zs,.zs])) rfl rfl (erH.cons (v':=(.vars 3 [(.d (.pin pv)),(dI a2.1),(dI a2.2)])) rfl rfl erH.nil)))))))))) (erL.cons (v':=(.one (.d (.both pv (.sl 1 (List.map zN cb1)))))) rfl (erL.cons (v':=(.one (.ptr (.nm 0 0 0)))) rfl erL.nil)) (erL.cons (v':=(.one (.sl 2816 0 1))) rfl (erL.cons (v':=(.agg [(dI v21.1),(dI 0),(dI 1),(dI 1),.zs])) rfl (erL.cons (v':=(oI v21.1)) rfl (erL.cons (v':=(.one (.ptr (.nm 0 0 0)))) rfl (erL.cons (v':=(.one .any)) rfl (erL.cons (v':=(.one (.ptr (.nm 320 0 0)))) rfl (erL.cons (v':=(oB (decide (v6.1=2)))) rfl (erL.cons (v':=(oB (decide (v6.1=2)))) rfl (erL.cons (v':=(oB (decide (v6.1=1)))) rfl (erL.cons (v':=(oB (decide (v6.1=1)))) rfl (erL.cons (v':=(oB (decide (v6.1=0)))) rfl (erL.cons (v':=(oB (decide (v6.1=0)))) rfl (erL.cons (v':=(oI v6.1)) rfl (erL.cons (v':=(.one (.ptr (.nm 0 0 0)))) rfl (erL.cons (v':=(.one (.ptr (.nm 320 0 0)))) rfl (erL.cons (v':=(.agg [.any,(.sl 513 0 v4.1.Order.length)])) rfl (erL.cons (v':=(oI a3)) rfl (erL.cons (v':=(.one (.ptr (.nm 0 0 0)))) rfl (erL.cons (v':=(.one (.ptr (.nm 256 0 0)))) rfl (erL.cons (v':=(.one (.ptr (.nm 0 0 0)))) rfl (erL.cons (v':=(oI a3)) rfl erL.nil))))))))))))))))))))) (erH.cons (v':=(.vars 5 [(dI v21.1),(dI 0),(dI 1),(dI 1),.zs])) rfl rfl (erH.cons (v':=(.vars 3 [(.d (.pin pv)),(dI v21.2.1),(dI v21.2.2)])) rfl rfl (erH.cons (v':=(.vars 3 [(.d (.pin pv)),(dI v6.2.1),(dI v6.2.2)])) rfl rfl (erH.cons (v':=(.vars 2 [.any,(.sl 513 0 v4.1.Order.length)])) rfl rfl (erH.cons (v':=(.vars 2 [.zs,.zs])) rfl rfl (erH.cons (v':=(.data 1 (List.map zr v4.1.Order) true none)) rfl rfl (erH.drop rfl (erH.cons (v':=(.vars 3 [(.d (.pin pv)),(dI v4.2.1),(dI v4.2.2)])) rfl rfl (erH.cons (v':=(.vars 2 [.zs,.zs])) rfl rfl (erH.cons (v':=(.vars 3 [(.d (.pin pv)),(dI a2.1),(dI a2.2)])) rfl rfl erH.nil)))))))))) (erL.cons (v':=(.one (.d (.both pv (.sl 1 (List.map zN cb1)))))) rfl (erL.cons (v':=(.one (.ptr (.nm 0 0 0)))) rfl erL.nil)) (qz rfl (zl (m:=0) rfl rfl (zb (j4 rfl (zv (es:=[(.sl 512 0 ((v4.1.Recs++[(zi.mk v21.1 0 1 1 ([]:List zf))]).length)),(.sl 513 0 v4.1.Order.length)]) eZ rfl rfl rfl (bR rfl) rfl (zb (YO (BQ.qn (TQ.qn (AW.weaken (zk [2816] (kr 5 rfl rfl (kr 4 rfl rfl SL.nil)) (blR rfl) (BK.cons (n:=320) rfl bZ rfl rfl (BK.cons (n:=512) rfl (bR rfl) rfl rfl (BK.cons (n:=0) rfl (bR rfl) rfl rfl (BK.cons (n:=513) rfl (bR rfl) rfl rfl (BK.cons (n:=256) rfl (bR rfl) rfl rfl BK.nil))))) (GK.cons rfl (GK.cons rfl GK.nil))) (aS (zt (zd (zw (es:=[(.sl 512 0 ((v4.1.Recs++[(zi.mk v21.1 0 1 1 ([]:List zf))]).length)),(.sl 513 0 v4.1.Order.length)]) eZ bZ rfl ?_))))))))))))))
    refine zb (zd (zv (es:=[(.sl 512 0 ((v4.1.Recs++[(zi.mk v21.1 0 1 1 ([]:List zf))]).length)),(.sl 513 0 v4.1.Order.length)]) rfl eZ rfl rfl (bR rfl) rfl (zb (zy (xQ (AW.ret ?_))))))
    cases H
    exact y7 (RL.cons (zZ (es:=[(.sl 512 0 ((v4.1.Recs++[(zi.mk v21.1 0 1 1 ([]:List zf))]).length)),(.sl 513 0 v4.1.Order.length)]) rfl bZ rfl) (VO.aggs (VOs.cons (qF (bR rfl) lm rfl) (VOs.cons (VO.sl (bR rfl) lm (z6 fun _=>rfl)) VOs.nil))) RL.nil) (ML.mut (eS rfl eZ) (VO.ptr (es:=[(.pin pv),(.int .i64 v21.2.1),(.int .i64 v21.2.2)]) (bR rfl) rfl rfl rfl) (ML.lent ML.nil)) (by decide)
   ·refine zn eZ (dF h20) (AW.skip (BQ.qn (TQ.qn (aS (zt (zd (zw (es:=[(.sl 512 0 v4.1.Recs.length),(.sl 513 0 v4.1.Order.length)]) rfl (bR rfl) rfl (zb (zd (zv (es:=[(.sl 512 0 v4.1.Recs.length),(.sl 513 0 v4.1.Order.length)]) rfl eZ rfl rfl (bR rfl) rfl (zb (zy (xQ (AW.weaken (zk [320] (kr 4 rfl rfl SL.nil) (blR rfl) (BK.cons (n:=256) rfl bZ rfl rfl (BK.cons (n:=0) rfl (bR rfl) rfl rfl (BK.cons (n:=513) rfl (bR rfl) rfl rfl (BK.cons (n:=512) rfl (bR rfl) rfl rfl BK.nil)))) (GK.cons rfl (GK.cons rfl GK.nil))) (AW.ret ?_)))))))))))))))
    cases H
    exact y7 (RL.cons (zZ (es:=[(.sl 512 0 v4.1.Recs.length),(.sl 513 0 v4.1.Order.length)]) eZ bZ rfl) (VO.aggs (VOs.cons (qF (bR rfl) lm rfl) (VOs.cons (VO.sl (bR rfl) lm (z6 fun _=>rfl)) VOs.nil))) RL.nil) (ML.mut (eS rfl eZ) (VO.ptr (es:=[(.pin pv),(.int .i64 v6.2.1),(.int .i64 v6.2.2)]) (bR rfl) rfl rfl rfl) (ML.lent ML.nil)) (by decide)
theorem kM{pv:Value}{cb1:(List Int)}{r:zj}(H:yj cb1=some r):FnC Try.prog pv (.sl 1 (List.map zN cb1)) 23 [⟨(.pin pv),.b⟩] [(.agg (qu r))]:=by
 refine n23 (fle rfl) (fle rfl) trivial rfl ?_
 rw[QC]
 refine AW.weaken (t:=mk [(0,(.one (.d (.pin pv))))] [] (lk [(63,(.one (.d (.both pv (.sl 1 (List.map zN cb1))))))])) (zk (gl:=[(63,(.one (.d (.both pv (.sl 1 (List.map zN cb1))))))]) [] (kv 0 (.one (.d (.pin pv))) rfl rfl SL.nil) BL.nil BK.nil (GK.cons rfl GK.nil)) ?_
 unfold yj at H
 unfold i23
 refine aV (ZG (n:=128) (m:=2) rfl rfl nZ (xQ (aS (zt (zd (za rfl (zb ?_)))))))
 obtain⟨v2,h3,H⟩:=zp H
 refine KL (v0:=pv) (hg:=by exact rfl) (ON:=[]) (ls:=[]) (G:=[]) (E:=[]) (MB:=[]) (u:=(.one (.ptr (.nm 256 0 0)))) (bs:=[(256,(.vars 3 [(.d (.pin pv)),(dI v2.1),(dI v2.2)]))]) eC Cl.fn (zbN h3) (Ec eZ En) (AO.lent Vp rfl AO.nil) rfl rfl rfl SZ.nil (erL.cons (v':=(.one (.d (.pin pv)))) rfl (erL.cons (v':=(.one (.ptr (.nm 128 0 0)))) rfl (erL.cons (v':=(.one (.d (.pin pv)))) rfl erL.nil))) (erH.cons (v':=(.vars 2 [.zs,.zs])) rfl rfl erH.nil) (erL.cons (v':=(.one (.d (.both pv (.sl 1 (List.map zN cb1)))))) rfl erL.nil) (by simp[jg,jK,qB,jq,qI,D.flat]) rfl (fC (nR rfl) rfl (fC (nR rfl) rfl fN)) (zd (za rfl (zb ?_)))
 obtain⟨v4,h5,H⟩:=zp H
 refine qQ (v0:=pv) (hg:=by exact rfl) (ON:=[]) (ls:=[]) (G:=[]) (E:=[]) (MB:=[]) (u:=(oI v4)) eC Cl.fn (za4 h5) (Ec eZ (Ec eC En)) (AO.lent Vp rfl (AO.lent Vp rfl AO.nil)) rfl rfl rfl SZ.nil (erL.cons (v':=(.one (.d (.pin pv)))) rfl (erL.cons (v':=(.one (.ptr (.nm 256 0 0)))) rfl (erL.cons (v':=(.one (.d (.pin pv)))) rfl (erL.cons (v':=(.one (.ptr (.nm 128 0 0)))) rfl (erL.cons (v':=(.one (.d (.pin pv)))) rfl erL.nil))))) (erH.cons (v':=(.vars 3 [(.d (.pin pv)),(dI v2.1),(dI v2.2)])) rfl rfl (erH.cons (v':=(.vars 2 [.zs,.zs])) rfl rfl erH.nil)) (erL.cons (v':=(.one (.d (.both pv (.sl 1 (List.map zN cb1)))))) rfl erL.nil) rfl rfl ?_
 obtain⟨v6,h7,H⟩:=zp H
 refine KL (v0:=pv) (hg:=by exact rfl) (ON:=[256]) (ls:=[]) (G:=[]) (E:=[zR 256]) (MB:=[(256,(.vars 3 [(.d (.pin pv)),(dI v6.2.1),(dI v6.2.2)]))]) (u:=(.agg [(.sl 448 0 v6.1.Recs.length),(.sl 449 0 v6.1.Order.length)])) (bs:=[(448,(.data 5 (List.map zh v6.1.Recs) true none)),(449,(.data 1 (List.map zr v6.1.Order) true none))]) eC Cl.fn (XP h7) (Ec rfl (Ec eZ En)) (AO.mut (VO.ptr (es:=[(.pin pv),(.int .i64 v2.1),(.int .i64 v2.2)]) bZ rfl rfl rfl) (AO.lent Vp rfl AO.nil)) rfl rfl rfl (zV bZ rfl SZ.nil) (erL.cons (v':=(oI v4)) rfl (erL.cons (v':=(.one (.d (.pin pv)))) rfl (erL.cons (v':=(.one (.ptr (.nm 256 0 0)))) rfl (erL.cons (v':=(.one (.d (.pin pv)))) rfl (erL.cons (v':=(.one (.ptr (.nm 128 0 0)))) rfl (erL.cons (v':=(.one (.d (.pin pv)))) rfl erL.nil)))))) (erH.cons (v':=(.vars 3 [(.d (.pin pv)),(dI v2.1),(dI v2.2)])) rfl rfl (erH.cons (v':=(.vars 2 [.zs,.zs])) rfl rfl erH.nil)) (erL.cons (v':=(.one (.d (.both pv (.sl 1 (List.map zN cb1)))))) rfl erL.nil) (by simp[jg,jK,qB,jq,qI]) rfl (fC (nR rfl) rfl (fC (nR rfl) rfl (fC (nR rfl) rfl fN))) (zd (zv (es:=[(.sl 448 0 v6.1.Recs.length),(.sl 449 0 v6.1.Order.length)]) rfl eZ rfl rfl (bR rfl) rfl (zb (zy (xQ (AW.ret ?_))))))
 cases H
 exact y7 (RL.cons (zZ (es:=[(.sl 448 0 v6.1.Recs.length),(.sl 449 0 v6.1.Order.length)]) rfl bZ rfl) (VO.aggs (VOs.cons (qF (bR rfl) lm rfl) (VOs.cons (VO.sl (bR rfl) lm (z6 fun _=>rfl)) VOs.nil))) RL.nil) (ML.lent ML.nil) (by decide)
theorem Xd{cb1:(List Int)}{r:zj}(H:yj cb1=some r):Fn Try.prog 23 (lent [(.sl 1 (List.map zN cb1))]) true [(.agg (qu r))]:=
 FnC.fn fun pv=>kM (pv:=pv) H
theorem Zv{a1:Int}{a2:Int}{a3:Int}{r:Bool}(H:jX a1 a2 a3=some r):Fn Try.prog 76 (lent [(.int .i64 a1),(.int .i64 a2),(.int .i64 a3)]) true [(.bool r)]:=by
 refine f76 (fle rfl) ?_
 rw[zT]
 refine AW.weaken (zF [] (kv 0 (oI a1) rfl rfl (kv 1 (oI a2) rfl rfl (kv 2 (oI a3) rfl rfl SL.nil))) BL.nil BK.nil) ?_
 unfold jX at H
 unfold i76
 refine aV (za eC (xQ (aV (za rfl (za rfl (KG rfl eZ (za eZ ?_)))))))
 rcases zD H with⟨h4,H⟩|⟨h4,H⟩
 ·refine gDo eZ (dT h4) (za rfl (gDo rfl (dT h4) (za rfl (gDo rfl (dT h4) (za1 rfl eZ (zJ rfl (dT h4) eZ (za eZ (xQ (AW.ret ?_)))))))))
  cases H
  exact eE rfl rfl
 ·refine ze eZ (dF h4) rfl (ze rfl (dF h4) rfl (ze rfl (dF h4) rfl (zU rfl (dF h4) eC (za eZ (xQ (AW.ret ?_))))))
  cases H
  exact eE rfl rfl
theorem kt{a1:Int}{r:Bool}(H:Z5 a1=some r):Fn Try.prog 60 (lent [(.int .i64 a1)]) true [(.bool r)]:=by
 refine f60 (fle rfl) ?_
 rw[zT]
 refine AW.weaken (zF [] (kv 0 (oI a1) rfl rfl SL.nil) BL.nil BK.nil) ?_
 unfold Z5 at H
 unfold i60
 refine aV (za eC (xQ (aV (za rfl ?_))))
 obtain⟨v2,h3,H⟩:=zp H
 refine zQ (u:=(oB v2)) eC Cl.fn (Zv h3) (Ec eZ (Ec eC (Ec eC En))) (Vc Vp (Vc Vp (Vc Vp Vn))) rfl (za eZ (xQ (AW.ret ?_)))
 cases H
 exact eE rfl rfl
theorem XM{a1:Int}{r:Bool}(H:QS a1=some r):Fn Try.prog 61 (lent [(.int .i64 a1)]) true [(.bool r)]:=by
 refine f61 (fle rfl) ?_
 rw[zT]
 refine AW.weaken (zF [] (kv 0 (oI a1) rfl rfl SL.nil) BL.nil BK.nil) ?_
 unfold QS at H
 unfold i61
 refine aV (za eC (xQ (aV (za rfl ?_))))
 obtain⟨v2,h3,H⟩:=zp H
 refine zQ (u:=(oB v2)) eC Cl.fn (Zv h3) (Ec eZ (Ec eC (Ec eC En))) (Vc Vp (Vc Vp (Vc Vp Vn))) rfl (za eZ (xQ (AW.ret ?_)))
 cases H
 exact eE rfl rfl
theorem zaC{a1:Int}{r:Bool}(H:QF a1=some r):Fn Try.prog 115 (lent [(.int .i64 a1)]) true [(.bool r)]:=by
 refine zp8 (fle rfl) ?_
 rw[zT]
 refine AW.weaken (zF [] (kv 0 (oI a1) rfl rfl SL.nil) BL.nil BK.nil) ?_
 unfold QF at H
 unfold zmU
 refine aV (za eC (xQ (aV (za rfl ?_))))
 obtain⟨v2,h3,H⟩:=zp H
 refine zQ (u:=(oB v2)) eC Cl.fn (Zv h3) (Ec eZ (Ec eC (Ec eC En))) (Vc Vp (Vc Vp (Vc Vp Vn))) rfl (za eZ (xQ (AW.ret ?_)))
 cases H
 exact eE rfl rfl
theorem KP{a1:qi}{r:Bool}(H:QG a1=some r):Fn Try.prog 129 (lent [(.agg (z4 a1))]) true [(.bool r)]:=by
 refine zqM (fle rfl) ?_
 rw[zT]
 refine AW.weaken (zF [] (kv 0 (.agg [(dI a1.Lo),(dI a1.Hi)]) rfl rfl SL.nil) BL.nil BK.nil) ?_
 unfold QG at H
 unfold zlY
 refine aV (Q8 (n:=64) (m:=2) (cs:=[(dI a1.Lo),(dI a1.Hi)]) rfl eZ rfl rfl nZ (za eC (xQ (aV (zl (m:=0) rfl rfl (zu (q:=0) (c:=(dI a1.Lo)) eZ bZ rfl rfl (KG eZ eC (za eZ ?_))))))))
 rcases zD H with⟨h2,H⟩|⟨h2,H⟩
 ·refine gDo eZ (dT h2) (zl (m:=0) rfl rfl (gDo rfl (dT h2) (zu (q:=0) (c:=(dI a1.Lo)) eZ bZ rfl rfl (gDo rfl (dT h2) (zl (m:=1) rfl rfl (gDo rfl (dT h2) (zu (q:=1) (c:=(dI a1.Hi)) eZ bZ rfl rfl (gDo rfl (dT h2) (ZD rfl eZ (zJ rfl (dT h2) eZ (za eZ ?_)))))))))))
  rcases zD H with⟨h3,H⟩|⟨h3,H⟩
  ·refine gDo eZ (dT h3) (zl (m:=1) rfl rfl (gDo rfl (dT h3) (zu (q:=1) (c:=(dI a1.Hi)) eZ bZ rfl rfl (gDo rfl (dT h3) (za1 eZ eC (zJ rfl (dT h3) eZ (za eZ (xQ (AW.weaken (zF [64] (kr 2 rfl rfl SL.nil) (blR rfl) BK.nil) (AW.ret ?_))))))))))
   cases H
   exact eE rfl rfl
  ·refine ze eZ (dF h3) rfl (ze rfl (dF h3) rfl (ze rfl (dF h3) rfl (zU rfl (dF h3) eC (za eZ (xQ (AW.weaken (zF [64] (kr 2 rfl rfl SL.nil) (blR rfl) BK.nil) (AW.ret ?_)))))))
   cases H
   exact eE rfl rfl
 ·refine ze eZ (dF h2) rfl (ze rfl (dF h2) rfl (ze rfl (dF h2) rfl (ze rfl (dF h2) rfl (ze rfl (dF h2) rfl (zU rfl (dF h2) eC (za eZ (ze eZ rfl rfl (ze rfl rfl rfl (ze rfl rfl rfl (zU rfl rfl eC (za eZ (xQ (AW.weaken (zF [64] (kr 2 rfl rfl SL.nil) (blR rfl) BK.nil) (AW.ret ?_))))))))))))))
  cases H
  exact eE rfl rfl
theorem Kg{a1:qi}{r:Bool}(H:Z6 a1=some r):Fn Try.prog 149 (lent [(.agg (z4 a1))]) true [(.bool r)]:=by
 refine zqJ (fle rfl) ?_
 rw[zT]
 refine AW.weaken (zF [] (kv 0 (.agg [(dI a1.Lo),(dI a1.Hi)]) rfl rfl SL.nil) BL.nil BK.nil) ?_
 unfold Z6 at H
 unfold zoD
 refine aV (Q8 (n:=64) (m:=2) (cs:=[(dI a1.Lo),(dI a1.Hi)]) rfl eZ rfl rfl nZ (za eC (xQ (aV (zw (es:=[(dI a1.Lo),(dI a1.Hi)]) rfl bZ rfl ?_)))))
 obtain⟨v2,h3,H⟩:=zp H
 refine zQ (u:=(oB v2)) eC Cl.fn (KP h3) (Ec eZ En) (Vc (VD.agg rfl) Vn) rfl (jF eZ (za eZ (xQ (AW.ret ?_))))
 cases H
 exact eE rfl rfl
theorem Je{a1:(List qi)}{r:Int}(H:qZ a1=some r):Fn Try.prog 170 (lent [(.sl 2 (List.map z4 a1)),(.fn 149 [])]) true [(.int .i64 r)]:=by
 refine zqO (fle rfl) ?_
 rw[zT]
 refine AW.weaken (zF [] (kv 0 (.one (.d (.sl 2 (List.map z4 a1)))) rfl rfl (SL.cons (v:=(.one (.fn 149 []))) (eS rfl eZ) rfl (VWk.one (CWk.fn (css:=[]))) SL.nil)) BL.nil BK.nil) ?_
 unfold qZ at H
 unfold zmM
 refine aV (za eC (xQ (zM (fun t2:Unit=>jI t2=some r) (fun t2=>mk [] [] noG) ?_ ?_)))
 ·intro t2 H
  unfold jI at H
  refine aV (za eC (xQ (AW.ret ?_)))
  cases H
  exact eE rfl rfl
 ·refine aV (za rfl (qE eZ (n:=a1.length) lm (za eC (xQ (AW.block (AW.iter (fun s4:Int=>mk [(0,(.one (.d (.sl 2 (List.map z4 a1))))),(1,(.one (.fn 149 []))),(7,(oI (a1.length:Int))),(8,(oI s4))] [] noG) H (zF [] (sR rfl rfl) BL.nil BK.nil) ?_))))))
  intro kb5 s4 H
  unfold qS at H
  refine aV (ZD rfl rfl (xQ (aS ?_)))
  rcases zD H with⟨h6,H⟩|⟨h6,H⟩
  ·refine zo eZ (dT h6) (AW.skip (TQ.qn (aS (AW.block (aV (za rfl (za eZ (xQ (aV (za rfl (za rfl (za rfl ?_))))))))))))
   obtain⟨v7,h8,H⟩:=zp H
   refine yS rfl eZ h8 (Qe (es:=[(dI v7.Lo),(dI v7.Hi)]) eZ rfl ?_)
   obtain⟨v9,h10,H⟩:=zp H
   refine zQ (u:=(oB v9)) rfl Cl.fn (Kg h10) (Ec eZ En) (Vc (VD.agg rfl) Vn) rfl (xQ ?_)
   rcases zD H with⟨h11,H⟩|⟨h11,H⟩
   ·refine zo eZ h11 (aV (za rfl (za eZ (xQ (AW.ret (BQ.qr (TQ.qr (TQ.qr (BQ.qr (TQ.qr ?_))))))))))
    cases H
    exact eE rfl rfl
   ·exact zn eZ (nt h11) (AW.skip (BQ.qn (TQ.qn (aR (qf rfl eC (za eZ (zb (TQ.qn ⟨(IntKind.wrap .i64 (s4+1)),H,(zF [] (sR rfl rfl) BL.nil BK.nil)⟩))))))))
  ·exact zn eZ (dF h6) (AW.exit (TQ.qe (TQ.qe (BQ.qe (TQ.qn ⟨(),H,(zF [] SL.nil BL.nil BK.nil)⟩)))))
theorem QD{a1:(List qi)}{r:Bool}(H:qg a1=some r):Fn Try.prog 148 (lent [(.sl 2 (List.map z4 a1)),(.fn 149 [])]) true [(.bool r)]:=by
 refine zqL (fle rfl) ?_
 rw[zT]
 refine AW.weaken (zF [] (kv 0 (.one (.d (.sl 2 (List.map z4 a1)))) rfl rfl (SL.cons (v:=(.one (.fn 149 []))) (eS rfl eZ) rfl (VWk.one (CWk.fn (css:=[]))) SL.nil)) BL.nil BK.nil) ?_
 unfold qg at H
 unfold zpE
 refine aV (za eC (xQ (aV (za rfl (za rfl ?_)))))
 obtain⟨v2,h3,H⟩:=zp H
 refine zQ (u:=(oI v2)) eC Cl.fn (Je h3) (Ec rfl (Ec eZ En)) (Vc Vp (Vc (VD.fn PDs.nil) Vn)) rfl (KG eZ eC (za eZ (xQ (AW.ret ?_))))
 cases H
 exact eE rfl rfl
theorem xP{a1:(List qi)}{r:Bool}(H:ZT a1=some r):Fn Try.prog 116 (lent [(.sl 2 (List.map z4 a1))]) true [(.bool r)]:=by
 refine zqp (fle rfl) ?_
 rw[zT]
 refine AW.weaken (zF [] (kv 0 (.one (.d (.sl 2 (List.map z4 a1)))) rfl rfl SL.nil) BL.nil BK.nil) ?_
 unfold ZT at H
 unfold znk
 refine aV (za eC (xQ (aV (za rfl (qE eZ (n:=a1.length) lm (za1 eZ eC (za eZ ?_)))))))
 rcases zD H with⟨h2,H⟩|⟨h2,H⟩
 ·refine gDo eZ (dT h2) (za rfl (gDo rfl (dT h2) ?_))
  obtain⟨v3,h4,H⟩:=zp H
  refine zQ (u:=(oB v3)) eC Cl.fn (QD h4) (Ec eZ (Ec eC En)) (Vc Vp (Vc (VD.fn PDs.nil) Vn)) rfl (gDo rfl (dT h2) (jF eZ (zJ rfl (dT h2) eZ (za eZ (xQ (AW.ret ?_))))))
  cases H
  exact eE rfl rfl
 ·refine ze eZ (dF h2) rfl (ze rfl (dF h2) rfl (ze rfl (dF h2) rfl (zU rfl (dF h2) eC (za eZ (xQ (AW.ret ?_))))))
  cases H
  exact eE rfl rfl
theorem zbV{a1:Int}{r:Bool}(H:JO a1=some r):Fn Try.prog 100 (lent [(.int .i64 a1)]) true [(.bool r)]:=by
 refine zqb (fle rfl) ?_
 rw[zT]
 refine AW.weaken (zF [] (kv 0 (oI a1) rfl rfl SL.nil) BL.nil BK.nil) ?_
 unfold JO at H
 unfold zpP
 refine aV (za eC (xQ (aV (za rfl ?_))))
 obtain⟨v2,h3,H⟩:=zp H
 refine zQ (u:=(oB v2)) eC Cl.fn (Zv h3) (Ec eZ (Ec eC (Ec eC En))) (Vc Vp (Vc Vp (Vc Vp Vn))) rfl (za eZ (xQ (AW.ret ?_)))
 cases H
 exact eE rfl rfl
theorem KK{a1:Int}{r:Bool}(H:Ql a1=some r):Fn Try.prog 134 (lent [(.int .i64 a1)]) true [(.bool r)]:=by
 refine zqz (fle rfl) ?_
 rw[zT]
 refine AW.weaken (zF [] (kv 0 (oI a1) rfl rfl SL.nil) BL.nil BK.nil) ?_
 unfold Ql at H
 unfold zmP
 refine aV (za eC (xQ (aV (za rfl ?_))))
 obtain⟨v2,h3,H⟩:=zp H
 refine zQ (u:=(oB v2)) eC Cl.fn (Zv h3) (Ec eZ (Ec eC (Ec eC En))) (Vc Vp (Vc Vp (Vc Vp Vn))) rfl (za eZ (xQ (AW.ret ?_)))
 cases H
 exact eE rfl rfl
theorem xH{a1:(List qj)}{r:Bool}(H:Zp a1=some r):Fn Try.prog 102 (lent [(.sl 2 (List.map zW a1))]) true [(.bool r)]:=by
 refine zp6 (fle rfl) ?_
 rw[zT]
 refine AW.weaken (zF [] (kv 0 (.one (.d (.sl 2 (List.map zW a1)))) rfl rfl SL.nil) BL.nil BK.nil) ?_
 unfold Zp at H
 unfold zpk
 refine aV (za eC (xQ (zM (fun t2:Unit=>(QT a1) t2=some r) (fun t2=>mk [(0,(.one (.d (.sl 2 (List.map zW a1)))))] [] noG) ?_ ?_)))
 ·intro t2 H
  unfold QT at H
  refine aV (za eZ (qE eZ (n:=a1.length) lm (za1 eZ eC (za eZ (xQ (AW.ret ?_))))))
  cases H
  exact eE rfl rfl
 ·refine aV (za rfl (qE eZ (n:=a1.length) lm (za eC (xQ (AW.block (AW.iter (fun s4:Int=>mk [(0,(.one (.d (.sl 2 (List.map zW a1))))),(5,(.one (.d (.sl 2 (List.map zW a1))))),(6,(oI (a1.length:Int))),(7,(oI s4))] [] noG) H (zF [] (sR rfl rfl) BL.nil BK.nil) ?_))))))
  intro kb5 s4 H
  unfold QM at H
  refine aV (ZD rfl rfl (xQ (aS ?_)))
  rcases zD H with⟨h6,H⟩|⟨h6,H⟩
  ·refine zo eZ (dT h6) (AW.skip (TQ.qn (aS (AW.block (aV (za rfl ?_))))))
   obtain⟨v7,h8,H⟩:=zp H
   refine yS rfl rfl h8 (Qe (es:=[(dI v7.Key),(dI v7.Value)]) eZ rfl (ZG (n:=256) (m:=2) rfl rfl nZ (za rfl (zv (es:=[(dI v7.Key),(dI v7.Value)]) rfl rfl rfl rfl bZ rfl (xQ (zM (fun t9:Bool=>(yg kb5 s4) t9=some r) (fun t9=>mk [(0,(.one (.d (.sl 2 (List.map zW a1))))),(5,(.one (.d (.sl 2 (List.map zW a1))))),(6,(oI (a1.length:Int))),(7,(oI s4)),(36,(oB t9))] [] noG) ?_ ?_))))))
   ·intro t9 H
    unfold yg at H
    rcases zD H with⟨h11,H⟩|⟨h11,H⟩
    ·refine zo rfl h11 (aV (za eC (xQ (AW.ret (BQ.qr (TQ.qr (TQ.qr (BQ.qr (TQ.qr ?_)))))))))
     cases H
     exact eE rfl rfl
    ·exact zn rfl (nt h11) (AW.skip (BQ.qn (TQ.qn (aR (qf rfl eC (za eZ (zb (TQ.qn ⟨(IntKind.wrap .i64 (s4+1)),H,(zF [] (sR rfl rfl) BL.nil BK.nil)⟩))))))))
   ·refine AW.regd (zl (m:=0) rfl rfl (zu (q:=0) (c:=(dI v7.Key)) eZ bZ rfl rfl ?_))
    obtain⟨v12,h13,H⟩:=zp H
    refine zQ (u:=(oB v12)) eC Cl.fn (zbV h13) (Ec eZ En) (Vc Vp Vn) rfl (jF eZ (za eZ ?_))
    rcases zD H with⟨h14,H⟩|⟨h14,H⟩
    ·refine gDo eZ (cN h14) (zl (m:=1) rfl rfl (gDo rfl (cN h14) (zu (q:=1) (c:=(dI v7.Value)) eZ bZ rfl rfl (gDo rfl (cN h14) ?_))))
     obtain⟨v15,h16,H⟩:=zp H
     refine zQ (u:=(oB v15)) eC Cl.fn (KK h16) (Ec eZ En) (Vc Vp Vn) rfl (gDo rfl (cN h14) (jF eZ (zU rfl (cN h14) eZ (za eZ ?_))))
     rcases zD H with⟨h17,H⟩|⟨h17,H⟩
     ·refine gDo eZ (cN h17) (za rfl (gDo rfl (cN h17) (Yt eZ eC (gDo rfl (cN h17) (za eZ ?_)))))
      rcases zD H with⟨h18,H⟩|⟨h18,H⟩
      ·refine gDo eZ (dT h18) (za rfl (gDo rfl (dT h18) (za rfl (gDo rfl (dT h18) (Yn eZ eC (gDo rfl (dT h18) ?_))))))
       obtain⟨v19,h20,H⟩:=zp H
       exact yS rfl eZ h20 (gDo rfl (dT h18) (jr (m:=0) eZ rfl (gDo rfl (dT h18) (qW (e:=(.int .i64 v19.Key)) eZ rfl (gDo rfl (dT h18) (zl (m:=0) rfl rfl (gDo rfl (dT h18) (zu (q:=0) (c:=(dI v7.Key)) eZ bZ rfl rfl (gDo rfl (dT h18) (KG rfl eZ (gDo rfl (cN h17) (zJ rfl (dT h18) eZ (zU rfl (cN h17) eZ (zb (TQ.qn ⟨(decide (v7.Key≤v19.Key)),H,(zF [256] (sR rfl rfl) (blR rfl) BK.nil)⟩)))))))))))))))
      ·exact ze eZ (dF h18) rfl (ze rfl (dF h18) rfl (ze rfl (dF h18) rfl (ze rfl (dF h18) rfl (ze rfl (dF h18) rfl (ze rfl (dF h18) rfl (ze rfl (dF h18) rfl (ze rfl (dF h18) rfl (ze rfl (dF h18) rfl (gDo rfl (cN h17) (zU rfl (dF h18) eC (zU rfl (cN h17) eZ (zb (TQ.qn ⟨false,H,(zF [256] (sR rfl rfl) (blR rfl) BK.nil)⟩)))))))))))))
     ·exact ze eZ (cN (nt h17)) rfl (ze rfl (cN (nt h17)) rfl (ze rfl (cN (nt h17)) rfl (z7 eZ rfl (z7 rfl rfl (z7 rfl rfl (z7 rfl rfl (z7 rfl rfl (z7 rfl rfl (z7 rfl rfl (z7 rfl rfl (z7 rfl rfl (ze rfl (cN (nt h17)) rfl (zJ rfl (cN (nt h17)) eC (zb (TQ.qn ⟨true,H,(zF [256] (sR rfl rfl) (blR rfl) BK.nil)⟩)))))))))))))))
    ·exact ze eZ (cN (nt h14)) rfl (ze rfl (cN (nt h14)) rfl (ze rfl (cN (nt h14)) rfl (ze rfl (cN (nt h14)) rfl (zJ rfl (cN (nt h14)) eC (za eZ (ze eZ rfl rfl (ze rfl rfl rfl (ze rfl rfl rfl (z7 eZ rfl (z7 rfl rfl (z7 rfl rfl (z7 rfl rfl (z7 rfl rfl (z7 rfl rfl (z7 rfl rfl (z7 rfl rfl (z7 rfl rfl (ze rfl rfl rfl (zJ rfl rfl eC (zb (TQ.qn ⟨true,H,(zF [256] (sR rfl rfl) (blR rfl) BK.nil)⟩)))))))))))))))))))))
  ·exact zn eZ (dF h6) (AW.exit (TQ.qe (TQ.qe (BQ.qe (TQ.qn ⟨(),H,(zF [] (sR rfl rfl) BL.nil BK.nil)⟩)))))
theorem xI{a1:(List zf)}{r:Bool}(H:Zt a1=some r):Fn Try.prog 78 (lent [(.sl 4 (List.map zg a1))]) true [(.bool r)]:=by
 refine f78 (fle rfl) ?_
 rw[zT]
 refine AW.weaken (t:=mk [(0,(.one (.d (.sl 4 (List.map zg a1)))))] [] (lk [])) (zF [] (sR rfl rfl) BL.nil BK.nil) ?_
 unfold Zt at H
 unfold i78
 refine aV (za eC (xQ (zM (fun t2:Unit=>(QP a1) t2=some r) (fun t2=>mk [(0,(.one (.d (.sl 4 (List.map zg a1)))))] [] (lk [])) ?_ ?_)))
 ·intro t2 H
  unfold QP at H
  refine aV (za eZ (qE eZ (n:=a1.length) lm (za1 eZ eC (za eZ (xQ (AW.ret ?_))))))
  cases H
  exact eE rfl rfl
 ·refine aV (za rfl (qE eZ (n:=a1.length) lm (za eC (xQ (AW.block (AW.iter (fun s4:Int=>mk [(0,(.one (.d (.sl 4 (List.map zg a1))))),(5,(.one (.d (.sl 4 (List.map zg a1))))),(6,(oI (a1.length:Int))),(7,(oI s4))] [] (lk [])) H (zk [] (sR rfl rfl) BL.nil BK.nil GK.nil) ?_))))))
  intro kb5 s4 H
  unfold QW at H
  refine aV (ZD rfl rfl (xQ (aS ?_)))
  rcases zD H with⟨h6,H⟩|⟨h6,H⟩
  ·refine zo eZ (dT h6) (AW.skip (TQ.qn (aS (AW.block (aS (zt (zd (za rfl (zb (zd ?_))))))))))
   obtain⟨v7,h8,H⟩:=zp H
   refine yS rfl rfl h8 (zb (zd (Qe (es:=(yC v7)) eZ rfl (zb (zd (ZG (n:=256) (m:=4) rfl rfl nZ (zb (zd (za rfl (zb (zd (zv (es:=(yC v7)) rfl rfl rfl rfl bZ rfl (zb (zy (xQ (zM (fun t9:Bool=>(qV kb5 s4) t9=some r) (fun t9=>mk [(0,(.one (.d (.sl 4 (List.map zg a1))))),(5,(.one (.d (.sl 4 (List.map zg a1))))),(6,(oI (a1.length:Int))),(7,(oI s4)),(48,(oB t9))] [] (lk [])) ?_ ?_))))))))))))))))
   ·intro t9 H
    unfold qV at H
    rcases zD H with⟨h11,H⟩|⟨h11,H⟩
    ·refine zo rfl h11 (aV (za eC (xQ (AW.ret (BQ.qr (TQ.qr (TQ.qr (BQ.qr (TQ.qr ?_)))))))))
     cases H
     exact eE rfl rfl
    ·exact zn rfl (nt h11) (AW.skip (BQ.qn (TQ.qn (aR (qf rfl eC (za eZ (zb (TQ.qn ⟨(IntKind.wrap .i64 (s4+1)),H,(zk [] (sR rfl rfl) BL.nil BK.nil GK.nil)⟩))))))))
   ·refine AW.regd (zl (m:=0) rfl rfl (zu (q:=0) (c:=(dI v7.Group)) eZ bZ rfl rfl ?_))
    obtain⟨v12,h13,H⟩:=zp H
    refine zQ (u:=(oB v12)) eC Cl.fn (zaC h13) (Ec eZ En) (Vc Vp Vn) rfl (jF eZ (za eZ ?_))
    rcases zD H with⟨h14,H⟩|⟨h14,H⟩
    ·refine gDo eZ (cN h14) (za rfl (gDo rfl (cN h14) (Yt eZ eC (gDo rfl (cN h14) (za eZ ?_)))))
     rcases zD H with⟨h15,H⟩|⟨h15,H⟩
     ·refine gDo eZ (dT h15) (za rfl (gDo rfl (dT h15) (za rfl (gDo rfl (dT h15) (Yn eZ eC (gDo rfl (dT h15) ?_))))))
      obtain⟨v16,h17,H⟩:=zp H
      refine yS rfl eZ h17 (gDo rfl (dT h15) (jr (m:=0) eZ rfl (gDo rfl (dT h15) (qW (e:=(.int .i64 v16.Group)) eZ rfl (gDo rfl (dT h15) (zl (m:=0) rfl rfl (gDo rfl (dT h15) (zu (q:=0) (c:=(dI v7.Group)) eZ bZ rfl rfl (gDo rfl (dT h15) (KG rfl eZ (gDo rfl (cN h14) (zJ rfl (dT h15) eZ (zU rfl (cN h14) eZ (za eZ ?_))))))))))))))
      rcases zD H with⟨h18,H⟩|⟨h18,H⟩
      ·exact ze eZ (dT h18) rfl (ze rfl (dT h18) rfl (ze rfl (dT h18) rfl (ze rfl (dT h18) rfl (zJ rfl (dT h18) eC (za eZ (ze eZ rfl rfl (ze rfl rfl rfl (ze rfl rfl rfl (ze rfl rfl rfl (zJ rfl rfl eC (za eZ (ze eZ rfl rfl (ze rfl rfl rfl (ze rfl rfl rfl (ze rfl rfl rfl (zJ rfl rfl eC (zb (TQ.qn ⟨true,H,(zk [256] (sR rfl rfl) (blR rfl) BK.nil GK.nil)⟩))))))))))))))))))
      ·refine gDo eZ (dF h18) (zl (m:=1) rfl rfl (gDo rfl (dF h18) (zu (q:=1) (c:=(.d (.sl 2 (List.map z4 v7.Reads)))) eZ bZ rfl rfl (gDo rfl (dF h18) ?_))))
       obtain⟨v19,h20,H⟩:=zp H
       refine zQ (u:=(oB v19)) eC Cl.fn (xP h20) (Ec eZ En) (Vc Vp Vn) rfl (gDo rfl (dF h18) (jF eZ (zU rfl (dF h18) eZ (za eZ ?_))))
       rcases zD H with⟨h21,H⟩|⟨h21,H⟩
       ·refine gDo eZ (cN h21) (zl (m:=2) rfl rfl (gDo rfl (cN h21) (zu (q:=2) (c:=(.d (.sl 2 (List.map zW v7.Writes)))) eZ bZ rfl rfl (gDo rfl (cN h21) ?_))))
        obtain⟨v22,h23,H⟩:=zp H
        refine zQ (u:=(oB v22)) eC Cl.fn (xH h23) (Ec eZ En) (Vc Vp Vn) rfl (gDo rfl (cN h21) (jF eZ (zU rfl (cN h21) eZ (za eZ ?_))))
        rcases zD H with⟨h24,H⟩|⟨h24,H⟩
        ·refine gDo eZ (cN h24) (zl (m:=3) rfl rfl (gDo rfl (cN h24) (zu (q:=3) (c:=(dI v7.Vote)) eZ bZ rfl rfl (gDo rfl (cN h24) ?_))))
         obtain⟨v25,h26,H⟩:=zp H
         exact zQ (u:=(oB v25)) eC Cl.fn (Zv h26) (Ec eZ (Ec eC (Ec eC En))) (Vc Vp (Vc Vp (Vc Vp Vn))) rfl (gDo rfl (cN h24) (jF eZ (zU rfl (cN h24) eZ (zb (TQ.qn ⟨(!v25),H,(zk [256] (sR rfl rfl) (blR rfl) BK.nil GK.nil)⟩)))))
        ·exact ze eZ (cN (nt h24)) rfl (ze rfl (cN (nt h24)) rfl (ze rfl (cN (nt h24)) rfl (ze rfl (cN (nt h24)) rfl (zJ rfl (cN (nt h24)) eC (zb (TQ.qn ⟨true,H,(zk [256] (sR rfl rfl) (blR rfl) BK.nil GK.nil)⟩))))))
       ·exact ze eZ (cN (nt h21)) rfl (ze rfl (cN (nt h21)) rfl (ze rfl (cN (nt h21)) rfl (ze rfl (cN (nt h21)) rfl (zJ rfl (cN (nt h21)) eC (za eZ (ze eZ rfl rfl (ze rfl rfl rfl (ze rfl rfl rfl (ze rfl rfl rfl (zJ rfl rfl eC (zb (TQ.qn ⟨true,H,(zk [256] (sR rfl rfl) (blR rfl) BK.nil GK.nil)⟩))))))))))))
     ·refine ze eZ (dF h15) rfl (ze rfl (dF h15) rfl (ze rfl (dF h15) rfl (ze rfl (dF h15) rfl (ze rfl (dF h15) rfl (ze rfl (dF h15) rfl (ze rfl (dF h15) rfl (ze rfl (dF h15) rfl (ze rfl (dF h15) rfl (gDo rfl (cN h14) (zU rfl (dF h15) eC (zU rfl (cN h14) eZ (za eZ (gDo eZ rfl (zl (m:=1) rfl rfl (gDo rfl rfl (zu (q:=1) (c:=(.d (.sl 2 (List.map z4 v7.Reads)))) eZ bZ rfl rfl (gDo rfl rfl ?_)))))))))))))))))
      obtain⟨v27,h28,H⟩:=zp H
      refine zQ (u:=(oB v27)) eC Cl.fn (xP h28) (Ec eZ En) (Vc Vp Vn) rfl (gDo rfl rfl (jF eZ (zU rfl rfl eZ (za eZ ?_))))
      rcases zD H with⟨h29,H⟩|⟨h29,H⟩
      ·refine gDo eZ (cN h29) (zl (m:=2) rfl rfl (gDo rfl (cN h29) (zu (q:=2) (c:=(.d (.sl 2 (List.map zW v7.Writes)))) eZ bZ rfl rfl (gDo rfl (cN h29) ?_))))
       obtain⟨v30,h31,H⟩:=zp H
       refine zQ (u:=(oB v30)) eC Cl.fn (xH h31) (Ec eZ En) (Vc Vp Vn) rfl (gDo rfl (cN h29) (jF eZ (zU rfl (cN h29) eZ (za eZ ?_))))
       rcases zD H with⟨h32,H⟩|⟨h32,H⟩
       ·refine gDo eZ (cN h32) (zl (m:=3) rfl rfl (gDo rfl (cN h32) (zu (q:=3) (c:=(dI v7.Vote)) eZ bZ rfl rfl (gDo rfl (cN h32) ?_))))
        obtain⟨v33,h34,H⟩:=zp H
        exact zQ (u:=(oB v33)) eC Cl.fn (Zv h34) (Ec eZ (Ec eC (Ec eC En))) (Vc Vp (Vc Vp (Vc Vp Vn))) rfl (gDo rfl (cN h32) (jF eZ (zU rfl (cN h32) eZ (zb (TQ.qn ⟨(!v33),H,(zk [256] (sR rfl rfl) (blR rfl) BK.nil GK.nil)⟩)))))
       ·exact ze eZ (cN (nt h32)) rfl (ze rfl (cN (nt h32)) rfl (ze rfl (cN (nt h32)) rfl (ze rfl (cN (nt h32)) rfl (zJ rfl (cN (nt h32)) eC (zb (TQ.qn ⟨true,H,(zk [256] (sR rfl rfl) (blR rfl) BK.nil GK.nil)⟩))))))
      ·exact ze eZ (cN (nt h29)) rfl (ze rfl (cN (nt h29)) rfl (ze rfl (cN (nt h29)) rfl (ze rfl (cN (nt h29)) rfl (zJ rfl (cN (nt h29)) eC (za eZ (ze eZ rfl rfl (ze rfl rfl rfl (ze rfl rfl rfl (ze rfl rfl rfl (zJ rfl rfl eC (zb (TQ.qn ⟨true,H,(zk [256] (sR rfl rfl) (blR rfl) BK.nil GK.nil)⟩))))))))))))
    ·exact ze eZ (cN (nt h14)) rfl (ze rfl (cN (nt h14)) rfl (ze rfl (cN (nt h14)) rfl (z7 eZ rfl (z7 rfl rfl (z7 rfl rfl (z7 rfl rfl (z7 rfl rfl (z7 rfl rfl (z7 rfl rfl (z7 rfl rfl (z7 rfl rfl (ze rfl (cN (nt h14)) rfl (zJ rfl (cN (nt h14)) eC (za eZ (ze eZ rfl rfl (ze rfl rfl rfl (ze rfl rfl rfl (ze rfl rfl rfl (zJ rfl rfl eC (za eZ (ze eZ rfl rfl (ze rfl rfl rfl (ze rfl rfl rfl (ze rfl rfl rfl (zJ rfl rfl eC (za eZ (ze eZ rfl rfl (ze rfl rfl rfl (ze rfl rfl rfl (ze rfl rfl rfl (zJ rfl rfl eC (zb (TQ.qn ⟨true,H,(zk [256] (sR rfl rfl) (blR rfl) BK.nil GK.nil)⟩)))))))))))))))))))))))))))))))))
  ·exact zn eZ (dF h6) (AW.exit (TQ.qe (TQ.qe (BQ.qe (TQ.qn ⟨(),H,(zk [] (sR rfl rfl) BL.nil BK.nil GK.nil)⟩)))))
theorem zad{a1:zf}{a2:Int}{r:Bool}(H:JI a1 a2=some r):Fn Try.prog 118 (lent [(.agg (zg a1)),(.ptr (zr a2))]) true [(.bool r)]:=by
 refine zqy (fle rfl) ?_
 rw[zT]
 refine AW.weaken (zF [] (kv 0 (.agg (yC a1)) rfl rfl (SL.cons (v:=(.one (.ptr (.bd (zr a2) 0)))) (eS rfl eZ) rfl (VWk.one CWk.ptr) SL.nil)) BL.nil BK.nil) ?_
 unfold JI at H
 unfold zk3
 refine aV (Q8 (n:=128) (m:=4) (cs:=(yC a1)) rfl eZ rfl rfl nZ (za eC (xQ (aV (zl (m:=3) rfl rfl (zu (q:=3) (c:=(dI a1.Vote)) eZ bZ rfl rfl (qW (e:=(.int .i64 a2)) rfl rfl (jZ rfl eZ (za eZ (xQ (AW.ret ?_)))))))))))
 cases H
 exact eE rfl rfl
theorem JC{a1:(List zf)}{a2:Int}{r:Int}(H:jk a1 a2=some r):Fn Try.prog 84 (lent [(.sl 4 (List.map zg a1)),(.fn 118 [.ptr (zr a2)])]) true [(.int .i64 r)]:=by
 refine f84 (fle rfl) ?_
 rw[zT]
 refine AW.weaken (zF [] (kv 0 (.one (.d (.sl 4 (List.map zg a1)))) rfl rfl (SL.cons (v:=(.one (.fn 118 [(.bd (zr a2) 0)]))) (eS rfl eZ) rfl (VWk.one (CWk.fn (css:=[zr a2]))) SL.nil)) BL.nil BK.nil) ?_
 unfold jk at H
 unfold i84
 refine aV (za eC (xQ (zM (fun t3:Unit=>jT t3=some r) (fun t3=>mk [] [] noG) ?_ ?_)))
 ·intro t3 H
  unfold jT at H
  refine aV (za eC (xQ (AW.ret ?_)))
  cases H
  exact eE rfl rfl
 ·refine aV (za rfl (qE eZ (n:=a1.length) lm (za eC (xQ (AW.block (AW.iter (fun s5:Int=>mk [(0,(.one (.d (.sl 4 (List.map zg a1))))),(1,(.one (.fn 118 [(.bd (zr a2) 0)]))),(7,(oI (a1.length:Int))),(8,(oI s5))] [] noG) H (zF [] (sR rfl rfl) BL.nil BK.nil) ?_))))))
  intro kb6 s5 H
  unfold jc at H
  refine aV (ZD rfl rfl (xQ (aS ?_)))
  rcases zD H with⟨h7,H⟩|⟨h7,H⟩
  ·refine zo eZ (dT h7) (AW.skip (TQ.qn (aS (AW.block (aV (za rfl (za eZ (xQ (aV (za rfl (za rfl (za rfl ?_))))))))))))
   obtain⟨v8,h9,H⟩:=zp H
   refine yS rfl eZ h9 (Qe (es:=(yC v8)) eZ rfl ?_)
   obtain⟨v10,h11,H⟩:=zp H
   refine zQ (u:=(oB v10)) rfl Cl.fn (zad h11) (Ec eZ En) (Vc (VD.agg rfl) (Vc xD Vn)) rfl (xQ ?_)
   rcases zD H with⟨h12,H⟩|⟨h12,H⟩
   ·refine zo eZ h12 (aV (za rfl (za eZ (xQ (AW.ret (BQ.qr (TQ.qr (TQ.qr (BQ.qr (TQ.qr ?_))))))))))
    cases H
    exact eE rfl rfl
   ·exact zn eZ (nt h12) (AW.skip (BQ.qn (TQ.qn (aR (qf rfl eC (za eZ (zb (TQ.qn ⟨(IntKind.wrap .i64 (s5+1)),H,(zF [] (sR rfl rfl) BL.nil BK.nil)⟩))))))))
  ·exact zn eZ (dF h7) (AW.exit (TQ.qe (TQ.qe (BQ.qe (TQ.qn ⟨(),H,(zF [] SL.nil BL.nil BK.nil)⟩)))))
theorem Q6{a1:(List zf)}{a2:Int}{r:Bool}(H:qT a1 a2=some r):Fn Try.prog 117 (lent [(.sl 4 (List.map zg a1)),(.fn 118 [.ptr (zr a2)])]) true [(.bool r)]:=by
 refine zqn (fle rfl) ?_
 rw[zT]
 refine AW.weaken (zF [] (kv 0 (.one (.d (.sl 4 (List.map zg a1)))) rfl rfl (SL.cons (v:=(.one (.fn 118 [(.bd (zr a2) 0)]))) (eS rfl eZ) rfl (VWk.one (CWk.fn (css:=[zr a2]))) SL.nil)) BL.nil BK.nil) ?_
 unfold qT at H
 unfold znb
 refine aV (za eC (xQ (aV (za rfl (za rfl ?_)))))
 obtain⟨v3,h4,H⟩:=zp H
 refine zQ (u:=(oI v3)) eC Cl.fn (JC h4) (Ec rfl (Ec eZ En)) (Vc Vp (Vc (VD.fn (PDs.cons xD PDs.nil)) Vn)) rfl (KG eZ eC (za eZ (xQ (AW.ret ?_))))
 cases H
 exact eE rfl rfl
theorem Z9{a1:(List zf)}{a2:Int}{r:Bool}(H:j6 a1 a2=some r):Fn Try.prog 79 (lent [(.sl 4 (List.map zg a1)),(.int .i64 a2)]) true [(.bool r)]:=by
 refine f79 (fle rfl) ?_
 rw[zT]
 refine AW.weaken (zF [] (kv 0 (.one (.d (.sl 4 (List.map zg a1)))) rfl rfl (kv 1 (oI a2) rfl rfl SL.nil)) BL.nil BK.nil) ?_
 unfold j6 at H
 unfold i79
 refine aV (Q8 (n:=192) (m:=1) (cs:=[(dI a2)]) rfl rfl rfl rfl nZ (za eC (xQ (aV (za rfl (zd4 (ps:=[(.nm 192 0 0)]) (Ec rfl En) ?_))))))
 obtain⟨v3,h4,H⟩:=zp H
 refine zQ (u:=(oB v3)) eC Cl.fn (Q6 h4) (Ec rfl (Ec eZ En)) (Vc Vp (Vc (VD.fn (PDs.cons (XW bZ (CDs.plain CDs.nil)) PDs.nil)) Vn)) rfl (za eZ (xQ (AW.ret ?_)))
 cases H
 exact eE rfl rfl
theorem zb4{a1:zi}{r:Bool}(H:JS a1=some r):Fn Try.prog 73 (lent [(.agg (zh a1))]) true [(.bool r)]:=by
 refine f73 (fle rfl) ?_
 rw[zT]
 refine AW.weaken (zF [] (kv 0 (.agg (y6 a1)) rfl rfl SL.nil) BL.nil BK.nil) ?_
 unfold JS at H
 unfold i73
 refine aV (Q8 (n:=64) (m:=5) (cs:=(y6 a1)) rfl eZ rfl rfl nZ (za eC (xQ (aS (zM (fun t2:Bool=>(Qo a1) t2=some r) (fun t2=>mk [(1,(.one (.ptr (.nm 64 0 0)))),(18,(oB t2))] [(64,(.vars 5 (y6 a1)))] noG) ?_ ?_)))))
 ·intro t2 H
  unfold Qo at H
  rcases zD H with⟨h4,H⟩|⟨h4,H⟩
  ·refine zo rfl h4 (aV (za eC (xQ (AW.ret (TQ.qr ?_)))))
   cases H
   exact eE rfl rfl
  ·refine zn rfl (nt h4) (AW.skip (TQ.qn (aS (aV (zl (m:=3) eZ rfl (zu (q:=3) (c:=(dI a1.State)) eZ bZ rfl rfl (xQ (AW.block (aV (jZ eZ eC (za eZ (xQ ?_))))))))))))
   rcases zD H with⟨h5,H⟩|⟨h5,H⟩
   ·refine zo eZ (dT h5) (aV (zl (m:=4) rfl rfl (zu (q:=4) (c:=(.d (.sl 4 (List.map zg a1.Shares)))) eZ bZ rfl rfl (qE eZ (n:=a1.Shares.length) lm (jZ eZ eC (za eZ (xQ (AW.ret (BQ.qr (TQ.qr ?_))))))))))
    cases H
    exact eE rfl rfl
   ·refine zn eZ (dF h5) (aV (jZ rfl eC (za eZ (xQ ?_))))
    rcases zD H with⟨h6,H⟩|⟨h6,H⟩
    ·refine zo eZ (dT h6) (aV (zl (m:=4) rfl rfl (zu (q:=4) (c:=(.d (.sl 4 (List.map zg a1.Shares)))) eZ bZ rfl rfl ?_)))
     obtain⟨v7,h8,H⟩:=zp H
     refine zQ (u:=(oB v7)) eC Cl.fn (Z9 h8) (Ec eZ (Ec eC En)) (Vc Vp (Vc Vp Vn)) rfl (za eZ ?_)
     rcases zD H with⟨h9,H⟩|⟨h9,H⟩
     ·refine gDo eZ h9 (zl (m:=4) rfl rfl (gDo rfl h9 (zu (q:=4) (c:=(.d (.sl 4 (List.map zg a1.Shares)))) eZ bZ rfl rfl (gDo rfl h9 ?_))))
      obtain⟨v10,h11,H⟩:=zp H
      refine zQ (u:=(oB v10)) eC Cl.fn (Z9 h11) (Ec eZ (Ec eC En)) (Vc Vp (Vc Vp Vn)) rfl (gDo rfl h9 (jF eZ (zJ rfl h9 eZ (za eZ (xQ (AW.weaken (zF [64] (kr 2 rfl rfl SL.nil) (blR rfl) BK.nil) (AW.ret (BQ.qr (TQ.qr ?_)))))))))
      cases H
      exact eE rfl rfl
     ·refine ze eZ (nt h9) rfl (ze rfl (nt h9) rfl (ze rfl (nt h9) rfl (ze rfl (nt h9) rfl (zU rfl (nt h9) eC (za eZ (xQ (AW.weaken (zF [64] (kr 2 rfl rfl SL.nil) (blR rfl) BK.nil) (AW.ret (BQ.qr (TQ.qr ?_))))))))))
      cases H
      exact eE rfl rfl
    ·refine zn eZ (dF h6) (aV (jZ rfl eC (za eZ (xQ ?_))))
     rcases zD H with⟨h12,H⟩|⟨h12,H⟩
     ·refine zo eZ (dT h12) (aV (zl (m:=4) rfl rfl (zu (q:=4) (c:=(.d (.sl 4 (List.map zg a1.Shares)))) eZ bZ rfl rfl ?_)))
      obtain⟨v13,h14,H⟩:=zp H
      refine zQ (u:=(oB v13)) eC Cl.fn (Z9 h14) (Ec eZ (Ec eC En)) (Vc Vp (Vc Vp Vn)) rfl (jF eZ (za eZ ?_))
      rcases zD H with⟨h15,H⟩|⟨h15,H⟩
      ·refine ze eZ (cN h15) rfl (ze rfl (cN h15) rfl (ze rfl (cN h15) rfl (ze rfl (cN h15) rfl (zU rfl (cN h15) eC (za eZ (xQ (AW.weaken (zF [64] (kr 2 rfl rfl SL.nil) (blR rfl) BK.nil) (AW.ret (BQ.qr (TQ.qr ?_))))))))))
       cases H
       exact eE rfl rfl
      ·refine gDo eZ (cN (nt h15)) (zl (m:=4) rfl rfl (gDo rfl (cN (nt h15)) (zu (q:=4) (c:=(.d (.sl 4 (List.map zg a1.Shares)))) eZ bZ rfl rfl (gDo rfl (cN (nt h15)) ?_))))
       obtain⟨v16,h17,H⟩:=zp H
       refine zQ (u:=(oB v16)) eC Cl.fn (Z9 h17) (Ec eZ (Ec eC En)) (Vc Vp (Vc Vp Vn)) rfl (gDo rfl (cN (nt h15)) (jF eZ (zJ rfl (cN (nt h15)) eZ (za eZ (xQ (AW.weaken (zF [64] (kr 2 rfl rfl SL.nil) (blR rfl) BK.nil) (AW.ret (BQ.qr (TQ.qr ?_)))))))))
       cases H
       exact eE rfl rfl
     ·refine zn eZ (dF h12) (AW.skip (BQ.qn (TQ.qn (aV (zl (m:=3) rfl rfl (zu (q:=3) (c:=(dI a1.State)) eZ bZ rfl rfl (jZ eZ eC (za eZ (xQ (AW.ret ?_))))))))))
      cases H
      exact eE rfl rfl
 ·refine aR (zl (m:=1) rfl rfl (zu (q:=1) (c:=(dI a1.Client)) eZ bZ rfl rfl ?_))
  obtain⟨v18,h19,H⟩:=zp H
  refine zQ (u:=(oB v18)) eC Cl.fn (kt h19) (Ec eZ En) (Vc Vp Vn) rfl (jF eZ (za eZ ?_))
  rcases zD H with⟨h20,H⟩|⟨h20,H⟩
  ·refine gDo eZ (cN h20) (zl (m:=2) rfl rfl (gDo rfl (cN h20) (zu (q:=2) (c:=(dI a1.Req)) eZ bZ rfl rfl (gDo rfl (cN h20) ?_))))
   obtain⟨v21,h22,H⟩:=zp H
   refine zQ (u:=(oB v21)) eC Cl.fn (XM h22) (Ec eZ En) (Vc Vp Vn) rfl (gDo rfl (cN h20) (jF eZ (zU rfl (cN h20) eZ (za eZ ?_))))
   rcases zD H with⟨h23,H⟩|⟨h23,H⟩
   ·refine gDo eZ (cN h23) (zl (m:=4) rfl rfl (gDo rfl (cN h23) (zu (q:=4) (c:=(.d (.sl 4 (List.map zg a1.Shares)))) eZ bZ rfl rfl (gDo rfl (cN h23) ?_))))
    obtain⟨v24,h25,H⟩:=zp H
    exact zQ (u:=(oB v24)) eC Cl.fn (xI h25) (Ec eZ En) (Vc Vp Vn) rfl (gDo rfl (cN h23) (jF eZ (zU rfl (cN h23) eZ (zb (TQ.qn ⟨(!v24),H,(zF [] (sR rfl rfl) (blR rfl) (bkR rfl rfl rfl))⟩)))))
   ·exact ze eZ (cN (nt h23)) rfl (ze rfl (cN (nt h23)) rfl (ze rfl (cN (nt h23)) rfl (ze rfl (cN (nt h23)) rfl (zJ rfl (cN (nt h23)) eC (zb (TQ.qn ⟨true,H,(zF [] (sR rfl rfl) (blR rfl) (bkR rfl rfl rfl))⟩))))))
  ·exact ze eZ (cN (nt h20)) rfl (ze rfl (cN (nt h20)) rfl (ze rfl (cN (nt h20)) rfl (ze rfl (cN (nt h20)) rfl (zJ rfl (cN (nt h20)) eC (za eZ (ze eZ rfl rfl (ze rfl rfl rfl (ze rfl rfl rfl (ze rfl rfl rfl (zJ rfl rfl eC (zb (TQ.qn ⟨true,H,(zF [] (sR rfl rfl) (blR rfl) (bkR rfl rfl rfl))⟩))))))))))))
theorem XY{a1:zi}{a2:zi}{r:Bool}(H:QU a1 a2=some r):Fn Try.prog 75 (lent [(.agg (zh a1)),(.ptr (zh a2))]) true [(.bool r)]:=by
 refine f75 (fle rfl) ?_
 rw[zT]
 refine AW.weaken (zF [] (kv 0 (.agg (y6 a1)) rfl rfl (SL.cons (v:=(.one (.ptr (.bd (zh a2) 0)))) (eS rfl eZ) rfl (VWk.one CWk.ptr) SL.nil)) BL.nil BK.nil) ?_
 unfold QU at H
 unfold i75
 refine aV (Q8 (n:=128) (m:=5) (cs:=(y6 a1)) rfl eZ rfl rfl nZ (za eC (xQ (aV (zl (m:=1) rfl rfl (zu (q:=1) (c:=(dI a1.Client)) eZ bZ rfl rfl (jr (m:=1) rfl rfl (qW (e:=(.int .i64 a2.Client)) eZ rfl (jZ rfl eZ (za eZ ?_))))))))))
 rcases zD H with⟨h3,H⟩|⟨h3,H⟩
 ·refine gDo eZ (dT h3) (zl (m:=2) rfl rfl (gDo rfl (dT h3) (zu (q:=2) (c:=(dI a1.Req)) eZ bZ rfl rfl (gDo rfl (dT h3) (jr (m:=2) rfl rfl (gDo rfl (dT h3) (qW (e:=(.int .i64 a2.Req)) eZ rfl (gDo rfl (dT h3) (jZ rfl eZ (zJ rfl (dT h3) eZ (za eZ (xQ (AW.weaken (zF [128] (kr 3 rfl rfl SL.nil) (blR rfl) BK.nil) (AW.ret ?_))))))))))))))
  cases H
  exact eE rfl rfl
 ·refine ze eZ (dF h3) rfl (ze rfl (dF h3) rfl (ze rfl (dF h3) rfl (ze rfl (dF h3) rfl (ze rfl (dF h3) rfl (zU rfl (dF h3) eC (za eZ (xQ (AW.weaken (zF [128] (kr 3 rfl rfl SL.nil) (blR rfl) BK.nil) (AW.ret ?_)))))))))
  cases H
  exact eE rfl rfl
theorem JE{a1:(List zi)}{a2:zi}{r:Int}(H:jl a1 a2=some r):Fn Try.prog 67 (lent [(.sl 5 (List.map zh a1)),(.fn 75 [.ptr (zh a2)])]) true [(.int .i64 r)]:=by
 refine f67 (fle rfl) ?_
 rw[zT]
 refine AW.weaken (zF [] (kv 0 (.one (.d (.sl 5 (List.map zh a1)))) rfl rfl (SL.cons (v:=(.one (.fn 75 [(.bd (zh a2) 0)]))) (eS rfl eZ) rfl (VWk.one (CWk.fn (css:=[zh a2]))) SL.nil)) BL.nil BK.nil) ?_
 unfold jl at H
 unfold i67
 refine aV (za eC (xQ (zM (fun t3:Unit=>jR t3=some r) (fun t3=>mk [] [] noG) ?_ ?_)))
 ·intro t3 H
  unfold jR at H
  refine aV (za eC (xQ (AW.ret ?_)))
  cases H
  exact eE rfl rfl
 ·refine aV (za rfl (qE eZ (n:=a1.length) lm (za eC (xQ (AW.block (AW.iter (fun s5:Int=>mk [(0,(.one (.d (.sl 5 (List.map zh a1))))),(1,(.one (.fn 75 [(.bd (zh a2) 0)]))),(7,(oI (a1.length:Int))),(8,(oI s5))] [] noG) H (zF [] (sR rfl rfl) BL.nil BK.nil) ?_))))))
  intro kb6 s5 H
  unfold jd at H
  refine aV (ZD rfl rfl (xQ (aS ?_)))
  rcases zD H with⟨h7,H⟩|⟨h7,H⟩
  ·refine zo eZ (dT h7) (AW.skip (TQ.qn (aS (AW.block (aV (za rfl (za eZ (xQ (aV (za rfl (za rfl (za rfl ?_))))))))))))
   obtain⟨v8,h9,H⟩:=zp H
   refine yS rfl eZ h9 (Qe (es:=(y6 v8)) eZ rfl ?_)
   obtain⟨v10,h11,H⟩:=zp H
   refine zQ (u:=(oB v10)) rfl Cl.fn (XY h11) (Ec eZ En) (Vc (VD.agg rfl) (Vc xD Vn)) rfl (xQ ?_)
   rcases zD H with⟨h12,H⟩|⟨h12,H⟩
   ·refine zo eZ h12 (aV (za rfl (za eZ (xQ (AW.ret (BQ.qr (TQ.qr (TQ.qr (BQ.qr (TQ.qr ?_))))))))))
    cases H
    exact eE rfl rfl
   ·exact zn eZ (nt h12) (AW.skip (BQ.qn (TQ.qn (aR (qf rfl eC (za eZ (zb (TQ.qn ⟨(IntKind.wrap .i64 (s5+1)),H,(zF [] (sR rfl rfl) BL.nil BK.nil)⟩))))))))
  ·exact zn eZ (dF h7) (AW.exit (TQ.qe (TQ.qe (BQ.qe (TQ.qn ⟨(),H,(zF [] SL.nil BL.nil BK.nil)⟩)))))
theorem Q4{a1:(List zi)}{a2:zi}{r:Bool}(H:qm a1 a2=some r):Fn Try.prog 74 (lent [(.sl 5 (List.map zh a1)),(.fn 75 [.ptr (zh a2)])]) true [(.bool r)]:=by
 refine f74 (fle rfl) ?_
 rw[zT]
 refine AW.weaken (zF [] (kv 0 (.one (.d (.sl 5 (List.map zh a1)))) rfl rfl (SL.cons (v:=(.one (.fn 75 [(.bd (zh a2) 0)]))) (eS rfl eZ) rfl (VWk.one (CWk.fn (css:=[zh a2]))) SL.nil)) BL.nil BK.nil) ?_
 unfold qm at H
 unfold i74
 refine aV (za eC (xQ (aV (za rfl (za rfl ?_)))))
 obtain⟨v3,h4,H⟩:=zp H
 refine zQ (u:=(oI v3)) eC Cl.fn (JE h4) (Ec rfl (Ec eZ En)) (Vc Vp (Vc (VD.fn (PDs.cons xD PDs.nil)) Vn)) rfl (KG eZ eC (za eZ (xQ (AW.ret ?_))))
 cases H
 exact eE rfl rfl
theorem Xc{a1:(List Int)}{a2:Int}{r:Int}(H:Zc a1 a2=some r):Fn Try.prog 114 (lent [(.sl 1 (List.map zr a1)),(.int .i64 a2)]) true [(.int .i64 r)]:=by
 refine zqm (fle rfl) ?_
 rw[zT]
 refine AW.weaken (zF [] (kv 0 (.one (.d (.sl 1 (List.map zr a1)))) rfl rfl (kv 1 (oI a2) rfl rfl SL.nil)) BL.nil BK.nil) ?_
 unfold Zc at H
 unfold zm8
 refine aV (za eC (xQ (zM (fun t3:Unit=>Q5 t3=some r) (fun t3=>mk [] [] noG) ?_ ?_)))
 ·intro t3 H
  unfold Q5 at H
  refine aV (za eC (xQ (AW.ret ?_)))
  cases H
  exact eE rfl rfl
 ·refine aV (za rfl (qE eZ (n:=a1.length) lm (za eC (xQ (AW.block (AW.iter (fun s5:Int=>mk [(0,(.one (.d (.sl 1 (List.map zr a1))))),(1,(oI a2)),(7,(oI (a1.length:Int))),(8,(oI s5))] [] noG) H (zF [] (sR rfl rfl) BL.nil BK.nil) ?_))))))
  intro kb6 s5 H
  unfold ZP at H
  refine aV (ZD rfl rfl (xQ (aS ?_)))
  rcases zD H with⟨h7,H⟩|⟨h7,H⟩
  ·refine zo eZ (dT h7) (AW.skip (TQ.qn (aS (AW.block (aV (za rfl (za eZ (xQ (aV (za rfl (za rfl (za rfl ?_))))))))))))
   obtain⟨v8,h9,H⟩:=zp H
   refine yS rfl eZ h9 (qW (e:=(.int .i64 v8)) eZ rfl (jZ rfl eZ (xQ ?_)))
   rcases zD H with⟨h10,H⟩|⟨h10,H⟩
   ·refine zo eZ (dT h10) (aV (za rfl (za eZ (xQ (AW.ret (BQ.qr (TQ.qr (TQ.qr (BQ.qr (TQ.qr ?_))))))))))
    cases H
    exact eE rfl rfl
   ·exact zn eZ (dF h10) (AW.skip (BQ.qn (TQ.qn (aR (qf rfl eC (za eZ (zb (TQ.qn ⟨(IntKind.wrap .i64 (s5+1)),H,(zF [] (sR rfl rfl) BL.nil BK.nil)⟩))))))))
  ·exact zn eZ (dF h7) (AW.exit (TQ.qe (TQ.qe (BQ.qe (TQ.qn ⟨(),H,(zF [] SL.nil BL.nil BK.nil)⟩)))))
theorem xL{a1:(List Int)}{a2:Int}{r:Bool}(H:yb a1 a2=some r):Fn Try.prog 77 (lent [(.sl 1 (List.map zr a1)),(.int .i64 a2)]) true [(.bool r)]:=by
 refine f77 (fle rfl) ?_
 rw[zT]
 refine AW.weaken (zF [] (kv 0 (.one (.d (.sl 1 (List.map zr a1)))) rfl rfl (kv 1 (oI a2) rfl rfl SL.nil)) BL.nil BK.nil) ?_
 unfold yb at H
 unfold i77
 refine aV (za eC (xQ (aV (za rfl (za rfl ?_)))))
 obtain⟨v3,h4,H⟩:=zp H
 refine zQ (u:=(oI v3)) eC Cl.fn (Xc h4) (Ec rfl (Ec eZ En)) (Vc Vp (Vc Vp Vn)) rfl (KG eZ eC (za eZ (xQ (AW.ret ?_))))
 cases H
 exact eE rfl rfl
theorem yz{a1:zj}{r:Bool}(H:jh a1=some r):Fn Try.prog 25 (lent [(.agg (qu a1))]) true [(.bool r)]:=by
 refine f25 (fle rfl) ?_
 rw[zT]
 refine AW.weaken (t:=mk [(0,(.agg (zx a1)))] [] (lk [])) (zF [] (sR rfl rfl) BL.nil BK.nil) ?_
 unfold jh at H
 unfold i25
 refine aV (Q8 (n:=64) (m:=2) (cs:=(zx a1)) rfl eZ rfl rfl nZ (za eC (xQ (aS (aV (zl (m:=0) rfl rfl (zu (q:=0) (c:=(.d (.sl 5 (List.map zh a1.Recs)))) eZ bZ rfl rfl (qE eZ (n:=a1.Recs.length) lm (Yt eZ eC (xQ ?_))))))))))
 rcases zD H with⟨h2,H⟩|⟨h2,H⟩
 ·refine zo eZ (dT h2) (aV (za eC (xQ (AW.ret (TQ.qr ?_)))))
  cases H
  exact eE rfl rfl
 ·refine zn eZ (dF h2) (AW.skip (TQ.qn (aV (za eC (xQ (zM (fun t3:Int=>(Jp a1) t3=some r) (fun t3=>mk [(1,(.one (.ptr (.nm 64 0 0)))),(3,(oI t3))] [(64,(.vars 2 (zx a1)))] (lk [])) ?_ ?_))))))
  ·intro t3 H
   unfold Jp at H
   refine zM (fun t5:Unit=>(Jm t3 a1) t5=some r) (fun t5=>mk [(1,(.one (.ptr (.nm 64 0 0)))),(3,(oI t3))] [(64,(.vars 2 (zx a1)))] (lk [])) ?_ ?_
   ·intro t5 H
    unfold Jm at H
    refine aV (za rfl (zl (m:=1) rfl rfl (zu (q:=1) (c:=(.d (.sl 1 (List.map zr a1.Order)))) eZ bZ rfl rfl (qE eZ (n:=a1.Order.length) lm (jZ rfl eZ (za eZ (xQ (AW.ret ?_))))))))
    cases H
    exact eE rfl rfl
   ·refine aV (zl (m:=1) eZ rfl (zu (q:=1) (c:=(.d (.sl 1 (List.map zr a1.Order)))) eZ bZ rfl rfl (qE eZ (n:=a1.Order.length) lm (za eC (xQ (AW.block (AW.iter (fun s7:Int=>mk [(1,(.one (.ptr (.nm 64 0 0)))),(3,(oI t3)),(45,(.one (.d (.sl 1 (List.map zr a1.Order))))),(46,(oI (a1.Order.length:Int))),(47,(oI s7))] [(64,(.vars 2 (zx a1)))] (lk [])) H (zk [] (sR rfl rfl) (blR rfl) (bkR rfl rfl rfl) GK.nil) ?_)))))))
    intro kb8 s7 H
    unfold Jk at H
    refine aV (ZD rfl rfl (xQ (aS ?_)))
    rcases zD H with⟨h9,H⟩|⟨h9,H⟩
    ·refine zo eZ (dT h9) (AW.skip (TQ.qn (aS (AW.block (aV (za rfl ?_))))))
     obtain⟨v10,h11,H⟩:=zp H
     refine yS rfl rfl h11 (qW (e:=(.int .i64 v10)) eZ rfl (za rfl (za rfl (xQ (zM (fun t12:Bool=>(yV kb8 s7) t12=some r) (fun t12=>mk [(1,(.one (.ptr (.nm 64 0 0)))),(3,(oI t3)),(45,(.one (.d (.sl 1 (List.map zr a1.Order))))),(46,(oI (a1.Order.length:Int))),(47,(oI s7)),(75,(oB t12))] [(64,(.vars 2 (zx a1)))] (lk [])) ?_ ?_)))))
     ·intro t12 H
      unfold yV at H
      rcases zD H with⟨h14,H⟩|⟨h14,H⟩
      ·refine zo rfl h14 (aV (za eC (xQ (AW.ret (BQ.qr (TQ.qr (TQ.qr (BQ.qr (TQ.qr ?_)))))))))
       cases H
       exact eE rfl rfl
      ·exact zn rfl (nt h14) (AW.skip (BQ.qn (TQ.qn (aR (qf rfl eC (za eZ (zb (TQ.qn ⟨(IntKind.wrap .i64 (s7+1)),H,(zk [] (sR rfl rfl) (blR rfl) (bkR rfl rfl rfl) GK.nil)⟩))))))))
     ·refine aR (za eZ (zl (m:=0) rfl rfl (zu (q:=0) (c:=(.d (.sl 5 (List.map zh a1.Recs)))) eZ bZ rfl rfl (qE eZ (n:=a1.Recs.length) lm ?_))))
      obtain⟨v15,h16,H⟩:=zp H
      refine zQ (u:=(oB v15)) eC Cl.fn (Zv h16) (Ec rfl (Ec eC (Ec eZ En))) (Vc Vp (Vc Vp (Vc Vp Vn))) rfl (jF eZ (za eZ ?_))
      rcases zD H with⟨h17,H⟩|⟨h17,H⟩
      ·refine gDo eZ (cN h17) (zl (m:=0) rfl rfl (gDo rfl (cN h17) (zu (q:=0) (c:=(.d (.sl 5 (List.map zh a1.Recs)))) eZ bZ rfl rfl (gDo rfl (cN h17) (za rfl (gDo rfl (cN h17) (Yn eZ eC (gDo rfl (cN h17) ?_))))))))
       obtain⟨v18,h19,H⟩:=zp H
       refine yS rfl eZ h19 (gDo rfl (cN h17) (jr (m:=3) eZ rfl (gDo rfl (cN h17) (qW (e:=(.int .i64 v18.State)) eZ rfl (gDo rfl (cN h17) (Ju eZ eC (zU rfl (cN h17) eZ (za eZ ?_))))))))
       rcases zD H with⟨h20,H⟩|⟨h20,H⟩
       ·exact ze eZ (dT h20) rfl (ze rfl (dT h20) rfl (ze rfl (dT h20) rfl (ze rfl (dT h20) rfl (ze rfl (dT h20) rfl (ze rfl (dT h20) rfl (zJ rfl (dT h20) eC (zb (TQ.qn ⟨true,H,(zk [] (sR rfl rfl) (blR rfl) (bkR rfl rfl rfl) GK.nil)⟩))))))))
       ·refine gDo eZ (dF h20) (zl (m:=1) rfl rfl (gDo rfl (dF h20) (zu (q:=1) (c:=(.d (.sl 1 (List.map zr a1.Order)))) eZ bZ rfl rfl (gDo rfl (dF h20) (za rfl (gDo rfl (dF h20) ?_))))))
        obtain⟨v21,h22,H⟩:=zp H
        refine zeY rfl zfr (n:=(a1.Order.length:Int)) rfl (Bd.at eZ) h22 (gDo rfl (dF h20) (za rfl (gDo rfl (dF h20) ?_)))
        obtain⟨v23,h24,H⟩:=zp H
        exact zQ (u:=(oB v23)) eC Cl.fn (xL h24) (Ec rfl (Ec eZ En)) (Vc Vp (Vc Vp Vn)) rfl (zU rfl (dF h20) eZ (zb (TQ.qn ⟨v23,H,(zk [] (sR rfl rfl) (blR rfl) (bkR rfl rfl rfl) GK.nil)⟩)))
      ·exact ze eZ (cN (nt h17)) rfl (ze rfl (cN (nt h17)) rfl (ze rfl (cN (nt h17)) rfl (ze rfl (cN (nt h17)) rfl (ze rfl (cN (nt h17)) rfl (ze rfl (cN (nt h17)) rfl (ze rfl (cN (nt h17)) rfl (ze rfl (cN (nt h17)) rfl (zJ rfl (cN (nt h17)) eC (za eZ (ze eZ rfl rfl (ze rfl rfl rfl (ze rfl rfl rfl (ze rfl rfl rfl (ze rfl rfl rfl (ze rfl rfl rfl (zJ rfl rfl eC (zb (TQ.qn ⟨true,H,(zk [] (sR rfl rfl) (blR rfl) (bkR rfl rfl rfl) GK.nil)⟩))))))))))))))))))
    ·exact zn eZ (dF h9) (AW.exit (TQ.qe (TQ.qe (BQ.qe (TQ.qn ⟨(),H,(zk [] (sR rfl rfl) (blR rfl) (bkR rfl rfl rfl) GK.nil)⟩)))))
  ·refine aV (zl (m:=0) rfl rfl (zu (q:=0) (c:=(.d (.sl 5 (List.map zh a1.Recs)))) eZ bZ rfl rfl (qE eZ (n:=a1.Recs.length) lm (za eC (xQ (AW.block (AW.iter (fun s25:(Int×Int)=>mk [(1,(.one (.ptr (.nm 64 0 0)))),(3,(oI s25.1)),(13,(.one (.d (.sl 5 (List.map zh a1.Recs))))),(14,(oI (a1.Recs.length:Int))),(15,(oI s25.2))] [(64,(.vars 2 (zx a1)))] (lk [])) H (zk [] (sR rfl rfl) (blR rfl) (bkR rfl rfl rfl) GK.nil) ?_)))))))
   intro kb26 s25 H
   unfold QN at H
   refine aV (ZD rfl rfl (xQ (aS ?_)))
   rcases zD H with⟨h27,H⟩|⟨h27,H⟩
   ·refine zo eZ (dT h27) (AW.skip (TQ.qn (aS (AW.block (aS (zt (zd (za rfl (zb (zd ?_))))))))))
    obtain⟨v28,h29,H⟩:=zp H
    refine yS rfl rfl h29 (zb (zd (Qe (es:=(y6 v28)) eZ rfl (zb (zd (ZG (n:=320) (m:=5) rfl rfl (nR rfl) (zb (zd (za rfl (zb (zd (zv (es:=(y6 v28)) rfl rfl rfl rfl bZ rfl (zb (zy (xQ (aS (zM (fun t30:Bool=>(yW v28 kb26 s25) t30=some r) (fun t30=>mk [(1,(.one (.ptr (.nm 64 0 0)))),(3,(oI s25.1)),(5,(.one (.ptr (.nm 320 0 0)))),(13,(.one (.d (.sl 5 (List.map zh a1.Recs))))),(14,(oI (a1.Recs.length:Int))),(15,(oI s25.2)),(37,(oB t30))] [(64,(.vars 2 (zx a1))),(320,(.vars 5 (y6 v28)))] (lk [])) ?_ ?_)))))))))))))))))
    ·intro t30 H
     unfold yW at H
     rcases zD H with⟨h32,H⟩|⟨h32,H⟩
     ·refine zo rfl h32 (aV (za eC (xQ (AW.ret (TQ.qr (BQ.qr (TQ.qr (TQ.qr (BQ.qr (TQ.qr ?_))))))))))
      cases H
      exact eE rfl rfl
     ·refine zn rfl (nt h32) (AW.skip (TQ.qn (aV (zl (m:=3) rfl rfl (zu (q:=3) (c:=(dI v28.State)) eZ (bR rfl) rfl rfl (jZ eZ eC (xQ ?_)))))))
      rcases zD H with⟨h33,H⟩|⟨h33,H⟩
      ·exact zo eZ (dT h33) (aR (za rfl (qf eZ eC (za eZ (zb (BQ.qn (TQ.qn (aR (qf rfl eC (za eZ (zb (TQ.qn ⟨((IntKind.wrap .i64 (s25.1+1)),(IntKind.wrap .i64 (s25.2+1))),H,(zk [320] (sR rfl rfl) (blR rfl) (bkR rfl rfl rfl) GK.nil)⟩))))))))))))
      ·exact zn eZ (dF h33) (AW.skip (BQ.qn (TQ.qn (aR (qf rfl eC (za eZ (zb (TQ.qn ⟨(s25.1,(IntKind.wrap .i64 (s25.2+1))),H,(zk [320] (sR rfl rfl) (blR rfl) (bkR rfl rfl rfl) GK.nil)⟩))))))))
    ·refine aR (zl (m:=0) rfl rfl (zu (q:=0) (c:=(dI v28.Tx)) eZ bZ rfl rfl (za rfl (qf eZ eC (Ju rfl eZ (za eZ ?_))))))
     rcases zD H with⟨h34,H⟩|⟨h34,H⟩
     ·exact ze eZ (dT h34) rfl (ze rfl (dT h34) rfl (ze rfl (dT h34) rfl (zJ rfl (dT h34) eC (za eZ (ze eZ rfl rfl (ze rfl rfl rfl (ze rfl rfl rfl (ze rfl rfl rfl (ze rfl rfl rfl (ze rfl rfl rfl (zJ rfl rfl eC (zb (TQ.qn ⟨true,H,(zk [] (sR rfl rfl) (blR rfl) (bkR rfl rfl rfl) GK.nil)⟩)))))))))))))
     ·refine gDo eZ (dF h34) (zw (es:=(y6 v28)) rfl bZ rfl (gDo rfl (dF h34) ?_))
      obtain⟨v35,h36,H⟩:=zp H
      refine zQ (u:=(oB v35)) eC Cl.fn (zb4 h36) (Ec eZ En) (Vc (VD.agg rfl) Vn) rfl (gDo rfl (dF h34) (jF eZ (zU rfl (dF h34) eZ (za eZ ?_))))
      rcases zD H with⟨h37,H⟩|⟨h37,H⟩
      ·refine gDo eZ (cN h37) (zl (m:=0) rfl rfl (gDo rfl (cN h37) (zu (q:=0) (c:=(.d (.sl 5 (List.map zh a1.Recs)))) eZ (bR rfl) rfl rfl (gDo rfl (cN h37) (za rfl (gDo rfl (cN h37) ?_))))))
       obtain⟨v38,h39,H⟩:=zp H
       refine zeY rfl zfr (n:=(a1.Recs.length:Int)) rfl (Bd.at eZ) h39 (gDo rfl (cN h37) (zd4 (ps:=[(.nm 320 0 0)]) (Ec rfl En) (gDo rfl (cN h37) ?_)))
       obtain⟨v40,h41,H⟩:=zp H
       exact zQ (u:=(oB v40)) eC Cl.fn (Q4 h41) (Ec rfl (Ec eZ En)) (Vc Vp (Vc (VD.fn (PDs.cons (XW bZ (CDs.plain (CDs.plain (CDs.plain (CDs.plain (CDs.plain CDs.nil)))))) PDs.nil)) Vn)) rfl (zU rfl (cN h37) eZ (zb (TQ.qn ⟨v40,H,(zk [] (sR rfl rfl) (blR rfl) (bkR rfl rfl rfl) GK.nil)⟩)))
      ·exact ze eZ (cN (nt h37)) rfl (ze rfl (cN (nt h37)) rfl (ze rfl (cN (nt h37)) rfl (ze rfl (cN (nt h37)) rfl (ze rfl (cN (nt h37)) rfl (ze rfl (cN (nt h37)) rfl (zJ rfl (cN (nt h37)) eC (zb (TQ.qn ⟨true,H,(zk [] (sR rfl rfl) (blR rfl) (bkR rfl rfl rfl) GK.nil)⟩))))))))
   ·exact zn eZ (dF h27) (AW.exit (TQ.qe (TQ.qe (BQ.qe (TQ.qn ⟨s25.1,H,(zk [] (sR rfl rfl) (blR rfl) (bkR rfl rfl rfl) GK.nil)⟩)))))
theorem YG{a1:zj}{a2:Int}{r:Bool}(H:j5 a1 a2=some r):Fn Try.prog 69 (lent [(.agg (qu a1)),(.int .i64 a2)]) true [(.bool r)]:=by
 refine f69 (fle rfl) ?_
 rw[zT]
 refine AW.weaken (zF [] (kv 0 (.agg (zx a1)) rfl rfl (kv 1 (oI a2) rfl rfl SL.nil)) BL.nil BK.nil) ?_
 unfold j5 at H
 unfold i69
 refine aV (Q8 (n:=128) (m:=2) (cs:=(zx a1)) rfl eZ rfl rfl nZ (za eC (xQ (aV (za rfl (zl (m:=0) rfl rfl (zu (q:=0) (c:=(.d (.sl 5 (List.map zh a1.Recs)))) eZ bZ rfl rfl (qE eZ (n:=a1.Recs.length) lm ?_))))))))
 obtain⟨v3,h4,H⟩:=zp H
 refine zQ (u:=(oB v3)) eC Cl.fn (Zv h4) (Ec rfl (Ec eC (Ec eZ En))) (Vc Vp (Vc Vp (Vc Vp Vn))) rfl (za eZ (xQ (AW.ret ?_)))
 cases H
 exact eE rfl rfl
theorem Y2{a1:zj}{a2:Int}{r:Int}(H:jp a1 a2=some r):Fn Try.prog 20 (lent [(.agg (qu a1)),(.int .i64 a2)]) true [(.int .i64 r)]:=by
 refine f20 (fle rfl) ?_
 rw[zT]
 refine AW.weaken (zF [] (kv 0 (.agg (zx a1)) rfl rfl (kv 1 (oI a2) rfl rfl SL.nil)) BL.nil BK.nil) ?_
 unfold jp at H
 unfold i20
 refine aV (Q8 (n:=128) (m:=2) (cs:=(zx a1)) rfl eZ rfl rfl nZ (za eC (xQ (aS (zM (fun t3:Bool=>(yk a1 a2) t3=some r) (fun t3=>mk [(1,(oI a2)),(2,(.one (.ptr (.nm 128 0 0)))),(13,(oB t3))] [(128,(.vars 2 (zx a1)))] noG) ?_ ?_)))))
 ·intro t3 H
  unfold yk at H
  rcases zD H with⟨h5,H⟩|⟨h5,H⟩
  ·refine zo rfl h5 (aV (za eC (xQ (AW.ret (TQ.qr ?_)))))
   cases H
   exact eE rfl rfl
  ·refine zn rfl (nt h5) (AW.skip (TQ.qn (aV (zl (m:=0) rfl rfl (zu (q:=0) (c:=(.d (.sl 5 (List.map zh a1.Recs)))) eZ bZ rfl rfl (za rfl (Yn eZ eC ?_)))))))
   obtain⟨v6,h7,H⟩:=zp H
   refine yS rfl eZ h7 (jr (m:=3) eZ rfl (qW (e:=(.int .i64 v6.State)) eZ rfl (za eZ (xQ (AW.ret ?_)))))
   cases H
   exact eE rfl rfl
 ·refine aR (zw (es:=(zx a1)) rfl bZ rfl ?_)
  obtain⟨v8,h9,H⟩:=zp H
  refine zQ (u:=(oB v8)) eC Cl.fn (yz h9) (Ec eZ En) (Vc (VD.agg rfl) Vn) rfl (jF eZ (za eZ ?_))
  rcases zD H with⟨h10,H⟩|⟨h10,H⟩
  ·refine gDo eZ (cN h10) (zw (es:=(zx a1)) rfl bZ rfl (gDo rfl (cN h10) (za rfl (gDo rfl (cN h10) ?_))))
   obtain⟨v11,h12,H⟩:=zp H
   exact zQ (u:=(oB v11)) eC Cl.fn (YG h12) (Ec rfl (Ec eZ En)) (Vc (VD.agg rfl) (Vc Vp Vn)) rfl (gDo rfl (cN h10) (jF eZ (zU rfl (cN h10) eZ (zb (TQ.qn ⟨(!v11),H,(zF [] (sR rfl rfl) (blR rfl) (bkR rfl rfl rfl))⟩)))))
  ·exact ze eZ (cN (nt h10)) rfl (ze rfl (cN (nt h10)) rfl (ze rfl (cN (nt h10)) rfl (ze rfl (cN (nt h10)) rfl (zJ rfl (cN (nt h10)) eC (zb (TQ.qn ⟨true,H,(zF [] (sR rfl rfl) (blR rfl) (bkR rfl rfl rfl))⟩))))))
theorem kz{a1:(List Int)}{a2:Int}{r:Int}(H:Jy a1 a2=some r):Fn Try.prog 26 (lent [(.sl 1 (List.map zN a1)),(.int .i64 a2)]) true [(.int .i64 r)]:=by
 refine f26 (fle rfl) ?_
 rw[zT]
 refine AW.weaken (zF [] (kv 0 (.one (.d (.sl 1 (List.map zN a1)))) rfl rfl (kv 1 (oI a2) rfl rfl SL.nil)) BL.nil BK.nil) ?_
 unfold Jy at H
 unfold i26
 refine aV (za eC (xQ (aS (aV (za rfl (za rfl (qE eZ (n:=a1.length) lm (ZD rfl eZ (xQ ?_)))))))))
 rcases zD H with⟨h3,H⟩|⟨h3,H⟩
 ·refine zo eZ (dT h3) (aV (za rfl (za rfl ?_)))
  obtain⟨v4,h5,H⟩:=zp H
  refine yS rfl eZ h5 (qW (e:=(.int .u8 v4)) eZ rfl (zeI eZ (za eZ (xQ (AW.ret (TQ.qr ?_))))))
  cases H
  exact eE rfl rfl
 ·refine zn eZ (dF h3) (AW.skip (TQ.qn (aV (za rfl (za0 eZ eC (za rfl (qE eZ (n:=a1.length) lm (qf rfl eZ (KC eZ eC (by decide) (za eZ (xQ (AW.ret ?_))))))))))))
  cases H
  exact eE rfl rfl
theorem Xg{a1:(List Int)}{r:(List Int)}(H:yX a1=some r):Fn Try.prog 113 (lent [(.sl 1 (List.map zr a1))]) true [(.sl 1 (List.map zr r))]:=by
 refine zqs (fle rfl) ?_
 rw[zT]
 refine AW.weaken (zF [] (kv 0 (.one (.d (.sl 1 (List.map zr a1)))) rfl rfl SL.nil) BL.nil BK.nil) ?_
 unfold yX at H
 unfold zmz
 refine aV (za eC (xQ (zM (fun t2:Unit=>(j9 a1) t2=some r) (fun t2=>mk [(0,(.one (.d (.sl 1 (List.map zr a1)))))] [] noG) ?_ ?_)))
 ·intro t2 H
  unfold j9 at H
  refine aV (QH (m:=320) rfl nZ (za rfl ?_))
  obtain⟨h4,H⟩:=yx H
  refine zba (f:=zr) (m:=448) (own:=true) (ys:=a1) (q:=a1.length) rfl rfl rfl eZ (El.lent fun _ _=>rfl) rfl h4 (by decide) nZ (za eZ (xQ (AW.ret ?_)))
  obtain rfl:=(Option.some.inj H)
  exact jA (RL.cons (RV.tmp eZ) (VO.sl bZ lm (z6 fun _=>rfl)) RL.nil) (by decide)
 ·refine aV (za rfl ?_)
  rcases zD H with⟨h5,H⟩|⟨h5,H⟩
  ·refine zc8 eZ h5 (xQ (AW.condU eZ ?_ ?_))
   ·have H:(some ([]:(List Int)))=some r:=by rw[←H];simp[List.eq_nil_of_length_eq_zero h5,j9]
    refine aV (za eC (xQ (AW.ret (TQ.qr ?_))))
    cases H
    exact jA (RL.cons (RV.tmp eZ) VO.zs RL.nil) List.nodup_nil
   ·exact AW.skip (TQ.qn ⟨(),H,(zF [] (sR rfl rfl) BL.nil BK.nil)⟩)
  ·exact zfj eZ h5 (xQ (zn eZ rfl (AW.skip (TQ.qn ⟨(),H,(zF [] (sR rfl rfl) BL.nil BK.nil)⟩))))
theorem xS{a1:(List qi)}{r:(List qi)}(H:yu a1=some r):Fn Try.prog 119 (lent [(.sl 2 (List.map z4 a1))]) true [(.sl 2 (List.map z4 r))]:=by
 refine zql (fle rfl) ?_
 rw[zT]
 refine AW.weaken (zF [] (kv 0 (.one (.d (.sl 2 (List.map z4 a1)))) rfl rfl SL.nil) BL.nil BK.nil) ?_
 unfold yu at H
 unfold zm2
 refine aV (za eC (xQ (zM (fun t2:Unit=>(jM a1) t2=some r) (fun t2=>mk [(0,(.one (.d (.sl 2 (List.map z4 a1)))))] [] noG) ?_ ?_)))
 ·intro t2 H
  unfold jM at H
  refine aV (QH (m:=320) rfl nZ (za rfl ?_))
  obtain⟨h4,H⟩:=yx H
  refine zba (f:=z4) (m:=448) (own:=true) (ys:=a1) (q:=a1.length) rfl rfl rfl eZ (El.lent fun _ _=>rfl) rfl h4 (by decide) nZ (za eZ (xQ (AW.ret ?_)))
  obtain rfl:=(Option.some.inj H)
  exact jA (RL.cons (RV.tmp eZ) (VO.sl bZ lm (z6 fun _=>rfl)) RL.nil) (by decide)
 ·refine aV (za rfl ?_)
  rcases zD H with⟨h5,H⟩|⟨h5,H⟩
  ·refine zc8 eZ h5 (xQ (AW.condU eZ ?_ ?_))
   ·have H:(some ([]:(List qi)))=some r:=by rw[←H];simp[List.eq_nil_of_length_eq_zero h5,jM]
    refine aV (za eC (xQ (AW.ret (TQ.qr ?_))))
    cases H
    exact jA (RL.cons (RV.tmp eZ) VO.zs RL.nil) List.nodup_nil
   ·exact AW.skip (TQ.qn ⟨(),H,(zF [] (sR rfl rfl) BL.nil BK.nil)⟩)
  ·exact zfj eZ h5 (xQ (zn eZ rfl (AW.skip (TQ.qn ⟨(),H,(zF [] (sR rfl rfl) BL.nil BK.nil)⟩))))
theorem x9{a1:(List qj)}{r:(List qj)}(H:yp a1=some r):Fn Try.prog 120 (lent [(.sl 2 (List.map zW a1))]) true [(.sl 2 (List.map zW r))]:=by
 refine zqF (fle rfl) ?_
 rw[zT]
 refine AW.weaken (zF [] (kv 0 (.one (.d (.sl 2 (List.map zW a1)))) rfl rfl SL.nil) BL.nil BK.nil) ?_
 unfold yp at H
 unfold zpK
 refine aV (za eC (xQ (zM (fun t2:Unit=>(jL a1) t2=some r) (fun t2=>mk [(0,(.one (.d (.sl 2 (List.map zW a1)))))] [] noG) ?_ ?_)))
 ·intro t2 H
  unfold jL at H
  refine aV (QH (m:=320) rfl nZ (za rfl ?_))
  obtain⟨h4,H⟩:=yx H
  refine zba (f:=zW) (m:=448) (own:=true) (ys:=a1) (q:=a1.length) rfl rfl rfl eZ (El.lent fun _ _=>rfl) rfl h4 (by decide) nZ (za eZ (xQ (AW.ret ?_)))
  obtain rfl:=(Option.some.inj H)
  exact jA (RL.cons (RV.tmp eZ) (VO.sl bZ lm (z6 fun _=>rfl)) RL.nil) (by decide)
 ·refine aV (za rfl ?_)
  rcases zD H with⟨h5,H⟩|⟨h5,H⟩
  ·refine zc8 eZ h5 (xQ (AW.condU eZ ?_ ?_))
   ·have H:(some ([]:(List qj)))=some r:=by rw[←H];simp[List.eq_nil_of_length_eq_zero h5,jL]
    refine aV (za eC (xQ (AW.ret (TQ.qr ?_))))
    cases H
    exact jA (RL.cons (RV.tmp eZ) VO.zs RL.nil) List.nodup_nil
   ·exact AW.skip (TQ.qn ⟨(),H,(zF [] (sR rfl rfl) BL.nil BK.nil)⟩)
  ·exact zfj eZ h5 (xQ (zn eZ rfl (AW.skip (TQ.qn ⟨(),H,(zF [] (sR rfl rfl) BL.nil BK.nil)⟩))))
theorem YW{a1:(List zf)}{r:(List zf)}(H:yD a1=some r):Fn Try.prog 80 (lent [(.sl 4 (List.map zg a1))]) true [(.sl 4 (List.map zg r))]:=by
 refine f80 (fle rfl) ?_
 rw[zT]
 refine AW.weaken (t:=mk [(0,(.one (.d (.sl 4 (List.map zg a1)))))] [] (lk [])) (zF [] (sR rfl rfl) BL.nil BK.nil) ?_
 unfold yD at H
 unfold i80
 refine aV (za eC (xQ (aV (QH (m:=384) rfl nZ (za eZ (xQ (zM (fun t2:(List zf)=>Qd t2=some r) (fun t2=>mk [(3,(.one (.sl 320128 0 t2.length)))] [(320128,(.data 4 (List.map zg t2) true none))] (lk [])) ?_ ?_)))))))
 ·intro t2 H
  unfold Qd at H
  refine aV (za eZ (za eZ (xQ (AW.ret ?_))))
  obtain rfl:=(Option.some.inj H)
  exact jA (RL.cons (RV.tmp eZ) (qF bZ lm rfl) RL.nil) (by decide)
 ·refine aV (za rfl (qE eZ (n:=a1.length) lm (za eC (xQ (AW.block (AW.iter (fun s4:((List zf)×Int)=>mk [(3,(.one (.sl 320192 0 s4.1.length))),(7,(.one (.d (.sl 4 (List.map zg a1))))),(8,(oI (a1.length:Int))),(9,(oI s4.2))] [(320192,(.data 4 (List.map zg s4.1) true none))] (lk [])) H ((zk [] (SL.cons eZ rfl (VWk.one (CWk.len (by first|(simp;done)|(simp;omega)|omega|(simp only[List.length_map];omega)))) (sR rfl rfl)) (blR rfl) (bkR rfl rfl rfl) GK.nil).trans (zab 320192 4 3 true rfl nZ)) ?_))))))
  intro kb5 s4 H
  unfold Qh at H
  refine aV (ZD rfl rfl (xQ (aS ?_)))
  rcases zD H with⟨h6,H⟩|⟨h6,H⟩
  ·refine zo eZ (dT h6) (AW.skip (TQ.qn (aS (AW.block (aS (zt (zd ?_)))))))
   obtain⟨v7,h8,H⟩:=zp H
   refine yS rfl rfl h8 (zb (zd (Qe (es:=(yC v7)) eZ rfl (zb (zd (ZG (n:=320) (m:=4) rfl rfl (nR rfl) (zb (zd (zv (es:=(yC v7)) eZ rfl rfl rfl bZ rfl (zb (zy (xQ (AW.regt (za rfl (zl (m:=0) rfl rfl (zu (q:=0) (c:=(dI v7.Group)) eZ (hB rfl bZ) rfl rfl (zl (m:=1) rfl rfl (zu (q:=1) (c:=(.d (.sl 2 (List.map z4 v7.Reads)))) eZ bZ rfl rfl ?_))))))))))))))))))
   obtain⟨v9,h10,H⟩:=zp H
   refine jQ (u:=(.one (.sl 1152 0 v9.length))) (bs:=[(1152,(.data 2 (List.map z4 v9) true none))]) eC Cl.fn (xS h10) (Ec eZ En) (Vc Vp Vn) (by simp[jg,jK,qB,jq,qI]) rfl (fC (nR rfl) rfl (fC (nR rfl) rfl fN)) (zl (m:=2) rfl rfl (zu (q:=2) (c:=(.d (.sl 2 (List.map zW v7.Writes)))) eZ (hB rfl (bR rfl)) rfl rfl ?_))
   obtain⟨v11,h12,H⟩:=zp H
   refine jQ (u:=(.one (.sl 1344 0 v11.length))) (bs:=[(1344,(.data 2 (List.map zW v11) true none))]) eC Cl.fn (x9 h12) (Ec eZ En) (Vc Vp Vn) (by simp[jg,jK,qB,jq,qI]) rfl (fC (nR rfl) rfl (fC (nR rfl) rfl fN)) (zl (m:=3) rfl rfl (zu (q:=3) (c:=(dI v7.Vote)) eZ (hB rfl (bR rfl)) rfl rfl (Zo (cs:=[(dI v7.Group),(.sl 1152 0 v9.length),(.sl 1344 0 v11.length),(dI v7.Vote)]) (qp rfl (qp rfl (qp rfl (qp eZ jV)))) rfl (yO (m:=1600) (q:=1) (cs:=[(dI v7.Group),(.sl 1152 0 v9.length),(.sl 1344 0 v11.length),(dI v7.Vote)]) rfl (qp eZ jV) rfl (List.cons_ne_nil _ _) (by simp) (nR rfl) (zb ?_)))))
   obtain⟨h13,H⟩:=yx H
   exact Yr (f:=zg) (xs:=s4.1) (t:=(zf.mk v7.Group v9 v11 v7.Vote)) (q:=(s4.1++[(zf.mk v7.Group v9 v11 v7.Vote)]).length) (ds:=[(.int .i64 v7.Group),(.sl 2 (List.map z4 v9)),(.sl 2 (List.map zW v11)),(.int .i64 v7.Vote)]) (ns:=[1152,1344]) rfl eZ (bR rfl) rfl bZ rfl (VOs.cons (VO.flat rfl) (VOs.cons (VO.sl (bR rfl) lm (z6 fun _=>rfl)) (VOs.cons (VO.sl (bR rfl) lm (z6 fun _=>rfl)) (VOs.cons (VO.flat rfl) VOs.nil)))) rfl rfl rfl rfl h13 (by decide) (erL.cons (v':=(.one (.sl 1600 0 1))) rfl (erL.cons (v':=(.agg [(dI v7.Group),.any,.any,(dI v7.Vote)])) rfl (erL.cons (v':=(oI v7.Vote)) rfl (erL.cons (v':=(.one (.ptr (.nm 320 0 3)))) rfl (erL.cons (v':=(.one .any)) rfl (erL.cons (v':=(.one (.d (.sl 2 (List.map zW v7.Writes))))) rfl (erL.cons (v':=(.one (.ptr (.nm 320 0 2)))) rfl (erL.cons (v':=(.one .any)) rfl (erL.cons (v':=(.one (.d (.sl 2 (List.map z4 v7.Reads))))) rfl (erL.cons (v':=(.one (.ptr (.nm 320 0 1)))) rfl (erL.cons (v':=(oI v7.Group)) rfl (erL.cons (v':=(.one (.ptr (.nm 320 0 0)))) rfl (erL.cons (v':=(.one (.sl 320192 0 s4.1.length))) rfl (erL.cons (v':=(.one (.ptr (.nm 320 0 0)))) rfl (erL.cons (v':=(.agg (yC v7))) rfl (erL.cons (v':=(.one (.ptr (.bd (zg v7) 0)))) rfl (erL.cons (v':=(oB (decide (s4.2 < (a1.length:Int))))) rfl (erL.cons (v':=(.one (.sl 320192 0 s4.1.length))) rfl (erL.cons (v':=(.one (.d (.sl 4 (List.map zg a1))))) rfl (erL.cons (v':=(oI (a1.length:Int))) rfl (erL.cons (v':=(oI s4.2)) rfl erL.nil))))))))))))))))))))) (erH.cons (v':=(.vars 4 [(dI v7.Group),.any,.any,(dI v7.Vote)])) rfl rfl (erH.drop rfl (erH.drop rfl (erH.cons (v':=(.vars 4 (yC v7))) rfl rfl (erH.cons (v':=(.vars 4 [(dI 0),.zs,.zs,(dI 0)])) rfl rfl (erH.cons (v':=(.data 4 (List.map zg s4.1) true none)) rfl rfl erH.nil)))))) erL.nil (erL.cons (v':=(.one (.sl 1600 0 1))) rfl (erL.cons (v':=(.agg [(dI v7.Group),.any,.any,(dI v7.Vote)])) rfl (erL.cons (v':=(oI v7.Vote)) rfl (erL.cons (v':=(.one (.ptr (.nm 320 0 3)))) rfl (erL.cons (v':=(.one .any)) rfl (erL.cons (v':=(.one (.d (.sl 2 (List.map zW v7.Writes))))) rfl (erL.cons (v':=(.one (.ptr (.nm 320 0 2)))) rfl (erL.cons (v':=(.one .any)) rfl (erL.cons (v':=(.one (.d (.sl 2 (List.map z4 v7.Reads))))) rfl (erL.cons (v':=(.one (.ptr (.nm 320 0 1)))) rfl (erL.cons (v':=(oI v7.Group)) rfl (erL.cons (v':=(.one (.ptr (.nm 320 0 0)))) rfl (erL.cons (v':=(.one .any)) rfl (erL.cons (v':=(.one (.ptr (.nm 320 0 0)))) rfl (erL.cons (v':=(.agg (yC v7))) rfl (erL.cons (v':=(.one (.ptr (.bd (zg v7) 0)))) rfl (erL.cons (v':=(oB (decide (s4.2 < (a1.length:Int))))) rfl (erL.cons (v':=(.one .any)) rfl (erL.cons (v':=(.one (.d (.sl 4 (List.map zg a1))))) rfl (erL.cons (v':=(oI (a1.length:Int))) rfl (erL.cons (v':=(oI s4.2)) rfl erL.nil))))))))))))))))))))) (erH.cons (v':=(.vars 4 [(dI v7.Group),.any,.any,(dI v7.Vote)])) rfl rfl (erH.cons (v':=(.vars 4 (yC v7))) rfl rfl (erH.cons (v':=(.vars 4 [(dI 0),.zs,.zs,(dI 0)])) rfl rfl (erH.drop rfl erH.nil)))) erL.nil (zy (za eZ (zb (BQ.qn (TQ.qn (AW.weaken (zk [1600,320] (kr 3 rfl rfl (kr 7 rfl rfl (kr 8 rfl rfl (kr 9 rfl rfl SL.nil)))) (blR rfl) (BK.cons (n:=320192) rfl bZ rfl rfl BK.nil) GK.nil) (aR (qf rfl eC (za eZ (zb (TQ.qn ⟨((s4.1++[(zf.mk v7.Group v9 v11 v7.Vote)]),(IntKind.wrap .i64 (s4.2+1))),H,(zk [] (sR rfl rfl) (blR rfl) (bkR rfl rfl rfl) GK.nil)⟩)))))))))))
  ·exact zn eZ (dF h6) (AW.exit (TQ.qe (TQ.qe (BQ.qe (TQ.qn ⟨s4.1,H,((zk [] (sR rfl rfl) (blR rfl) (bkR rfl rfl rfl) GK.nil).trans (z3 320192 320128 rfl rfl (nR rfl) GR.nil))⟩)))))
theorem QX{a1:zj}{r:zj}(H:jW a1=some r):Fn Try.prog 62 (lent [(.agg (qu a1))]) true [(.agg (qu r))]:=by
 refine f62 (fle rfl) ?_
 rw[zT]
 refine AW.weaken (t:=mk [(0,(.agg (zx a1)))] [] (lk [])) (zF [] (sR rfl rfl) BL.nil BK.nil) ?_
 unfold jW at H
 unfold i62
 refine aV (Q8 (n:=64) (m:=2) (cs:=(zx a1)) rfl eZ rfl rfl nZ (ZG (n:=128) (m:=2) rfl rfl (nR rfl) (xQ (aS (zt (zd (zl (m:=1) rfl rfl (zb (zd (zu (q:=1) (c:=(.d (.sl 1 (List.map zr a1.Order)))) eZ (bR rfl) rfl rfl (zb (zd ?_))))))))))))
 obtain⟨v2,h3,H⟩:=zp H
 refine jQ (u:=(.one (.sl 512 0 v2.length))) (bs:=[(512,(.data 1 (List.map zr v2) true none))]) eC Cl.fn (Xg h3) (Ec eZ En) (Vc Vp Vn) (by simp[jg,jK,qB,jq,qI]) rfl (fC (nR rfl) rfl (fC (nR rfl) rfl fN)) (zb (zd (Zo (cs:=[.zs,(.sl 512 0 v2.length)]) (qp eZ jV) rfl (zb (zd (ZG (n:=192) (m:=2) rfl rfl (nR rfl) (zb (zd (zv (es:=[.zs,(.sl 512 0 v2.length)]) eZ rfl rfl rfl bZ rfl (zb (zy (xQ (zM (fun t4:(List zi)=>(Qy v2) t4=some r) (fun t4=>mk [(2,(.one (.ptr (.nm 128 0 0)))),(3,(.one (.ptr (.nm 192 0 0))))] [(128,(.vars 2 [.zs,.zs])),(320128,(.data 5 (List.map zh t4) true none)),(192,(.vars 2 [(.sl 320128 0 t4.length),(.sl 512 0 v2.length)])),(512,(.data 1 (List.map zr v2) true none))] (lk [])) ?_ ?_)))))))))))))
 ·intro t4 H
  unfold Qy at H
  refine aS (zt (zd (zw (es:=[(.sl 320128 0 t4.length),(.sl 512 0 v2.length)]) rfl (bR rfl) rfl (zb (zd (zv (es:=[(.sl 320128 0 t4.length),(.sl 512 0 v2.length)]) rfl eZ rfl rfl bZ rfl (zb (zy (xQ (AW.ret ?_))))))))))
  cases H
  exact jA (RL.cons (zZ (es:=[(.sl 320128 0 t4.length),(.sl 512 0 v2.length)]) rfl bZ rfl) (VO.aggs (VOs.cons (qF (bR rfl) lm rfl) (VOs.cons (VO.sl (bR rfl) lm (z6 fun _=>rfl)) VOs.nil))) RL.nil) (by decide)
 ·refine aV (zl (m:=0) rfl rfl (zu (q:=0) (c:=(.d (.sl 5 (List.map zh a1.Recs)))) eZ (bR rfl) rfl rfl (qE eZ (n:=a1.Recs.length) lm (za eC (xQ (AW.block (AW.iter (fun s6:(Int×(List zi))=>mk [(2,(.one (.ptr (.nm 128 0 0)))),(3,(.one (.ptr (.nm 192 0 0)))),(11,(.one (.d (.sl 5 (List.map zh a1.Recs))))),(12,(oI (a1.Recs.length:Int))),(13,(oI s6.1))] [(128,(.vars 2 [.zs,.zs])),(320192,(.data 5 (List.map zh s6.2) true none)),(192,(.vars 2 [(.sl 320192 0 s6.2.length),(.sl 512 0 v2.length)])),(512,(.data 1 (List.map zr v2) true none))] (lk [])) H ((zk [64] (sR rfl rfl) (blR rfl) (BK.cons rfl (bR rfl) rfl rfl (BK.cons rfl (bR rfl) rfl rfl (BK.cons rfl bZ rfl (by first|rfl|simp) (bkR rfl rfl rfl)))) GK.nil).trans (kW 320192 5 192 0 true bZ rfl (nR rfl))) ?_)))))))
  intro kb7 s6 H
  unfold Qw at H
  refine aV (ZD rfl rfl (xQ (aS ?_)))
  rcases zD H with⟨h8,H⟩|⟨h8,H⟩
  ·refine zo eZ (dT h8) (AW.skip (TQ.qn (aS (AW.block (aS (zt (zd ?_)))))))
   obtain⟨v9,h10,H⟩:=zp H
   refine yS rfl rfl h10 (zb (zd (Qe (es:=(y6 v9)) eZ rfl (zb (zd (ZG (n:=320) (m:=5) rfl rfl (nR rfl) (zb (zd (zv (es:=(y6 v9)) eZ rfl rfl rfl bZ rfl (zb (zy (xQ (aS (zt (zd (zl (m:=4) eZ rfl (zb (zd (zu (q:=4) (c:=(.d (.sl 4 (List.map zg v9.Shares)))) eZ bZ rfl rfl (zb (zd ?_)))))))))))))))))))))
   obtain⟨v11,h12,H⟩:=zp H
   refine jQ (u:=(.one (.sl 1216 0 v11.length))) (bs:=[(1216,(.data 4 (List.map zg v11) true none))]) eC Cl.fn (YW h12) (Ec eZ En) (Vc Vp Vn) (by simp[jg,jK,qB,jq,qI]) rfl (fC (nR rfl) rfl (fC (nR rfl) rfl fN)) (zb (zd (zl (m:=4) rfl rfl (zb (zd (zv (es:=[(dI v9.Tx),(dI v9.Client),(dI v9.Req),(dI v9.State),(.sl 1216 0 v11.length)]) eZ rfl rfl rfl (bR rfl) rfl (zb (zy (xQ (zt (zd (zl (m:=0) rfl rfl (zb (zd (zu (q:=0) (c:=(.sl 320192 0 s6.2.length)) eZ (bR rfl) rfl rfl (zb (zd (zw (es:=[(dI v9.Tx),(dI v9.Client),(dI v9.Req),(dI v9.State),(.sl 1216 0 v11.length)]) rfl bZ rfl (zb (zd (yO (m:=1536) (q:=1) (cs:=[(dI v9.Tx),(dI v9.Client),(dI v9.Req),(dI v9.State),(.sl 1216 0 v11.length)]) rfl (qp eZ jV) rfl (List.cons_ne_nil _ _) (by simp) (nR rfl) (zb ?_))))))))))))))))))))))
   obtain⟨h13,H⟩:=yx H
   exact Yr (f:=zh) (xs:=s6.2) (t:=(zi.mk v9.Tx v9.Client v9.Req v9.State v11)) (q:=(s6.2++[(zi.mk v9.Tx v9.Client v9.Req v9.State v11)]).length) (ds:=[(.int .i64 v9.Tx),(.int .i64 v9.Client),(.int .i64 v9.Req),(.int .i64 v9.State),(.sl 4 (List.map zg v11))]) (ns:=[1216]) rfl eZ (bR rfl) rfl bZ rfl (VOs.cons (VO.flat rfl) (VOs.cons (VO.flat rfl) (VOs.cons (VO.flat rfl) (VOs.cons (VO.flat rfl) (VOs.cons (qF (bR rfl) lm rfl) VOs.nil))))) rfl rfl rfl rfl h13 (by decide) (erL.cons (v':=(.one (.sl 1536 0 1))) rfl (erL.cons (v':=(.agg [(dI v9.Tx),(dI v9.Client),(dI v9.Req),(dI v9.State),.any])) rfl (erL.cons (v':=(.one (.sl 320192 0 s6.2.length))) rfl (erL.cons (v':=(.one (.ptr (.nm 192 0 0)))) rfl (erL.cons (v':=(.one (.ptr (.nm 320 0 4)))) rfl (erL.cons (v':=(.one .any)) rfl (erL.cons (v':=(.one (.d (.sl 4 (List.map zg v9.Shares))))) rfl (erL.cons (v':=(.one (.ptr (.nm 320 0 4)))) rfl (erL.cons (v':=(.one (.ptr (.nm 320 0 0)))) rfl (erL.cons (v':=(.agg (y6 v9))) rfl (erL.cons (v':=(.one (.ptr (.bd (zh v9) 0)))) rfl (erL.cons (v':=(oB (decide (s6.1 < (a1.Recs.length:Int))))) rfl (erL.cons (v':=(.one (.ptr (.nm 128 0 0)))) rfl (erL.cons (v':=(.one (.ptr (.nm 192 0 0)))) rfl (erL.cons (v':=(.one (.d (.sl 5 (List.map zh a1.Recs))))) rfl (erL.cons (v':=(oI (a1.Recs.length:Int))) rfl (erL.cons (v':=(oI s6.1)) rfl erL.nil))))))))))))))))) (erH.cons (v':=(.vars 5 [(dI v9.Tx),(dI v9.Client),(dI v9.Req),(dI v9.State),.any])) rfl rfl (erH.cons (v':=(.vars 5 [(dI v9.Tx),(dI v9.Client),(dI v9.Req),(dI v9.State),.any])) rfl rfl (erH.drop rfl (erH.cons (v':=(.vars 5 (y6 v9))) rfl rfl (erH.cons (v':=(.vars 5 [(dI 0),(dI 0),(dI 0),(dI 0),.zs])) rfl rfl (erH.cons (v':=(.vars 2 [.zs,.zs])) rfl rfl (erH.cons (v':=(.data 5 (List.map zh s6.2) true none)) rfl rfl (erH.cons (v':=(.vars 2 [(.sl 320192 0 s6.2.length),(.sl 512 0 v2.length)])) rfl rfl (erH.cons (v':=(.data 1 (List.map zr v2) true none)) rfl rfl erH.nil))))))))) erL.nil (erL.cons (v':=(.one (.sl 1536 0 1))) rfl (erL.cons (v':=(.agg [(dI v9.Tx),(dI v9.Client),(dI v9.Req),(dI v9.State),.any])) rfl (erL.cons (v':=(.one .any)) rfl (erL.cons (v':=(.one (.ptr (.nm 192 0 0)))) rfl (erL.cons (v':=(.one (.ptr (.nm 320 0 4)))) rfl (erL.cons (v':=(.one .any)) rfl (erL.cons (v':=(.one (.d (.sl 4 (List.map zg v9.Shares))))) rfl (erL.cons (v':=(.one (.ptr (.nm 320 0 4)))) rfl (erL.cons (v':=(.one (.ptr (.nm 320 0 0)))) rfl (erL.cons (v':=(.agg (y6 v9))) rfl (erL.cons (v':=(.one (.ptr (.bd (zh v9) 0)))) rfl (erL.cons (v':=(oB (decide (s6.1 < (a1.Recs.length:Int))))) rfl (erL.cons (v':=(.one (.ptr (.nm 128 0 0)))) rfl (erL.cons (v':=(.one (.ptr (.nm 192 0 0)))) rfl (erL.cons (v':=(.one (.d (.sl 5 (List.map zh a1.Recs))))) rfl (erL.cons (v':=(oI (a1.Recs.length:Int))) rfl (erL.cons (v':=(oI s6.1)) rfl erL.nil))))))))))))))))) (erH.cons (v':=(.vars 5 [(dI v9.Tx),(dI v9.Client),(dI v9.Req),(dI v9.State),.any])) rfl rfl (erH.cons (v':=(.vars 5 [(dI v9.Tx),(dI v9.Client),(dI v9.Req),(dI v9.State),.any])) rfl rfl (erH.cons (v':=(.vars 5 (y6 v9))) rfl rfl (erH.cons (v':=(.vars 5 [(dI 0),(dI 0),(dI 0),(dI 0),.zs])) rfl rfl (erH.cons (v':=(.vars 2 [.zs,.zs])) rfl rfl (erH.drop rfl (erH.cons (v':=(.vars 2 [.any,(.sl 512 0 v2.length)])) rfl rfl (erH.cons (v':=(.data 1 (List.map zr v2) true none)) rfl rfl erH.nil)))))))) erL.nil (zd (zl (m:=0) rfl rfl (zb (zd (zv (es:=[(.sl 320192 0 ((s6.2++[(zi.mk v9.Tx v9.Client v9.Req v9.State v11)]).length)),(.sl 512 0 v2.length)]) eZ rfl rfl rfl (bR rfl) rfl (zb (zy (zb (BQ.qn (TQ.qn (AW.weaken (zk [1536,320] (kr 2 rfl rfl (kr 3 rfl rfl (kr 11 rfl rfl (kr 12 rfl rfl (kr 13 rfl rfl SL.nil))))) (blR rfl) (BK.cons (n:=192) rfl bZ rfl rfl (BK.cons (n:=320192) rfl (bR rfl) rfl rfl (BK.cons (n:=128) rfl (bR rfl) rfl rfl (BK.cons (n:=512) rfl (bR rfl) rfl rfl BK.nil)))) GK.nil) (aR (qf rfl eC (za eZ (zb (TQ.qn ⟨((IntKind.wrap .i64 (s6.1+1)),(s6.2++[(zi.mk v9.Tx v9.Client v9.Req v9.State v11)])),H,(zk [] (sR rfl rfl) (blR rfl) (BK.cons rfl (bR rfl) rfl rfl (BK.cons rfl (bR rfl) rfl rfl (BK.cons rfl bZ rfl (by first|rfl|simp) (bkR rfl rfl rfl)))) GK.nil)⟩))))))))))))))))
  ·exact zn eZ (dF h8) (AW.exit (TQ.qe (TQ.qe (BQ.qe (TQ.qn ⟨s6.2,H,((zk [] (sR rfl rfl) (blR rfl) (BK.cons rfl bZ rfl rfl (BK.cons rfl (bR rfl) rfl rfl (BK.cons rfl (bR rfl) rfl (by first|rfl|simp) (bkR rfl rfl rfl)))) GK.nil).trans (z3 320192 320128 rfl rfl (nR rfl) GR.nil))⟩)))))
theorem k7{a1:zi}{a2:Int}{a3:Int}{r:Bool}(H:Qf a1 a2 a3=some r):Fn Try.prog 68 (lent [(.agg (zh a1)),(.ptr (zr a2)),(.ptr (zr a3))]) true [(.bool r)]:=by
 refine f68 (fle rfl) ?_
 rw[zT]
 refine AW.weaken (zF [] (kv 0 (.agg (y6 a1)) rfl rfl (SL.cons (v:=(.one (.ptr (.bd (zr a2) 0)))) (eS rfl eZ) rfl (VWk.one CWk.ptr) (SL.cons (v:=(.one (.ptr (.bd (zr a3) 0)))) (eS rfl (eS rfl eZ)) rfl (VWk.one CWk.ptr) SL.nil))) BL.nil BK.nil) ?_
 unfold Qf at H
 unfold i68
 refine aV (Q8 (n:=192) (m:=5) (cs:=(y6 a1)) rfl eZ rfl rfl nZ (za eC (xQ (aV (zl (m:=1) rfl rfl (zu (q:=1) (c:=(dI a1.Client)) eZ bZ rfl rfl (qW (e:=(.int .i64 a2)) rfl rfl (jZ rfl eZ (za eZ ?_)))))))))
 rcases zD H with⟨h4,H⟩|⟨h4,H⟩
 ·refine gDo eZ (dT h4) (zl (m:=2) rfl rfl (gDo rfl (dT h4) (zu (q:=2) (c:=(dI a1.Req)) eZ bZ rfl rfl (gDo rfl (dT h4) (qW (e:=(.int .i64 a3)) rfl rfl (gDo rfl (dT h4) (jZ rfl eZ (zJ rfl (dT h4) eZ (za eZ (xQ (AW.weaken (zF [192] (kr 4 rfl rfl SL.nil) (blR rfl) BK.nil) (AW.ret ?_))))))))))))
  cases H
  exact eE rfl rfl
 ·refine ze eZ (dF h4) rfl (ze rfl (dF h4) rfl (ze rfl (dF h4) rfl (ze rfl (dF h4) rfl (zU rfl (dF h4) eC (za eZ (xQ (AW.weaken (zF [192] (kr 4 rfl rfl SL.nil) (blR rfl) BK.nil) (AW.ret ?_))))))))
  cases H
  exact eE rfl rfl
theorem Jh{a1:(List zi)}{a2:Int}{a3:Int}{r:Int}(H:qx a1 a2 a3=some r):Fn Try.prog 67 (lent [(.sl 5 (List.map zh a1)),(.fn 68 [.ptr (zr a2),.ptr (zr a3)])]) true [(.int .i64 r)]:=by
 refine f67 (fle rfl) ?_
 rw[zT]
 refine AW.weaken (zF [] (kv 0 (.one (.d (.sl 5 (List.map zh a1)))) rfl rfl (SL.cons (v:=(.one (.fn 68 [(.bd (zr a2) 0),(.bd (zr a3) 0)]))) (eS rfl eZ) rfl (VWk.one (CWk.fn (css:=[zr a2,zr a3]))) SL.nil)) BL.nil BK.nil) ?_
 unfold qx at H
 unfold i67
 refine aV (za eC (xQ (zM (fun t4:Unit=>jE t4=some r) (fun t4=>mk [] [] noG) ?_ ?_)))
 ·intro t4 H
  unfold jE at H
  refine aV (za eC (xQ (AW.ret ?_)))
  cases H
  exact eE rfl rfl
 ·refine aV (za rfl (qE eZ (n:=a1.length) lm (za eC (xQ (AW.block (AW.iter (fun s6:Int=>mk [(0,(.one (.d (.sl 5 (List.map zh a1))))),(1,(.one (.fn 68 [(.bd (zr a2) 0),(.bd (zr a3) 0)]))),(7,(oI (a1.length:Int))),(8,(oI s6))] [] noG) H (zF [] (sR rfl rfl) BL.nil BK.nil) ?_))))))
  intro kb7 s6 H
  unfold qR at H
  refine aV (ZD rfl rfl (xQ (aS ?_)))
  rcases zD H with⟨h8,H⟩|⟨h8,H⟩
  ·refine zo eZ (dT h8) (AW.skip (TQ.qn (aS (AW.block (aV (za rfl (za eZ (xQ (aV (za rfl (za rfl (za rfl ?_))))))))))))
   obtain⟨v9,h10,H⟩:=zp H
   refine yS rfl eZ h10 (Qe (es:=(y6 v9)) eZ rfl ?_)
   obtain⟨v11,h12,H⟩:=zp H
   refine zQ (u:=(oB v11)) rfl Cl.fn (k7 h12) (Ec eZ En) (Vc (VD.agg rfl) (Vc xD (Vc xD Vn))) rfl (xQ ?_)
   rcases zD H with⟨h13,H⟩|⟨h13,H⟩
   ·refine zo eZ h13 (aV (za rfl (za eZ (xQ (AW.ret (BQ.qr (TQ.qr (TQ.qr (BQ.qr (TQ.qr ?_))))))))))
    cases H
    exact eE rfl rfl
   ·exact zn eZ (nt h13) (AW.skip (BQ.qn (TQ.qn (aR (qf rfl eC (za eZ (zb (TQ.qn ⟨(IntKind.wrap .i64 (s6+1)),H,(zF [] (sR rfl rfl) BL.nil BK.nil)⟩))))))))
  ·exact zn eZ (dF h8) (AW.exit (TQ.qe (TQ.qe (BQ.qe (TQ.qn ⟨(),H,(zF [] SL.nil BL.nil BK.nil)⟩)))))
theorem X8{a1:zj}{a2:Int}{a3:Int}{r:Int}(H:Z2 a1 a2 a3=some r):Fn Try.prog 19 (lent [(.agg (qu a1)),(.int .i64 a2),(.int .i64 a3)]) true [(.int .i64 r)]:=by
 refine f19 (fle rfl) ?_
 rw[zT]
 refine AW.weaken (zF [] (kv 0 (.agg (zx a1)) rfl rfl (kv 1 (oI a2) rfl rfl (kv 2 (oI a3) rfl rfl SL.nil))) BL.nil BK.nil) ?_
 unfold Z2 at H
 unfold i19
 refine aV (Q8 (n:=192) (m:=2) (cs:=(zx a1)) rfl eZ rfl rfl nZ (Q8 (n:=256) (m:=1) (cs:=[(dI a2)]) rfl rfl rfl rfl (nR rfl) (Q8 (n:=320) (m:=1) (cs:=[(dI a3)]) rfl rfl rfl rfl (nR rfl) (za eC (xQ (aS (aV (zw (es:=(zx a1)) rfl (bR rfl) rfl ?_))))))))
 obtain⟨v4,h5,H⟩:=zp H
 refine zQ (u:=(oB v4)) eC Cl.fn (yz h5) (Ec eZ En) (Vc (VD.agg rfl) Vn) rfl (jF eZ (xQ ?_))
 rcases zD H with⟨h6,H⟩|⟨h6,H⟩
 ·refine zn eZ (cN h6) (AW.skip (TQ.qn (aV (zl (m:=0) rfl rfl (zu (q:=0) (c:=(.d (.sl 5 (List.map zh a1.Recs)))) eZ (bR rfl) rfl rfl (zd4 (ps:=[(.nm 256 0 0),(.nm 320 0 0)]) (Ec rfl (Ec rfl En)) ?_))))))
  obtain⟨v7,h8,H⟩:=zp H
  refine zQ (u:=(oI v7)) eC Cl.fn (Jh h8) (Ec rfl (Ec eZ En)) (Vc Vp (Vc (VD.fn (PDs.cons (XW (bR rfl) (CDs.plain CDs.nil)) (PDs.cons (XW bZ (CDs.plain CDs.nil)) PDs.nil))) Vn)) rfl (qf eC eZ (za eZ (xQ (AW.weaken (zF [320,256,192] (kr 6 rfl rfl SL.nil) (blR rfl) BK.nil) (AW.ret ?_)))))
  cases H
  exact eE rfl rfl
 ·refine zo eZ (cN (nt h6)) (aV (za eC (xQ (AW.ret (TQ.qr ?_)))))
  cases H
  exact eE rfl rfl
theorem XJ{a1:zj}{a2:Int}{a3:Int}{r:(zj×Int×Int)}(H:j0 a1 a2 a3=some r):Fn Try.prog 17 (lent [(.agg (qu a1)),(.int .i64 a2),(.int .i64 a3)]) true [(.agg (qu r.1)),(.int .i64 r.2.1),(.int .i64 r.2.2)]:=by
 refine f17 (fle rfl) ?_
 rw[zT]
 refine AW.weaken (t:=mk [(0,(.agg (zx a1))),(1,(oI a2)),(2,(oI a3))] [] (lk [])) (zF [] (sR rfl rfl) BL.nil BK.nil) ?_
 unfold j0 at H
 unfold i17
 refine aV (Q8 (n:=192) (m:=2) (cs:=(zx a1)) rfl eZ rfl rfl nZ (ZG (n:=384) (m:=2) rfl rfl (nR rfl) (za eC (za eC (xQ (aS (zM (fun t4:Bool=>(qA a1 a2 a3) t4=some r) (fun t4=>mk [(1,(oI a2)),(2,(oI a3)),(3,(.one (.ptr (.nm 192 0 0)))),(6,(.one (.ptr (.nm 384 0 0)))),(24,(oB t4))] [(192,(.vars 2 (zx a1))),(384,(.vars 2 [.zs,.zs]))] (lk [])) ?_ ?_)))))))
 ·intro t4 H
  unfold qA at H
  rcases zD H with⟨h6,H⟩|⟨h6,H⟩
  ·refine zo rfl h6 (aS (zt (zd (Zo (cs:=[.zs,.zs]) jV rfl (zb (zd (zv (es:=[.zs,.zs]) rfl eZ rfl rfl (bR rfl) rfl (zb (zy (za eC (za eC (xQ (AW.ret (TQ.qr ?_))))))))))))))
   cases H
   exact jA (RL.cons (zZ (es:=[.zs,.zs]) rfl bZ rfl) (VO.aggs (VOs.cons VO.zs (VOs.cons VO.zs VOs.nil))) (RL.cons (RV.tmp rfl) (VO.flat rfl) (RL.cons (RV.tmp eZ) (VO.flat rfl) RL.nil))) List.nodup_nil
  ·refine zn rfl (nt h6) (AW.skip (TQ.qn (aS (zt (zd (zw (es:=(zx a1)) rfl bZ rfl (zb (zd ?_))))))))
   obtain⟨v7,h8,H⟩:=zp H
   refine jQ (u:=(.agg [(.sl 1728 0 v7.Recs.length),(.sl 1729 0 v7.Order.length)])) (bs:=[(1728,(.data 5 (List.map zh v7.Recs) true none)),(1729,(.data 1 (List.map zr v7.Order) true none))]) eC Cl.fn (QX h8) (Ec eZ En) (Vc (VD.agg rfl) Vn) (by simp[jg,jK,qB,jq,qI]) rfl (fC (nR rfl) rfl (fC (nR rfl) rfl (fC (nR rfl) rfl fN))) (zb (zd (ZG (n:=576) (m:=2) rfl rfl (nR rfl) (zb (zd (zv (es:=[(.sl 1728 0 v7.Recs.length),(.sl 1729 0 v7.Order.length)]) eZ rfl rfl rfl bZ rfl (zb (zy (xQ (aS (aV (zw (es:=(zx a1)) rfl (bR rfl) rfl (za rfl (za rfl ?_))))))))))))))
   obtain⟨v9,h10,H⟩:=zp H
   refine zQ (u:=(oI v9)) eC Cl.fn (X8 h10) (Ec rfl (Ec rfl (Ec eZ En))) (Vc (VD.agg rfl) (Vc Vp (Vc Vp Vn))) rfl (za eZ (xQ (aV (za eZ (Yt eZ eC (xQ ?_))))))
   rcases zD H with⟨h11,H⟩|⟨h11,H⟩
   ·refine zo eZ (dT h11) (aS (zt (zd (zw (es:=[(.sl 1728 0 v7.Recs.length),(.sl 1729 0 v7.Order.length)]) rfl bZ rfl (zb (zd (za rfl (zb (zd (zv (es:=[(.sl 1728 0 v7.Recs.length),(.sl 1729 0 v7.Order.length)]) rfl rfl rfl rfl (bR rfl) rfl (zb (zy (za eZ (za eC (xQ (AW.weaken (zk [576,192] (kr 8 rfl rfl (kr 7 rfl rfl (kr 6 rfl rfl SL.nil))) (blR rfl) (BK.cons (n:=384) rfl bZ rfl rfl (BK.cons (n:=1729) rfl (bR rfl) rfl rfl (BK.cons (n:=1728) rfl (bR rfl) rfl rfl BK.nil))) GK.nil) (AW.ret (TQ.qr ?_))))))))))))))))))
    cases H
    exact jA (RL.cons (zZ (es:=[(.sl 1728 0 v7.Recs.length),(.sl 1729 0 v7.Order.length)]) rfl bZ rfl) (VO.aggs (VOs.cons (qF (bR rfl) lm rfl) (VOs.cons (VO.sl (bR rfl) lm (z6 fun _=>rfl)) VOs.nil))) (RL.cons (RV.tmp rfl) (VO.flat rfl) (RL.cons (RV.tmp eZ) (VO.flat rfl) RL.nil))) (by decide)
   ·refine zn eZ (dF h11) (AW.skip (TQ.qn (aS (aV (zl (m:=0) rfl rfl (zu (q:=0) (c:=(.d (.sl 5 (List.map zh a1.Recs)))) eZ (bR rfl) rfl rfl (qE eZ (n:=a1.Recs.length) lm (jZ eZ eC (xQ (AW.weaken (zk [] (kr 39 rfl rfl (kr 9 rfl rfl (kr 1 rfl rfl (kr 2 rfl rfl (kr 3 rfl rfl (kr 6 rfl rfl SL.nil)))))) (blR rfl) (BK.cons (n:=576) rfl bZ rfl rfl (BK.cons (n:=1729) rfl (bR rfl) rfl rfl (BK.cons (n:=1728) rfl (bR rfl) rfl rfl (BK.cons (n:=192) rfl (bR rfl) rfl rfl (BK.cons (n:=384) rfl (bR rfl) rfl rfl BK.nil))))) GK.nil) ?_))))))))))
    rcases zD H with⟨h12,H⟩|⟨h12,H⟩
    ·refine zo eZ (dT h12) (aS (zt (zd (zw (es:=[(.sl 1728 0 v7.Recs.length),(.sl 1729 0 v7.Order.length)]) rfl bZ rfl (zb (zd (zv (es:=[(.sl 1728 0 v7.Recs.length),(.sl 1729 0 v7.Order.length)]) rfl eZ rfl rfl (bR rfl) rfl (zb (zy (za eC (za eC (xQ (AW.ret (TQ.qr ?_))))))))))))))
     cases H
     exact jA (RL.cons (zZ (es:=[(.sl 1728 0 v7.Recs.length),(.sl 1729 0 v7.Order.length)]) rfl bZ rfl) (VO.aggs (VOs.cons (qF (bR rfl) lm rfl) (VOs.cons (VO.sl (bR rfl) lm (z6 fun _=>rfl)) VOs.nil))) (RL.cons (RV.tmp rfl) (VO.flat rfl) (RL.cons (RV.tmp eZ) (VO.flat rfl) RL.nil))) (by decide)
    ·refine zn eZ (dF h12) (AW.skip (TQ.qn (aV (zl (m:=0) rfl rfl (zu (q:=0) (c:=(.d (.sl 5 (List.map zh a1.Recs)))) eZ (bR rfl) rfl rfl (qE eZ (n:=a1.Recs.length) lm (qf eZ eC (za eZ (xQ (aS (zt (zd (zl (m:=0) rfl rfl (zb (zd (zu (q:=0) (c:=(.sl 1728 0 v7.Recs.length)) eZ bZ rfl rfl (zb (zd (za rfl (zb (zd (za rfl (zb (zd (za rfl (zb (zd (Zo (cs:=[(dI (IntKind.wrap .i64 ((a1.Recs.length:Int)+1))),(dI a2),(dI a3),(dI 1),.zs]) (qp rfl (qp rfl (qp eZ (qp eC jV)))) rfl (zb (zd (yO (m:=3264) (q:=1) (cs:=[(dI (IntKind.wrap .i64 ((a1.Recs.length:Int)+1))),(dI a2),(dI a3),(dI 1),.zs]) rfl (qp eZ jV) rfl (List.cons_ne_nil _ _) (by simp) (nR rfl) (zb ?_))))))))))))))))))))))))))))))))
     obtain⟨h13,H⟩:=yx H
     refine Yr (f:=zh) (xs:=v7.Recs) (t:=(zi.mk (IntKind.wrap .i64 ((a1.Recs.length:Int)+1)) a2 a3 1 ([]:List zf))) (q:=(v7.Recs++[(zi.mk (IntKind.wrap .i64 ((a1.Recs.length:Int)+1)) a2 a3 1 ([]:List zf))]).length) (ds:=[(.int .i64 (IntKind.wrap .i64 ((a1.Recs.length:Int)+1))),(.int .i64 a2),(.int .i64 a3),(.int .i64 1),(.sl 4 (List.map zg ([]:List zf)))]) (ns:=[]) rfl eZ (bR rfl) rfl bZ rfl (VOs.cons (VO.flat rfl) (VOs.cons (VO.flat rfl) (VOs.cons (VO.flat rfl) (VOs.cons (VO.flat rfl) (VOs.cons VO.zs VOs.nil))))) rfl rfl rfl rfl h13 (by decide) (erL.cons (v':=(.one (.sl 3264 0 1))) rfl (erL.cons (v':=(.agg [(dI (IntKind.wrap .i64 ((a1.Recs.length:Int)+1))),(dI a2),(dI a3),(dI 1),.zs])) rfl (erL.cons (v':=(oI a3)) rfl (erL.cons (v':=(oI a2)) rfl (erL.cons (v':=(oI (IntKind.wrap .i64 ((a1.Recs.length:Int)+1)))) rfl (erL.cons (v':=(.one (.sl 1728 0 v7.Recs.length))) rfl (erL.cons (v':=(.one (.ptr (.nm 576 0 0)))) rfl (erL.cons (v':=(oI (IntKind.wrap .i64 ((a1.Recs.length:Int)+1)))) rfl (erL.cons (v':=(oI (IntKind.wrap .i64 ((a1.Recs.length:Int)+1)))) rfl (erL.cons (v':=(oI (a1.Recs.length:Int))) rfl (erL.cons (v':=(.one (.d (.sl 5 (List.map zh a1.Recs))))) rfl (erL.cons (v':=(.one (.ptr (.nm 192 0 0)))) rfl (erL.cons (v':=(oB (decide ((a1.Recs.length:Int)=60)))) rfl (erL.cons (v':=(.one (.ptr (.nm 576 0 0)))) rfl (erL.cons (v':=(oI a2)) rfl (erL.cons (v':=(oI a3)) rfl (erL.cons (v':=(.one (.ptr (.nm 192 0 0)))) rfl (erL.cons (v':=(.one (.ptr (.nm 384 0 0)))) rfl erL.nil)))))))))))))))))) (erH.cons (v':=(.vars 5 [(dI (IntKind.wrap .i64 ((a1.Recs.length:Int)+1))),(dI a2),(dI a3),(dI 1),.zs])) rfl rfl (erH.cons (v':=(.vars 2 [(.sl 1728 0 v7.Recs.length),(.sl 1729 0 v7.Order.length)])) rfl rfl (erH.cons (v':=(.data 1 (List.map zr v7.Order) true none)) rfl rfl (erH.cons (v':=(.data 5 (List.map zh v7.Recs) true none)) rfl rfl (erH.cons (v':=(.vars 2 (zx a1))) rfl rfl (erH.cons (v':=(.vars 2 [.zs,.zs])) rfl rfl erH.nil)))))) erL.nil (erL.cons (v':=(.one (.sl 3264 0 1))) rfl (erL.cons (v':=(.agg [(dI (IntKind.wrap .i64 ((a1.Recs.length:Int)+1))),(dI a2),(dI a3),(dI 1),.zs])) rfl (erL.cons (v':=(oI a3)) rfl (erL.cons (v':=(oI a2)) rfl (erL.cons (v':=(oI (IntKind.wrap .i64 ((a1.Recs.length:Int)+1)))) rfl (erL.cons (v':=(.one .any)) rfl (erL.cons (v':=(.one (.ptr (.nm 576 0 0)))) rfl (erL.cons (v':=(oI (IntKind.wrap .i64 ((a1.Recs.length:Int)+1)))) rfl (erL.cons (v':=(oI (IntKind.wrap .i64 ((a1.Recs.length:Int)+1)))) rfl (erL.cons (v':=(oI (a1.Recs.length:Int))) rfl (erL.cons (v':=(.one (.d (.sl 5 (List.map zh a1.Recs))))) rfl (erL.cons (v':=(.one (.ptr (.nm 192 0 0)))) rfl (erL.cons (v':=(oB (decide ((a1.Recs.length:Int)=60)))) rfl (erL.cons (v':=(.one (.ptr (.nm 576 0 0)))) rfl (erL.cons (v':=(oI a2)) rfl (erL.cons (v':=(oI a3)) rfl (erL.cons (v':=(.one (.ptr (.nm 192 0 0)))) rfl (erL.cons (v':=(.one (.ptr (.nm 384 0 0)))) rfl erL.nil)))))))))))))))))) (erH.cons (v':=(.vars 5 [(dI (IntKind.wrap .i64 ((a1.Recs.length:Int)+1))),(dI a2),(dI a3),(dI 1),.zs])) rfl rfl (erH.cons (v':=(.vars 2 [.any,(.sl 1729 0 v7.Order.length)])) rfl rfl (erH.cons (v':=(.data 1 (List.map zr v7.Order) true none)) rfl rfl (erH.drop rfl (erH.cons (v':=(.vars 2 (zx a1))) rfl rfl (erH.cons (v':=(.vars 2 [.zs,.zs])) rfl rfl erH.nil)))))) erL.nil (zd (zl (m:=0) rfl rfl (zb (zd (zv (es:=[(.sl 1728 0 ((v7.Recs++[(zi.mk (IntKind.wrap .i64 ((a1.Recs.length:Int)+1)) a2 a3 1 ([]:List zf))]).length)),(.sl 1729 0 v7.Order.length)]) eZ rfl rfl rfl (bR rfl) rfl (zb (zy (xQ (AW.weaken (zk [3264,192] (kr 11 rfl rfl (kr 9 rfl rfl (kr 6 rfl rfl SL.nil))) (blR rfl) (BK.cons (n:=576) rfl bZ rfl rfl (BK.cons (n:=1728) rfl (bR rfl) rfl rfl (BK.cons (n:=1729) rfl (bR rfl) rfl rfl (BK.cons (n:=384) rfl (bR rfl) rfl rfl BK.nil)))) GK.nil) (aS (zt (zd (zw (es:=[(.sl 1728 0 ((v7.Recs++[(zi.mk (IntKind.wrap .i64 ((a1.Recs.length:Int)+1)) a2 a3 1 ([]:List zf))]).length)),(.sl 1729 0 v7.Order.length)]) rfl bZ rfl (zb (zd (za rfl (zb (zd (zv (es:=[(.sl 1728 0 ((v7.Recs++[(zi.mk (IntKind.wrap .i64 ((a1.Recs.length:Int)+1)) a2 a3 1 ([]:List zf))]).length)),(.sl 1729 0 v7.Order.length)]) rfl rfl rfl rfl (bR rfl) rfl (zb (zy (za eZ (za eC (xQ (AW.ret ?_)))))))))))))))))))))))))
     cases H
     exact jA (RL.cons (zZ (es:=[(.sl 1728 0 ((v7.Recs++[(zi.mk (IntKind.wrap .i64 ((a1.Recs.length:Int)+1)) a2 a3 1 ([]:List zf))]).length)),(.sl 1729 0 v7.Order.length)]) rfl bZ rfl) (VO.aggs (VOs.cons (qF (bR rfl) lm rfl) (VOs.cons (VO.sl (bR rfl) lm (z6 fun _=>rfl)) VOs.nil))) (RL.cons (RV.tmp rfl) (VO.flat rfl) (RL.cons (RV.tmp eZ) (VO.flat rfl) RL.nil))) (by decide)
 ·refine aR (zw (es:=(zx a1)) rfl (bR rfl) rfl ?_)
  obtain⟨v14,h15,H⟩:=zp H
  refine zQ (u:=(oB v14)) eC Cl.fn (yz h15) (Ec eZ En) (Vc (VD.agg rfl) Vn) rfl (jF eZ (za eZ ?_))
  rcases zD H with⟨h16,H⟩|⟨h16,H⟩
  ·refine gDo eZ (cN h16) (za rfl (gDo rfl (cN h16) ?_))
   obtain⟨v17,h18,H⟩:=zp H
   refine zQ (u:=(oB v17)) eC Cl.fn (kt h18) (Ec eZ En) (Vc Vp Vn) rfl (gDo rfl (cN h16) (jF eZ (zU rfl (cN h16) eZ (za eZ ?_))))
   rcases zD H with⟨h19,H⟩|⟨h19,H⟩
   ·refine gDo eZ (cN h19) (za rfl (gDo rfl (cN h19) ?_))
    obtain⟨v20,h21,H⟩:=zp H
    exact zQ (u:=(oB v20)) eC Cl.fn (XM h21) (Ec eZ En) (Vc Vp Vn) rfl (gDo rfl (cN h19) (jF eZ (zU rfl (cN h19) eZ (zb (TQ.qn ⟨(!v20),H,(zk [] (sR rfl rfl) (blR rfl) (bkR rfl rfl rfl) GK.nil)⟩)))))
   ·exact ze eZ (cN (nt h19)) rfl (ze rfl (cN (nt h19)) rfl (ze rfl (cN (nt h19)) rfl (zJ rfl (cN (nt h19)) eC (zb (TQ.qn ⟨true,H,(zk [] (sR rfl rfl) (blR rfl) (bkR rfl rfl rfl) GK.nil)⟩)))))
  ·exact ze eZ (cN (nt h16)) rfl (ze rfl (cN (nt h16)) rfl (ze rfl (cN (nt h16)) rfl (zJ rfl (cN (nt h16)) eC (za eZ (ze eZ rfl rfl (ze rfl rfl rfl (ze rfl rfl rfl (zJ rfl rfl eC (zb (TQ.qn ⟨true,H,(zk [] (sR rfl rfl) (blR rfl) (bkR rfl rfl rfl) GK.nil)⟩))))))))))
end Go.AW
