/- That functions of the program compute what the plain functions say. Conditions: each theorem's own. -/
import Derived.Test.YtpabbbmfcgnhdaaGreatMShardDecide
import Derived.Test.YtpabbbmfcgnhdaaGreatGShardDecide
import Derived.Test.YtpabbbmfcgnhdaaGreatYn
import Derived.Test.YtpabbbmfcgnhdaaGreatSShardDecide
import Derived.Test.YtpabbbmfcgnhdaaGreatYt
import Derived.KernelRfl
import Derived.Test.YtpabbbmfcgnhdaaGreatDShardDecidea
import Derived.Test.YtpabbbmfcgnhdaaGreatDShardDecideb
import Derived.Test.YtpabbbmfcgnhdaaGreatDShardDecidec
set_option linter.unusedVariables false
set_option linter.unusedSimpArgs false
set_option maxRecDepth 100000
namespace Go.AW
open Go.Proofs
theorem K6{a1:(List Int)}{a2:Int}{r:(Int×Bool)}(H:jV a1 a2=some r):Fn Tryz.prog 245 (lent [.sl 1 (a1.map zm),.int .i64 a2]) true [.int .i64 r.1,.bool r.2]:=by
 refine ac zJ6 O ?_
 refine ak (zf [] (kv 0 (.one<|.d<|.sl 1<|a1.map zm) O O<|kv 1 (oI a2) O O ar) am aj) ?_
 unfold jV at H
 unfold zCP
 refine aV (za eC<|za eC<|xQ<|aV<|za O<|zX eZ (n:=a1.length) lm<|za eZ<|xQ<|aV<|za eZ<|za eC<|za O<|xQ<|zD (fun t3:Int=>qO a1 a2 t3=some r) (fun t3=>mk [(0,.one<|.d<|.sl 1<|a1.map zm),(1,oI a2),(6,oI (a1.length:Int)),(7,oI t3)] [] noG) ?_ ?_)
 ·intro t3 H
  unfold qO at H
  refine aV (za O<|za O<|za O<|qj O eZ<|za eZ ?_)
  obtain⟨h5,H⟩|⟨h5,H⟩:=ab H
  ·refine gDo eZ h5 (za O<|gDo O h5<|za O<|gDo O h5 ?_)
   obtain⟨v6,h7,H⟩:=zk H
   refine qk O eZ h7 (gDo O h5<|zV (e:=.int .i64 v6) eZ O<|gDo O h5<|za O<|gDo O h5<|kZ O eZ<|gDo O h5<|za eZ ?_)
   obtain⟨h8,H⟩|⟨h8,H⟩:=zA H
   ·refine zb eZ (dT h8) O (zb O (dT h8) O<|zb O (dT h8) O<|zb O (dT h8) O<|zb O (dT h8) O<|zb O (dT h8) O<|zE eZ O<|zE O O<|zb O (dT h8) O<|gDo O h5<|zB O (dT h8) eC<|zB O h5 eZ<|za O<|za O<|xQ<|ak (zf [] (kr 5 O O<|kr 4 O O ar) am aj)<|aq ?_)
    cases H
    exact qT (aE (aM O) (aQ O)<|aE (aM eZ) (aQ O) aO) List.nodup_nil
   ·refine gDo eZ (dF h8) (za O<|gDo O (dF h8)<|za O<|gDo O (dF h8) ?_)
    obtain⟨v9,h10,H⟩:=zk H
    refine qk O eZ h10 (gDo O (dF h8)<|zV (e:=.int .i64 v9) eZ O<|gDo O (dF h8) ?_)
    obtain⟨v11,h12,H⟩:=zk H
    refine zF (u:=oB v11) eC ay (Kz h12) (Ec eZ En) (Vc Vp Vn) O (gDo O (dF h8)<|za eZ ?_)
    obtain⟨h13,H⟩|⟨h13,H⟩:=zA H
    ·refine gDo eZ h13 (za O<|gDo O h13 ?_)
     obtain⟨v14,h15,H⟩:=zk H
     refine zF (u:=oB v14) eC ay (Kz h15) (Ec eZ En) (Vc Vp Vn) O (gDo O (dF h8)<|zB O h13 eZ<|gDo O h5<|zM O (dF h8) eZ<|zB O h5 eZ<|za O<|za O<|xQ<|ak (zf [] (kr 5 O O<|kr 4 O O ar) am aj)<|aq ?_)
     cases H
     exact qT (aE (aM O) (aQ O)<|aE (aM eZ) (aQ O) aO) List.nodup_nil
    ·refine zb eZ (nt h13) O (zb O (nt h13) O<|gDo O (dF h8)<|zM O (nt h13) eC<|gDo O h5<|zM O (dF h8) eZ<|zB O h5 eZ<|za O<|za O<|xQ<|ak (zf [] (kr 5 O O<|kr 4 O O ar) am aj)<|aq ?_)
     cases H
     exact qT (aE (aM O) (aQ O)<|aE (aM eZ) (aQ O) aO) List.nodup_nil
  ·refine zb eZ h5 O (zb O h5 O<|zb O h5 O<|zb O h5 O<|zb O h5 O<|zb O h5 O<|zb O h5 O<|zE eZ O<|zE O O<|zE O O<|zE O O<|zE O O<|zE O O<|zE eZ O<|zE O O<|zE O O<|zb O h5 O<|zM O h5 eC<|za O<|za O<|xQ<|ak (zf [] (kr 5 O O<|kr 4 O O ar) am aj)<|aq ?_)
   cases H
   exact qT (aE (aM O) (aQ O)<|aE (aM eZ) (aQ O) aO) List.nodup_nil
 ·refine aw (aG (fun s16:(Int×Int)=>mk [(0,.one<|.d<|.sl 1<|a1.map zm),(1,oI a2),(6,oI (a1.length:Int)),(7,oI s16.1),(8,oI s16.2)] [] noG) H (zf [] (sR O O) am aj) ?_)
  intro kb17 s16 H
  unfold jH at H
  refine aS (aV<|za O<|za O<|qj O eZ<|xQ ?_)
  obtain⟨h18,H⟩|⟨h18,H⟩:=zA H
  ·refine zi eZ (dT h18) (au<|al<|aw<|aV<|za O<|za O<|qb O eZ<|zkc eZ<|zFE eZ eC (by decide)<|zkc eZ<|za eZ<|xQ<|aV<|za O<|za O ?_)
   obtain⟨v19,h20,H⟩:=zk H
   refine qk O eZ h20 (zV (e:=.int .i64 v19) eZ O<|za O ?_)
   obtain⟨v21,h22,H⟩:=zk H
   refine zF (u:=oB v21) eC ay (zfM h22) (Ec O<|Ec eZ En) (Vc Vp<|Vc Vp Vn) O (xQ<|ak (zf [] (kr 27 O O<|kr 9 O O<|kr 0 O O<|kr 1 O O<|kr 6 O O<|kr 7 O O<|kr 8 O O ar) am aj) ?_)
   obtain⟨h23,H⟩|⟨h23,H⟩:=zA H
   ·exact zi eZ h23 (aR<|za O<|qb eZ eC<|za eZ<|zl<|aP<|al ⟨(IntKind.wrap .i64 ((IntKind.wrap .i64<|Int.fdiv (IntKind.wrap .u64<|IntKind.wrap .i64 (s16.1+s16.2))<|2 ^ (min (Int.toNat 1)<|IntKind.bits .u64))+1),s16.2),H,zf [] (sR O O) am aj⟩)
   ·exact zh eZ (nt h23) (aR<|za O<|za eZ<|zl<|aP<|al ⟨(s16.1,IntKind.wrap .i64<|Int.fdiv (IntKind.wrap .u64<|IntKind.wrap .i64 (s16.1+s16.2))<|2 ^ (min (Int.toNat 1)<|IntKind.bits .u64)),H,zf [] (sR O O) am aj⟩)
  ·exact zh eZ (dF h18) (aH<|aC<|aC<|aT<|al ⟨s16.1,H,zf [] (sR O O) am aj⟩)
theorem zcg{a1:List Int}{a2:Int}{a3 r:List Int}(H:Y3 a1 a2 a3=some r):Fn Tryz.prog 246 [⟨.sl 1<|a1.map zm,.g⟩,⟨.int .i64 a2,.b⟩,⟨.sl 1<|a3.map zm,.g⟩] true [.sl 1 (List.map zm r)]:=by
 obtain⟨⟨h1,h2,h3,h4⟩,H⟩:=zW H
 cases H
 obtain⟨i,rfl⟩:∃i:Nat,a2=(i:Int):=⟨Int.toNat a2,by omega⟩
 obtain⟨x,rfl⟩:=List.length_eq_one_iff.1 h3
 rw[Int.toNat_natCast]
 refine zKa (fle O) (fC nZ O<|fC nZ O fN) O ?_
 rw[ZE]
 exact ak (t:=mk [(0,.one<|.sl 0 0 a1.length),(1,.one<|dI (i:Int)),(2,.one<|.sl 128 0 1)] [(128,.data 1 (List.map zm [x]) true none),(0,.data 1 (a1.map zm) true none)] (lk [])) (zH (gl:=[]) [] (aF (v:=.one (.sl 0 0 a1.length)) eZ O (aK<|ba (by simp))<|aF (v:=oI (i:Int)) (eS O eZ) O bI<|aF (v:=.one (.sl 128 0 1)) (eS O<|eS O eZ) O (aK<|ba (by simp)) ar) (blR O) (ao (n:=128) O bZ O O<|ao (n:=0) O (bR O) O O aj) aA) (zoS (f:=zm) (zv:=0) (sz:=1) (bytes:=8) (zs:=[.int .i64 0]) (ov:=311) (sx:=312) (fun _=>O) O (by decide) (by decide) (by omega) (by omega)<|zoJ (fn:=Tryz.f311) (tS:=54) (tR:=4) (e:=3) Tryz.func311 (by kernel_rfl) (by kernel_rfl) (by kernel_rfl) (by kernel_rfl) Tryz.underlying54 (Option.some_get (by kernel_rfl:(Tryz.prog.info? 3).isSome=true)).symm)
theorem zeN{a1:(List Int)}{a2:Int}{r:(List Int)}(H:Q6 a1 a2=some r):Fn Tryz.prog 132 [⟨.sl 1<|a1.map zm,.g⟩,⟨.int .i64 a2,.b⟩] true [.sl 1 (List.map zm r)]:=by
 refine zIg (fle O) (fC nZ O fN) O ?_
 rw[ZE]
 refine ak (t:=mk [(0,.one<|.sl 0 0 a1.length),(1,oI a2)] [(0,.data 1 (a1.map zm) true none)] (lk [])) (zH (gl:=[]) [] (aF (v:=.one (.sl 0 0 a1.length)) eZ O (aK<|ba lm)<|kv 1 (oI a2) O O ar) (blR O) (ao (n:=0) O bZ O O aj) aA) ?_
 unfold Q6 at H
 unfold zEh
 refine aV (za eC<|xQ<|aV<|za O<|za O ?_)
 obtain⟨v3,h4,H⟩:=zk H
 refine zF (u:=.tup [oI v3.1,oB v3.2]) eC ay (K6 h4) (Ec O<|Ec eZ En) (Vc (bF bZ lm)<|Vc Vp Vn) O (za eZ<|zaM (v:=oI v3.1) eZ O<|zaM (v:=oB v3.2) O O<|za O<|za O<|xQ<|aS<|aV<|za eZ<|xQ ?_)
 obtain⟨h5,H⟩|⟨h5,H⟩:=aa H
 ·refine zi eZ h5 (aV<|za O<|za eZ<|xQ<|aq<|ax ?_)
  cases H
  exact QJ (aE (aM eZ) (aL bZ lm (zI fun _=>O)) aO) (bH<|bo bt) (by decide)
 ·refine zh eZ h5 (au<|al<|aS<|zZ<|zr<|za O<|zl<|zr ?_)
  obtain⟨v6,h7,H⟩:=zk H
  refine j9 (u:=.one (.sl 1024 0 v6.length)) (bs:=[(1024,.data 1 (v6.map zm) true none)]) eC ay (QW h7) (Ec eZ En) (Vc (bF bZ lm) Vn) (by simp[jg,jD,qy,jq,qF]) O (fC (nR O) O<|fC (nR O) O fN) (zl<|zr<|za O<|zl<|zr<|za O<|zl<|zr<|QQ (m:=1216) (q:=1) (cs:=[dI a2]) O (qY eZ Z5) O (List.cons_ne_nil _ _) (by simp) (nR O)<|zl ?_)
  obtain⟨v8,h9,H⟩:=zk H
  refine zhP (ziG 1216 (zs:=[]) (f:=zm) (t:=a2) bZ O O) (zaV (ON:=[1024,1216]) (ls:=[]) (G:=[1024,1216]) (E:=[1024,1216]) (MB:=[]) (u:=.one (.sl 1280 0 v8.length)) (bs:=[(1280,.data 1 (v8.map zm) true none)]) eC ay (zcg h9) (Ec O<|Ec O<|Ec eZ En) (bz (aL (bR O) lm (zI fun _=>O))<|bf Vp O<|bz (aL bZ O (zI fun _=>O)) bj) O O O bh (ai (v':=.one .any) O<|ai (v':=oI a2) O<|ai (v':=oI v3.1) O<|ai (v':=.one .any) O<|ai (v':=.one (.sl 0 0 a1.length)) O<|ai (v':=oB v3.2) O<|ai (v':=oB v3.2) O<|ai (v':=oI v3.1) O<|ai (v':=oB v3.2) O<|ai (v':=oI v3.1) O<|ai (v':=.tup [oI v3.1,oB v3.2]) O<|ai (v':=.tup [oI v3.1,oB v3.2]) O<|ai (v':=oI a2) O<|ai (v':=.one (.sl 0 0 a1.length)) O<|ai (v':=.one .zs) O<|ai (v':=.one (.sl 0 0 a1.length)) O<|ai (v':=oI a2) O aN) (aY O<|aY O<|aY O<|av (v':=.data 1 (a1.map zm) true none) O O aU) aN (by simp[jg,jD,qy,jq,qF]) O (fC (nR O) O<|fC (nR O) O fN)<|qf<|za eZ<|xQ<|ak (zH [0] (kr 4 O O ar) (blR O) (ao (n:=1280) O bZ O O aj) aA)<|aq ?_)
  cases H
  exact QJ (aE (aM eZ) (aL bZ lm (zI fun _=>O)) aO) (bH<|bo bt) (by decide)
theorem KV{a1:zp}{a2:Int}{a3:Bool}{r:(zp×Int)}(H:yH a1 a2 a3=some r):Fn Tryz.prog 29 (lent [.agg (zT a1),.int .i64 a2,.bool a3]) true [.agg (zT r.1),.int .i64 r.2]:=by
 refine ac f29 O ?_
 refine ak (t:=mk [(0,.agg<|zK a1),(1,oI a2),(2,oB a3)] [] (lk [])) (zf [] (sR O O) am aj) ?_
 unfold yH at H
 unfold i29
 refine aV (yd (n:=192) (m:=9) (cs:=zK a1) O eZ O O nZ<|yd (n:=256) (m:=1) (cs:=[dI a2]) O O O O (nR O)<|Zn (n:=384) (m:=9) O O (nR O)<|za eC<|xQ<|aS<|zD (fun t4:Bool=>yx a1 a2 a3 t4=some r) (fun t4=>mk [(2,oB a3),(3,.one<|.ptr<|.nm 192 0 0),(4,.one<|.ptr<|.nm 256 0 0),(6,.one<|.ptr<|.nm 384 0 0),(17,oB t4)] [(192,.vars 9<|zK a1),(256,.vars 1 [dI a2]),(384,.vars 9 [dI 0,.zs,.zs,.zs,.zs,.zs,.zs,.zs,dI 0])] (lk [])) ?_ ?_)
 ·intro t4 H
  obtain⟨h6,H⟩|⟨h6,H⟩:=aa H
  ·refine zi O h6 (aS<|zZ<|zr<|Xa (cs:=[dI 0,.zs,.zs,.zs,.zs,.zs,.zs,.zs,dI 0]) Z5 O<|zl<|zr<|zP (es:=[dI 0,.zs,.zs,.zs,.zs,.zs,.zs,.zs,dI 0]) O eZ O O (bR O) O<|zl<|qf<|za eC<|xQ<|aq<|ax ?_)
   cases H
   exact qT (aE (yq (es:=[dI 0,.zs,.zs,.zs,.zs,.zs,.zs,.zs,dI 0]) O bZ O) (bA<|aB (aQ O)<|aB bv<|aB bv<|aB bv<|aB bv<|aB bv<|aB bv<|aB bv<|aB (aQ O) bp)<|aE (aM eZ) (aQ O) aO) List.nodup_nil
  ·refine zh O h6 (au<|al<|aS<|zZ<|zr<|zY (es:=zK a1) O bZ O<|zl<|zr ?_)
   obtain⟨v7,h8,H⟩:=zk H
   refine j9 (u:=.agg [dI v7.Me,.sl 1281 0 v7.Own.length,.sl 1282 0 v7.Frozen.length,.sl 1283 0 v7.Cells.length,.sl 1284 0 v7.Locks.length,.sl 1285 0 v7.Helds.length,.sl 1286 0 v7.Wounded.length,.sl 1287 0 v7.Ended.length,dI v7.Rank]) (bs:=[(1281,.data 2 (v7.Own.map zg) true none),(1282,.data 2 (v7.Frozen.map zg) true none),(1283,.data 2 (v7.Cells.map zd) true none),(1284,.data 4 (v7.Locks.map zo) true none),(1285,.data 2 (v7.Helds.map zx) true none),(1286,.data 1 (v7.Wounded.map zm) true none),(1287,.data 1 (v7.Ended.map zm) true none)]) eC ay (zej h8) (Ec eZ En) (Vc (aI O) Vn) (by simp[jg,jD,qy,jq,qF]) O (fC (nR O) O<|fC (nR O) O<|fC (nR O) O<|fC (nR O) O<|fC (nR O) O<|fC (nR O) O<|fC (nR O) O<|fC (nR O) O fN) (zl<|zr<|Zn (n:=512) (m:=9) O O (nR O)<|zl<|zr<|zP (es:=[dI v7.Me,.sl 1281 0 v7.Own.length,.sl 1282 0 v7.Frozen.length,.sl 1283 0 v7.Cells.length,.sl 1284 0 v7.Locks.length,.sl 1285 0 v7.Helds.length,.sl 1286 0 v7.Wounded.length,.sl 1287 0 v7.Ended.length,dI v7.Rank]) eZ O O O bZ O<|zl<|qf<|xQ<|aS<|aV<|ze (m:=7) O O<|zn (q:=7) (c:=.d (.sl 1<|a1.Ended.map zm)) eZ (bR O) O O<|zn (q:=0) (c:=dI a2) O (bR O) O O ?_)
   obtain⟨v9,h10,H⟩:=zk H
   refine zF (u:=oB v9) eC ay (Xd h10) (Ec O<|Ec eZ En) (Vc Vp<|Vc Vp Vn) O (xQ ?_)
   obtain⟨h11,H⟩|⟨h11,H⟩:=aa H
   ·refine zi eZ h11 (aS<|zZ<|zr<|zY (es:=[dI v7.Me,.sl 1281 0 v7.Own.length,.sl 1282 0 v7.Frozen.length,.sl 1283 0 v7.Cells.length,.sl 1284 0 v7.Locks.length,.sl 1285 0 v7.Helds.length,.sl 1286 0 v7.Wounded.length,.sl 1287 0 v7.Ended.length,dI v7.Rank]) O bZ O<|zl<|zr<|zP (es:=[dI v7.Me,.sl 1281 0 v7.Own.length,.sl 1282 0 v7.Frozen.length,.sl 1283 0 v7.Cells.length,.sl 1284 0 v7.Locks.length,.sl 1285 0 v7.Helds.length,.sl 1286 0 v7.Wounded.length,.sl 1287 0 v7.Ended.length,dI v7.Rank]) O eZ O O (bR O) O<|zl<|qf<|za eC<|xQ<|aq<|ax ?_)
    cases H
    exact qT (aE (yq (es:=[dI v7.Me,.sl 1281 0 v7.Own.length,.sl 1282 0 v7.Frozen.length,.sl 1283 0 v7.Cells.length,.sl 1284 0 v7.Locks.length,.sl 1285 0 v7.Helds.length,.sl 1286 0 v7.Wounded.length,.sl 1287 0 v7.Ended.length,dI v7.Rank]) O bZ O) (bA<|aB (aQ O)<|aB (aL (bR O) lm (zI fun _=>O))<|aB (aL (bR O) lm (zI fun _=>O))<|aB (aL (bR O) lm (zI fun _=>O))<|aB (aL (bR O) lm (zI fun _=>O))<|aB (Kf (bR O) lm O)<|aB (aL (bR O) lm (zI fun _=>O))<|aB (aL (bR O) lm (zI fun _=>O))<|aB (aQ O) bp)<|aE (aM eZ) (aQ O) aO) (by decide)
   ·refine zh eZ h11 (au<|al<|zD (fun t12:((List zj)×(List zL))=>jt v7 a2 t12=some r) (fun t12=>mk [(4,.one<|.ptr<|.nm 256 0 0),(6,.one<|.ptr<|.nm 384 0 0),(8,.one<|.ptr<|.nm 512 0 0)] [(256,.vars 1 [dI a2]),(384,.vars 9 [dI 0,.zs,.zs,.zs,.zs,.zs,.zs,.zs,dI 0]),(320192,.data 2 (List.map zd t12.1) true none),(320256,.data 2 (List.map zx t12.2) true none),(512,.vars 9 [dI v7.Me,.sl 1281 0 v7.Own.length,.sl 1282 0 v7.Frozen.length,.sl 320192 0 t12.1.length,.sl 1284 0 v7.Locks.length,.sl 320256 0 t12.2.length,.sl 1286 0 v7.Wounded.length,.sl 1287 0 v7.Ended.length,dI v7.Rank]),(1281,.data 2 (v7.Own.map zg) true none),(1282,.data 2 (v7.Frozen.map zg) true none),(1284,.data 4 (v7.Locks.map zo) true none),(1286,.data 1 (v7.Wounded.map zm) true none),(1287,.data 1 (v7.Ended.map zm) true none)] (lk [])) ?_ ?_)
    ·intro t12 H
     unfold jt at H
     refine aS (zZ<|zr<|ze (m:=4) O O<|zl<|zr<|zn (q:=4) (c:=.sl 1284 0 v7.Locks.length) eZ (bR O) O O<|zl<|zr<|zn (q:=0) (c:=dI a2) O bZ O O<|zl<|zr ?_)
     obtain⟨v14,h15,H⟩:=zk H
     refine j9 (u:=.one (.sl 3648 0 v14.length)) (bs:=[(3648,.data 4 (v14.map zo) true none)]) eC ay (zef h15) (Ec O<|Ec eZ En) (Vc (bF (bR O) lm)<|Vc Vp Vn) (by simp[jg,jD,qy,jq,qF]) O (fC (nR O) O<|fC (nR O) O fN) (zl<|zr<|ze (m:=4) O O<|zl<|zr<|zP (es:=[dI v7.Me,.sl 1281 0 v7.Own.length,.sl 1282 0 v7.Frozen.length,.sl 320192 0 t12.1.length,.sl 3648 0 v14.length,.sl 320256 0 t12.2.length,.sl 1286 0 v7.Wounded.length,.sl 1287 0 v7.Ended.length,dI v7.Rank]) eZ O O O (bR O) O<|zl<|qf<|xQ<|aS<|zZ<|zr<|ze (m:=6) O O<|zl<|zr<|zn (q:=6) (c:=.sl 1286 0 v7.Wounded.length) eZ bZ O O<|zl<|zr<|zer (ps:=[.nm 256 0 0]) (Ec O En)<|zl ?_)
     obtain⟨v16,h17,H⟩:=zk H
     refine zaV (ON:=[1286]) (ls:=[256]) (G:=[1286]) (E:=[1286]) (MB:=[]) (u:=.one (.sl 3968 0 v16.length)) (bs:=[(3968,.data 1 (v16.map zm) true none)]) eC ay (JP h17) (Ec O<|Ec eZ En) (bz (aL (bR O) lm (zI fun _=>O))<|bf (bw<|a8 (xY (bR O)<|aD bc) bg) O bj) O O O bh (ai (v':=.one (.fn 131 [.nm 256 0 0])) O<|ai (v':=.one .any) O<|ai (v':=.one (.ptr<|.nm 512 0 6)) O<|ai (v':=.one (.ptr<|.nm 512 0 4)) O<|ai (v':=.one (.sl 3648 0 v14.length)) O<|ai (v':=oI a2) O<|ai (v':=.one (.sl 1284 0 v7.Locks.length)) O<|ai (v':=.one (.ptr<|.nm 512 0 4)) O<|ai (v':=.one (.ptr<|.nm 256 0 0)) O<|ai (v':=.one (.ptr<|.nm 384 0 0)) O<|ai (v':=.one (.ptr<|.nm 512 0 0)) O aN) (av (v':=.vars 9 [dI v7.Me,.sl 1281 0 v7.Own.length,.sl 1282 0 v7.Frozen.length,.sl 320192 0 t12.1.length,.sl 3648 0 v14.length,.sl 320256 0 t12.2.length,.any,.sl 1287 0 v7.Ended.length,dI v7.Rank]) O O<|av (v':=.data 4 (v14.map zo) true none) O O<|av (v':=.vars 1 [dI a2]) O O<|av (v':=.vars 9 [dI 0,.zs,.zs,.zs,.zs,.zs,.zs,.zs,dI 0]) O O<|av (v':=.data 2 (List.map zd t12.1) true none) O O<|av (v':=.data 2 (List.map zx t12.2) true none) O O<|av (v':=.vars 9 [dI v7.Me,.sl 1281 0 v7.Own.length,.sl 1282 0 v7.Frozen.length,.sl 320192 0 t12.1.length,.sl 1284 0 v7.Locks.length,.sl 320256 0 t12.2.length,.any,.sl 1287 0 v7.Ended.length,dI v7.Rank]) O O<|av (v':=.data 2 (v7.Own.map zg) true none) O O<|av (v':=.data 2 (v7.Frozen.map zg) true none) O O<|av (v':=.data 4 (v7.Locks.map zo) true none) O O<|aY O<|av (v':=.data 1 (v7.Ended.map zm) true none) O O aU) aN (by simp[jg,jD,qy,jq,qF]) O (fC (nR O) O<|fC (nR O) O fN) (zr<|ze (m:=6) O O<|zl<|zr<|zP (es:=[dI v7.Me,.sl 1281 0 v7.Own.length,.sl 1282 0 v7.Frozen.length,.sl 320192 0 t12.1.length,.sl 3648 0 v14.length,.sl 320256 0 t12.2.length,.sl 3968 0 v16.length,.sl 1287 0 v7.Ended.length,dI v7.Rank]) eZ O O O (bR O) O<|zl<|qf<|xQ<|aS<|zZ<|zr<|ze (m:=7) O O<|zl<|zr<|zn (q:=7) (c:=.sl 1287 0 v7.Ended.length) eZ bZ O O<|zl<|zr<|zn (q:=0) (c:=dI a2) O (bR O) O O<|zl ?_)
     obtain⟨v18,h19,H⟩:=zk H
     refine zaV (ON:=[1287]) (ls:=[]) (G:=[1287]) (E:=[1287]) (MB:=[]) (u:=.one (.sl 4288 0 v18.length)) (bs:=[(4288,.data 1 (v18.map zm) true none)]) eC ay (zeN h19) (Ec O<|Ec eZ En) (bz (aL (bR O) lm (zI fun _=>O))<|bf Vp O bj) O O O bh (ai (v':=oI a2) O<|ai (v':=.one .any) O<|ai (v':=.one (.ptr<|.nm 512 0 7)) O<|ai (v':=.one (.ptr<|.nm 512 0 6)) O<|ai (v':=.one (.sl 3968 0 v16.length)) O<|ai (v':=.one (.fn 131 [.nm 256 0 0])) O<|ai (v':=.one .any) O<|ai (v':=.one (.ptr<|.nm 512 0 6)) O<|ai (v':=.one (.ptr<|.nm 512 0 4)) O<|ai (v':=.one (.sl 3648 0 v14.length)) O<|ai (v':=oI a2) O<|ai (v':=.one (.sl 1284 0 v7.Locks.length)) O<|ai (v':=.one (.ptr<|.nm 512 0 4)) O<|ai (v':=.one (.ptr<|.nm 256 0 0)) O<|ai (v':=.one (.ptr<|.nm 384 0 0)) O<|ai (v':=.one (.ptr<|.nm 512 0 0)) O aN) (av (v':=.vars 9 [dI v7.Me,.sl 1281 0 v7.Own.length,.sl 1282 0 v7.Frozen.length,.sl 320192 0 t12.1.length,.sl 3648 0 v14.length,.sl 320256 0 t12.2.length,.sl 3968 0 v16.length,.any,dI v7.Rank]) O O<|av (v':=.data 1 (v16.map zm) true none) O O<|av (v':=.vars 9 [dI v7.Me,.sl 1281 0 v7.Own.length,.sl 1282 0 v7.Frozen.length,.sl 320192 0 t12.1.length,.sl 3648 0 v14.length,.sl 320256 0 t12.2.length,.any,.any,dI v7.Rank]) O O<|av (v':=.data 4 (v14.map zo) true none) O O<|av (v':=.vars 1 [dI a2]) O O<|av (v':=.vars 9 [dI 0,.zs,.zs,.zs,.zs,.zs,.zs,.zs,dI 0]) O O<|av (v':=.data 2 (List.map zd t12.1) true none) O O<|av (v':=.data 2 (List.map zx t12.2) true none) O O<|av (v':=.vars 9 [dI v7.Me,.sl 1281 0 v7.Own.length,.sl 1282 0 v7.Frozen.length,.sl 320192 0 t12.1.length,.sl 1284 0 v7.Locks.length,.sl 320256 0 t12.2.length,.any,.any,dI v7.Rank]) O O<|av (v':=.data 2 (v7.Own.map zg) true none) O O<|av (v':=.data 2 (v7.Frozen.map zg) true none) O O<|av (v':=.data 4 (v7.Locks.map zo) true none) O O<|aY O aU) aN (by simp[jg,jD,qy,jq,qF]) O (fC (nR O) O<|fC (nR O) O fN) (zr<|ze (m:=7) O O<|zl<|zr<|zP (es:=[dI v7.Me,.sl 1281 0 v7.Own.length,.sl 1282 0 v7.Frozen.length,.sl 320192 0 t12.1.length,.sl 3648 0 v14.length,.sl 320256 0 t12.2.length,.sl 3968 0 v16.length,.sl 4288 0 v18.length,dI v7.Rank]) eZ O O O (bR O) O<|zl<|qf<|xQ<|ak (zH [256,1284] (kr 6 O O<|kr 8 O O ar) (blR O) (ao (n:=512) O bZ O O<|ao (n:=4288) O (bR O) O O<|ao (n:=3968) O (bR O) O O<|ao (n:=3648) O (bR O) O O<|ao (n:=384) O (bR O) O O<|ao (n:=320192) O (bR O) O O<|ao (n:=320256) O (bR O) O O<|ao (n:=1281) O (bR O) O O<|ao (n:=1282) O (bR O) O O aj) aA)<|aS<|zZ<|zr<|zY (es:=[dI v7.Me,.sl 1281 0 v7.Own.length,.sl 1282 0 v7.Frozen.length,.sl 320192 0 t12.1.length,.sl 3648 0 v14.length,.sl 320256 0 t12.2.length,.sl 3968 0 v16.length,.sl 4288 0 v18.length,dI v7.Rank]) O bZ O<|zl<|zr<|zP (es:=[dI v7.Me,.sl 1281 0 v7.Own.length,.sl 1282 0 v7.Frozen.length,.sl 320192 0 t12.1.length,.sl 3648 0 v14.length,.sl 320256 0 t12.2.length,.sl 3968 0 v16.length,.sl 4288 0 v18.length,dI v7.Rank]) O eZ O O (bR O) O<|zl<|qf<|za eC<|xQ<|aq ?_)
     cases H
     exact qT (aE (yq (es:=[dI v7.Me,.sl 1281 0 v7.Own.length,.sl 1282 0 v7.Frozen.length,.sl 320192 0 t12.1.length,.sl 3648 0 v14.length,.sl 320256 0 t12.2.length,.sl 3968 0 v16.length,.sl 4288 0 v18.length,dI v7.Rank]) O bZ O) (bA<|aB (aQ O)<|aB (aL (bR O) lm (zI fun _=>O))<|aB (aL (bR O) lm (zI fun _=>O))<|aB (aL (bR O) lm (zI fun _=>O))<|aB (aL (bR O) lm (zI fun _=>O))<|aB (Kf (bR O) lm O)<|aB (aL (bR O) lm (zI fun _=>O))<|aB (aL (bR O) lm (zI fun _=>O))<|aB (aQ O) bp)<|aE (aM eZ) (aQ O) aO) (by decide)
    ·refine aS (aX<|ze (m:=5) O O<|zn (q:=5) (c:=.sl 1285 0 v7.Helds.length) eZ bZ O O ?_)
     obtain⟨v20,h21,H⟩:=zk H
     refine zF (u:=.one (.d<|.sl 1<|v20.map zm)) eC ay (za0 h21) (Ec eZ En) (Vc (bF (bR O) lm) Vn) O (zn (q:=0) (c:=dI a2) O (hB O<|bR O) O O ?_)
     obtain⟨v22,h23,H⟩:=zk H
     refine zF (u:=oI v22) eC ay (K4 h23) (Ec O<|Ec eZ En) (Vc Vp<|Vc Vp Vn) O (za eZ<|xQ<|ak (zH [192] (kr 9 O O<|kr 8 O O<|kr 2 O O<|kr 4 O O<|kr 6 O O ar) (blR O) (ao (n:=512) O bZ O O<|ao (n:=1287) O (bR O) O O<|ao (n:=1286) O (bR O) O O<|ao (n:=1285) O (bR O) O O<|ao (n:=1284) O (bR O) O O<|ao (n:=1283) O (bR O) O O<|ao (n:=1282) O (bR O) O O<|ao (n:=1281) O (bR O) O O<|ao (n:=256) O (bR O) O O<|ao (n:=384) O (bR O) O O aj) aA)<|aV<|za eZ<|Xo eZ eC<|xQ ?_)
     obtain⟨h24,H⟩|⟨h24,H⟩:=ab H
     ·refine zi eZ h24 (zD (fun t25:(List zj)=>(yl v7 v22<|jt v7 a2) t25=some r) (fun t25=>mk [(4,.one<|.ptr<|.nm 256 0 0),(6,.one<|.ptr<|.nm 384 0 0),(8,.one<|.ptr<|.nm 512 0 0),(9,oI v22)] [(256,.vars 1 [dI a2]),(384,.vars 9 [dI 0,.zs,.zs,.zs,.zs,.zs,.zs,.zs,dI 0]),(320320,.data 2 (List.map zd t25) true none),(512,.vars 9 [dI v7.Me,.sl 1281 0 v7.Own.length,.sl 1282 0 v7.Frozen.length,.sl 320320 0 t25.length,.sl 1284 0 v7.Locks.length,.sl 1285 0 v7.Helds.length,.sl 1286 0 v7.Wounded.length,.sl 1287 0 v7.Ended.length,dI v7.Rank]),(1281,.data 2 (v7.Own.map zg) true none),(1282,.data 2 (v7.Frozen.map zg) true none),(1284,.data 4 (v7.Locks.map zo) true none),(1285,.data 2 (v7.Helds.map zx) true none),(1286,.data 1 (v7.Wounded.map zm) true none),(1287,.data 1 (v7.Ended.map zm) true none)] (lk [])) ?_ ?_)
      ·intro t25 H
       unfold yl at H
       refine zZ (zr<|ze (m:=5) O O<|zl<|zr<|zn (q:=5) (c:=.sl 1285 0 v7.Helds.length) eZ (bR O) O O<|zl<|zr<|za O<|zl<|zr<|za O<|zl<|zr<|qb eZ eC<|zl ?_)
       obtain⟨v27,h28,H⟩:=zk H
       exact zaV (ON:=[1285]) (ls:=[]) (G:=[1285]) (E:=[1285]) (MB:=[]) (u:=.one (.sl 3328 0 v27.length)) (bs:=[(3328,.data 2 (v27.map zx) true none)]) eC ay (zbI h28) (Ec O<|Ec O<|Ec eZ En) (bz (Kf (bR O) lm O)<|bf Vp O<|bf Vp O bj) O O O bh (ai (v':=oI (IntKind.wrap .i64 (v22+1))) O<|ai (v':=oI v22) O<|ai (v':=oI v22) O<|ai (v':=.one .any) O<|ai (v':=.one (.ptr<|.nm 512 0 5)) O<|ai (v':=.one (.ptr<|.nm 256 0 0)) O<|ai (v':=.one (.ptr<|.nm 384 0 0)) O<|ai (v':=.one (.ptr<|.nm 512 0 0)) O<|ai (v':=oI v22) O aN) (av (v':=.vars 1 [dI a2]) O O<|av (v':=.vars 9 [dI 0,.zs,.zs,.zs,.zs,.zs,.zs,.zs,dI 0]) O O<|av (v':=.data 2 (List.map zd t25) true none) O O<|av (v':=.vars 9 [dI v7.Me,.sl 1281 0 v7.Own.length,.sl 1282 0 v7.Frozen.length,.sl 320320 0 t25.length,.sl 1284 0 v7.Locks.length,.any,.sl 1286 0 v7.Wounded.length,.sl 1287 0 v7.Ended.length,dI v7.Rank]) O O<|av (v':=.data 2 (v7.Own.map zg) true none) O O<|av (v':=.data 2 (v7.Frozen.map zg) true none) O O<|av (v':=.data 4 (v7.Locks.map zo) true none) O O<|aY O<|av (v':=.data 1 (v7.Wounded.map zm) true none) O O<|av (v':=.data 1 (v7.Ended.map zm) true none) O O aU) aN (by simp[jg,jD,qy,jq,qF]) O (fC (nR O) O<|fC (nR O) O fN) (zr<|ze (m:=5) O O<|zl<|zr<|zP (es:=[dI v7.Me,.sl 1281 0 v7.Own.length,.sl 1282 0 v7.Frozen.length,.sl 320320 0 t25.length,.sl 1284 0 v7.Locks.length,.sl 3328 0 v27.length,.sl 1286 0 v7.Wounded.length,.sl 1287 0 v7.Ended.length,dI v7.Rank]) eZ O O O (bR O) O<|zl<|qf<|zl<|al ⟨(t25,v27),H,bN (s:=mk [(53,.one<|.ptr<|.nm 512 0 5),(52,.one<|.sl 3328 0 v27.length),(51,oI<|IntKind.wrap .i64 (v22+1)),(50,oI v22),(49,oI v22),(48,.one .any),(47,.one<|.ptr<|.nm 512 0 5),(4,.one<|.ptr<|.nm 256 0 0),(6,.one<|.ptr<|.nm 384 0 0),(8,.one<|.ptr<|.nm 512 0 0),(9,oI v22)] [(512,.vars 9 [dI v7.Me,.sl 1281 0 v7.Own.length,.sl 1282 0 v7.Frozen.length,.sl 320192 0 t25.length,.sl 1284 0 v7.Locks.length,.sl 3328 0 v27.length,.sl 1286 0 v7.Wounded.length,.sl 1287 0 v7.Ended.length,dI v7.Rank]),(3328,.data 2 (v27.map zx) true none),(256,.vars 1 [dI a2]),(384,.vars 9 [dI 0,.zs,.zs,.zs,.zs,.zs,.zs,.zs,dI 0]),(320192,.data 2 (List.map zd t25) true none),(512,.vars 9 [dI v7.Me,.sl 1281 0 v7.Own.length,.sl 1282 0 v7.Frozen.length,.sl 320192 0 t25.length,.sl 1284 0 v7.Locks.length,.any,.sl 1286 0 v7.Wounded.length,.sl 1287 0 v7.Ended.length,dI v7.Rank]),(1281,.data 2 (v7.Own.map zg) true none),(1282,.data 2 (v7.Frozen.map zg) true none),(1284,.data 4 (v7.Locks.map zo) true none),(1286,.data 1 (v7.Wounded.map zm) true none),(1287,.data 1 (v7.Ended.map zm) true none)] (lk [])) (bN (s:=mk [(53,.one<|.ptr<|.nm 512 0 5),(52,.one<|.sl 320256 0 v27.length),(51,oI<|IntKind.wrap .i64 (v22+1)),(50,oI v22),(49,oI v22),(48,.one .any),(47,.one<|.ptr<|.nm 512 0 5),(4,.one<|.ptr<|.nm 256 0 0),(6,.one<|.ptr<|.nm 384 0 0),(8,.one<|.ptr<|.nm 512 0 0),(9,oI v22)] [(512,.vars 9 [dI v7.Me,.sl 1281 0 v7.Own.length,.sl 1282 0 v7.Frozen.length,.sl 320192 0 t25.length,.sl 1284 0 v7.Locks.length,.sl 320256 0 v27.length,.sl 1286 0 v7.Wounded.length,.sl 1287 0 v7.Ended.length,dI v7.Rank]),(320256,.data 2 (v27.map zx) true none),(256,.vars 1 [dI a2]),(384,.vars 9 [dI 0,.zs,.zs,.zs,.zs,.zs,.zs,.zs,dI 0]),(320192,.data 2 (List.map zd t25) true none),(512,.vars 9 [dI v7.Me,.sl 1281 0 v7.Own.length,.sl 1282 0 v7.Frozen.length,.sl 320192 0 t25.length,.sl 1284 0 v7.Locks.length,.any,.sl 1286 0 v7.Wounded.length,.sl 1287 0 v7.Ended.length,dI v7.Rank]),(1281,.data 2 (v7.Own.map zg) true none),(1282,.data 2 (v7.Frozen.map zg) true none),(1284,.data 4 (v7.Locks.map zo) true none),(1286,.data 1 (v7.Wounded.map zm) true none),(1287,.data 1 (v7.Ended.map zm) true none)] (lk [])) (zH [] (sR O O) (blR O) (ao O (bR O) O O<|ao O (bR O) O O<|ao O (bR O) O O<|ao O (bR O) O O<|ao O bZ O (by first|rfl|simp)<|bkR O O O) aA)<|yW 3328 320256 O O (nR O) bi)<|yW 320320 320192 O O (nR O) bi⟩)
      ·refine aV (za O<|xQ ?_)
       obtain⟨h29,H⟩|⟨h29,H⟩:=aa H
       ·refine zi eZ h29 (aX<|ze (m:=3) O O<|zn (q:=3) (c:=.sl 1283 0 v7.Cells.length) eZ bZ O O<|ze (m:=5) O O<|zn (q:=5) (c:=.sl 1285 0 v7.Helds.length) eZ bZ O O<|za O ?_)
        obtain⟨v30,h31,H⟩:=zk H
        refine X2 O eZ (bR O) O h31 (ze (m:=1) eZ O<|zpf (t:=v30) (e:=.sl 2 (v30.Writes.map zd)) eZ (bR O) (y7 h31) O O ?_)
        obtain⟨v32,h33,H⟩:=zk H
        exact j9 (u:=.tup [.one (.sl 2752 0 v32.1.length),oB v32.2]) (bs:=[(2752,.data 2 (v32.1.map zd) true none)]) eC ay (zdd h33) (Ec O<|Ec eZ En) (Vc (bF (bR O) lm)<|Vc VD.sub Vn) (by simp[jg,jD,qy,jq,qF]) O (fC (nR O) O<|fC (nR O) O fN) (za eZ<|zaM (v:=.one (.sl 2752 0 v32.1.length)) eZ O<|zaM (v:=oB v32.2) O O<|ze (m:=3) O O<|zP (es:=[dI v7.Me,.sl 1281 0 v7.Own.length,.sl 1282 0 v7.Frozen.length,.sl 2752 0 v32.1.length,.sl 1284 0 v7.Locks.length,.sl 1285 0 v7.Helds.length,.sl 1286 0 v7.Wounded.length,.sl 1287 0 v7.Ended.length,dI v7.Rank]) eZ O O O (bR O) O<|zl<|al ⟨v32.1,H,(zH [1283] (sR O O) (blR O) (ao O (bR O) O O<|ao O (bR O) O O<|ao O (bR O) O O<|ao O bZ O (by first|rfl|simp)<|bkR O O O) aA).trans<|yW 2752 320320 O O (nR O) bi⟩)
       ·exact zh eZ h29 (au<|al ⟨v7.Cells,H,(zH [] (sR O O) (blR O) (ao O (bR O) O O<|ao O (bR O) O O<|ao O (bR O) O O<|ao O bZ O (by first|rfl|simp)<|bkR O O O) aA).trans<|yW 1283 320320 O O (nR O) bi⟩)
     ·exact zh eZ h24 (au<|al ⟨(v7.Cells,v7.Helds),H,bN (s:=mk [(32,oB<|decide (0≤v22)),(31,oI v22),(9,oI v22),(8,.one<|.ptr<|.nm 512 0 0),(2,oB a3),(4,.one<|.ptr<|.nm 256 0 0),(6,.one<|.ptr<|.nm 384 0 0)] [(512,.vars 9 [dI v7.Me,.sl 1281 0 v7.Own.length,.sl 1282 0 v7.Frozen.length,.sl 320192 0 v7.Cells.length,.sl 1284 0 v7.Locks.length,.sl 1285 0 v7.Helds.length,.sl 1286 0 v7.Wounded.length,.sl 1287 0 v7.Ended.length,dI v7.Rank]),(1287,.data 1 (v7.Ended.map zm) true none),(1286,.data 1 (v7.Wounded.map zm) true none),(1285,.data 2 (v7.Helds.map zx) true none),(1284,.data 4 (v7.Locks.map zo) true none),(320192,.data 2 (v7.Cells.map zd) true none),(1282,.data 2 (v7.Frozen.map zg) true none),(1281,.data 2 (v7.Own.map zg) true none),(256,.vars 1 [dI a2]),(384,.vars 9 [dI 0,.zs,.zs,.zs,.zs,.zs,.zs,.zs,dI 0])] (lk [])) (bN (s:=mk [(32,oB<|decide (0≤v22)),(31,oI v22),(9,oI v22),(8,.one<|.ptr<|.nm 512 0 0),(2,oB a3),(4,.one<|.ptr<|.nm 256 0 0),(6,.one<|.ptr<|.nm 384 0 0)] [(512,.vars 9 [dI v7.Me,.sl 1281 0 v7.Own.length,.sl 1282 0 v7.Frozen.length,.sl 320192 0 v7.Cells.length,.sl 1284 0 v7.Locks.length,.sl 320256 0 v7.Helds.length,.sl 1286 0 v7.Wounded.length,.sl 1287 0 v7.Ended.length,dI v7.Rank]),(1287,.data 1 (v7.Ended.map zm) true none),(1286,.data 1 (v7.Wounded.map zm) true none),(320256,.data 2 (v7.Helds.map zx) true none),(1284,.data 4 (v7.Locks.map zo) true none),(320192,.data 2 (v7.Cells.map zd) true none),(1282,.data 2 (v7.Frozen.map zg) true none),(1281,.data 2 (v7.Own.map zg) true none),(256,.vars 1 [dI a2]),(384,.vars 9 [dI 0,.zs,.zs,.zs,.zs,.zs,.zs,.zs,dI 0])] (lk [])) (zH [] (sR O O) (blR O) (ao O (bR O) O O<|ao O (bR O) O O<|ao O (bR O) O O<|ao O (bR O) O O<|ao O bZ O (by first|rfl|simp)<|bkR O O O) aA)<|yW 1285 320256 O O (nR O) bi)<|yW 1283 320192 O O (nR O) bi⟩)
 ·refine aR (zY (es:=zK a1) O (bR O) O ?_)
  obtain⟨v34,h35,H⟩:=zk H
  refine zF (u:=oB v34) eC ay (zf0 h35) (Ec eZ En) (Vc (aI O) Vn) O (qS eZ<|za eZ ?_)
  obtain⟨h36,H⟩|⟨h36,H⟩:=zA H
  ·refine gDo eZ (cN h36) (zn (q:=0) (c:=dI a2) O (bR O) O O<|gDo O (cN h36) ?_)
   obtain⟨v37,h38,H⟩:=zk H
   exact zF (u:=oB v37) eC ay (zbB h38) (Ec eZ En) (Vc Vp Vn) O (gDo O (cN h36)<|qS eZ<|zM O (cN h36) eZ<|zl<|al ⟨!v37,H,zH [] (sR O O) (blR O) (bkR O O O) aA⟩)
  ·exact zb eZ (cN<|nt h36) O (zb O (cN<|nt h36) O<|zb O (cN<|nt h36) O<|zB O (cN<|nt h36) eC<|zl<|al ⟨true,H,zH [] (sR O O) (blR O) (bkR O O O) aA⟩)
theorem zfm{a1:zw}{a2:zw}{r:Bool}(H:Yc a1 a2=some r):Fn Tryz.prog 209 (lent [.agg (zg a1),.agg<|zg a2]) true [.bool r]:=by
 refine ac zJH O ?_
 refine ak (zf [] (kv 0 (.agg [dI a1.Lo,dI a1.Hi]) O O<|kv 1 (.agg [dI a2.Lo,dI a2.Hi]) O O ar) am aj) ?_
 unfold Yc at H
 unfold zHv
 refine aV (yd (n:=128) (m:=2) (cs:=[dI a1.Lo,dI a1.Hi]) O eZ O O nZ<|yd (n:=192) (m:=2) (cs:=[dI a2.Lo,dI a2.Hi]) O O O O (nR O)<|za eC<|xQ<|aS<|aV<|ze (m:=0) O O<|zn (q:=0) (c:=dI a1.Lo) eZ (bR O) O O<|ze (m:=0) O O<|zn (q:=0) (c:=dI a2.Lo) eZ bZ O O<|ZK O eZ<|xQ ?_)
 obtain⟨h3,H⟩|⟨h3,H⟩:=ab H
 ·refine zi eZ h3 (aV<|za eC<|xQ<|aq<|ax ?_)
  cases H
  exact eE O O
 ·refine zh eZ h3 (au<|al<|aS<|aV<|ze (m:=1) O O<|zn (q:=1) (c:=dI a1.Hi) eZ (bR O) O O<|ze (m:=1) O O<|zn (q:=1) (c:=dI a2.Hi) eZ bZ O O<|ZK O eZ<|xQ ?_)
  obtain⟨h4,H⟩|⟨h4,H⟩:=ab H
  ·refine zi eZ h4 (aV<|za eC<|xQ<|ak (zf [192,128] (kr 4 O O ar) (blR O) aj)<|aq<|ax ?_)
   cases H
   exact eE O O
  ·refine zh eZ h4 (au<|al<|aV<|za eC<|xQ<|ak (zf [192,128] (kr 4 O O ar) (blR O) aj)<|aq ?_)
   cases H
   exact eE O O
theorem zbg{a1:(List zw)}{a2:(List zw)}{r:Bool}(H:ZO a1 a2=some r):Fn Tryz.prog 95 (lent [.sl 2 (a1.map zg),.sl 2<|a2.map zg]) true [.bool r]:=by
 refine ac f95 O ?_
 refine ak (zf [] (kv 0 (.one<|.d<|.sl 2<|a1.map zg) O O<|kv 1 (.one<|.d<|.sl 2<|a2.map zg) O O ar) am aj) ?_
 unfold ZO at H
 unfold i95
 refine aV (za eC<|xQ<|aS<|aV<|za O<|zX eZ (n:=a1.length) lm<|za O<|zX eZ (n:=a2.length) lm<|ZK O eZ<|xQ ?_)
 obtain⟨h3,H⟩|⟨h3,H⟩:=ab H
 ·refine zi eZ h3 (aV<|za eC<|xQ<|aq<|ax ?_)
  cases H
  exact eE O O
 ·refine zh eZ h3 (au<|al<|zD (fun t4:Unit=>Xk t4=some r) (fun t4=>mk [] [] noG) ?_ ?_)
  ·intro t4 H
   unfold Xk at H
   refine aV (za eC<|xQ<|aq ?_)
   cases H
   exact eE O O
  ·refine aV (za eC<|xQ<|aw<|aG (fun s6:Int=>mk [(0,.one<|.d<|.sl 2<|a1.map zg),(1,.one<|.d<|.sl 2<|a2.map zg),(5,oI s6)] [] noG) H (zf [] (sR O O) am aj) ?_)
   intro kb7 s6 H
   unfold YH at H
   refine aS (aV<|za O<|za O<|zX eZ (n:=a1.length) lm<|qj O eZ<|xQ ?_)
   obtain⟨h8,H⟩|⟨h8,H⟩:=ab H
   ·refine zi eZ h8 (au<|al<|aS<|aw<|aS<|aX<|za O<|za O ?_)
    obtain⟨v9,h10,H⟩:=zk H
    refine qk O eZ h10 (qi (es:=[dI v9.Lo,dI v9.Hi]) eZ O<|za O<|za O ?_)
    obtain⟨v11,h12,H⟩:=zk H
    refine qk O eZ h12 (qi (es:=[dI v11.Lo,dI v11.Hi]) eZ O ?_)
    obtain⟨v13,h14,H⟩:=zk H
    refine zF (u:=oB v13) eC ay (zfm h14) (Ec O<|Ec eZ En) (Vc (aI O)<|Vc (aI O) Vn) O (qS eZ<|xQ<|ak (zf [] (kr 26 O O<|kr 0 O O<|kr 1 O O<|kr 5 O O ar) am aj) ?_)
    obtain⟨h15,H⟩|⟨h15,H⟩:=aa H
    ·exact zh eZ (cN h15) (au<|aP<|al<|aR<|za O<|qb eZ eC<|za eZ<|zl<|al ⟨IntKind.wrap .i64 (s6+1),H,zf [] (sR O O) am aj⟩)
    ·refine zi eZ (cN h15) (aV<|za eC<|xQ<|aq<|aJ<|ax<|ax<|aJ<|ax ?_)
     cases H
     exact eE O O
   ·exact zh eZ h8 (aH<|aC<|aC<|aT<|al ⟨(),H,zf [] ar am aj⟩)
theorem zgH{a1:zj}{a2:zj}{r:Bool}(H:xg a1 a2=some r):Fn Tryz.prog 146 (lent [.agg (zd a1),.agg<|zd a2]) true [.bool r]:=by
 refine ac zIG O ?_
 refine ak (zf [] (kv 0 (.agg [dI a1.Key,dI a1.Value]) O O<|kv 1 (.agg [dI a2.Key,dI a2.Value]) O O ar) am aj) ?_
 unfold xg at H
 unfold zFr
 refine aV (yd (n:=128) (m:=2) (cs:=[dI a1.Key,dI a1.Value]) O eZ O O nZ<|yd (n:=192) (m:=2) (cs:=[dI a2.Key,dI a2.Value]) O O O O (nR O)<|za eC<|xQ<|aS<|aV<|ze (m:=0) O O<|zn (q:=0) (c:=dI a1.Key) eZ (bR O) O O<|ze (m:=0) O O<|zn (q:=0) (c:=dI a2.Key) eZ bZ O O<|ZK O eZ<|xQ ?_)
 obtain⟨h3,H⟩|⟨h3,H⟩:=ab H
 ·refine zi eZ h3 (aV<|za eC<|xQ<|aq<|ax ?_)
  cases H
  exact eE O O
 ·refine zh eZ h3 (au<|al<|aS<|aV<|ze (m:=1) O O<|zn (q:=1) (c:=dI a1.Value) eZ (bR O) O O<|ze (m:=1) O O<|zn (q:=1) (c:=dI a2.Value) eZ bZ O O<|ZK O eZ<|xQ ?_)
  obtain⟨h4,H⟩|⟨h4,H⟩:=ab H
  ·refine zi eZ h4 (aV<|za eC<|xQ<|ak (zf [192,128] (kr 4 O O ar) (blR O) aj)<|aq<|ax ?_)
   cases H
   exact eE O O
  ·refine zh eZ h4 (au<|al<|aV<|za eC<|xQ<|ak (zf [192,128] (kr 4 O O ar) (blR O) aj)<|aq ?_)
   cases H
   exact eE O O
theorem zgk{a1:(List zj)}{a2:(List zj)}{r:Bool}(H:JT a1 a2=some r):Fn Tryz.prog 32 (lent [.sl 2 (a1.map zd),.sl 2<|a2.map zd]) true [.bool r]:=by
 refine ac f32 O ?_
 refine ak (zf [] (kv 0 (.one<|.d<|.sl 2<|a1.map zd) O O<|kv 1 (.one<|.d<|.sl 2<|a2.map zd) O O ar) am aj) ?_
 unfold JT at H
 unfold i32
 refine aV (za eC<|xQ<|aS<|aV<|za O<|zX eZ (n:=a1.length) lm<|za O<|zX eZ (n:=a2.length) lm<|ZK O eZ<|xQ ?_)
 obtain⟨h3,H⟩|⟨h3,H⟩:=ab H
 ·refine zi eZ h3 (aV<|za eC<|xQ<|aq<|ax ?_)
  cases H
  exact eE O O
 ·refine zh eZ h3 (au<|al<|zD (fun t4:Unit=>X9 t4=some r) (fun t4=>mk [] [] noG) ?_ ?_)
  ·intro t4 H
   unfold X9 at H
   refine aV (za eC<|xQ<|aq ?_)
   cases H
   exact eE O O
  ·refine aV (za eC<|xQ<|aw<|aG (fun s6:Int=>mk [(0,.one<|.d<|.sl 2<|a1.map zd),(1,.one<|.d<|.sl 2<|a2.map zd),(5,oI s6)] [] noG) H (zf [] (sR O O) am aj) ?_)
   intro kb7 s6 H
   unfold xV at H
   refine aS (aV<|za O<|za O<|zX eZ (n:=a1.length) lm<|qj O eZ<|xQ ?_)
   obtain⟨h8,H⟩|⟨h8,H⟩:=ab H
   ·refine zi eZ h8 (au<|al<|aS<|aw<|aS<|aX<|za O<|za O ?_)
    obtain⟨v9,h10,H⟩:=zk H
    refine qk O eZ h10 (qi (es:=[dI v9.Key,dI v9.Value]) eZ O<|za O<|za O ?_)
    obtain⟨v11,h12,H⟩:=zk H
    refine qk O eZ h12 (qi (es:=[dI v11.Key,dI v11.Value]) eZ O ?_)
    obtain⟨v13,h14,H⟩:=zk H
    refine zF (u:=oB v13) eC ay (zgH h14) (Ec O<|Ec eZ En) (Vc (aI O)<|Vc (aI O) Vn) O (qS eZ<|xQ<|ak (zf [] (kr 26 O O<|kr 0 O O<|kr 1 O O<|kr 5 O O ar) am aj) ?_)
    obtain⟨h15,H⟩|⟨h15,H⟩:=aa H
    ·exact zh eZ (cN h15) (au<|aP<|al<|aR<|za O<|qb eZ eC<|za eZ<|zl<|al ⟨IntKind.wrap .i64 (s6+1),H,zf [] (sR O O) am aj⟩)
    ·refine zi eZ (cN h15) (aV<|za eC<|xQ<|aq<|aJ<|ax<|ax<|aJ<|ax ?_)
     cases H
     exact eE O O
   ·exact zh eZ h8 (aH<|aC<|aC<|aT<|al ⟨(),H,zf [] ar am aj⟩)
theorem zgx{a1:zC}{a2:zC}{r:Bool}(H:xf a1 a2=some r):Fn Tryz.prog 210 (lent [.agg (zo a1),.agg<|zo a2]) true [.bool r]:=by
 refine ac zJ9 O ?_
 refine ak (zf [] (kv 0 (.agg<|qa a1) O O<|kv 1 (.agg<|qa a2) O O ar) am aj) ?_
 unfold xf at H
 unfold zC3
 refine aV (yd (n:=128) (m:=4) (cs:=qa a1) O eZ O O nZ<|yd (n:=192) (m:=4) (cs:=qa a2) O O O O (nR O)<|za eC<|xQ<|aS<|aV<|ze (m:=0) O O<|zn (q:=0) (c:=dI a1.Tx) eZ (bR O) O O<|ze (m:=0) O O<|zn (q:=0) (c:=dI a2.Tx) eZ bZ O O<|ZK O eZ<|xQ ?_)
 obtain⟨h3,H⟩|⟨h3,H⟩:=ab H
 ·refine zi eZ h3 (aV<|za eC<|xQ<|aq<|ax ?_)
  cases H
  exact eE O O
 ·refine zh eZ h3 (au<|al<|aS<|aV<|ze (m:=1) O O<|zn (q:=1) (c:=dI a1.Lo) eZ (bR O) O O<|ze (m:=1) O O<|zn (q:=1) (c:=dI a2.Lo) eZ bZ O O<|ZK O eZ<|xQ ?_)
  obtain⟨h4,H⟩|⟨h4,H⟩:=ab H
  ·refine zi eZ h4 (aV<|za eC<|xQ<|ak (zf [192,128] (kr 4 O O ar) (blR O) aj)<|aq<|ax ?_)
   cases H
   exact eE O O
  ·refine zh eZ h4 (au<|al<|aS<|aV<|ze (m:=2) O O<|zn (q:=2) (c:=dI a1.Hi) eZ (bR O) O O<|ze (m:=2) O O<|zn (q:=2) (c:=dI a2.Hi) eZ bZ O O<|ZK O eZ<|xQ<|ak (zf [] (kr 19 O O<|kr 3 O O<|kr 2 O O ar) (blR O)<|ao (n:=192) O bZ O O<|ao (n:=128) O (bR O) O O aj) ?_)
   obtain⟨h5,H⟩|⟨h5,H⟩:=zA H
   ·refine zi eZ (dT h5) (aV<|za eC<|xQ<|aq<|ax ?_)
    cases H
    exact eE O O
   ·refine zh eZ (dF h5) (au<|al<|aS<|aV<|ze (m:=3) O O<|zn (q:=3) (c:=dI a1.Mode) eZ (bR O) O O<|ze (m:=3) O O<|zn (q:=3) (c:=dI a2.Mode) eZ bZ O O<|ZK O eZ<|xQ ?_)
    obtain⟨h6,H⟩|⟨h6,H⟩:=zA H
    ·refine zi eZ (dT h6) (aV<|za eC<|xQ<|aq<|ax ?_)
     cases H
     exact eE O O
    ·refine zh eZ (dF h6) (au<|al<|aV<|za eC<|xQ<|aq ?_)
     cases H
     exact eE O O
theorem zfY{a1:(List zC)}{a2:(List zC)}{r:Bool}(H:Yk a1 a2=some r):Fn Tryz.prog 96 (lent [.sl 4 (a1.map zo),.sl 4<|a2.map zo]) true [.bool r]:=by
 refine ac f96 O ?_
 refine ak (zf [] (kv 0 (.one<|.d<|.sl 4<|a1.map zo) O O<|kv 1 (.one<|.d<|.sl 4<|a2.map zo) O O ar) am aj) ?_
 unfold Yk at H
 unfold i96
 refine aV (za eC<|xQ<|aS<|aV<|za O<|zX eZ (n:=a1.length) lm<|za O<|zX eZ (n:=a2.length) lm<|ZK O eZ<|xQ ?_)
 obtain⟨h3,H⟩|⟨h3,H⟩:=ab H
 ·refine zi eZ h3 (aV<|za eC<|xQ<|aq<|ax ?_)
  cases H
  exact eE O O
 ·refine zh eZ h3 (au<|al<|zD (fun t4:Unit=>Kc t4=some r) (fun t4=>mk [] [] noG) ?_ ?_)
  ·intro t4 H
   unfold Kc at H
   refine aV (za eC<|xQ<|aq ?_)
   cases H
   exact eE O O
  ·refine aV (za eC<|xQ<|aw<|aG (fun s6:Int=>mk [(0,.one<|.d<|.sl 4<|a1.map zo),(1,.one<|.d<|.sl 4<|a2.map zo),(5,oI s6)] [] noG) H (zf [] (sR O O) am aj) ?_)
   intro kb7 s6 H
   unfold xU at H
   refine aS (aV<|za O<|za O<|zX eZ (n:=a1.length) lm<|qj O eZ<|xQ ?_)
   obtain⟨h8,H⟩|⟨h8,H⟩:=ab H
   ·refine zi eZ h8 (au<|al<|aS<|aw<|aS<|aX<|za O<|za O ?_)
    obtain⟨v9,h10,H⟩:=zk H
    refine qk O eZ h10 (qi (es:=qa v9) eZ O<|za O<|za O ?_)
    obtain⟨v11,h12,H⟩:=zk H
    refine qk O eZ h12 (qi (es:=qa v11) eZ O ?_)
    obtain⟨v13,h14,H⟩:=zk H
    refine zF (u:=oB v13) eC ay (zgx h14) (Ec O<|Ec eZ En) (Vc (aI O)<|Vc (aI O) Vn) O (qS eZ<|xQ<|ak (zf [] (kr 26 O O<|kr 0 O O<|kr 1 O O<|kr 5 O O ar) am aj) ?_)
    obtain⟨h15,H⟩|⟨h15,H⟩:=aa H
    ·exact zh eZ (cN h15) (au<|aP<|al<|aR<|za O<|qb eZ eC<|za eZ<|zl<|al ⟨IntKind.wrap .i64 (s6+1),H,zf [] (sR O O) am aj⟩)
    ·refine zi eZ (cN h15) (aV<|za eC<|xQ<|aq<|aJ<|ax<|ax<|aJ<|ax ?_)
     cases H
     exact eE O O
   ·exact zh eZ h8 (aH<|aC<|aC<|aT<|al ⟨(),H,zf [] ar am aj⟩)
theorem zfo{a1:zj}{a2:zj}{r:Bool}(H:JK a1 a2=some r):Fn Tryz.prog 345 (lent [.agg (zd a1),.agg<|zd a2]) true [.bool r]:=by
 refine ac zIW O ?_
 refine ak (zf [] (kv 0 (.agg [dI a1.Key,dI a1.Value]) O O<|kv 1 (.agg [dI a2.Key,dI a2.Value]) O O ar) am aj) ?_
 unfold JK at H
 unfold zH8
 refine aV (yd (n:=128) (m:=2) (cs:=[dI a1.Key,dI a1.Value]) O eZ O O nZ<|yd (n:=192) (m:=2) (cs:=[dI a2.Key,dI a2.Value]) O O O O (nR O)<|za eC<|xQ<|aS<|aV<|ze (m:=0) O O<|zn (q:=0) (c:=dI a1.Key) eZ (bR O) O O<|ze (m:=0) O O<|zn (q:=0) (c:=dI a2.Key) eZ bZ O O<|ZK O eZ<|xQ ?_)
 obtain⟨h3,H⟩|⟨h3,H⟩:=ab H
 ·refine zi eZ h3 (aV<|za eC<|xQ<|aq<|ax ?_)
  cases H
  exact eE O O
 ·refine zh eZ h3 (au<|al<|aS<|aV<|ze (m:=1) O O<|zn (q:=1) (c:=dI a1.Value) eZ (bR O) O O<|ze (m:=1) O O<|zn (q:=1) (c:=dI a2.Value) eZ bZ O O<|ZK O eZ<|xQ ?_)
  obtain⟨h4,H⟩|⟨h4,H⟩:=ab H
  ·refine zi eZ h4 (aV<|za eC<|xQ<|ak (zf [192,128] (kr 4 O O ar) (blR O) aj)<|aq<|ax ?_)
   cases H
   exact eE O O
  ·refine zh eZ h4 (au<|al<|aV<|za eC<|xQ<|ak (zf [192,128] (kr 4 O O ar) (blR O) aj)<|aq ?_)
   cases H
   exact eE O O
theorem zeE{a1:(List zj)}{a2:(List zj)}{r:Bool}(H:Q8 a1 a2=some r):Fn Tryz.prog 289 (lent [.sl 2 (a1.map zd),.sl 2<|a2.map zd]) true [.bool r]:=by
 refine ac zIp O ?_
 refine ak (zf [] (kv 0 (.one<|.d<|.sl 2<|a1.map zd) O O<|kv 1 (.one<|.d<|.sl 2<|a2.map zd) O O ar) am aj) ?_
 unfold Q8 at H
 unfold zE7
 refine aV (za eC<|xQ<|aS<|aV<|za O<|zX eZ (n:=a1.length) lm<|za O<|zX eZ (n:=a2.length) lm<|ZK O eZ<|xQ ?_)
 obtain⟨h3,H⟩|⟨h3,H⟩:=ab H
 ·refine zi eZ h3 (aV<|za eC<|xQ<|aq<|ax ?_)
  cases H
  exact eE O O
 ·refine zh eZ h3 (au<|al<|zD (fun t4:Unit=>Xn t4=some r) (fun t4=>mk [] [] noG) ?_ ?_)
  ·intro t4 H
   unfold Xn at H
   refine aV (za eC<|xQ<|aq ?_)
   cases H
   exact eE O O
  ·refine aV (za eC<|xQ<|aw<|aG (fun s6:Int=>mk [(0,.one<|.d<|.sl 2<|a1.map zd),(1,.one<|.d<|.sl 2<|a2.map zd),(5,oI s6)] [] noG) H (zf [] (sR O O) am aj) ?_)
   intro kb7 s6 H
   unfold YR at H
   refine aS (aV<|za O<|za O<|zX eZ (n:=a1.length) lm<|qj O eZ<|xQ ?_)
   obtain⟨h8,H⟩|⟨h8,H⟩:=ab H
   ·refine zi eZ h8 (au<|al<|aS<|aw<|aS<|aX<|za O<|za O ?_)
    obtain⟨v9,h10,H⟩:=zk H
    refine qk O eZ h10 (qi (es:=[dI v9.Key,dI v9.Value]) eZ O<|za O<|za O ?_)
    obtain⟨v11,h12,H⟩:=zk H
    refine qk O eZ h12 (qi (es:=[dI v11.Key,dI v11.Value]) eZ O ?_)
    obtain⟨v13,h14,H⟩:=zk H
    refine zF (u:=oB v13) eC ay (zfo h14) (Ec O<|Ec eZ En) (Vc (aI O)<|Vc (aI O) Vn) O (qS eZ<|xQ<|ak (zf [] (kr 26 O O<|kr 0 O O<|kr 1 O O<|kr 5 O O ar) am aj) ?_)
    obtain⟨h15,H⟩|⟨h15,H⟩:=aa H
    ·exact zh eZ (cN h15) (au<|aP<|al<|aR<|za O<|qb eZ eC<|za eZ<|zl<|al ⟨IntKind.wrap .i64 (s6+1),H,zf [] (sR O O) am aj⟩)
    ·refine zi eZ (cN h15) (aV<|za eC<|xQ<|aq<|aJ<|ax<|ax<|aJ<|ax ?_)
     cases H
     exact eE O O
   ·exact zh eZ h8 (aH<|aC<|aC<|aT<|al ⟨(),H,zf [] ar am aj⟩)
theorem zgt{a1:zL}{a2:zL}{r:Bool}(H:xj a1 a2=some r):Fn Tryz.prog 211 (lent [.agg (zx a1),.agg<|zx a2]) true [.bool r]:=by
 refine ac zIm O ?_
 refine ak (zf [] (kv 0 (.agg<|jm a1) O O<|kv 1 (.agg<|jm a2) O O ar) am aj) ?_
 unfold xj at H
 unfold zFM
 refine aV (yd (n:=128) (m:=2) (cs:=jm a1) O eZ O O nZ<|yd (n:=192) (m:=2) (cs:=jm a2) O O O O (nR O)<|za eC<|xQ<|aS<|aV<|ze (m:=0) O O<|zn (q:=0) (c:=dI a1.Tx) eZ (bR O) O O<|ze (m:=0) O O<|zn (q:=0) (c:=dI a2.Tx) eZ bZ O O<|ZK O eZ<|xQ ?_)
 obtain⟨h3,H⟩|⟨h3,H⟩:=ab H
 ·refine zi eZ h3 (aV<|za eC<|xQ<|aq<|ax ?_)
  cases H
  exact eE O O
 ·refine zh eZ h3 (au<|al<|aS<|aV<|ze (m:=1) O O<|zn (q:=1) (c:=.d (.sl 2<|a1.Writes.map zd)) eZ (bR O) O O<|ze (m:=1) O O<|zn (q:=1) (c:=.d (.sl 2<|a2.Writes.map zd)) eZ bZ O O ?_)
  obtain⟨v4,h5,H⟩:=zk H
  refine zF (u:=oB v4) eC ay (zeE h5) (Ec O<|Ec eZ En) (Vc Vp<|Vc Vp Vn) O (qS eZ<|xQ<|ak (zf [192,128] (kr 15 O O ar) (blR O) aj) ?_)
  obtain⟨h6,H⟩|⟨h6,H⟩:=aa H
  ·refine zh eZ (cN h6) (au<|al<|aV<|za eC<|xQ<|aq ?_)
   cases H
   exact eE O O
  ·refine zi eZ (cN h6) (aV<|za eC<|xQ<|aq<|ax ?_)
   cases H
   exact eE O O
theorem zf5{a1:(List zL)}{a2:(List zL)}{r:Bool}(H:JS a1 a2=some r):Fn Tryz.prog 97 (lent [.sl 2 (a1.map zx),.sl 2<|a2.map zx]) true [.bool r]:=by
 refine ac f97 O ?_
 refine ak (zf [] (kv 0 (.one<|.d<|.sl 2<|a1.map zx) O O<|kv 1 (.one<|.d<|.sl 2<|a2.map zx) O O ar) am aj) ?_
 unfold JS at H
 unfold i97
 refine aV (za eC<|xQ<|aS<|aV<|za O<|zX eZ (n:=a1.length) lm<|za O<|zX eZ (n:=a2.length) lm<|ZK O eZ<|xQ ?_)
 obtain⟨h3,H⟩|⟨h3,H⟩:=ab H
 ·refine zi eZ h3 (aV<|za eC<|xQ<|aq<|ax ?_)
  cases H
  exact eE O O
 ·refine zh eZ h3 (au<|al<|zD (fun t4:Unit=>Kb t4=some r) (fun t4=>mk [] [] noG) ?_ ?_)
  ·intro t4 H
   unfold Kb at H
   refine aV (za eC<|xQ<|aq ?_)
   cases H
   exact eE O O
  ·refine aV (za eC<|xQ<|aw<|aG (fun s6:Int=>mk [(0,.one<|.d<|.sl 2<|a1.map zx),(1,.one<|.d<|.sl 2<|a2.map zx),(5,oI s6)] [] noG) H (zf [] (sR O O) am aj) ?_)
   intro kb7 s6 H
   unfold xJ at H
   refine aS (aV<|za O<|za O<|zX eZ (n:=a1.length) lm<|qj O eZ<|xQ ?_)
   obtain⟨h8,H⟩|⟨h8,H⟩:=ab H
   ·refine zi eZ h8 (au<|al<|aS<|aw<|aS<|aX<|za O<|za O ?_)
    obtain⟨v9,h10,H⟩:=zk H
    refine qk O eZ h10 (qi (es:=jm v9) eZ O<|za O<|za O ?_)
    obtain⟨v11,h12,H⟩:=zk H
    refine qk O eZ h12 (qi (es:=jm v11) eZ O ?_)
    obtain⟨v13,h14,H⟩:=zk H
    refine zF (u:=oB v13) eC ay (zgt h14) (Ec O<|Ec eZ En) (Vc (aI O)<|Vc (aI O) Vn) O (qS eZ<|xQ<|ak (zf [] (kr 26 O O<|kr 0 O O<|kr 1 O O<|kr 5 O O ar) am aj) ?_)
    obtain⟨h15,H⟩|⟨h15,H⟩:=aa H
    ·exact zh eZ (cN h15) (au<|aP<|al<|aR<|za O<|qb eZ eC<|za eZ<|zl<|al ⟨IntKind.wrap .i64 (s6+1),H,zf [] (sR O O) am aj⟩)
    ·refine zi eZ (cN h15) (aV<|za eC<|xQ<|aq<|aJ<|ax<|ax<|aJ<|ax ?_)
     cases H
     exact eE O O
   ·exact zh eZ h8 (aH<|aC<|aC<|aT<|al ⟨(),H,zf [] ar am aj⟩)
theorem zcr{a1:(List Int)}{a2:(List Int)}{r:Bool}(H:Jj a1 a2=some r):Fn Tryz.prog 98 (lent [.sl 1 (a1.map zm),.sl 1<|a2.map zm]) true [.bool r]:=by
 refine ac f98 O ?_
 refine ak (zf [] (kv 0 (.one<|.d<|.sl 1<|a1.map zm) O O<|kv 1 (.one<|.d<|.sl 1<|a2.map zm) O O ar) am aj) ?_
 unfold Jj at H
 unfold i98
 refine aV (za eC<|xQ<|aS<|aV<|za O<|zX eZ (n:=a1.length) lm<|za O<|zX eZ (n:=a2.length) lm<|ZK O eZ<|xQ ?_)
 obtain⟨h3,H⟩|⟨h3,H⟩:=ab H
 ·refine zi eZ h3 (aV<|za eC<|xQ<|aq<|ax ?_)
  cases H
  exact eE O O
 ·refine zh eZ h3 (au<|al<|zD (fun t4:Unit=>Ky t4=some r) (fun t4=>mk [] [] noG) ?_ ?_)
  ·intro t4 H
   unfold Ky at H
   refine aV (za eC<|xQ<|aq ?_)
   cases H
   exact eE O O
  ·refine aV (za eC<|xQ<|aw<|aG (fun s6:Int=>mk [(0,.one<|.d<|.sl 1<|a1.map zm),(1,.one<|.d<|.sl 1<|a2.map zm),(5,oI s6)] [] noG) H (zf [] (sR O O) am aj) ?_)
   intro kb7 s6 H
   unfold kF at H
   refine aS (aV<|za O<|za O<|zX eZ (n:=a1.length) lm<|qj O eZ<|xQ ?_)
   obtain⟨h8,H⟩|⟨h8,H⟩:=ab H
   ·refine zi eZ h8 (au<|al<|aS<|aw<|aS<|aX<|za O<|za O ?_)
    obtain⟨v9,h10,H⟩:=zk H
    refine qk O eZ h10 (zV (e:=.int .i64 v9) eZ O<|za O<|za O ?_)
    obtain⟨v11,h12,H⟩:=zk H
    refine qk O eZ h12 (zV (e:=.int .i64 v11) eZ O<|ZK O eZ<|xQ<|ak (zf [] (kr 25 O O<|kr 0 O O<|kr 1 O O<|kr 5 O O ar) am aj) ?_)
    obtain⟨h13,H⟩|⟨h13,H⟩:=ab H
    ·refine zi eZ h13 (aV<|za eC<|xQ<|aq<|aJ<|ax<|ax<|aJ<|ax ?_)
     cases H
     exact eE O O
    ·exact zh eZ h13 (au<|aP<|al<|aR<|za O<|qb eZ eC<|za eZ<|zl<|al ⟨IntKind.wrap .i64 (s6+1),H,zf [] (sR O O) am aj⟩)
   ·exact zh eZ h8 (aH<|aC<|aC<|aT<|al ⟨(),H,zf [] ar am aj⟩)
theorem kp{a1:zp}{a2:zp}{r:Bool}(H:yN a1 a2=some r):Fn Tryz.prog 23 (lent [.agg (zT a1),.agg<|zT a2]) true [.bool r]:=by
 refine ac f23 O ?_
 refine ak (zf [] (kv 0 (.agg<|zK a1) O O<|kv 1 (.agg<|zK a2) O O ar) am aj) ?_
 unfold yN at H
 unfold i23
 refine aV (yd (n:=128) (m:=9) (cs:=zK a1) O eZ O O nZ<|yd (n:=192) (m:=9) (cs:=zK a2) O O O O (nR O)<|za eC<|xQ<|aS<|aV<|ze (m:=0) O O<|zn (q:=0) (c:=dI a1.Me) eZ (bR O) O O<|ze (m:=0) O O<|zn (q:=0) (c:=dI a2.Me) eZ bZ O O<|ZK O eZ<|xQ ?_)
 obtain⟨h3,H⟩|⟨h3,H⟩:=ab H
 ·refine zi eZ h3 (aV<|za eC<|xQ<|aq<|ax ?_)
  cases H
  exact eE O O
 ·refine zh eZ h3 (au<|al<|aS<|aV<|ze (m:=1) O O<|zn (q:=1) (c:=.d (.sl 2<|a1.Own.map zg)) eZ (bR O) O O<|ze (m:=1) O O<|zn (q:=1) (c:=.d (.sl 2<|a2.Own.map zg)) eZ bZ O O ?_)
  obtain⟨v4,h5,H⟩:=zk H
  refine zF (u:=oB v4) eC ay (zbg h5) (Ec O<|Ec eZ En) (Vc Vp<|Vc Vp Vn) O (qS eZ<|xQ<|ak (zf [] (kr 15 O O<|kr 3 O O<|kr 2 O O ar) (blR O)<|ao (n:=192) O bZ O O<|ao (n:=128) O (bR O) O O aj) ?_)
  obtain⟨h6,H⟩|⟨h6,H⟩:=aa H
  ·refine zh eZ (cN h6) (au<|al<|aS<|aV<|ze (m:=2) O O<|zn (q:=2) (c:=.d (.sl 2<|a1.Frozen.map zg)) eZ (bR O) O O<|ze (m:=2) O O<|zn (q:=2) (c:=.d (.sl 2<|a2.Frozen.map zg)) eZ bZ O O ?_)
   obtain⟨v7,h8,H⟩:=zk H
   refine zF (u:=oB v7) eC ay (zbg h8) (Ec O<|Ec eZ En) (Vc Vp<|Vc Vp Vn) O (qS eZ<|xQ ?_)
   obtain⟨h9,H⟩|⟨h9,H⟩:=aa H
   ·refine zh eZ (cN h9) (au<|al<|aS<|aV<|ze (m:=3) O O<|zn (q:=3) (c:=.d (.sl 2<|a1.Cells.map zd)) eZ (bR O) O O<|ze (m:=3) O O<|zn (q:=3) (c:=.d (.sl 2<|a2.Cells.map zd)) eZ bZ O O ?_)
    obtain⟨v10,h11,H⟩:=zk H
    refine zF (u:=oB v10) eC ay (zgk h11) (Ec O<|Ec eZ En) (Vc Vp<|Vc Vp Vn) O (qS eZ<|xQ ?_)
    obtain⟨h12,H⟩|⟨h12,H⟩:=aa H
    ·refine zh eZ (cN h12) (au<|al<|aS<|aV<|ze (m:=4) O O<|zn (q:=4) (c:=.d (.sl 4<|a1.Locks.map zo)) eZ (bR O) O O<|ze (m:=4) O O<|zn (q:=4) (c:=.d (.sl 4<|a2.Locks.map zo)) eZ bZ O O ?_)
     obtain⟨v13,h14,H⟩:=zk H
     refine zF (u:=oB v13) eC ay (zfY h14) (Ec O<|Ec eZ En) (Vc Vp<|Vc Vp Vn) O (qS eZ<|xQ<|ak (zf [] (kr 33 O O<|kr 3 O O<|kr 2 O O ar) (blR O)<|ao (n:=192) O bZ O O<|ao (n:=128) O (bR O) O O aj) ?_)
     obtain⟨h15,H⟩|⟨h15,H⟩:=aa H
     ·refine zh eZ (cN h15) (au<|al<|aS<|aV<|ze (m:=5) O O<|zn (q:=5) (c:=.d (.sl 2<|a1.Helds.map zx)) eZ (bR O) O O<|ze (m:=5) O O<|zn (q:=5) (c:=.d (.sl 2<|a2.Helds.map zx)) eZ bZ O O ?_)
      obtain⟨v16,h17,H⟩:=zk H
      refine zF (u:=oB v16) eC ay (zf5 h17) (Ec O<|Ec eZ En) (Vc Vp<|Vc Vp Vn) O (qS eZ<|xQ ?_)
      obtain⟨h18,H⟩|⟨h18,H⟩:=aa H
      ·refine zh eZ (cN h18) (au<|al<|aS<|aV<|ze (m:=6) O O<|zn (q:=6) (c:=.d (.sl 1<|a1.Wounded.map zm)) eZ (bR O) O O<|ze (m:=6) O O<|zn (q:=6) (c:=.d (.sl 1<|a2.Wounded.map zm)) eZ bZ O O ?_)
       obtain⟨v19,h20,H⟩:=zk H
       refine zF (u:=oB v19) eC ay (zcr h20) (Ec O<|Ec eZ En) (Vc Vp<|Vc Vp Vn) O (qS eZ<|xQ ?_)
       obtain⟨h21,H⟩|⟨h21,H⟩:=aa H
       ·refine zh eZ (cN h21) (au<|al<|aS<|aV<|ze (m:=7) O O<|zn (q:=7) (c:=.d (.sl 1<|a1.Ended.map zm)) eZ (bR O) O O<|ze (m:=7) O O<|zn (q:=7) (c:=.d (.sl 1<|a2.Ended.map zm)) eZ bZ O O ?_)
        obtain⟨v22,h23,H⟩:=zk H
        refine zF (u:=oB v22) eC ay (zcr h23) (Ec O<|Ec eZ En) (Vc Vp<|Vc Vp Vn) O (qS eZ<|xQ<|ak (zf [] (kr 51 O O<|kr 3 O O<|kr 2 O O ar) (blR O)<|ao (n:=192) O bZ O O<|ao (n:=128) O (bR O) O O aj) ?_)
        obtain⟨h24,H⟩|⟨h24,H⟩:=aa H
        ·refine zh eZ (cN h24) (au<|al<|aS<|aV<|ze (m:=8) O O<|zn (q:=8) (c:=dI a1.Rank) eZ (bR O) O O<|ze (m:=8) O O<|zn (q:=8) (c:=dI a2.Rank) eZ bZ O O<|ZK O eZ<|xQ ?_)
         obtain⟨h25,H⟩|⟨h25,H⟩:=ab H
         ·refine zi eZ h25 (aV<|za eC<|xQ<|aq<|ax ?_)
          cases H
          exact eE O O
         ·refine zh eZ h25 (au<|al<|aV<|za eC<|xQ<|aq ?_)
          cases H
          exact eE O O
        ·refine zi eZ (cN h24) (aV<|za eC<|xQ<|aq<|ax ?_)
         cases H
         exact eE O O
       ·refine zi eZ (cN h21) (aV<|za eC<|xQ<|ak (zf [192,128] (kr 4 O O ar) (blR O) aj)<|aq<|ax ?_)
        cases H
        exact eE O O
      ·refine zi eZ (cN h18) (aV<|za eC<|xQ<|aq<|ax ?_)
       cases H
       exact eE O O
     ·refine zi eZ (cN h15) (aV<|za eC<|xQ<|aq<|ax ?_)
      cases H
      exact eE O O
    ·refine zi eZ (cN h12) (aV<|za eC<|xQ<|ak (zf [192,128] (kr 4 O O ar) (blR O) aj)<|aq<|ax ?_)
     cases H
     exact eE O O
   ·refine zi eZ (cN h9) (aV<|za eC<|xQ<|aq<|ax ?_)
    cases H
    exact eE O O
  ·refine zi eZ (cN h6) (aV<|za eC<|xQ<|aq<|ax ?_)
   cases H
   exact eE O O
theorem zaf{a1:(List zw)}{a2:Int}{r:(Int×(List zw))}(H:jZ a1 a2=some r):Fn Tryz.prog 99 [⟨.sl 2<|a1.map zg,.m<|.sl 2<|List.map zg r.2⟩,⟨.int .i64 a2,.b⟩] true [.int .i64 r.1]:=by
 refine m99 (fle O) (fC nZ O fN) O ?_
 rw[ZE]
 refine ak (t:=mk [(0,.one<|.sl 0 0 a1.length),(1,oI a2)] [(0,.data 2 (a1.map zg) true none)] (lk [(0,.one<|.sl 0 0<|(a1.map zg).length)])) (zH (gl:=[(0,.one<|.sl 0 0<|(a1.map zg).length)]) [] (aF (v:=.one (.sl 0 0 a1.length)) eZ O (aK<|ba lm)<|kv 1 (oI a2) O O ar) (blR O) (ao (n:=0) O bZ O O aj)<|aZ O aA) ?_
 unfold jZ at H
 unfold i99
 refine aV (za eC<|xQ<|zD (fun t3:((List zw)×Int)=>QO a1 t3=some r) (fun t3=>mk [(1,oI t3.2)] [(0,.data 2 (List.map zg t3.1) true none)] (lk [(0,.one<|.sl 0 0<|(a1.map zg).length)])) ?_ ?_)
 ·intro t3 H
  unfold QO at H
  refine aV (za eZ<|za eZ<|xQ<|aq ?_)
  obtain⟨h5,H⟩:=zW H
  cases H
  exact QJ (aE (aM eZ) (aQ O) aO) (bL eZ (aL bZ (by first|(simp;done)|(simp;omega)|omega|(simp only[List.length_map];omega)) (zI fun _=>O)) (bo bt)) (by decide)
 ·refine aV (za eC<|xQ<|aw<|aG (fun s6:((List zw)×Int×Int)=>mk [(0,.one<|.sl 0 0 s6.1.length),(1,oI s6.2.1),(5,oI s6.2.2)] [(0,.data 2 (List.map zg s6.1) true none)] (lk [(0,.one<|.sl 0 0<|(a1.map zg).length)])) H (zH [] (sR O O) (blR O) (bkR O O O)<|aZ O aA) ?_)
  intro kb7 s6 H
  unfold QG at H
  refine aS (aV<|za O<|za O<|kT eZ<|qj O eZ<|xQ ?_)
  obtain⟨h8,H⟩|⟨h8,H⟩:=ab H
  ·refine zi eZ h8 (au<|al<|aS<|aw<|aV<|za O<|za O<|za O ?_)
   obtain⟨v9,h10,H⟩:=zk H
   refine X2 O O bZ O h10 (ze (m:=0) eZ O<|yX (t:=v9) (t':=zw.mk s6.2.1 v9.Hi) (es:=[.int .i64 s6.2.1]) eZ O O O bZ (y7 h10) O O<|xQ<|aV<|za O<|qb eZ eC<|za eZ<|xQ<|aV<|za O<|za O<|za O ?_)
   obtain⟨v11,h12,H⟩:=zk H
   exact X2 O O bZ (by first|(simp;done)|(simp;omega)|omega|(simp only[List.length_map];omega)) h12 (ze (m:=1) eZ O<|yX (t:=v11) (t':=zw.mk v11.Lo (IntKind.wrap .i64 (s6.2.1+1))) (es:=[.int .i64 (IntKind.wrap .i64 (s6.2.1+1))]) eZ O O O bZ (y7 h12) O O<|xQ<|ak (zH [] (kr 1 O O<|kr 0 O O<|kr 5 O O ar) (blR O) (ao (n:=0) O bZ O O aj)<|aZ O aA)<|aR<|za eZ<|qb eZ eC<|za eZ<|zl<|aP<|al<|aR<|za O<|qb eZ eC<|za eZ<|zl<|al ⟨((s6.1.set (Int.toNat s6.2.2)<|zw.mk s6.2.1 v9.Hi).set (Int.toNat s6.2.2)<|zw.mk v11.Lo<|IntKind.wrap .i64 (s6.2.1+1),IntKind.wrap .i64 ((IntKind.wrap .i64 (s6.2.1+1))+1),IntKind.wrap .i64 (s6.2.2+1)),H,zH [] (aF O O (aK af)<|sR O O) (blR O) (bkR O O O)<|aZ O aA⟩)
  ·exact zh eZ h8 (aH<|aC<|aC<|aT<|al ⟨(s6.1,s6.2.1),H,zH [] (sR O O) (blR O) (bkR O O O)<|aZ O aA⟩)
theorem zd2{a1:(List zj)}{a2:Int}{r:(Int×(List zj))}(H:Zi a1 a2=some r):Fn Tryz.prog 33 [⟨.sl 2<|a1.map zd,.m<|.sl 2<|List.map zd r.2⟩,⟨.int .i64 a2,.b⟩] true [.int .i64 r.1]:=by
 refine m33 (fle O) (fC nZ O fN) O ?_
 rw[ZE]
 refine ak (t:=mk [(0,.one<|.sl 0 0 a1.length),(1,oI a2)] [(0,.data 2 (a1.map zd) true none)] (lk [(0,.one<|.sl 0 0<|(a1.map zd).length)])) (zH (gl:=[(0,.one<|.sl 0 0<|(a1.map zd).length)]) [] (aF (v:=.one (.sl 0 0 a1.length)) eZ O (aK<|ba lm)<|kv 1 (oI a2) O O ar) (blR O) (ao (n:=0) O bZ O O aj)<|aZ O aA) ?_
 unfold Zi at H
 unfold i33
 refine aV (za eC<|xQ<|zD (fun t3:((List zj)×Int)=>Jr a1 t3=some r) (fun t3=>mk [(1,oI t3.2)] [(0,.data 2 (List.map zd t3.1) true none)] (lk [(0,.one<|.sl 0 0<|(a1.map zd).length)])) ?_ ?_)
 ·intro t3 H
  unfold Jr at H
  refine aV (za eZ<|za eZ<|xQ<|aq ?_)
  obtain⟨h5,H⟩:=zW H
  cases H
  exact QJ (aE (aM eZ) (aQ O) aO) (bL eZ (aL bZ (by first|(simp;done)|(simp;omega)|omega|(simp only[List.length_map];omega)) (zI fun _=>O)) (bo bt)) (by decide)
 ·refine aV (za eC<|xQ<|aw<|aG (fun s6:((List zj)×Int×Int)=>mk [(0,.one<|.sl 0 0 s6.1.length),(1,oI s6.2.1),(5,oI s6.2.2)] [(0,.data 2 (List.map zd s6.1) true none)] (lk [(0,.one<|.sl 0 0<|(a1.map zd).length)])) H (zH [] (sR O O) (blR O) (bkR O O O)<|aZ O aA) ?_)
  intro kb7 s6 H
  unfold Js at H
  refine aS (aV<|za O<|za O<|kT eZ<|qj O eZ<|xQ ?_)
  obtain⟨h8,H⟩|⟨h8,H⟩:=ab H
  ·refine zi eZ h8 (au<|al<|aS<|aw<|aV<|za O<|za O<|za O ?_)
   obtain⟨v9,h10,H⟩:=zk H
   refine X2 O O bZ O h10 (ze (m:=0) eZ O<|yX (t:=v9) (t':=zj.mk s6.2.1 v9.Value) (es:=[.int .i64 s6.2.1]) eZ O O O bZ (y7 h10) O O<|xQ<|aV<|za O<|qb eZ eC<|za eZ<|xQ<|aV<|za O<|za O<|za O ?_)
   obtain⟨v11,h12,H⟩:=zk H
   exact X2 O O bZ (by first|(simp;done)|(simp;omega)|omega|(simp only[List.length_map];omega)) h12 (ze (m:=1) eZ O<|yX (t:=v11) (t':=zj.mk v11.Key (IntKind.wrap .i64 (s6.2.1+1))) (es:=[.int .i64 (IntKind.wrap .i64 (s6.2.1+1))]) eZ O O O bZ (y7 h12) O O<|xQ<|ak (zH [] (kr 1 O O<|kr 0 O O<|kr 5 O O ar) (blR O) (ao (n:=0) O bZ O O aj)<|aZ O aA)<|aR<|za eZ<|qb eZ eC<|za eZ<|zl<|aP<|al<|aR<|za O<|qb eZ eC<|za eZ<|zl<|al ⟨((s6.1.set (Int.toNat s6.2.2)<|zj.mk s6.2.1 v9.Value).set (Int.toNat s6.2.2)<|zj.mk v11.Key<|IntKind.wrap .i64 (s6.2.1+1),IntKind.wrap .i64 ((IntKind.wrap .i64 (s6.2.1+1))+1),IntKind.wrap .i64 (s6.2.2+1)),H,zH [] (aF O O (aK af)<|sR O O) (blR O) (bkR O O O)<|aZ O aA⟩)
  ·exact zh eZ h8 (aH<|aC<|aC<|aT<|al ⟨(s6.1,s6.2.1),H,zH [] (sR O O) (blR O) (bkR O O O)<|aZ O aA⟩)
theorem zeg{a1:(List zC)}{a2:Int}{r:(Int×(List zC))}(H:Zm a1 a2=some r):Fn Tryz.prog 100 [⟨.sl 4<|a1.map zo,.m<|.sl 4<|List.map zo r.2⟩,⟨.int .i64 a2,.b⟩] true [.int .i64 r.1]:=by
 refine zIH (fle O) (fC nZ O fN) O ?_
 rw[ZE]
 refine ak (t:=mk [(0,.one<|.sl 0 0 a1.length),(1,oI a2)] [(0,.data 4 (a1.map zo) true none)] (lk [(0,.one<|.sl 0 0<|(a1.map zo).length)])) (zH (gl:=[(0,.one<|.sl 0 0<|(a1.map zo).length)]) [] (aF (v:=.one (.sl 0 0 a1.length)) eZ O (aK<|ba lm)<|kv 1 (oI a2) O O ar) (blR O) (ao (n:=0) O bZ O O aj)<|aZ O aA) ?_
 unfold Zm at H
 unfold zD2
 refine aV (za eC<|xQ<|zD (fun t3:((List zC)×Int)=>Jm a1 t3=some r) (fun t3=>mk [(1,oI t3.2)] [(0,.data 4 (List.map zo t3.1) true none)] (lk [(0,.one<|.sl 0 0<|(a1.map zo).length)])) ?_ ?_)
 ·intro t3 H
  unfold Jm at H
  refine aV (za eZ<|za eZ<|xQ<|aq ?_)
  obtain⟨h5,H⟩:=zW H
  cases H
  exact QJ (aE (aM eZ) (aQ O) aO) (bL eZ (aL bZ (by first|(simp;done)|(simp;omega)|omega|(simp only[List.length_map];omega)) (zI fun _=>O)) (bo bt)) (by decide)
 ·refine aV (za eC<|xQ<|aw<|aG (fun s6:((List zC)×Int×Int)=>mk [(0,.one<|.sl 0 0 s6.1.length),(1,oI s6.2.1),(5,oI s6.2.2)] [(0,.data 4 (List.map zo s6.1) true none)] (lk [(0,.one<|.sl 0 0<|(a1.map zo).length)])) H (zH [] (sR O O) (blR O) (bkR O O O)<|aZ O aA) ?_)
  intro kb7 s6 H
  unfold Jx at H
  refine aS (aV<|za O<|za O<|kT eZ<|qj O eZ<|xQ ?_)
  obtain⟨h8,H⟩|⟨h8,H⟩:=ab H
  ·refine zi eZ h8 (au<|al<|aS<|aw<|aV<|za O<|za O<|za O ?_)
   obtain⟨v9,h10,H⟩:=zk H
   refine X2 O O bZ O h10 (ze (m:=0) eZ O<|yX (t:=v9) (t':=zC.mk s6.2.1 v9.Lo v9.Hi v9.Mode) (es:=[.int .i64 s6.2.1]) eZ O O O bZ (y7 h10) O O<|xQ<|aV<|za O<|qb eZ eC<|za eZ<|xQ<|aV<|za O<|za O<|za O ?_)
   obtain⟨v11,h12,H⟩:=zk H
   refine X2 O O bZ (by first|(simp;done)|(simp;omega)|omega|(simp only[List.length_map];omega)) h12 (ze (m:=1) eZ O<|yX (t:=v11) (t':=zC.mk v11.Tx (IntKind.wrap .i64 (s6.2.1+1)) v11.Hi v11.Mode) (es:=[.int .i64 (IntKind.wrap .i64 (s6.2.1+1))]) eZ O O O bZ (y7 h12) O O<|xQ<|ak (zH [] (kr 1 O O<|kr 0 O O<|kr 5 O O ar) (blR O) (ao (n:=0) O bZ O O aj)<|aZ O aA)<|aV<|za eZ<|qb eZ eC<|za eZ<|xQ<|aV<|za O<|za O<|za O ?_)
   obtain⟨v13,h14,H⟩:=zk H
   refine X2 O O bZ (by first|(simp;done)|(simp;omega)|omega|(simp only[List.length_map];omega)) h14 (ze (m:=2) eZ O<|yX (t:=v13) (t':=zC.mk v13.Tx v13.Lo (IntKind.wrap .i64 ((IntKind.wrap .i64 (s6.2.1+1))+1)) v13.Mode) (es:=[.int .i64 (IntKind.wrap .i64 ((IntKind.wrap .i64 (s6.2.1+1))+1))]) eZ O O O bZ (y7 h14) O O<|xQ<|aV<|za O<|qb eZ eC<|za eZ<|xQ<|aV<|za O<|za O<|za O ?_)
   obtain⟨v15,h16,H⟩:=zk H
   exact X2 O O bZ (by first|(simp;done)|(simp;omega)|omega|(simp only[List.length_map];omega)) h16 (ze (m:=3) eZ O<|yX (t:=v15) (t':=zC.mk v15.Tx v15.Lo v15.Hi (IntKind.wrap .i64 ((IntKind.wrap .i64 ((IntKind.wrap .i64 (s6.2.1+1))+1))+1))) (es:=[.int .i64 (IntKind.wrap .i64 ((IntKind.wrap .i64 ((IntKind.wrap .i64 (s6.2.1+1))+1))+1))]) eZ O O O bZ (y7 h16) O O<|xQ<|ak (zH [] (kr 1 O O<|kr 0 O O<|kr 5 O O ar) (blR O) (ao (n:=0) O bZ O O aj)<|aZ O aA)<|aR<|za eZ<|qb eZ eC<|za eZ<|zl<|aP<|al<|aR<|za O<|qb eZ eC<|za eZ<|zl<|al ⟨((((s6.1.set (Int.toNat s6.2.2)<|zC.mk s6.2.1 v9.Lo v9.Hi v9.Mode).set (Int.toNat s6.2.2)<|zC.mk v11.Tx (IntKind.wrap .i64 (s6.2.1+1)) v11.Hi v11.Mode).set (Int.toNat s6.2.2)<|zC.mk v13.Tx v13.Lo (IntKind.wrap .i64 ((IntKind.wrap .i64 (s6.2.1+1))+1)) v13.Mode).set (Int.toNat s6.2.2)<|zC.mk v15.Tx v15.Lo v15.Hi<|IntKind.wrap .i64 ((IntKind.wrap .i64 ((IntKind.wrap .i64 (s6.2.1+1))+1))+1),IntKind.wrap .i64 ((IntKind.wrap .i64 ((IntKind.wrap .i64 ((IntKind.wrap .i64 (s6.2.1+1))+1))+1))+1),IntKind.wrap .i64 (s6.2.2+1)),H,zH [] (aF O O (aK af)<|sR O O) (blR O) (bkR O O O)<|aZ O aA⟩)
  ·exact zh eZ h8 (aH<|aC<|aC<|aT<|al ⟨(s6.1,s6.2.1),H,zH [] (sR O O) (blR O) (bkR O O O)<|aZ O aA⟩)
theorem zdq{a1:(List zj)}{a2:Int}{r:(Int×(List zj))}(H:Z7 a1 a2=some r):Fn Tryz.prog 212 [⟨.sl 2<|a1.map zd,.m<|.sl 2<|List.map zd r.2⟩,⟨.int .i64 a2,.b⟩] true [.int .i64 r.1]:=by
 refine zJp (fle O) (fC nZ O fN) O ?_
 rw[ZE]
 refine ak (t:=mk [(0,.one<|.sl 0 0 a1.length),(1,oI a2)] [(0,.data 2 (a1.map zd) true none)] (lk [(0,.one<|.sl 0 0<|(a1.map zd).length)])) (zH (gl:=[(0,.one<|.sl 0 0<|(a1.map zd).length)]) [] (aF (v:=.one (.sl 0 0 a1.length)) eZ O (aK<|ba lm)<|kv 1 (oI a2) O O ar) (blR O) (ao (n:=0) O bZ O O aj)<|aZ O aA) ?_
 unfold Z7 at H
 unfold zEA
 refine aV (za eC<|xQ<|zD (fun t3:((List zj)×Int)=>QM a1 t3=some r) (fun t3=>mk [(1,oI t3.2)] [(0,.data 2 (List.map zd t3.1) true none)] (lk [(0,.one<|.sl 0 0<|(a1.map zd).length)])) ?_ ?_)
 ·intro t3 H
  unfold QM at H
  refine aV (za eZ<|za eZ<|xQ<|aq ?_)
  obtain⟨h5,H⟩:=zW H
  cases H
  exact QJ (aE (aM eZ) (aQ O) aO) (bL eZ (aL bZ (by first|(simp;done)|(simp;omega)|omega|(simp only[List.length_map];omega)) (zI fun _=>O)) (bo bt)) (by decide)
 ·refine aV (za eC<|xQ<|aw<|aG (fun s6:((List zj)×Int×Int)=>mk [(0,.one<|.sl 0 0 s6.1.length),(1,oI s6.2.1),(5,oI s6.2.2)] [(0,.data 2 (List.map zd s6.1) true none)] (lk [(0,.one<|.sl 0 0<|(a1.map zd).length)])) H (zH [] (sR O O) (blR O) (bkR O O O)<|aZ O aA) ?_)
  intro kb7 s6 H
  unfold QU at H
  refine aS (aV<|za O<|za O<|kT eZ<|qj O eZ<|xQ ?_)
  obtain⟨h8,H⟩|⟨h8,H⟩:=ab H
  ·refine zi eZ h8 (au<|al<|aS<|aw<|aV<|za O<|za O<|za O ?_)
   obtain⟨v9,h10,H⟩:=zk H
   refine X2 O O bZ O h10 (ze (m:=0) eZ O<|yX (t:=v9) (t':=zj.mk s6.2.1 v9.Value) (es:=[.int .i64 s6.2.1]) eZ O O O bZ (y7 h10) O O<|xQ<|aV<|za O<|qb eZ eC<|za eZ<|xQ<|aV<|za O<|za O<|za O ?_)
   obtain⟨v11,h12,H⟩:=zk H
   exact X2 O O bZ (by first|(simp;done)|(simp;omega)|omega|(simp only[List.length_map];omega)) h12 (ze (m:=1) eZ O<|yX (t:=v11) (t':=zj.mk v11.Key (IntKind.wrap .i64 (s6.2.1+1))) (es:=[.int .i64 (IntKind.wrap .i64 (s6.2.1+1))]) eZ O O O bZ (y7 h12) O O<|xQ<|ak (zH [] (kr 1 O O<|kr 0 O O<|kr 5 O O ar) (blR O) (ao (n:=0) O bZ O O aj)<|aZ O aA)<|aR<|za eZ<|qb eZ eC<|za eZ<|zl<|aP<|al<|aR<|za O<|qb eZ eC<|za eZ<|zl<|al ⟨((s6.1.set (Int.toNat s6.2.2)<|zj.mk s6.2.1 v9.Value).set (Int.toNat s6.2.2)<|zj.mk v11.Key<|IntKind.wrap .i64 (s6.2.1+1),IntKind.wrap .i64 ((IntKind.wrap .i64 (s6.2.1+1))+1),IntKind.wrap .i64 (s6.2.2+1)),H,zH [] (aF O O (aK af)<|sR O O) (blR O) (bkR O O O)<|aZ O aA⟩)
  ·exact zh eZ h8 (aH<|aC<|aC<|aT<|al ⟨(s6.1,s6.2.1),H,zH [] (sR O O) (blR O) (bkR O O O)<|aZ O aA⟩)
theorem zdR{a1:(List zL)}{a2:Int}{r:(Int×(List zL))}(H:Zs a1 a2=some r):Fn Tryz.prog 101 [⟨.sl 2<|a1.map zx,.m<|.sl 2<|List.map zx r.2⟩,⟨.int .i64 a2,.b⟩] true [.int .i64 r.1]:=by
 refine zJD (fle O) (fC nZ O fN) O ?_
 rw[ZE]
 refine ak (t:=mk [(0,.one<|.sl 0 0 a1.length),(1,oI a2)] [(0,.data 2 (a1.map zx) true none)] (lk [(0,.one<|.sl 0 0<|(a1.map zx).length)])) (zH (gl:=[(0,.one<|.sl 0 0<|(a1.map zx).length)]) [] (aF (v:=.one (.sl 0 0 a1.length)) eZ O (aK<|ba lm)<|kv 1 (oI a2) O O ar) (blR O) (ao (n:=0) O bZ O O aj)<|aZ O aA) ?_
 unfold Zs at H
 unfold zCq
 refine aV (za eC<|xQ<|zD (fun t3:((List zL)×Int)=>Jz a1 t3=some r) (fun t3=>mk [(1,oI t3.2)] [(0,.data 2 (List.map zx t3.1) true none)] (lk [(0,.one<|.sl 0 0<|(a1.map zx).length)])) ?_ ?_)
 ·intro t3 H
  unfold Jz at H
  refine aV (za eZ<|za eZ<|xQ<|aq ?_)
  obtain⟨h5,H⟩:=zW H
  cases H
  exact QJ (aE (aM eZ) (aQ O) aO) (bL eZ (Kf bZ (by first|(simp;done)|(simp;omega)|omega|(simp only[List.length_map];omega)) O) (bo bt)) (by decide)
 ·refine aV (za eC<|xQ<|aw<|aG (fun s6:((List zL)×Int×Int)=>mk [(0,.one<|.sl 0 0 s6.1.length),(1,oI s6.2.1),(5,oI s6.2.2)] [(0,.data 2 (List.map zx s6.1) true none)] (lk [(0,.one<|.sl 0 0<|(a1.map zx).length)])) H (zH [] (sR O O) (blR O) (bkR O O O)<|aZ O aA) ?_)
  intro kb7 s6 H
  unfold Jo at H
  refine aS (aV<|za O<|za O<|kT eZ<|qj O eZ<|xQ ?_)
  obtain⟨h8,H⟩|⟨h8,H⟩:=ab H
  ·refine zi eZ h8 (au<|al<|aS<|aw<|aV<|za O<|za O<|za O ?_)
   obtain⟨v9,h10,H⟩:=zk H
   refine X2 O O bZ O h10 (ze (m:=0) eZ O<|yX (t:=v9) (t':=zL.mk s6.2.1 v9.Writes) (es:=[.int .i64 s6.2.1]) eZ O O O bZ (y7 h10) O O<|xQ<|aV<|za O<|qb eZ eC<|za eZ<|xQ<|zZ<|zr<|za O<|zl<|zr<|za O<|zl<|zr ?_)
   obtain⟨v11,h12,H⟩:=zk H
   refine X2 O eZ bZ (by first|(simp;done)|(simp;omega)|omega|(simp only[List.length_map];omega)) h12 (zl<|zr<|ze (m:=1) eZ O<|zl ?_)
   obtain⟨v13,h14,H⟩:=zk H
   exact zn5 (f:=zx) (f':=zd) (t:=v11) (t':=zL.mk v11.Tx v13.2) (ys:=v11.Writes) (ys':=v13.2) eZ bZ (y7 h12) O O O O O (zdq h14) O O (ai (v':=oI (IntKind.wrap .i64 (s6.2.1+1))) O<|ai (v':=.one .any) O<|ai (v':=.one (.ptr<|.nm 0 (Int.toNat s6.2.2) 1)) O<|ai (v':=.one (.ptr<|.nm 0 (Int.toNat s6.2.2) 0)) O<|ai (v':=oI s6.2.2) O<|ai (v':=.one (.sl 0 0 s6.1.length)) O<|ai (v':=oI (IntKind.wrap .i64 (s6.2.1+1))) O<|ai (v':=oI (IntKind.wrap .i64 (s6.2.1+1))) O<|ai (v':=oI s6.2.1) O<|ai (v':=.one (.ptr<|.nm 0 (Int.toNat s6.2.2) 0)) O<|ai (v':=.one (.ptr<|.nm 0 (Int.toNat s6.2.2) 0)) O<|ai (v':=oI s6.2.1) O<|ai (v':=oI s6.2.2) O<|ai (v':=.one (.sl 0 0 s6.1.length)) O<|ai (v':=oB (decide (s6.2.2 < ((s6.1.length:Nat):Int)))) O<|ai (v':=oI ((s6.1.length:Nat):Int)) O<|ai (v':=.one (.sl 0 0 s6.1.length)) O<|ai (v':=oI s6.2.2) O<|ai (v':=.one (.sl 0 0 s6.1.length)) O<|ai (v':=oI s6.2.1) O<|ai (v':=oI s6.2.2) O aN) (av (v':=.data 2 (List.map zx<|s6.1.set (Int.toNat s6.2.2)<|zL.mk s6.2.1 v9.Writes) true none) O O<|av (v':=.data 2 (List.map zx s6.1) true none) O O aU) (ai (v':=.one (.sl 0 0<|(a1.map zx).length)) O aN) (qf<|za eZ<|zl<|aP<|al<|ak (zH [] (kr 1 O O<|kr 0 O O<|kr 5 O O ar) (blR O) (ao (n:=0) O bZ O O aj)<|aZ O aA)<|aR<|za O<|qb eZ eC<|za eZ<|zl<|al ⟨((s6.1.set (Int.toNat s6.2.2)<|zL.mk s6.2.1 v9.Writes).set (Int.toNat s6.2.2)<|zL.mk v11.Tx v13.2,v13.1,IntKind.wrap .i64 (s6.2.2+1)),H,zH [] (aF O O (aK af)<|sR O O) (blR O) (bkR O O O)<|aZ O aA⟩)
  ·exact zh eZ h8 (aH<|aC<|aC<|aT<|al ⟨(s6.1,s6.2.1),H,zH [] (sR O O) (blR O) (bkR O O O)<|aZ O aA⟩)
theorem zbk{a1:(List Int)}{a2:Int}{r:(Int×(List Int))}(H:yF a1 a2=some r):Fn Tryz.prog 102 [⟨.sl 1<|a1.map zm,.m<|.sl 1<|List.map zm r.2⟩,⟨.int .i64 a2,.b⟩] true [.int .i64 r.1]:=by
 refine zJb (fle O) (fC nZ O fN) O ?_
 rw[ZE]
 refine ak (t:=mk [(0,.one<|.sl 0 0 a1.length),(1,oI a2)] [(0,.data 1 (a1.map zm) true none)] (lk [(0,.one<|.sl 0 0<|(a1.map zm).length)])) (zH (gl:=[(0,.one<|.sl 0 0<|(a1.map zm).length)]) [] (aF (v:=.one (.sl 0 0 a1.length)) eZ O (aK<|ba lm)<|kv 1 (oI a2) O O ar) (blR O) (ao (n:=0) O bZ O O aj)<|aZ O aA) ?_
 unfold yF at H
 unfold zFA
 refine aV (za eC<|xQ<|zD (fun t3:((List Int)×Int)=>YY a1 t3=some r) (fun t3=>mk [(1,oI t3.2)] [(0,.data 1 (List.map zm t3.1) true none)] (lk [(0,.one<|.sl 0 0<|(a1.map zm).length)])) ?_ ?_)
 ·intro t3 H
  unfold YY at H
  refine aV (za eZ<|za eZ<|xQ<|aq ?_)
  obtain⟨h5,H⟩:=zW H
  cases H
  exact QJ (aE (aM eZ) (aQ O) aO) (bL eZ (aL bZ (by first|(simp;done)|(simp;omega)|omega|(simp only[List.length_map];omega)) (zI fun _=>O)) (bo bt)) (by decide)
 ·refine aV (za eC<|xQ<|aw<|aG (fun s6:((List Int)×Int×Int)=>mk [(0,.one<|.sl 0 0 s6.1.length),(1,oI s6.2.1),(5,oI s6.2.2)] [(0,.data 1 (List.map zm s6.1) true none)] (lk [(0,.one<|.sl 0 0<|(a1.map zm).length)])) H (zH [] (sR O O) (blR O) (bkR O O O)<|aZ O aA) ?_)
  intro kb7 s6 H
  unfold YL at H
  refine aS (aV<|za O<|za O<|kT eZ<|qj O eZ<|xQ ?_)
  obtain⟨h8,H⟩|⟨h8,H⟩:=ab H
  ·refine zi eZ h8 (au<|al<|aS<|aw<|aV<|za O<|za O<|za O ?_)
   obtain⟨v9,h10,H⟩:=zk H
   exact X2 O O bZ O h10 (yX (t:=v9) (t':=s6.2.1) (es:=[.int .i64 s6.2.1]) eZ O O O bZ (y7 h10) O O<|xQ<|aR<|za O<|qb eZ eC<|za eZ<|zl<|aP<|al<|aR<|za O<|qb eZ eC<|za eZ<|zl<|al ⟨(s6.1.set (Int.toNat s6.2.2) s6.2.1,IntKind.wrap .i64 (s6.2.1+1),IntKind.wrap .i64 (s6.2.2+1)),H,zH [] (aF O O (aK af)<|sR O O) (blR O) (bkR O O O)<|aZ O aA⟩)
  ·exact zh eZ h8 (aH<|aC<|aC<|aT<|al ⟨(s6.1,s6.2.1),H,zH [] (sR O O) (blR O) (bkR O O O)<|aZ O aA⟩)
theorem zaL{a1:zp}{a2:Int}{r:(Int×zp)}(H:Zt a1 a2=some r):Fn Tryz.prog 24 [⟨.agg<|zT a1,.m<|.agg<|zT r.2⟩,⟨.int .i64 a2,.b⟩] true [.int .i64 r.1]:=by
 refine m24 (fle O) (fC nZ O<|fC nZ O<|fC nZ O<|fC nZ O<|fC nZ O<|fC nZ O<|fC nZ O fN) O ?_
 rw[ZE]
 refine ak (t:=mk [(0,.agg [dI a1.Me,.sl 1 0 a1.Own.length,.sl 2 0 a1.Frozen.length,.sl 3 0 a1.Cells.length,.sl 4 0 a1.Locks.length,.sl 5 0 a1.Helds.length,.sl 6 0 a1.Wounded.length,.sl 7 0 a1.Ended.length,dI a1.Rank]),(1,oI a2)] [(7,.data 1 (a1.Ended.map zm) true none),(6,.data 1 (a1.Wounded.map zm) true none),(5,.data 2 (a1.Helds.map zx) true none),(4,.data 4 (a1.Locks.map zo) true none),(3,.data 2 (a1.Cells.map zd) true none),(2,.data 2 (a1.Frozen.map zg) true none),(1,.data 2 (a1.Own.map zg) true none)] (lk [(0,.agg [dI a1.Me,.sl 1 0<|(a1.Own.map zg).length,.sl 2 0<|(a1.Frozen.map zg).length,.sl 3 0<|(a1.Cells.map zd).length,.sl 4 0<|(a1.Locks.map zo).length,.sl 5 0<|(a1.Helds.map zx).length,.sl 6 0<|(a1.Wounded.map zm).length,.sl 7 0<|(a1.Ended.map zm).length,dI a1.Rank])])) (zH (gl:=[(0,.agg [dI a1.Me,.sl 1 0<|(a1.Own.map zg).length,.sl 2 0<|(a1.Frozen.map zg).length,.sl 3 0<|(a1.Cells.map zd).length,.sl 4 0<|(a1.Locks.map zo).length,.sl 5 0<|(a1.Helds.map zx).length,.sl 6 0<|(a1.Wounded.map zm).length,.sl 7 0<|(a1.Ended.map zm).length,dI a1.Rank])]) [] (aF (v:=.agg [dI a1.Me,.sl 1 0 a1.Own.length,.sl 2 0 a1.Frozen.length,.sl 3 0 a1.Cells.length,.sl 4 0 a1.Locks.length,.sl 5 0 a1.Helds.length,.sl 6 0 a1.Wounded.length,.sl 7 0 a1.Ended.length,dI a1.Rank]) eZ O (VWk.agg<|zaQ.cons CWk.rfl<|zaQ.cons (ba lm)<|zaQ.cons (ba lm)<|zaQ.cons (ba lm)<|zaQ.cons (ba lm)<|zaQ.cons (ba lm)<|zaQ.cons (ba lm)<|zaQ.cons (ba lm)<|zaQ.cons CWk.rfl zaQ.nil)<|kv 1 (oI a2) O O ar) (blR O) (ao (n:=7) O bZ O O<|ao (n:=6) O (bR O) O O<|ao (n:=5) O (bR O) O O<|ao (n:=4) O (bR O) O O<|ao (n:=3) O (bR O) O O<|ao (n:=2) O (bR O) O O<|ao (n:=1) O (bR O) O O aj)<|aZ O aA) ?_
 unfold Zt at H
 unfold i24
 refine aV (yd (n:=128) (m:=9) (cs:=[dI a1.Me,.sl 1 0 a1.Own.length,.sl 2 0 a1.Frozen.length,.sl 3 0 a1.Cells.length,.sl 4 0 a1.Locks.length,.sl 5 0 a1.Helds.length,.sl 6 0 a1.Wounded.length,.sl 7 0 a1.Ended.length,dI a1.Rank]) O eZ O O (nR O)<|za eC<|xQ<|aS<|zZ<|zr<|ze (m:=1) O O<|zl<|zr<|zn (q:=1) (c:=.sl 1 0 a1.Own.length) eZ bZ O O<|zl<|zr<|za O<|zl ?_)
 obtain⟨v3,h4,H⟩:=zk H
 obtain⟨h5,H⟩:=zW H
 refine kG (ON:=[1]) (ls:=[]) (G:=[]) (E:=[ql 1]) (MB:=[(1,.data 2 (v3.2.map zg) true none)]) (u:=oI v3.1) eC ay (zaf h4) (Ec O<|Ec eZ En) (bD (aL (bR O) lm (zI fun _=>O))<|bf Vp O bj) O O O (bb (bR O) bh) (ai (v':=oI a2) O<|ai (v':=.one (.sl 1 0 a1.Own.length)) O<|ai (v':=.one (.ptr<|.nm 128 0 1)) O<|ai (v':=oI 0) O<|ai (v':=.one (.ptr<|.nm 128 0 0)) O<|ai (v':=.agg [dI a1.Me,.sl 1 0 a1.Own.length,.sl 2 0 a1.Frozen.length,.sl 3 0 a1.Cells.length,.sl 4 0 a1.Locks.length,.sl 5 0 a1.Helds.length,.sl 6 0 a1.Wounded.length,.sl 7 0 a1.Ended.length,dI a1.Rank]) O<|ai (v':=oI a2) O aN) (av (v':=.vars 9 [dI a1.Me,.sl 1 0 a1.Own.length,.sl 2 0 a1.Frozen.length,.sl 3 0 a1.Cells.length,.sl 4 0 a1.Locks.length,.sl 5 0 a1.Helds.length,.sl 6 0 a1.Wounded.length,.sl 7 0 a1.Ended.length,dI a1.Rank]) O O<|av (v':=.data 1 (a1.Ended.map zm) true none) O O<|av (v':=.data 1 (a1.Wounded.map zm) true none) O O<|av (v':=.data 2 (a1.Helds.map zx) true none) O O<|av (v':=.data 4 (a1.Locks.map zo) true none) O O<|av (v':=.data 2 (a1.Cells.map zd) true none) O O<|av (v':=.data 2 (a1.Frozen.map zg) true none) O O<|av (v':=.data 2 (a1.Own.map zg) true none) O O aU) (ai (v':=.agg [dI a1.Me,.sl 1 0<|(a1.Own.map zg).length,.sl 2 0<|(a1.Frozen.map zg).length,.sl 3 0<|(a1.Cells.map zd).length,.sl 4 0<|(a1.Locks.map zo).length,.sl 5 0<|(a1.Helds.map zx).length,.sl 6 0<|(a1.Wounded.map zm).length,.sl 7 0<|(a1.Ended.map zm).length,dI a1.Rank]) O aN) O O (qf<|za eZ<|xQ<|aS<|zZ<|zr<|ze (m:=2) O O<|zl<|zr<|zn (q:=2) (c:=.sl 2 0 a1.Frozen.length) eZ (bR O) O O<|zl<|zr<|za O<|zl ?_)
 obtain⟨v6,h7,H⟩:=zk H
 obtain⟨h8,H⟩:=zW H
 refine kG (ON:=[2]) (ls:=[]) (G:=[]) (E:=[ql 2]) (MB:=[(2,.data 2 (v6.2.map zg) true none)]) (u:=oI v6.1) eC ay (zaf h7) (Ec O<|Ec eZ En) (bD (aL (bR O) lm (zI fun _=>O))<|bf Vp O bj) O O O (bb (bR O) bh) (ai (v':=oI v3.1) O<|ai (v':=.one (.sl 2 0 a1.Frozen.length)) O<|ai (v':=.one (.ptr<|.nm 128 0 2)) O<|ai (v':=oI v3.1) O<|ai (v':=oI v3.1) O<|ai (v':=oI a2) O<|ai (v':=.one (.sl 1 0 a1.Own.length)) O<|ai (v':=.one (.ptr<|.nm 128 0 1)) O<|ai (v':=oI 0) O<|ai (v':=.one (.ptr<|.nm 128 0 0)) O<|ai (v':=.agg [dI a1.Me,.sl 1 0 a1.Own.length,.sl 2 0 a1.Frozen.length,.sl 3 0 a1.Cells.length,.sl 4 0 a1.Locks.length,.sl 5 0 a1.Helds.length,.sl 6 0 a1.Wounded.length,.sl 7 0 a1.Ended.length,dI a1.Rank]) O<|ai (v':=oI a2) O aN) (av (v':=.data 2 (v3.2.map zg) true none) O O<|av (v':=.vars 9 [dI a1.Me,.sl 1 0 a1.Own.length,.sl 2 0 a1.Frozen.length,.sl 3 0 a1.Cells.length,.sl 4 0 a1.Locks.length,.sl 5 0 a1.Helds.length,.sl 6 0 a1.Wounded.length,.sl 7 0 a1.Ended.length,dI a1.Rank]) O O<|av (v':=.data 1 (a1.Ended.map zm) true none) O O<|av (v':=.data 1 (a1.Wounded.map zm) true none) O O<|av (v':=.data 2 (a1.Helds.map zx) true none) O O<|av (v':=.data 4 (a1.Locks.map zo) true none) O O<|av (v':=.data 2 (a1.Cells.map zd) true none) O O<|av (v':=.data 2 (a1.Frozen.map zg) true none) O O<|av (v':=.data 2 (a1.Own.map zg) true none) O O aU) (ai (v':=.agg [dI a1.Me,.sl 1 0<|(a1.Own.map zg).length,.sl 2 0<|(a1.Frozen.map zg).length,.sl 3 0<|(a1.Cells.map zd).length,.sl 4 0<|(a1.Locks.map zo).length,.sl 5 0<|(a1.Helds.map zx).length,.sl 6 0<|(a1.Wounded.map zm).length,.sl 7 0<|(a1.Ended.map zm).length,dI a1.Rank]) O aN) O O (qf<|za eZ<|xQ<|aS<|zZ<|zr<|ze (m:=3) O O<|zl<|zr<|zn (q:=3) (c:=.sl 3 0 a1.Cells.length) eZ (bR O) O O<|zl<|zr<|za O<|zl ?_)
 obtain⟨v9,h10,H⟩:=zk H
 obtain⟨h11,H⟩:=zW H
 refine kG (ON:=[3]) (ls:=[]) (G:=[]) (E:=[ql 3]) (MB:=[(3,.data 2 (v9.2.map zd) true none)]) (u:=oI v9.1) eC ay (zd2 h10) (Ec O<|Ec eZ En) (bD (aL (bR O) lm (zI fun _=>O))<|bf Vp O bj) O O O (bb (bR O) bh) (ai (v':=oI v6.1) O<|ai (v':=.one (.sl 3 0 a1.Cells.length)) O<|ai (v':=.one (.ptr<|.nm 128 0 3)) O<|ai (v':=oI v6.1) O<|ai (v':=oI v6.1) O<|ai (v':=oI v3.1) O<|ai (v':=.one (.sl 2 0 a1.Frozen.length)) O<|ai (v':=.one (.ptr<|.nm 128 0 2)) O<|ai (v':=oI v3.1) O<|ai (v':=oI v3.1) O<|ai (v':=oI a2) O<|ai (v':=.one (.sl 1 0 a1.Own.length)) O<|ai (v':=.one (.ptr<|.nm 128 0 1)) O<|ai (v':=oI 0) O<|ai (v':=.one (.ptr<|.nm 128 0 0)) O<|ai (v':=.agg [dI a1.Me,.sl 1 0 a1.Own.length,.sl 2 0 a1.Frozen.length,.sl 3 0 a1.Cells.length,.sl 4 0 a1.Locks.length,.sl 5 0 a1.Helds.length,.sl 6 0 a1.Wounded.length,.sl 7 0 a1.Ended.length,dI a1.Rank]) O<|ai (v':=oI a2) O aN) (av (v':=.data 2 (v6.2.map zg) true none) O O<|av (v':=.data 2 (v3.2.map zg) true none) O O<|av (v':=.vars 9 [dI a1.Me,.sl 1 0 a1.Own.length,.sl 2 0 a1.Frozen.length,.sl 3 0 a1.Cells.length,.sl 4 0 a1.Locks.length,.sl 5 0 a1.Helds.length,.sl 6 0 a1.Wounded.length,.sl 7 0 a1.Ended.length,dI a1.Rank]) O O<|av (v':=.data 1 (a1.Ended.map zm) true none) O O<|av (v':=.data 1 (a1.Wounded.map zm) true none) O O<|av (v':=.data 2 (a1.Helds.map zx) true none) O O<|av (v':=.data 4 (a1.Locks.map zo) true none) O O<|av (v':=.data 2 (a1.Cells.map zd) true none) O O<|av (v':=.data 2 (a1.Frozen.map zg) true none) O O<|av (v':=.data 2 (a1.Own.map zg) true none) O O aU) (ai (v':=.agg [dI a1.Me,.sl 1 0<|(a1.Own.map zg).length,.sl 2 0<|(a1.Frozen.map zg).length,.sl 3 0<|(a1.Cells.map zd).length,.sl 4 0<|(a1.Locks.map zo).length,.sl 5 0<|(a1.Helds.map zx).length,.sl 6 0<|(a1.Wounded.map zm).length,.sl 7 0<|(a1.Ended.map zm).length,dI a1.Rank]) O aN) O O (qf<|za eZ<|xQ<|ak (zH [] (kr 1 O O<|kr 2 O O ar) (blR O) (ao (n:=3) O bZ O O<|ao (n:=2) O (bR O) O O<|ao (n:=1) O (bR O) O O<|ao (n:=128) O (bR O) O O<|ao (n:=7) O (bR O) O O<|ao (n:=6) O (bR O) O O<|ao (n:=5) O (bR O) O O<|ao (n:=4) O (bR O) O O aj)<|aZ O aA)<|aS<|zZ<|zr<|ze (m:=4) O O<|zl<|zr<|zn (q:=4) (c:=.sl 4 0 a1.Locks.length) eZ (bR O) O O<|zl<|zr<|za O<|zl ?_)
 obtain⟨v12,h13,H⟩:=zk H
 obtain⟨h14,H⟩:=zW H
 refine kG (ON:=[4]) (ls:=[]) (G:=[]) (E:=[ql 4]) (MB:=[(4,.data 4 (v12.2.map zo) true none)]) (u:=oI v12.1) eC ay (zeg h13) (Ec O<|Ec eZ En) (bD (aL (bR O) lm (zI fun _=>O))<|bf Vp O bj) O O O (bb (bR O) bh) (ai (v':=oI v9.1) O<|ai (v':=.one (.sl 4 0 a1.Locks.length)) O<|ai (v':=.one (.ptr<|.nm 128 0 4)) O<|ai (v':=oI v9.1) O<|ai (v':=.one (.ptr<|.nm 128 0 0)) O aN) (av (v':=.data 2 (v9.2.map zd) true none) O O<|av (v':=.data 2 (v6.2.map zg) true none) O O<|av (v':=.data 2 (v3.2.map zg) true none) O O<|av (v':=.vars 9 [dI a1.Me,.sl 1 0 a1.Own.length,.sl 2 0 a1.Frozen.length,.sl 3 0 a1.Cells.length,.sl 4 0 a1.Locks.length,.sl 5 0 a1.Helds.length,.sl 6 0 a1.Wounded.length,.sl 7 0 a1.Ended.length,dI a1.Rank]) O O<|av (v':=.data 1 (a1.Ended.map zm) true none) O O<|av (v':=.data 1 (a1.Wounded.map zm) true none) O O<|av (v':=.data 2 (a1.Helds.map zx) true none) O O<|av (v':=.data 4 (a1.Locks.map zo) true none) O O aU) (ai (v':=.agg [dI a1.Me,.sl 1 0<|(a1.Own.map zg).length,.sl 2 0<|(a1.Frozen.map zg).length,.sl 3 0<|(a1.Cells.map zd).length,.sl 4 0<|(a1.Locks.map zo).length,.sl 5 0<|(a1.Helds.map zx).length,.sl 6 0<|(a1.Wounded.map zm).length,.sl 7 0<|(a1.Ended.map zm).length,dI a1.Rank]) O aN) O O (qf<|za eZ<|xQ<|aS<|zZ<|zr<|ze (m:=5) O O<|zl<|zr<|zn (q:=5) (c:=.sl 5 0 a1.Helds.length) eZ (bR O) O O<|zl<|zr<|za O<|zl ?_)
 obtain⟨v15,h16,H⟩:=zk H
 obtain⟨h17,H⟩:=zW H
 refine kG (ON:=[5]) (ls:=[]) (G:=[]) (E:=[ql 5]) (MB:=[(5,.data 2 (v15.2.map zx) true none)]) (u:=oI v15.1) eC ay (zdR h16) (Ec O<|Ec eZ En) (bD (Kf (bR O) lm O)<|bf Vp O bj) O O O (bb (bR O) bh) (ai (v':=oI v12.1) O<|ai (v':=.one (.sl 5 0 a1.Helds.length)) O<|ai (v':=.one (.ptr<|.nm 128 0 5)) O<|ai (v':=oI v12.1) O<|ai (v':=oI v12.1) O<|ai (v':=oI v9.1) O<|ai (v':=.one (.sl 4 0 a1.Locks.length)) O<|ai (v':=.one (.ptr<|.nm 128 0 4)) O<|ai (v':=oI v9.1) O<|ai (v':=.one (.ptr<|.nm 128 0 0)) O aN) (av (v':=.data 4 (v12.2.map zo) true none) O O<|av (v':=.data 2 (v9.2.map zd) true none) O O<|av (v':=.data 2 (v6.2.map zg) true none) O O<|av (v':=.data 2 (v3.2.map zg) true none) O O<|av (v':=.vars 9 [dI a1.Me,.sl 1 0 a1.Own.length,.sl 2 0 a1.Frozen.length,.sl 3 0 a1.Cells.length,.sl 4 0 a1.Locks.length,.sl 5 0 a1.Helds.length,.sl 6 0 a1.Wounded.length,.sl 7 0 a1.Ended.length,dI a1.Rank]) O O<|av (v':=.data 1 (a1.Ended.map zm) true none) O O<|av (v':=.data 1 (a1.Wounded.map zm) true none) O O<|av (v':=.data 2 (a1.Helds.map zx) true none) O O<|av (v':=.data 4 (a1.Locks.map zo) true none) O O aU) (ai (v':=.agg [dI a1.Me,.sl 1 0<|(a1.Own.map zg).length,.sl 2 0<|(a1.Frozen.map zg).length,.sl 3 0<|(a1.Cells.map zd).length,.sl 4 0<|(a1.Locks.map zo).length,.sl 5 0<|(a1.Helds.map zx).length,.sl 6 0<|(a1.Wounded.map zm).length,.sl 7 0<|(a1.Ended.map zm).length,dI a1.Rank]) O aN) O O (qf<|za eZ<|xQ<|aS<|zZ<|zr<|ze (m:=6) O O<|zl<|zr<|zn (q:=6) (c:=.sl 6 0 a1.Wounded.length) eZ (bR O) O O<|zl<|zr<|za O<|zl ?_)
 obtain⟨v18,h19,H⟩:=zk H
 obtain⟨h20,H⟩:=zW H
 refine kG (ON:=[6]) (ls:=[]) (G:=[]) (E:=[ql 6]) (MB:=[(6,.data 1 (v18.2.map zm) true none)]) (u:=oI v18.1) eC ay (zbk h19) (Ec O<|Ec eZ En) (bD (aL (bR O) lm (zI fun _=>O))<|bf Vp O bj) O O O (bb (bR O) bh) (ai (v':=oI v15.1) O<|ai (v':=.one (.sl 6 0 a1.Wounded.length)) O<|ai (v':=.one (.ptr<|.nm 128 0 6)) O<|ai (v':=oI v15.1) O<|ai (v':=oI v15.1) O<|ai (v':=oI v12.1) O<|ai (v':=.one (.sl 5 0 a1.Helds.length)) O<|ai (v':=.one (.ptr<|.nm 128 0 5)) O<|ai (v':=oI v12.1) O<|ai (v':=oI v12.1) O<|ai (v':=oI v9.1) O<|ai (v':=.one (.sl 4 0 a1.Locks.length)) O<|ai (v':=.one (.ptr<|.nm 128 0 4)) O<|ai (v':=oI v9.1) O<|ai (v':=.one (.ptr<|.nm 128 0 0)) O aN) (av (v':=.data 2 (v15.2.map zx) true none) O O<|av (v':=.data 4 (v12.2.map zo) true none) O O<|av (v':=.data 2 (v9.2.map zd) true none) O O<|av (v':=.data 2 (v6.2.map zg) true none) O O<|av (v':=.data 2 (v3.2.map zg) true none) O O<|av (v':=.vars 9 [dI a1.Me,.sl 1 0 a1.Own.length,.sl 2 0 a1.Frozen.length,.sl 3 0 a1.Cells.length,.sl 4 0 a1.Locks.length,.sl 5 0 a1.Helds.length,.sl 6 0 a1.Wounded.length,.sl 7 0 a1.Ended.length,dI a1.Rank]) O O<|av (v':=.data 1 (a1.Ended.map zm) true none) O O<|av (v':=.data 1 (a1.Wounded.map zm) true none) O O<|av (v':=.data 2 (a1.Helds.map zx) true none) O O<|av (v':=.data 4 (a1.Locks.map zo) true none) O O aU) (ai (v':=.agg [dI a1.Me,.sl 1 0<|(a1.Own.map zg).length,.sl 2 0<|(a1.Frozen.map zg).length,.sl 3 0<|(a1.Cells.map zd).length,.sl 4 0<|(a1.Locks.map zo).length,.sl 5 0<|(a1.Helds.map zx).length,.sl 6 0<|(a1.Wounded.map zm).length,.sl 7 0<|(a1.Ended.map zm).length,dI a1.Rank]) O aN) O O (qf<|za eZ<|xQ<|ak (zH [] (kr 1 O O<|kr 2 O O ar) (blR O) (ao (n:=6) O bZ O O<|ao (n:=5) O (bR O) O O<|ao (n:=4) O (bR O) O O<|ao (n:=3) O (bR O) O O<|ao (n:=2) O (bR O) O O<|ao (n:=1) O (bR O) O O<|ao (n:=128) O (bR O) O O<|ao (n:=7) O (bR O) O O aj)<|aZ O aA)<|aS<|zZ<|zr<|ze (m:=7) O O<|zl<|zr<|zn (q:=7) (c:=.sl 7 0 a1.Ended.length) eZ (bR O) O O<|zl<|zr<|za O<|zl ?_)
 obtain⟨v21,h22,H⟩:=zk H
 obtain⟨h23,H⟩:=zW H
 refine kG (ON:=[7]) (ls:=[]) (G:=[]) (E:=[ql 7]) (MB:=[(7,.data 1 (v21.2.map zm) true none)]) (u:=oI v21.1) eC ay (zbk h22) (Ec O<|Ec eZ En) (bD (aL (bR O) lm (zI fun _=>O))<|bf Vp O bj) O O O (bb (bR O) bh) (ai (v':=oI v18.1) O<|ai (v':=.one (.sl 7 0 a1.Ended.length)) O<|ai (v':=.one (.ptr<|.nm 128 0 7)) O<|ai (v':=oI v18.1) O<|ai (v':=.one (.ptr<|.nm 128 0 0)) O aN) (av (v':=.data 1 (v18.2.map zm) true none) O O<|av (v':=.data 2 (v15.2.map zx) true none) O O<|av (v':=.data 4 (v12.2.map zo) true none) O O<|av (v':=.data 2 (v9.2.map zd) true none) O O<|av (v':=.data 2 (v6.2.map zg) true none) O O<|av (v':=.data 2 (v3.2.map zg) true none) O O<|av (v':=.vars 9 [dI a1.Me,.sl 1 0 a1.Own.length,.sl 2 0 a1.Frozen.length,.sl 3 0 a1.Cells.length,.sl 4 0 a1.Locks.length,.sl 5 0 a1.Helds.length,.sl 6 0 a1.Wounded.length,.sl 7 0 a1.Ended.length,dI a1.Rank]) O O<|av (v':=.data 1 (a1.Ended.map zm) true none) O O aU) (ai (v':=.agg [dI a1.Me,.sl 1 0<|(a1.Own.map zg).length,.sl 2 0<|(a1.Frozen.map zg).length,.sl 3 0<|(a1.Cells.map zd).length,.sl 4 0<|(a1.Locks.map zo).length,.sl 5 0<|(a1.Helds.map zx).length,.sl 6 0<|(a1.Wounded.map zm).length,.sl 7 0<|(a1.Ended.map zm).length,dI a1.Rank]) O aN) O O (qf<|za eZ<|xQ<|aV<|za eZ<|za eZ<|xQ<|aq ?_)
 obtain⟨h24,H⟩:=zW H
 obtain⟨h25,H⟩:=zW H
 obtain⟨h26,H⟩:=zW H
 obtain⟨h27,H⟩:=zW H
 obtain⟨h28,H⟩:=zW H
 obtain⟨h29,H⟩:=zW H
 obtain⟨h30,H⟩:=zW H
 cases H
 exact QJ (aE (aM eZ) (aQ O) aO) (bL eZ (bA<|aB (aQ O)<|aB (aL (bR O) (by first|(simp;done)|(simp;omega)|omega|(simp only[List.length_map];omega)) (zI fun _=>O)) (aB (aL (bR O) (by first|(simp;done)|(simp;omega)|omega|(simp only[List.length_map];omega)) (zI fun _=>O)) (aB (aL (bR O) (by first|(simp;done)|(simp;omega)|omega|(simp only[List.length_map];omega)) (zI fun _=>O)) (aB (aL (bR O) (by first|(simp;done)|(simp;omega)|omega|(simp only[List.length_map];omega)) (zI fun _=>O)) (aB (Kf (bR O) (by first|(simp;done)|(simp;omega)|omega|(simp only[List.length_map];omega)) O) (aB (aL (bR O) (by first|(simp;done)|(simp;omega)|omega|(simp only[List.length_map];omega)) (zI fun _=>O)) (aB (aL bZ (by first|(simp;done)|(simp;omega)|omega|(simp only[List.length_map];omega)) (zI fun _=>O)) (aB (aQ O) bp)))))))) (bo bt)) (by decide)
theorem zag{a1:(List zw)}{a2:Int}{r:Int}(H:j0 a1 a2=some r):Fn Tryz.prog 103 (lent [.sl 2 (a1.map zg),.int .i64 a2]) true [.int .i64 r]:=by
 refine ac zIU O ?_
 refine ak (zf [] (kv 0 (.one<|.d<|.sl 2<|a1.map zg) O O<|kv 1 (oI a2) O O ar) am aj) ?_
 unfold j0 at H
 unfold zHb
 refine aV (za eC<|xQ<|zD (fun t3:Int=>QN t3=some r) (fun t3=>mk [(1,oI t3)] [] noG) ?_ ?_)
 ·intro t3 H
  unfold QN at H
  refine aV (za eZ<|za eZ<|xQ<|aq ?_)
  cases H
  exact eE O O
 ·refine aV (za eC<|xQ<|aw<|aG (fun s5:(Int×Int)=>mk [(0,.one<|.d<|.sl 2<|a1.map zg),(1,oI s5.1),(5,oI s5.2)] [] noG) H (zf [] (sR O O) am aj) ?_)
  intro kb6 s5 H
  unfold QI at H
  refine aS (aV<|za O<|za O<|zX eZ (n:=a1.length) lm<|qj O eZ<|xQ ?_)
  obtain⟨h7,H⟩|⟨h7,H⟩:=ab H
  ·refine zi eZ h7 (au<|al<|aS<|aw<|aS<|aV<|za O<|za O ?_)
   obtain⟨v8,h9,H⟩:=zk H
   refine qk O eZ h9 (z7 (m:=0) eZ O<|zV (e:=.int .i64 v8.Lo) eZ O<|za O<|ZK O eZ<|xQ ?_)
   obtain⟨h10,H⟩|⟨h10,H⟩:=ab H
   ·refine zi eZ h10 (aV<|za eC<|xQ<|aq<|ax<|aJ<|ax<|ax<|aJ<|ax ?_)
    cases H
    exact eE O O
   ·refine zh eZ h10 (au<|al<|aV<|za O<|qb eZ eC<|za eZ<|xQ<|ak (zf [] (kr 1 O O<|kr 0 O O<|kr 5 O O ar) am aj)<|aS<|aV<|za O<|za O ?_)
    obtain⟨v11,h12,H⟩:=zk H
    refine qk O eZ h12 (z7 (m:=1) eZ O<|zV (e:=.int .i64 v11.Hi) eZ O<|za O<|ZK O eZ<|xQ ?_)
    obtain⟨h13,H⟩|⟨h13,H⟩:=ab H
    ·refine zi eZ h13 (aV<|za eC<|xQ<|aq<|ax<|aJ<|ax<|ax<|aJ<|ax ?_)
     cases H
     exact eE O O
    ·exact zh eZ h13 (au<|al<|aR<|za O<|qb eZ eC<|za eZ<|zl<|aP<|al<|aR<|za O<|qb eZ eC<|za eZ<|zl<|al ⟨(IntKind.wrap .i64 ((IntKind.wrap .i64 (s5.1+1))+1),IntKind.wrap .i64 (s5.2+1)),H,zf [] (sR O O) am aj⟩)
  ·exact zh eZ h7 (aH<|aC<|aC<|aT<|al ⟨s5.1,H,zf [] (sR O O) am aj⟩)
theorem zel{a1:(List zj)}{a2:Int}{r:Int}(H:Zr a1 a2=some r):Fn Tryz.prog 34 (lent [.sl 2 (a1.map zd),.int .i64 a2]) true [.int .i64 r]:=by
 refine ac f34 O ?_
 refine ak (zf [] (kv 0 (.one<|.d<|.sl 2<|a1.map zd) O O<|kv 1 (oI a2) O O ar) am aj) ?_
 unfold Zr at H
 unfold i34
 refine aV (za eC<|xQ<|zD (fun t3:Int=>Jv t3=some r) (fun t3=>mk [(1,oI t3)] [] noG) ?_ ?_)
 ·intro t3 H
  unfold Jv at H
  refine aV (za eZ<|za eZ<|xQ<|aq ?_)
  cases H
  exact eE O O
 ·refine aV (za eC<|xQ<|aw<|aG (fun s5:(Int×Int)=>mk [(0,.one<|.d<|.sl 2<|a1.map zd),(1,oI s5.1),(5,oI s5.2)] [] noG) H (zf [] (sR O O) am aj) ?_)
  intro kb6 s5 H
  unfold Jt at H
  refine aS (aV<|za O<|za O<|zX eZ (n:=a1.length) lm<|qj O eZ<|xQ ?_)
  obtain⟨h7,H⟩|⟨h7,H⟩:=ab H
  ·refine zi eZ h7 (au<|al<|aS<|aw<|aS<|aV<|za O<|za O ?_)
   obtain⟨v8,h9,H⟩:=zk H
   refine qk O eZ h9 (z7 (m:=0) eZ O<|zV (e:=.int .i64 v8.Key) eZ O<|za O<|ZK O eZ<|xQ ?_)
   obtain⟨h10,H⟩|⟨h10,H⟩:=ab H
   ·refine zi eZ h10 (aV<|za eC<|xQ<|aq<|ax<|aJ<|ax<|ax<|aJ<|ax ?_)
    cases H
    exact eE O O
   ·refine zh eZ h10 (au<|al<|aV<|za O<|qb eZ eC<|za eZ<|xQ<|ak (zf [] (kr 1 O O<|kr 0 O O<|kr 5 O O ar) am aj)<|aS<|aV<|za O<|za O ?_)
    obtain⟨v11,h12,H⟩:=zk H
    refine qk O eZ h12 (z7 (m:=1) eZ O<|zV (e:=.int .i64 v11.Value) eZ O<|za O<|ZK O eZ<|xQ ?_)
    obtain⟨h13,H⟩|⟨h13,H⟩:=ab H
    ·refine zi eZ h13 (aV<|za eC<|xQ<|aq<|ax<|aJ<|ax<|ax<|aJ<|ax ?_)
     cases H
     exact eE O O
    ·exact zh eZ h13 (au<|al<|aR<|za O<|qb eZ eC<|za eZ<|zl<|aP<|al<|aR<|za O<|qb eZ eC<|za eZ<|zl<|al ⟨(IntKind.wrap .i64 ((IntKind.wrap .i64 (s5.1+1))+1),IntKind.wrap .i64 (s5.2+1)),H,zf [] (sR O O) am aj⟩)
  ·exact zh eZ h7 (aH<|aC<|aC<|aT<|al ⟨s5.1,H,zf [] (sR O O) am aj⟩)
theorem zee{a1:(List zC)}{a2:Int}{r:Int}(H:Zw a1 a2=some r):Fn Tryz.prog 104 (lent [.sl 4 (a1.map zo),.int .i64 a2]) true [.int .i64 r]:=by
 refine ac zJl O ?_
 refine ak (zf [] (kv 0 (.one<|.d<|.sl 4<|a1.map zo) O O<|kv 1 (oI a2) O O ar) am aj) ?_
 unfold Zw at H
 unfold zG1
 refine aV (za eC<|xQ<|zD (fun t3:Int=>JA t3=some r) (fun t3=>mk [(1,oI t3)] [] noG) ?_ ?_)
 ·intro t3 H
  unfold JA at H
  refine aV (za eZ<|za eZ<|xQ<|aq ?_)
  cases H
  exact eE O O
 ·refine aV (za eC<|xQ<|aw<|aG (fun s5:(Int×Int)=>mk [(0,.one<|.d<|.sl 4<|a1.map zo),(1,oI s5.1),(5,oI s5.2)] [] noG) H (zf [] (sR O O) am aj) ?_)
  intro kb6 s5 H
  unfold Jp at H
  refine aS (aV<|za O<|za O<|zX eZ (n:=a1.length) lm<|qj O eZ<|xQ ?_)
  obtain⟨h7,H⟩|⟨h7,H⟩:=ab H
  ·refine zi eZ h7 (au<|al<|aS<|aw<|aS<|aV<|za O<|za O ?_)
   obtain⟨v8,h9,H⟩:=zk H
   refine qk O eZ h9 (z7 (m:=0) eZ O<|zV (e:=.int .i64 v8.Tx) eZ O<|za O<|ZK O eZ<|xQ ?_)
   obtain⟨h10,H⟩|⟨h10,H⟩:=ab H
   ·refine zi eZ h10 (aV<|za eC<|xQ<|aq<|ax<|aJ<|ax<|ax<|aJ<|ax ?_)
    cases H
    exact eE O O
   ·refine zh eZ h10 (au<|al<|aV<|za O<|qb eZ eC<|za eZ<|xQ<|ak (zf [] (kr 1 O O<|kr 0 O O<|kr 5 O O ar) am aj)<|aS<|aV<|za O<|za O ?_)
    obtain⟨v11,h12,H⟩:=zk H
    refine qk O eZ h12 (z7 (m:=1) eZ O<|zV (e:=.int .i64 v11.Lo) eZ O<|za O<|ZK O eZ<|xQ ?_)
    obtain⟨h13,H⟩|⟨h13,H⟩:=ab H
    ·refine zi eZ h13 (aV<|za eC<|xQ<|aq<|ax<|aJ<|ax<|ax<|aJ<|ax ?_)
     cases H
     exact eE O O
    ·refine zh eZ h13 (au<|al<|aV<|za O<|qb eZ eC<|za eZ<|xQ<|aS<|aV<|za O<|za O ?_)
     obtain⟨v14,h15,H⟩:=zk H
     refine qk O eZ h15 (z7 (m:=2) eZ O<|zV (e:=.int .i64 v14.Hi) eZ O<|za O<|ZK O eZ<|xQ<|ak (zf [] (kr 36 O O<|kr 1 O O<|kr 0 O O<|kr 5 O O ar) am aj) ?_)
     obtain⟨h16,H⟩|⟨h16,H⟩:=zA H
     ·refine zi eZ (dT h16) (aV<|za eC<|xQ<|aq<|ax<|aJ<|ax<|ax<|aJ<|ax ?_)
      cases H
      exact eE O O
     ·refine zh eZ (dF h16) (au<|al<|aV<|za O<|qb eZ eC<|za eZ<|xQ<|aS<|aV<|za O<|za O ?_)
      obtain⟨v17,h18,H⟩:=zk H
      refine qk O eZ h18 (z7 (m:=3) eZ O<|zV (e:=.int .i64 v17.Mode) eZ O<|za O<|ZK O eZ<|xQ ?_)
      obtain⟨h19,H⟩|⟨h19,H⟩:=zA H
      ·refine zi eZ (dT h19) (aV<|za eC<|xQ<|aq<|ax<|aJ<|ax<|ax<|aJ<|ax ?_)
       cases H
       exact eE O O
      ·exact zh eZ (dF h19) (au<|al<|aR<|za O<|qb eZ eC<|za eZ<|zl<|aP<|al<|ak (zf [] (kr 1 O O<|kr 0 O O<|kr 5 O O ar) am aj)<|aR<|za O<|qb eZ eC<|za eZ<|zl<|al ⟨(IntKind.wrap .i64 ((IntKind.wrap .i64 ((IntKind.wrap .i64 ((IntKind.wrap .i64 (s5.1+1))+1))+1))+1),IntKind.wrap .i64 (s5.2+1)),H,zf [] (sR O O) am aj⟩)
  ·exact zh eZ h7 (aH<|aC<|aC<|aT<|al ⟨s5.1,H,zf [] (sR O O) am aj⟩)
theorem zdn{a1:(List zj)}{a2:Int}{r:Int}(H:ZW a1 a2=some r):Fn Tryz.prog 213 (lent [.sl 2 (a1.map zd),.int .i64 a2]) true [.int .i64 r]:=by
 refine ac zIs O ?_
 refine ak (zf [] (kv 0 (.one<|.d<|.sl 2<|a1.map zd) O O<|kv 1 (oI a2) O O ar) am aj) ?_
 unfold ZW at H
 unfold zHK
 refine aV (za eC<|xQ<|zD (fun t3:Int=>QZ t3=some r) (fun t3=>mk [(1,oI t3)] [] noG) ?_ ?_)
 ·intro t3 H
  unfold QZ at H
  refine aV (za eZ<|za eZ<|xQ<|aq ?_)
  cases H
  exact eE O O
 ·refine aV (za eC<|xQ<|aw<|aG (fun s5:(Int×Int)=>mk [(0,.one<|.d<|.sl 2<|a1.map zd),(1,oI s5.1),(5,oI s5.2)] [] noG) H (zf [] (sR O O) am aj) ?_)
  intro kb6 s5 H
  unfold QS at H
  refine aS (aV<|za O<|za O<|zX eZ (n:=a1.length) lm<|qj O eZ<|xQ ?_)
  obtain⟨h7,H⟩|⟨h7,H⟩:=ab H
  ·refine zi eZ h7 (au<|al<|aS<|aw<|aS<|aV<|za O<|za O ?_)
   obtain⟨v8,h9,H⟩:=zk H
   refine qk O eZ h9 (z7 (m:=0) eZ O<|zV (e:=.int .i64 v8.Key) eZ O<|za O<|ZK O eZ<|xQ ?_)
   obtain⟨h10,H⟩|⟨h10,H⟩:=ab H
   ·refine zi eZ h10 (aV<|za eC<|xQ<|aq<|ax<|aJ<|ax<|ax<|aJ<|ax ?_)
    cases H
    exact eE O O
   ·refine zh eZ h10 (au<|al<|aV<|za O<|qb eZ eC<|za eZ<|xQ<|ak (zf [] (kr 1 O O<|kr 0 O O<|kr 5 O O ar) am aj)<|aS<|aV<|za O<|za O ?_)
    obtain⟨v11,h12,H⟩:=zk H
    refine qk O eZ h12 (z7 (m:=1) eZ O<|zV (e:=.int .i64 v11.Value) eZ O<|za O<|ZK O eZ<|xQ ?_)
    obtain⟨h13,H⟩|⟨h13,H⟩:=ab H
    ·refine zi eZ h13 (aV<|za eC<|xQ<|aq<|ax<|aJ<|ax<|ax<|aJ<|ax ?_)
     cases H
     exact eE O O
    ·exact zh eZ h13 (au<|al<|aR<|za O<|qb eZ eC<|za eZ<|zl<|aP<|al<|aR<|za O<|qb eZ eC<|za eZ<|zl<|al ⟨(IntKind.wrap .i64 ((IntKind.wrap .i64 (s5.1+1))+1),IntKind.wrap .i64 (s5.2+1)),H,zf [] (sR O O) am aj⟩)
  ·exact zh eZ h7 (aH<|aC<|aC<|aT<|al ⟨s5.1,H,zf [] (sR O O) am aj⟩)
theorem zdT{a1:(List zL)}{a2:Int}{r:Int}(H:Zh a1 a2=some r):Fn Tryz.prog 105 (lent [.sl 2 (a1.map zx),.int .i64 a2]) true [.int .i64 r]:=by
 refine ac zI9 O ?_
 refine ak (zf [] (kv 0 (.one<|.d<|.sl 2<|a1.map zx) O O<|kv 1 (oI a2) O O ar) am aj) ?_
 unfold Zh at H
 unfold zFf
 refine aV (za eC<|xQ<|zD (fun t3:Int=>Jn t3=some r) (fun t3=>mk [(1,oI t3)] [] noG) ?_ ?_)
 ·intro t3 H
  unfold Jn at H
  refine aV (za eZ<|za eZ<|xQ<|aq ?_)
  cases H
  exact eE O O
 ·refine aV (za eC<|xQ<|aw<|aG (fun s5:(Int×Int)=>mk [(0,.one<|.d<|.sl 2<|a1.map zx),(1,oI s5.1),(5,oI s5.2)] [] noG) H (zf [] (sR O O) am aj) ?_)
  intro kb6 s5 H
  unfold Jw at H
  refine aS (aV<|za O<|za O<|zX eZ (n:=a1.length) lm<|qj O eZ<|xQ ?_)
  obtain⟨h7,H⟩|⟨h7,H⟩:=ab H
  ·refine zi eZ h7 (au<|al<|aS<|aw<|aS<|aV<|za O<|za O ?_)
   obtain⟨v8,h9,H⟩:=zk H
   refine qk O eZ h9 (z7 (m:=0) eZ O<|zV (e:=.int .i64 v8.Tx) eZ O<|za O<|ZK O eZ<|xQ ?_)
   obtain⟨h10,H⟩|⟨h10,H⟩:=ab H
   ·refine zi eZ h10 (aV<|za eC<|xQ<|aq<|ax<|aJ<|ax<|ax<|aJ<|ax ?_)
    cases H
    exact eE O O
   ·refine zh eZ h10 (au<|al<|aV<|za O<|qb eZ eC<|za eZ<|xQ<|ak (zf [] (kr 1 O O<|kr 0 O O<|kr 5 O O ar) am aj)<|aV<|za O<|za O ?_)
    obtain⟨v11,h12,H⟩:=zk H
    refine qk O eZ h12 (z7 (m:=1) eZ O<|zV (e:=.sl 2 (v11.Writes.map zd)) eZ O<|za O ?_)
    obtain⟨v13,h14,H⟩:=zk H
    refine zF (u:=oI v13) eC ay (zdn h14) (Ec O<|Ec eZ En) (Vc Vp<|Vc Vp Vn) O (za eZ<|xQ<|aV<|za eZ<|qj eZ eC<|xQ ?_)
    obtain⟨h15,H⟩|⟨h15,H⟩:=ab H
    ·refine zi eZ h15 (aV<|za eC<|xQ<|aq<|aJ<|ax<|ax<|aJ<|ax ?_)
     cases H
     exact eE O O
    ·exact zh eZ h15 (au<|aP<|al<|aR<|za O<|qb eZ eC<|za eZ<|zl<|al ⟨(v13,IntKind.wrap .i64 (s5.2+1)),H,zf [] (sR O O) am aj⟩)
  ·exact zh eZ h7 (aH<|aC<|aC<|aT<|al ⟨s5.1,H,zf [] (sR O O) am aj⟩)
theorem zbh{a1:(List Int)}{a2:Int}{r:Int}(H:yE a1 a2=some r):Fn Tryz.prog 106 (lent [.sl 1 (a1.map zm),.int .i64 a2]) true [.int .i64 r]:=by
 refine ac zJh O ?_
 refine ak (zf [] (kv 0 (.one<|.d<|.sl 1<|a1.map zm) O O<|kv 1 (oI a2) O O ar) am aj) ?_
 unfold yE at H
 unfold zF1
 refine aV (za eC<|xQ<|zD (fun t3:Int=>YB t3=some r) (fun t3=>mk [(1,oI t3)] [] noG) ?_ ?_)
 ·intro t3 H
  unfold YB at H
  refine aV (za eZ<|za eZ<|xQ<|aq ?_)
  cases H
  exact eE O O
 ·refine aV (za eC<|xQ<|aw<|aG (fun s5:(Int×Int)=>mk [(0,.one<|.d<|.sl 1<|a1.map zm),(1,oI s5.1),(5,oI s5.2)] [] noG) H (zf [] (sR O O) am aj) ?_)
  intro kb6 s5 H
  unfold YE at H
  refine aS (aV<|za O<|za O<|zX eZ (n:=a1.length) lm<|qj O eZ<|xQ ?_)
  obtain⟨h7,H⟩|⟨h7,H⟩:=ab H
  ·refine zi eZ h7 (au<|al<|aS<|aw<|aS<|aV<|za O<|za O ?_)
   obtain⟨v8,h9,H⟩:=zk H
   refine qk O eZ h9 (zV (e:=.int .i64 v8) eZ O<|za O<|ZK O eZ<|xQ ?_)
   obtain⟨h10,H⟩|⟨h10,H⟩:=ab H
   ·refine zi eZ h10 (aV<|za eC<|xQ<|aq<|ax<|aJ<|ax<|ax<|aJ<|ax ?_)
    cases H
    exact eE O O
   ·exact zh eZ h10 (au<|al<|aR<|za O<|qb eZ eC<|za eZ<|zl<|aP<|al<|ak (zf [] (kr 1 O O<|kr 0 O O<|kr 5 O O ar) am aj)<|aR<|za O<|qb eZ eC<|za eZ<|zl<|al ⟨(IntKind.wrap .i64 (s5.1+1),IntKind.wrap .i64 (s5.2+1)),H,zf [] (sR O O) am aj⟩)
  ·exact zh eZ h7 (aH<|aC<|aC<|aT<|al ⟨s5.1,H,zf [] (sR O O) am aj⟩)
theorem zaP{a1:zp}{a2:Int}{r:Int}(H:Zv a1 a2=some r):Fn Tryz.prog 25 (lent [.agg (zT a1),.int .i64 a2]) true [.int .i64 r]:=by
 refine ac f25 O ?_
 refine ak (zf [] (kv 0 (.agg<|zK a1) O O<|kv 1 (oI a2) O O ar) am aj) ?_
 unfold Zv at H
 unfold i25
 refine aV (yd (n:=128) (m:=9) (cs:=zK a1) O eZ O O nZ<|za eC<|xQ<|aV<|ze (m:=1) O O<|zn (q:=1) (c:=.d (.sl 2<|a1.Own.map zg)) eZ bZ O O<|za O ?_)
 obtain⟨v3,h4,H⟩:=zk H
 refine zF (u:=oI v3) eC ay (zag h4) (Ec O<|Ec eZ En) (Vc Vp<|Vc Vp Vn) O (za eZ<|xQ<|aS<|aV<|za eZ<|qj eZ eC<|xQ ?_)
 obtain⟨h5,H⟩|⟨h5,H⟩:=ab H
 ·refine zi eZ h5 (aV<|za eC<|xQ<|aq<|ax ?_)
  cases H
  exact eE O O
 ·refine zh eZ h5 (au<|al<|aV<|ze (m:=2) O O<|zn (q:=2) (c:=.d (.sl 2<|a1.Frozen.map zg)) eZ bZ O O<|za O ?_)
  obtain⟨v6,h7,H⟩:=zk H
  refine zF (u:=oI v6) eC ay (zag h7) (Ec O<|Ec eZ En) (Vc Vp<|Vc Vp Vn) O (za eZ<|xQ<|ak (zf [] (kr 1 O O<|kr 2 O O ar) (blR O)<|ao (n:=128) O bZ O O aj)<|aS<|aV<|za eZ<|qj eZ eC<|xQ ?_)
  obtain⟨h8,H⟩|⟨h8,H⟩:=ab H
  ·refine zi eZ h8 (aV<|za eC<|xQ<|aq<|ax ?_)
   cases H
   exact eE O O
  ·refine zh eZ h8 (au<|al<|aV<|ze (m:=3) O O<|zn (q:=3) (c:=.d (.sl 2<|a1.Cells.map zd)) eZ bZ O O<|za O ?_)
   obtain⟨v9,h10,H⟩:=zk H
   refine zF (u:=oI v9) eC ay (zel h10) (Ec O<|Ec eZ En) (Vc Vp<|Vc Vp Vn) O (za eZ<|xQ<|aS<|aV<|za eZ<|qj eZ eC<|xQ ?_)
   obtain⟨h11,H⟩|⟨h11,H⟩:=zA H
   ·refine zi eZ (dT h11) (aV<|za eC<|xQ<|aq<|ax ?_)
    cases H
    exact eE O O
   ·refine zh eZ (dF h11) (au<|al<|aV<|ze (m:=4) O O<|zn (q:=4) (c:=.d (.sl 4<|a1.Locks.map zo)) eZ bZ O O<|za O ?_)
    obtain⟨v12,h13,H⟩:=zk H
    refine zF (u:=oI v12) eC ay (zee h13) (Ec O<|Ec eZ En) (Vc Vp<|Vc Vp Vn) O (za eZ<|xQ<|ak (zf [] (kr 1 O O<|kr 2 O O ar) (blR O)<|ao (n:=128) O bZ O O aj)<|aS<|aV<|za eZ<|qj eZ eC<|xQ ?_)
    obtain⟨h14,H⟩|⟨h14,H⟩:=zA H
    ·refine zi eZ (dT h14) (aV<|za eC<|xQ<|aq<|ax ?_)
     cases H
     exact eE O O
    ·refine zh eZ (dF h14) (au<|al<|aV<|ze (m:=5) O O<|zn (q:=5) (c:=.d (.sl 2<|a1.Helds.map zx)) eZ bZ O O<|za O ?_)
     obtain⟨v15,h16,H⟩:=zk H
     refine zF (u:=oI v15) eC ay (zdT h16) (Ec O<|Ec eZ En) (Vc Vp<|Vc Vp Vn) O (za eZ<|xQ<|aS<|aV<|za eZ<|qj eZ eC<|xQ ?_)
     obtain⟨h17,H⟩|⟨h17,H⟩:=zA H
     ·refine zi eZ (dT h17) (aV<|za eC<|xQ<|aq<|ax ?_)
      cases H
      exact eE O O
     ·refine zh eZ (dF h17) (au<|al<|aV<|ze (m:=6) O O<|zn (q:=6) (c:=.d (.sl 1<|a1.Wounded.map zm)) eZ bZ O O<|za O ?_)
      obtain⟨v18,h19,H⟩:=zk H
      refine zF (u:=oI v18) eC ay (zbh h19) (Ec O<|Ec eZ En) (Vc Vp<|Vc Vp Vn) O (za eZ<|xQ<|ak (zf [] (kr 1 O O<|kr 2 O O ar) (blR O)<|ao (n:=128) O bZ O O aj)<|aS<|aV<|za eZ<|qj eZ eC<|xQ ?_)
      obtain⟨h20,H⟩|⟨h20,H⟩:=zA H
      ·refine zi eZ (dT h20) (aV<|za eC<|xQ<|aq<|ax ?_)
       cases H
       exact eE O O
      ·refine zh eZ (dF h20) (au<|al<|aV<|ze (m:=7) O O<|zn (q:=7) (c:=.d (.sl 1<|a1.Ended.map zm)) eZ bZ O O<|za O ?_)
       obtain⟨v21,h22,H⟩:=zk H
       refine zF (u:=oI v21) eC ay (zbh h22) (Ec O<|Ec eZ En) (Vc Vp<|Vc Vp Vn) O (za eZ<|xQ<|aS<|aV<|za eZ<|qj eZ eC<|xQ ?_)
       obtain⟨h23,H⟩|⟨h23,H⟩:=zA H
       ·refine zi eZ (dT h23) (aV<|za eC<|xQ<|aq<|ax ?_)
        cases H
        exact eE O O
       ·refine zh eZ (dF h23) (au<|al<|aV<|za O<|za eZ<|xQ<|aq ?_)
        cases H
        exact eE O O
end Go.AW
