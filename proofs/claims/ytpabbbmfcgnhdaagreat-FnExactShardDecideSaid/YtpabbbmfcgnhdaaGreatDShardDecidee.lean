/- That functions of the program compute what the plain functions say. Conditions: each theorem's own. -/
import Derived.Test.YtpabbbmfcgnhdaaGreatMShardDecide
import Derived.Test.YtpabbbmfcgnhdaaGreatGShardDecide
import Derived.Test.YtpabbbmfcgnhdaaGreatYn
import Derived.Test.YtpabbbmfcgnhdaaGreatSShardDecide
import Derived.Test.YtpabbbmfcgnhdaaGreatYt
import Derived.KernelRfl
import Derived.Test.YtpabbbmfcgnhdaaGreatDShardDecidea
import Derived.Test.YtpabbbmfcgnhdaaGreatDShardDecideb
import Derived.Test.YtpabbbmfcgnhdaaGreatDShardDecidec
import Derived.Test.YtpabbbmfcgnhdaaGreatDShardDecided
set_option linter.unusedVariables false
set_option linter.unusedSimpArgs false
set_option maxRecDepth 100000
namespace Go.AW
open Go.Proofs
theorem K7{a1:zp}{a2:Int}{a3:Bool}{r:Bool}(H:yG a1 a2 a3=some r):Fn Tryz.prog 6 (lent [.agg (zT a1),.int .i64 a2,.bool a3]) true [.bool r]:=by
 refine ac f6 O ?_
 refine ak (t:=mk [(0,.agg<|zK a1),(1,oI a2),(2,oB a3)] [] (lk [])) (zf [] (sR O O) am aj) ?_
 unfold yG at H
 unfold i6
 refine aV (yd (n:=192) (m:=9) (cs:=zK a1) O eZ O O nZ<|za eC<|xQ<|aV<|za eC<|xQ<|aV<|zY (es:=zK a1) O bZ O<|za O ?_)
 obtain⟨v4,h5,H⟩:=zk H
 refine zF (u:=oI v4) eC ay (zfH h5) (Ec O<|Ec eZ En) (Vc (aI O)<|Vc Vp Vn) O (za eZ<|xQ<|aS<|aV<|za eZ<|qj eZ eC<|xQ ?_)
 obtain⟨h6,H⟩|⟨h6,H⟩:=ab H
 ·refine zi eZ h6 (aV<|za eC<|xQ<|aq<|ax ?_)
  cases H
  exact eE O O
 ·refine zh eZ h6 (au<|al<|aS<|zZ<|zr<|zY (es:=zK a1) O bZ O<|zl<|zr ?_)
  obtain⟨v7,h8,H⟩:=zk H
  refine zF (u:=.agg (zK v7)) eC ay (kL h8) (Ec eZ En) (Vc (aI O) Vn) O (zl<|zr<|za O<|zl<|zr<|za O<|zl<|zr ?_)
  obtain⟨v9,h10,H⟩:=zk H
  refine zqZ (u:=.tup [.agg (zK v9.1),oI v9.2]) eC ay (zcK h10) (Ec O<|Ec O<|Ec eZ En) (Vc (aI O)<|Vc Vp<|Vc Vp Vn) O O (zl<|zr<|za eZ<|zl<|zr<|zaM (v:=.agg (zK v9.1)) eZ O<|zl<|zr<|zaM (v:=oI v9.2) O O<|zl<|zr<|Zn (n:=512) (m:=9) O O (nR O)<|zl<|zr<|zP (es:=zK v9.1) eZ O O O bZ O<|zl<|qf<|za O<|xQ<|ak (zH [] (kr 9 O O<|kr 8 O O<|kr 3 O O<|kr 1 O O<|kr 2 O O ar) (blR O) (ao (n:=512) O bZ O O<|ao (n:=192) O (bR O) O O aj) aA)<|aS<|zZ<|zr<|zY (es:=zK a1) O (bR O) O<|zl<|zr ?_)
  obtain⟨v11,h12,H⟩:=zk H
  refine j9 (u:=.agg [dI v11.Me,.sl 2049 0 v11.Own.length,.sl 2050 0 v11.Frozen.length,.sl 2051 0 v11.Cells.length,.sl 2052 0 v11.Locks.length,.sl 2053 0 v11.Helds.length,.sl 2054 0 v11.Wounded.length,.sl 2055 0 v11.Ended.length,dI v11.Rank]) (bs:=[(2049,.data 2 (v11.Own.map zg) true none),(2050,.data 2 (v11.Frozen.map zg) true none),(2051,.data 2 (v11.Cells.map zd) true none),(2052,.data 4 (v11.Locks.map zo) true none),(2053,.data 2 (v11.Helds.map zx) true none),(2054,.data 1 (v11.Wounded.map zm) true none),(2055,.data 1 (v11.Ended.map zm) true none)]) eC ay (kL h12) (Ec eZ En) (Vc (aI O) Vn) (by simp[jg,jD,qy,jq,qF]) O (fC (nR O) O<|fC (nR O) O<|fC (nR O) O<|fC (nR O) O<|fC (nR O) O<|fC (nR O) O<|fC (nR O) O<|fC (nR O) O fN) (zl<|zr<|Zn (n:=640) (m:=9) O O (nR O)<|zl<|zr<|zP (es:=[dI v11.Me,.sl 2049 0 v11.Own.length,.sl 2050 0 v11.Frozen.length,.sl 2051 0 v11.Cells.length,.sl 2052 0 v11.Locks.length,.sl 2053 0 v11.Helds.length,.sl 2054 0 v11.Wounded.length,.sl 2055 0 v11.Ended.length,dI v11.Rank]) eZ O O O bZ O<|zl<|qf<|xQ<|aS<|zZ<|zr<|zY (es:=[dI v11.Me,.sl 2049 0 v11.Own.length,.sl 2050 0 v11.Frozen.length,.sl 2051 0 v11.Cells.length,.sl 2052 0 v11.Locks.length,.sl 2053 0 v11.Helds.length,.sl 2054 0 v11.Wounded.length,.sl 2055 0 v11.Ended.length,dI v11.Rank]) eZ bZ O<|zl<|zr<|za O<|zl<|zr<|za O<|zl<|zr ?_)
  obtain⟨v13,h14,H⟩:=zk H
  refine j9 (u:=.tup [.agg [dI v13.1.Me,.sl 2369 0 v13.1.Own.length,.sl 2370 0 v13.1.Frozen.length,.sl 2371 0 v13.1.Cells.length,.sl 2372 0 v13.1.Locks.length,.sl 2373 0 v13.1.Helds.length,.sl 2374 0 v13.1.Wounded.length,.sl 2375 0 v13.1.Ended.length,dI v13.1.Rank],oI v13.2]) (bs:=[(2369,.data 2 (v13.1.Own.map zg) true none),(2370,.data 2 (v13.1.Frozen.map zg) true none),(2371,.data 2 (v13.1.Cells.map zd) true none),(2372,.data 4 (v13.1.Locks.map zo) true none),(2373,.data 2 (v13.1.Helds.map zx) true none),(2374,.data 1 (v13.1.Wounded.map zm) true none),(2375,.data 1 (v13.1.Ended.map zm) true none)]) eC ay (KV h14) (Ec O<|Ec O<|Ec eZ En) (Vc (bE<|aD<|aW (bR O) lm<|aW (bR O) lm<|aW (bR O) lm<|aW (bR O) lm<|aW (bR O) lm<|aW (bR O) lm<|aW (bR O) lm<|aD bc)<|Vc Vp<|Vc Vp Vn) (by simp[jg,jD,qy,jq,qF]) O (fC (nR O) O<|fC (nR O) O<|fC (nR O) O<|fC (nR O) O<|fC (nR O) O<|fC (nR O) O<|fC (nR O) O<|fC (nR O) O fN) (zl<|zr<|za eZ<|zl<|zr<|zaM (v:=.agg [dI v13.1.Me,.sl 2369 0 v13.1.Own.length,.sl 2370 0 v13.1.Frozen.length,.sl 2371 0 v13.1.Cells.length,.sl 2372 0 v13.1.Locks.length,.sl 2373 0 v13.1.Helds.length,.sl 2374 0 v13.1.Wounded.length,.sl 2375 0 v13.1.Ended.length,dI v13.1.Rank]) eZ O<|zl<|zr<|zaM (v:=oI v13.2) O O<|zl<|zr<|Zn (n:=704) (m:=9) O O (nR O)<|zl<|zr<|zP (es:=[dI v13.1.Me,.sl 2369 0 v13.1.Own.length,.sl 2370 0 v13.1.Frozen.length,.sl 2371 0 v13.1.Cells.length,.sl 2372 0 v13.1.Locks.length,.sl 2373 0 v13.1.Helds.length,.sl 2374 0 v13.1.Wounded.length,.sl 2375 0 v13.1.Ended.length,dI v13.1.Rank]) eZ O O O bZ O<|zl<|qf<|za O<|xQ<|ak (zH [] (kr 12 O O<|kr 11 O O<|kr 10 O O<|kr 9 O O<|kr 8 O O<|kr 3 O O<|kr 1 O O<|kr 2 O O ar) (blR O) (ao (n:=704) O bZ O O<|ao (n:=2375) O (bR O) O O<|ao (n:=2374) O (bR O) O O<|ao (n:=2373) O (bR O) O O<|ao (n:=2372) O (bR O) O O<|ao (n:=2371) O (bR O) O O<|ao (n:=2370) O (bR O) O O<|ao (n:=2369) O (bR O) O O<|ao (n:=640) O (bR O) O O<|ao (n:=2055) O (bR O) O O<|ao (n:=2054) O (bR O) O O<|ao (n:=2053) O (bR O) O O<|ao (n:=2052) O (bR O) O O<|ao (n:=2051) O (bR O) O O<|ao (n:=2050) O (bR O) O O<|ao (n:=2049) O (bR O) O O<|ao (n:=512) O (bR O) O O<|ao (n:=192) O (bR O) O O aj) aA) ?_)
  refine aS (zD (fun t15:Bool=>jE a1 v11 v13 a2 a3 v9 t15=some r) (fun t15=>mk [(1,oI a2),(2,oB a3),(3,.one<|.ptr<|.nm 192 0 0),(8,.one<|.ptr<|.nm 512 0 0),(9,oI v9.2),(10,.one<|.ptr<|.nm 640 0 0),(11,.one<|.ptr<|.nm 704 0 0),(12,oI v13.2),(48,oB t15)] [(192,.vars 9<|zK a1),(512,.vars 9<|zK v9.1),(640,.vars 9 [dI v11.Me,.sl 2049 0 v11.Own.length,.sl 2050 0 v11.Frozen.length,.sl 2051 0 v11.Cells.length,.sl 2052 0 v11.Locks.length,.sl 2053 0 v11.Helds.length,.sl 2054 0 v11.Wounded.length,.sl 2055 0 v11.Ended.length,dI v11.Rank]),(704,.vars 9 [dI v13.1.Me,.sl 2369 0 v13.1.Own.length,.sl 2370 0 v13.1.Frozen.length,.sl 2371 0 v13.1.Cells.length,.sl 2372 0 v13.1.Locks.length,.sl 2373 0 v13.1.Helds.length,.sl 2374 0 v13.1.Wounded.length,.sl 2375 0 v13.1.Ended.length,dI v13.1.Rank]),(2049,.data 2 (v11.Own.map zg) true none),(2050,.data 2 (v11.Frozen.map zg) true none),(2051,.data 2 (v11.Cells.map zd) true none),(2052,.data 4 (v11.Locks.map zo) true none),(2053,.data 2 (v11.Helds.map zx) true none),(2054,.data 1 (v11.Wounded.map zm) true none),(2055,.data 1 (v11.Ended.map zm) true none),(2369,.data 2 (v13.1.Own.map zg) true none),(2370,.data 2 (v13.1.Frozen.map zg) true none),(2371,.data 2 (v13.1.Cells.map zd) true none),(2372,.data 4 (v13.1.Locks.map zo) true none),(2373,.data 2 (v13.1.Helds.map zx) true none),(2374,.data 1 (v13.1.Wounded.map zm) true none),(2375,.data 1 (v13.1.Ended.map zm) true none)] (lk [])) ?_ ?_)
  ·intro t15 H
   obtain⟨h17,H⟩|⟨h17,H⟩:=aa H
   ·refine zi O h17 (aV<|za eC<|xQ<|aq<|ax ?_)
    cases H
    exact eE O O
   ·refine zh O h17 (au<|al<|aS<|aS<|aX<|zY (es:=[dI v11.Me,.sl 2049 0 v11.Own.length,.sl 2050 0 v11.Frozen.length,.sl 2051 0 v11.Cells.length,.sl 2052 0 v11.Locks.length,.sl 2053 0 v11.Helds.length,.sl 2054 0 v11.Wounded.length,.sl 2055 0 v11.Ended.length,dI v11.Rank]) O (hB O<|bR O) O<|zY (es:=zK a1) O bZ O ?_)
    obtain⟨v18,h19,H⟩:=zk H
    refine zF (u:=.agg (zK v18)) eC ay (kL h19) (Ec eZ En) (Vc (aI O) Vn) O ?_
    obtain⟨v20,h21,H⟩:=zk H
    refine zF (u:=oB v20) eC ay (kp h21) (Ec O<|Ec eZ En) (Vc (bE<|aD<|aW (bR O) lm<|aW (bR O) lm<|aW (bR O) lm<|aW (bR O) lm<|aW (bR O) lm<|aW (bR O) lm<|aW (bR O) lm<|aD bc)<|Vc (aI O) Vn) O (qS eZ<|xQ ?_)
    obtain⟨h22,H⟩|⟨h22,H⟩:=aa H
    ·refine zh eZ (cN h22) (au<|al<|aV<|za eC<|xQ<|aS<|zZ<|zr<|zY (es:=[dI v11.Me,.sl 2049 0 v11.Own.length,.sl 2050 0 v11.Frozen.length,.sl 2051 0 v11.Cells.length,.sl 2052 0 v11.Locks.length,.sl 2053 0 v11.Helds.length,.sl 2054 0 v11.Wounded.length,.sl 2055 0 v11.Ended.length,dI v11.Rank]) O (bR O) O<|zl<|zr<|za O<|zl ?_)
     obtain⟨v23,h24,H⟩:=zk H
     obtain⟨h25,H⟩:=zW H
     obtain⟨h26,H⟩:=zW H
     obtain⟨h27,H⟩:=zW H
     obtain⟨h28,H⟩:=zW H
     obtain⟨h29,H⟩:=zW H
     obtain⟨h30,H⟩:=zW H
     obtain⟨h31,H⟩:=zW H
     refine kG (ON:=[2049,2050,2051,2052,2053,2054,2055]) (ls:=[]) (G:=[]) (E:=[ql 2049,ql 2050,ql 2051,ql 2052,ql 2053,ql 2054,ql 2055]) (MB:=[(2049,.data 2 (v23.2.Own.map zg) true none),(2050,.data 2 (v23.2.Frozen.map zg) true none),(2051,.data 2 (v23.2.Cells.map zd) true none),(2052,.data 4 (v23.2.Locks.map zo) true none),(2053,.data 2 (v23.2.Helds.map zx) true none),(2054,.data 1 (v23.2.Wounded.map zm) true none),(2055,.data 1 (v23.2.Ended.map zm) true none)]) (u:=oI v23.1) eC ay (zaL h24) (Ec O<|Ec eZ En) (bD (bA<|aB (aQ O)<|aB (aL (bR O) lm (zI fun _=>O))<|aB (aL (bR O) lm (zI fun _=>O))<|aB (aL (bR O) lm (zI fun _=>O))<|aB (aL (bR O) lm (zI fun _=>O))<|aB (Kf (bR O) lm O)<|aB (aL (bR O) lm (zI fun _=>O))<|aB (aL (bR O) lm (zI fun _=>O))<|aB (aQ O) bp)<|bf Vp O bj) O O O (bb (bR O)<|bb (bR O)<|bb (bR O)<|bb (bR O)<|bb (bR O)<|bb (bR O)<|bb (bR O) bh) (ai (v':=oI 1) O<|ai (v':=.agg [dI v11.Me,.sl 2049 0 v11.Own.length,.sl 2050 0 v11.Frozen.length,.sl 2051 0 v11.Cells.length,.sl 2052 0 v11.Locks.length,.sl 2053 0 v11.Helds.length,.sl 2054 0 v11.Wounded.length,.sl 2055 0 v11.Ended.length,dI v11.Rank]) O<|ai (v':=oI 1) O<|ai (v':=oB (!v20)) O<|ai (v':=oB v20) O<|ai (v':=.agg (zK v18)) O<|ai (v':=.agg (zK a1)) O<|ai (v':=.agg [dI v11.Me,.sl 2049 0 v11.Own.length,.sl 2050 0 v11.Frozen.length,.sl 2051 0 v11.Cells.length,.sl 2052 0 v11.Locks.length,.sl 2053 0 v11.Helds.length,.sl 2054 0 v11.Wounded.length,.sl 2055 0 v11.Ended.length,dI v11.Rank]) O<|ai (v':=oI a2) O<|ai (v':=oB a3) O<|ai (v':=.one (.ptr<|.nm 192 0 0)) O<|ai (v':=.one (.ptr<|.nm 512 0 0)) O<|ai (v':=oI v9.2) O<|ai (v':=.one (.ptr<|.nm 640 0 0)) O<|ai (v':=.one (.ptr<|.nm 704 0 0)) O<|ai (v':=oI v13.2) O<|ai (v':=oB t15) O aN) (av (v':=.vars 9 (zK a1)) O O<|av (v':=.vars 9 (zK v9.1)) O O<|av (v':=.vars 9 [dI v11.Me,.sl 2049 0 v11.Own.length,.sl 2050 0 v11.Frozen.length,.sl 2051 0 v11.Cells.length,.sl 2052 0 v11.Locks.length,.sl 2053 0 v11.Helds.length,.sl 2054 0 v11.Wounded.length,.sl 2055 0 v11.Ended.length,dI v11.Rank]) O O<|av (v':=.vars 9 [dI v13.1.Me,.sl 2369 0 v13.1.Own.length,.sl 2370 0 v13.1.Frozen.length,.sl 2371 0 v13.1.Cells.length,.sl 2372 0 v13.1.Locks.length,.sl 2373 0 v13.1.Helds.length,.sl 2374 0 v13.1.Wounded.length,.sl 2375 0 v13.1.Ended.length,dI v13.1.Rank]) O O<|av (v':=.data 2 (v11.Own.map zg) true none) O O<|av (v':=.data 2 (v11.Frozen.map zg) true none) O O<|av (v':=.data 2 (v11.Cells.map zd) true none) O O<|av (v':=.data 4 (v11.Locks.map zo) true none) O O<|av (v':=.data 2 (v11.Helds.map zx) true none) O O<|av (v':=.data 1 (v11.Wounded.map zm) true none) O O<|av (v':=.data 1 (v11.Ended.map zm) true none) O O<|av (v':=.data 2 (v13.1.Own.map zg) true none) O O<|av (v':=.data 2 (v13.1.Frozen.map zg) true none) O O<|av (v':=.data 2 (v13.1.Cells.map zd) true none) O O<|av (v':=.data 4 (v13.1.Locks.map zo) true none) O O<|av (v':=.data 2 (v13.1.Helds.map zx) true none) O O<|av (v':=.data 1 (v13.1.Wounded.map zm) true none) O O<|av (v':=.data 1 (v13.1.Ended.map zm) true none) O O aU) aN O O ?_
     refine qf (za eZ<|xQ<|ak (zH [2055,2054,2053,2052,2051,2050,2049,640] (kr 13 O O<|kr 1 O O<|kr 2 O O<|kr 3 O O<|kr 8 O O<|kr 9 O O<|kr 11 O O<|kr 12 O O ar) (blR O) (ao (n:=192) O (bR O) O O<|ao (n:=512) O (bR O) O O<|ao (n:=704) O (bR O) O O<|ao (n:=2369) O (bR O) O O<|ao (n:=2370) O (bR O) O O<|ao (n:=2371) O (bR O) O O<|ao (n:=2372) O (bR O) O O<|ao (n:=2373) O (bR O) O O<|ao (n:=2374) O (bR O) O O<|ao (n:=2375) O (bR O) O O aj) aA)<|aS<|zD (fun t32:Bool=>jd v13 a1 a2 a3 v9 t32=some r) (fun t32=>mk [(1,oI a2),(2,oB a3),(3,.one<|.ptr<|.nm 192 0 0),(8,.one<|.ptr<|.nm 512 0 0),(9,oI v9.2),(11,.one<|.ptr<|.nm 704 0 0),(69,oB t32)] [(192,.vars 9<|zK a1),(512,.vars 9<|zK v9.1),(704,.vars 9 [dI v13.1.Me,.sl 2369 0 v13.1.Own.length,.sl 2370 0 v13.1.Frozen.length,.sl 2371 0 v13.1.Cells.length,.sl 2372 0 v13.1.Locks.length,.sl 2373 0 v13.1.Helds.length,.sl 2374 0 v13.1.Wounded.length,.sl 2375 0 v13.1.Ended.length,dI v13.1.Rank]),(2369,.data 2 (v13.1.Own.map zg) true none),(2370,.data 2 (v13.1.Frozen.map zg) true none),(2371,.data 2 (v13.1.Cells.map zd) true none),(2372,.data 4 (v13.1.Locks.map zo) true none),(2373,.data 2 (v13.1.Helds.map zx) true none),(2374,.data 1 (v13.1.Wounded.map zm) true none),(2375,.data 1 (v13.1.Ended.map zm) true none)] (lk [])) ?_ ?_)
     ·intro t32 H
      obtain⟨h34,H⟩|⟨h34,H⟩:=aa H
      ·refine zi O h34 (aV<|za eC<|xQ<|aq<|ax ?_)
       cases H
       exact eE O O
      ·refine zh O h34 (au<|al<|aV<|za eC<|xQ<|aS<|zZ<|zr<|zY (es:=[dI v13.1.Me,.sl 2369 0 v13.1.Own.length,.sl 2370 0 v13.1.Frozen.length,.sl 2371 0 v13.1.Cells.length,.sl 2372 0 v13.1.Locks.length,.sl 2373 0 v13.1.Helds.length,.sl 2374 0 v13.1.Wounded.length,.sl 2375 0 v13.1.Ended.length,dI v13.1.Rank]) O (bR O) O<|zl<|zr<|za O<|zl ?_)
       obtain⟨v35,h36,H⟩:=zk H
       obtain⟨h37,H⟩:=zW H
       obtain⟨h38,H⟩:=zW H
       obtain⟨h39,H⟩:=zW H
       obtain⟨h40,H⟩:=zW H
       obtain⟨h41,H⟩:=zW H
       obtain⟨h42,H⟩:=zW H
       obtain⟨h43,H⟩:=zW H
       refine kG (ON:=[2369,2370,2371,2372,2373,2374,2375]) (ls:=[]) (G:=[]) (E:=[ql 2369,ql 2370,ql 2371,ql 2372,ql 2373,ql 2374,ql 2375]) (MB:=[(2369,.data 2 (v35.2.Own.map zg) true none),(2370,.data 2 (v35.2.Frozen.map zg) true none),(2371,.data 2 (v35.2.Cells.map zd) true none),(2372,.data 4 (v35.2.Locks.map zo) true none),(2373,.data 2 (v35.2.Helds.map zx) true none),(2374,.data 1 (v35.2.Wounded.map zm) true none),(2375,.data 1 (v35.2.Ended.map zm) true none)]) (u:=oI v35.1) eC ay (zaL h36) (Ec O<|Ec eZ En) (bD (bA<|aB (aQ O)<|aB (aL (bR O) lm (zI fun _=>O))<|aB (aL (bR O) lm (zI fun _=>O))<|aB (aL (bR O) lm (zI fun _=>O))<|aB (aL (bR O) lm (zI fun _=>O))<|aB (Kf (bR O) lm O)<|aB (aL (bR O) lm (zI fun _=>O))<|aB (aL (bR O) lm (zI fun _=>O))<|aB (aQ O) bp)<|bf Vp O bj) O O O (bb (bR O)<|bb (bR O)<|bb (bR O)<|bb (bR O)<|bb (bR O)<|bb (bR O)<|bb (bR O) bh) (ai (v':=oI 1) O<|ai (v':=.agg [dI v13.1.Me,.sl 2369 0 v13.1.Own.length,.sl 2370 0 v13.1.Frozen.length,.sl 2371 0 v13.1.Cells.length,.sl 2372 0 v13.1.Locks.length,.sl 2373 0 v13.1.Helds.length,.sl 2374 0 v13.1.Wounded.length,.sl 2375 0 v13.1.Ended.length,dI v13.1.Rank]) O<|ai (v':=oI 1) O<|ai (v':=oI a2) O<|ai (v':=oB a3) O<|ai (v':=.one (.ptr<|.nm 192 0 0)) O<|ai (v':=.one (.ptr<|.nm 512 0 0)) O<|ai (v':=oI v9.2) O<|ai (v':=.one (.ptr<|.nm 704 0 0)) O<|ai (v':=oB t32) O aN) (av (v':=.vars 9 (zK a1)) O O<|av (v':=.vars 9 (zK v9.1)) O O<|av (v':=.vars 9 [dI v13.1.Me,.sl 2369 0 v13.1.Own.length,.sl 2370 0 v13.1.Frozen.length,.sl 2371 0 v13.1.Cells.length,.sl 2372 0 v13.1.Locks.length,.sl 2373 0 v13.1.Helds.length,.sl 2374 0 v13.1.Wounded.length,.sl 2375 0 v13.1.Ended.length,dI v13.1.Rank]) O O<|av (v':=.data 2 (v13.1.Own.map zg) true none) O O<|av (v':=.data 2 (v13.1.Frozen.map zg) true none) O O<|av (v':=.data 2 (v13.1.Cells.map zd) true none) O O<|av (v':=.data 4 (v13.1.Locks.map zo) true none) O O<|av (v':=.data 2 (v13.1.Helds.map zx) true none) O O<|av (v':=.data 1 (v13.1.Wounded.map zm) true none) O O<|av (v':=.data 1 (v13.1.Ended.map zm) true none) O O aU) aN O O (qf<|za eZ<|xQ<|aV<|za eC<|xQ<|aV<|zY (es:=[dI v13.1.Me,.sl 2369 0 v13.1.Own.length,.sl 2370 0 v13.1.Frozen.length,.sl 2371 0 v13.1.Cells.length,.sl 2372 0 v13.1.Locks.length,.sl 2373 0 v13.1.Helds.length,.sl 2374 0 v13.1.Wounded.length,.sl 2375 0 v13.1.Ended.length,dI v13.1.Rank]) O (bR O) O<|za O ?_)
       obtain⟨v44,h45,H⟩:=zk H
       refine zF (u:=oI v44) eC ay (zaP h45) (Ec O<|Ec eZ En) (Vc (bE<|aD<|aW (bR O) (by first|(simp;done)|(simp;omega)|omega|(simp only[List.length_map];omega)) (aW (bR O) (by first|(simp;done)|(simp;omega)|omega|(simp only[List.length_map];omega)) (aW (bR O) (by first|(simp;done)|(simp;omega)|omega|(simp only[List.length_map];omega)) (aW (bR O) (by first|(simp;done)|(simp;omega)|omega|(simp only[List.length_map];omega)) (aW (bR O) (by first|(simp;done)|(simp;omega)|omega|(simp only[List.length_map];omega)) (aW (bR O) (by first|(simp;done)|(simp;omega)|omega|(simp only[List.length_map];omega)) (aW bZ (by first|(simp;done)|(simp;omega)|omega|(simp only[List.length_map];omega)) (aD bc)))))))) (Vc Vp Vn)) O (za eZ<|xQ<|ak (zH [] (kr 15 O O<|kr 14 O O<|kr 1 O O<|kr 2 O O<|kr 3 O O<|kr 8 O O<|kr 9 O O<|kr 11 O O ar) (blR O) (ao (n:=2375) O bZ O O<|ao (n:=2374) O (bR O) O O<|ao (n:=2373) O (bR O) O O<|ao (n:=2372) O (bR O) O O<|ao (n:=2371) O (bR O) O O<|ao (n:=2370) O (bR O) O O<|ao (n:=2369) O (bR O) O O<|ao (n:=192) O (bR O) O O<|ao (n:=512) O (bR O) O O<|ao (n:=704) O (bR O) O O aj) aA)<|aS<|aV<|za eZ<|qj eZ eC<|xQ ?_)
       obtain⟨h46,H⟩|⟨h46,H⟩:=zA H
       ·refine zi eZ (dT h46) (aV<|za eC<|xQ<|aq<|ax ?_)
        cases H
        exact eE O O
       ·refine zh eZ (dF h46) (au<|al<|aS<|aV<|za O<|za O<|ZK O eZ<|xQ ?_)
        obtain⟨h47,H⟩|⟨h47,H⟩:=zA H
        ·refine zi eZ (dT h47) (aV<|za eC<|xQ<|aq<|ax ?_)
         cases H
         exact eE O O
        ·refine zh eZ (dF h47) (au<|al<|aS<|zZ<|zr<|zY (es:=zK a1) O (bR O) O<|zl<|zr ?_)
         obtain⟨v48,h49,H⟩:=zk H
         refine zF (u:=.agg (zK v48)) eC ay (kL h49) (Ec eZ En) (Vc (aI O) Vn) O (zl<|zr<|za O<|zl<|zr<|za O<|zl<|zr ?_)
         obtain⟨v50,h51,H⟩:=zk H
         refine zF (u:=.tup [.agg (zK v50.1),oI v50.2]) eC ay (KV h51) (Ec O<|Ec O<|Ec eZ En) (Vc (aI O)<|Vc Vp<|Vc Vp Vn) O (zl<|zr<|za eZ<|zl<|zr<|zaM (v:=.agg (zK v50.1)) eZ O<|zl<|zr<|zaM (v:=oI v50.2) O O<|zl<|zr<|Zn (n:=1024) (m:=9) O O (nR O)<|zl<|zr<|zP (es:=zK v50.1) eZ O O O bZ O<|zl<|qf<|za O<|xQ<|ak (zH [192] (kr 17 O O<|kr 16 O O<|kr 14 O O<|kr 8 O O<|kr 9 O O<|kr 11 O O ar) (blR O) (ao (n:=1024) O bZ O O<|ao (n:=2375) O (bR O) O O<|ao (n:=2374) O (bR O) O O<|ao (n:=2373) O (bR O) O O<|ao (n:=2372) O (bR O) O O<|ao (n:=2371) O (bR O) O O<|ao (n:=2370) O (bR O) O O<|ao (n:=2369) O (bR O) O O<|ao (n:=512) O (bR O) O O<|ao (n:=704) O (bR O) O O aj) aA)<|aS<|zD (fun t52:Bool=>jG v13 v35 t52=some r) (fun t52=>mk [(11,.one<|.ptr<|.nm 704 0 0),(14,oI v35.1),(97,oB t52)] [(704,.vars 9 [dI v13.1.Me,.sl 2369 0 v13.1.Own.length,.sl 2370 0 v13.1.Frozen.length,.sl 2371 0 v13.1.Cells.length,.sl 2372 0 v13.1.Locks.length,.sl 2373 0 v13.1.Helds.length,.sl 2374 0 v13.1.Wounded.length,.sl 2375 0 v13.1.Ended.length,dI v13.1.Rank]),(2369,.data 2 (v35.2.Own.map zg) true none),(2370,.data 2 (v35.2.Frozen.map zg) true none),(2371,.data 2 (v35.2.Cells.map zd) true none),(2372,.data 4 (v35.2.Locks.map zo) true none),(2373,.data 2 (v35.2.Helds.map zx) true none),(2374,.data 1 (v35.2.Wounded.map zm) true none),(2375,.data 1 (v35.2.Ended.map zm) true none)] (lk [])) ?_ ?_)
         ·intro t52 H
          obtain⟨h54,H⟩|⟨h54,H⟩:=zA H
          ·refine zi O h54 (aV<|za eC<|xQ<|aq<|ax ?_)
           cases H
           exact eE O O
          ·refine zh O (nt h54) (au<|al<|aV<|za eC<|xQ<|aV<|zY (es:=[dI v13.1.Me,.sl 2369 0 v13.1.Own.length,.sl 2370 0 v13.1.Frozen.length,.sl 2371 0 v13.1.Cells.length,.sl 2372 0 v13.1.Locks.length,.sl 2373 0 v13.1.Helds.length,.sl 2374 0 v13.1.Wounded.length,.sl 2375 0 v13.1.Ended.length,dI v13.1.Rank]) O bZ O<|za O ?_)
           obtain⟨v55,h56,H⟩:=zk H
           refine zF (u:=oI v55) eC ay (zaP h56) (Ec O<|Ec eZ En) (Vc (bE<|aD<|aW (bR O) (by first|(simp;done)|(simp;omega)|omega|(simp only[List.length_map];omega)) (aW (bR O) (by first|(simp;done)|(simp;omega)|omega|(simp only[List.length_map];omega)) (aW (bR O) (by first|(simp;done)|(simp;omega)|omega|(simp only[List.length_map];omega)) (aW (bR O) (by first|(simp;done)|(simp;omega)|omega|(simp only[List.length_map];omega)) (aW (bR O) (by first|(simp;done)|(simp;omega)|omega|(simp only[List.length_map];omega)) (aW (bR O) (by first|(simp;done)|(simp;omega)|omega|(simp only[List.length_map];omega)) (aW (bR O) (by first|(simp;done)|(simp;omega)|omega|(simp only[List.length_map];omega)) (aD bc)))))))) (Vc Vp Vn)) O (za eZ<|xQ<|aS<|aV<|za eZ<|qj eZ eC<|xQ ?_)
           obtain⟨h57,H⟩|⟨h57,H⟩:=zA H
           ·refine zi eZ (dT h57) (aV<|za eC<|xQ<|aq<|ax ?_)
            cases H
            exact eE O O
           ·refine zh eZ (dF h57) (au<|al<|aS<|aV<|za O<|za O<|ZK O eZ<|xQ ?_)
            obtain⟨h58,H⟩|⟨h58,H⟩:=zA H
            ·refine zi eZ (dT h58) (aV<|za eC<|xQ<|aq<|ax ?_)
             cases H
             exact eE O O
            ·refine zh eZ (dF h58) (au<|al<|aV<|za eC<|xQ<|aq ?_)
             cases H
             exact eE O O
         ·refine aR (zY (es:=zK v50.1) O bZ O<|zY (es:=zK v9.1) O (bR O) O ?_)
          obtain⟨v59,h60,H⟩:=zk H
          refine zF (u:=oB v59) eC ay (kp h60) (Ec O<|Ec eZ En) (Vc (aI O)<|Vc (aI O) Vn) O (qS eZ<|za eZ ?_)
          obtain⟨h61,H⟩|⟨h61,H⟩:=zA H
          ·exact gDo eZ (cN h61) (za O<|gDo O (cN h61)<|za O<|gDo O (cN h61)<|ZK O eZ<|zM O (cN h61) eZ<|zl<|al ⟨decide (¬v50.2=v9.2),H,zH [1024,512] (sR O O) (blR O) (ao O (bR O) O (by first|rfl|simp)<|bkR O O O) aA⟩)
          ·exact zb eZ (cN<|nt h61) O (zb O (cN<|nt h61) O<|zb O (cN<|nt h61) O<|zB O (cN<|nt h61) eC<|zl<|al ⟨true,H,zH [1024,512] (sR O O) (blR O) (ao O (bR O) O (by first|rfl|simp)<|bkR O O O) aA⟩)
     ·refine aR (za eZ<|qj eZ eC<|za eZ ?_)
      obtain⟨h62,H⟩|⟨h62,H⟩:=zA H
      ·exact zb eZ (dT h62) O (zb O (dT h62) O<|zb O (dT h62) O<|zb O (dT h62) O<|zB O (dT h62) eC<|za eZ<|zb eZ O O<|zb O O O<|zb O O O<|zB O O eC<|zl<|al ⟨true,H,zH [] (sR O O) (blR O) (ao O bZ O O<|ao O (bR O) O O<|ao O (bR O) O (by first|rfl|simp)<|bkR O O O) aA⟩)
      ·refine gDo eZ (dF h62) (zY (es:=[dI v13.1.Me,.sl 2369 0 v13.1.Own.length,.sl 2370 0 v13.1.Frozen.length,.sl 2371 0 v13.1.Cells.length,.sl 2372 0 v13.1.Locks.length,.sl 2373 0 v13.1.Helds.length,.sl 2374 0 v13.1.Wounded.length,.sl 2375 0 v13.1.Ended.length,dI v13.1.Rank]) O (bR O) O<|gDo O (dF h62)<|zY (es:=zK v9.1) O (bR O) O<|gDo O (dF h62) ?_)
       obtain⟨v63,h64,H⟩:=zk H
       refine zF (u:=oB v63) eC ay (kp h64) (Ec O<|Ec eZ En) (Vc (bE<|aD<|aW (bR O) lm<|aW (bR O) lm<|aW (bR O) lm<|aW (bR O) lm<|aW (bR O) lm<|aW (bR O) lm<|aW (bR O) lm<|aD bc)<|Vc (aI O) Vn) O (gDo O (dF h62)<|qS eZ<|zM O (dF h62) eZ<|za eZ ?_)
       obtain⟨h65,H⟩|⟨h65,H⟩:=zA H
       ·exact gDo eZ (cN h65) (za O<|gDo O (cN h65)<|za O<|gDo O (cN h65)<|ZK O eZ<|zM O (cN h65) eZ<|zl<|al ⟨decide (¬v13.2=v9.2),H,zH [] (sR O O) (blR O) (ao O bZ O O<|ao O (bR O) O O<|ao O (bR O) O (by first|rfl|simp)<|bkR O O O) aA⟩)
       ·exact zb eZ (cN<|nt h65) O (zb O (cN<|nt h65) O<|zb O (cN<|nt h65) O<|zB O (cN<|nt h65) eC<|zl<|al ⟨true,H,zH [] (sR O O) (blR O) (ao O bZ O O<|ao O (bR O) O O<|ao O (bR O) O (by first|rfl|simp)<|bkR O O O) aA⟩)
    ·refine zi eZ (cN h22) (aV<|za eC<|xQ<|aq<|ax ?_)
     cases H
     exact eE O O
  ·refine aR (zY (es:=[dI v13.1.Me,.sl 2369 0 v13.1.Own.length,.sl 2370 0 v13.1.Frozen.length,.sl 2371 0 v13.1.Cells.length,.sl 2372 0 v13.1.Locks.length,.sl 2373 0 v13.1.Helds.length,.sl 2374 0 v13.1.Wounded.length,.sl 2375 0 v13.1.Ended.length,dI v13.1.Rank]) O bZ O<|zY (es:=zK v9.1) O (bR O) O ?_)
   obtain⟨v66,h67,H⟩:=zk H
   refine zF (u:=oB v66) eC ay (kp h67) (Ec O<|Ec eZ En) (Vc (bE<|aD<|aW (bR O) lm<|aW (bR O) lm<|aW (bR O) lm<|aW (bR O) lm<|aW (bR O) lm<|aW (bR O) lm<|aW (bR O) lm<|aD bc)<|Vc (aI O) Vn) O (qS eZ<|za eZ ?_)
   obtain⟨h68,H⟩|⟨h68,H⟩:=zA H
   ·exact gDo eZ (cN h68) (za O<|gDo O (cN h68)<|za O<|gDo O (cN h68)<|ZK O eZ<|zM O (cN h68) eZ<|zl<|al ⟨decide (¬v13.2=v9.2),H,zH [] (sR O O) (blR O) (ao O (bR O) O O<|ao O (bR O) O O<|ao O (bR O) O (by first|rfl|simp)<|ao O bZ O (by first|rfl|simp)<|bkR O O O) aA⟩)
   ·exact zb eZ (cN<|nt h68) O (zb O (cN<|nt h68) O<|zb O (cN<|nt h68) O<|zB O (cN<|nt h68) eC<|zl<|al ⟨true,H,zH [] (sR O O) (blR O) (ao O (bR O) O O<|ao O (bR O) O O<|ao O (bR O) O (by first|rfl|simp)<|ao O bZ O (by first|rfl|simp)<|bkR O O O) aA⟩)
end Go.AW
