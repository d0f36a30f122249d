/- That functions of the program compute what the plain functions say. Conditions: each theorem's own. -/
import Derived.Test.YtpabbbmfcgnhdaaGreatMShardDecide
import Derived.Test.YtpabbbmfcgnhdaaGreatGShardDecide
import Derived.Test.YtpabbbmfcgnhdaaGreatYn
import Derived.Test.YtpabbbmfcgnhdaaGreatSShardDecide
import Derived.Test.YtpabbbmfcgnhdaaGreatYt
import Derived.KernelRfl
import Derived.Test.YtpabbbmfcgnhdaaGreatDShardDecidea
import Derived.Test.YtpabbbmfcgnhdaaGreatDShardDecideb
set_option linter.unusedVariables false
set_option linter.unusedSimpArgs false
set_option maxRecDepth 100000
namespace Go.AW
open Go.Proofs
theorem zea{a1:zj}{a2:zp}{a3:zL}{r:Bool}(H:Qe a1 a2 a3=some r):Fn Tryz.prog 301 (lent [.agg (zd a1),.ptr<|zT a2,.ptr<|zx a3]) true [.bool r]:=by
 refine ac f301 O ?_
 refine ak (zf [] (kv 0 (.agg [dI a1.Key,dI a1.Value]) O O<|aF (v:=.one (.ptr<|.bd (zT a2) 0)) (eS O eZ) O (aK bq)<|aF (v:=.one (.ptr<|.bd (zx a3) 0)) (eS O<|eS O eZ) O (aK bq) ar) am aj) ?_
 unfold Qe at H
 unfold zGJ
 refine aV (yd (n:=192) (m:=2) (cs:=[dI a1.Key,dI a1.Value]) O eZ O O nZ<|za eC<|xQ<|aS<|aX<|z7 (m:=4) O O<|zV (e:=.sl 4 (a2.Locks.map zo)) eZ O<|z7 (m:=0) O O<|zV (e:=.int .i64 a3.Tx) eZ O<|ze (m:=0) O O<|zn (q:=0) (c:=dI a1.Key) eZ bZ O O ?_)
 obtain⟨v4,h5,H⟩:=zk H
 refine zF (u:=.agg [dI v4.Lo,dI v4.Hi]) eC ay (zgf h5) (Ec eZ En) (Vc Vp Vn) O ?_
 obtain⟨v6,h7,H⟩:=zk H
 refine zF (u:=oB v6) eC ay (zdV h7) (Ec O<|Ec O<|Ec eZ<|Ec eC En) (Vc Vp<|Vc Vp<|Vc (aI O)<|Vc Vp Vn) O (qS eZ<|za eZ<|xQ<|aq ?_)
 cases H
 exact eE O O
theorem xm{a1:(List zj)}{a2:zp}{a3:zL}{r:Int}(H:jo a1 a2 a3=some r):Fn Tryz.prog 347 (lent [.sl 2 (a1.map zd),.fn 301 [.ptr (zT a2),.ptr<|zx a3]]) true [.int .i64 r]:=by
 refine ac zIe O ?_
 refine ak (zf [] (kv 0 (.one<|.d<|.sl 2<|a1.map zd) O O<|aF (v:=.one (.fn 301 [.bd (zT a2) 0,.bd (zx a3) 0])) (eS O eZ) O (aK<|bn (css:=[zT a2,zx a3])) ar) am aj) ?_
 unfold jo at H
 unfold zG8
 refine aV (za eC<|xQ<|zD (fun t4:Unit=>jX t4=some r) (fun t4=>mk [] [] noG) ?_ ?_)
 ·intro t4 H
  unfold jX at H
  refine aV (za eC<|xQ<|aq ?_)
  cases H
  exact eE O O
 ·refine aV (za O<|zX eZ (n:=a1.length) lm<|za eC<|xQ<|aw<|aG (fun s6:Int=>mk [(0,.one<|.d<|.sl 2<|a1.map zd),(1,.one<|.fn 301 [.bd (zT a2) 0,.bd (zx a3) 0]),(7,oI (a1.length:Int)),(8,oI s6)] [] noG) H (zf [] (sR O O) am aj) ?_)
  intro kb7 s6 H
  unfold jj at H
  refine aV (qj O O<|xQ<|aS ?_)
  obtain⟨h8,H⟩|⟨h8,H⟩:=ab H
  ·refine zi eZ h8 (au<|al<|aS<|aw<|aV<|za O<|za eZ<|xQ<|aV<|za O<|za O<|za O ?_)
   obtain⟨v9,h10,H⟩:=zk H
   refine qk O eZ h10 (qi (es:=[dI v9.Key,dI v9.Value]) eZ O ?_)
   obtain⟨v11,h12,H⟩:=zk H
   refine zF (u:=oB v11) O ay (zea h12) (Ec eZ En) (Vc (aI O)<|Vc j3<|Vc j3 Vn) O (xQ ?_)
   obtain⟨h13,H⟩|⟨h13,H⟩:=aa H
   ·refine zi eZ h13 (aV<|za O<|za eZ<|xQ<|aq<|aJ<|ax<|ax<|aJ<|ax ?_)
    cases H
    exact eE O O
   ·exact zh eZ h13 (au<|aP<|al<|aR<|qb O eC<|za eZ<|zl<|al ⟨IntKind.wrap .i64 (s6+1),H,zf [] (sR O O) am aj⟩)
  ·exact zh eZ h8 (aH<|aC<|aC<|aT<|al ⟨(),H,zf [] ar am aj⟩)
theorem JE{a1:(List zj)}{a2:zp}{a3:zL}{r:Bool}(H:qu a1 a2 a3=some r):Fn Tryz.prog 300 (lent [.sl 2 (a1.map zd),.fn 301 [.ptr (zT a2),.ptr<|zx a3]]) true [.bool r]:=by
 refine ac f300 O ?_
 refine ak (zf [] (kv 0 (.one<|.d<|.sl 2<|a1.map zd) O O<|aF (v:=.one (.fn 301 [.bd (zT a2) 0,.bd (zx a3) 0])) (eS O eZ) O (aK<|bn (css:=[zT a2,zx a3])) ar) am aj) ?_
 unfold qu at H
 unfold zHd
 refine aV (za eC<|xQ<|aV<|za O<|za O ?_)
 obtain⟨v4,h5,H⟩:=zk H
 refine zF (u:=oI v4) eC ay (xm h5) (Ec O<|Ec eZ En) (Vc Vp<|Vc (bw<|a8 j3<|a8 j3 bg) Vn) O (Xo eZ eC<|za eZ<|xQ<|aq ?_)
 cases H
 exact eE O O
theorem za0{a1:(List zL)}{r:(List Int)}(H:QF a1=some r):Fn Tryz.prog 126 (lent [.sl 2 (a1.map zx)]) true [.sl 1 (List.map zm r)]:=by
 refine ac zJY O ?_
 refine ak (t:=mk [(0,.one<|.d<|.sl 2<|a1.map zx)] [] (lk [])) (zf [] (sR O O) am aj) ?_
 unfold QF at H
 unfold zCb
 refine aV (za eC<|xQ<|aV<|yb (m:=384) O nZ<|za eZ<|xQ<|zD (fun t2:(List Int)=>XJ t2=some r) (fun t2=>mk [(3,.one<|.sl 320128 0 t2.length)] [(320128,.data 1 (List.map zm t2) true none)] (lk [])) ?_ ?_)
 ·intro t2 H
  unfold XJ at H
  refine aV (za eZ<|za eZ<|xQ<|aq ?_)
  obtain rfl:=(Option.some.inj H)
  exact qT (aE (aM eZ) (aL bZ lm (zI fun _=>O)) aO) (by decide)
 ·refine aV (za O<|zX eZ (n:=a1.length) lm<|za eC<|xQ<|aw<|aG (fun s4:((List Int)×Int)=>mk [(3,.one<|.sl 320192 0 s4.1.length),(7,.one<|.d<|.sl 2<|a1.map zx),(8,oI (a1.length:Int)),(9,oI s4.2)] [(320192,.data 1 (List.map zm s4.1) true none)] (lk [])) H ((zH [] (aF eZ O (aK af)<|sR O O) (blR O) (bkR O O O) aA).trans<|zlS 320192 1 3 true O nZ) ?_)
  intro kb5 s4 H
  unfold XH at H
  refine aV (qj O O<|xQ<|aS ?_)
  obtain⟨h6,H⟩|⟨h6,H⟩:=ab H
  ·refine zi eZ h6 (au<|al<|aS<|aw<|aS<|zZ<|zr ?_)
   obtain⟨v7,h8,H⟩:=zk H
   refine qk O O h8 (zl<|zr<|qi (es:=jm v7) eZ O<|zl<|zr<|Zn (n:=320) (m:=2) O O (nR O)<|zl<|zr<|zP (es:=jm v7) eZ O O O bZ O<|zl<|qf<|xQ<|aR<|za O<|ze (m:=0) O O<|zn (q:=0) (c:=dI v7.Tx) eZ bZ O O<|QQ (m:=1024) (q:=1) (cs:=[dI v7.Tx]) O (qY eZ Z5) O (List.cons_ne_nil _ _) (by simp) (nR O) ?_)
   obtain⟨h9,H⟩:=zW H
   exact zhr (f:=zm) (xs:=s4.1) (ys:=[v7.Tx]) (q:=(s4.1++([v7.Tx])).length) O eZ (bR O) O (bC (f:=zm) (t:=v7.Tx) (es:=[.int .i64 v7.Tx]) bZ O O O) O h9 (by decide) (by decide) (ai (v':=.one (.sl 1024 0 1)) O<|ai (v':=oI v7.Tx) O<|ai (v':=.one (.ptr<|.nm 320 0 0)) O<|ai (v':=.one .any) O<|ai (v':=.one (.ptr<|.nm 320 0 0)) O<|ai (v':=.agg (jm v7)) O<|ai (v':=.one (.ptr<|.bd (zx v7) 0)) O<|ai (v':=oB (decide (s4.2 < (a1.length:Int)))) O<|ai (v':=.one .any) O<|ai (v':=.one (.d<|.sl 2<|a1.map zx)) O<|ai (v':=oI (a1.length:Int)) O<|ai (v':=oI s4.2) O aN) (av (v':=.vars 1 [dI v7.Tx]) O O<|av (v':=.vars 2 (jm v7)) O O<|av (v':=.vars 2 [dI 0,.zs]) O O<|aY O aU) aA (za eZ<|zl<|aP<|al<|aR<|qb O eC<|za eZ<|zl<|al ⟨(s4.1++([v7.Tx]),IntKind.wrap .i64 (s4.2+1)),H,zH [1024,320] (sR O O) (blR O) (bkR O O O) aA⟩)
  ·exact zh eZ h6 (aH<|aC<|aC<|aT<|al ⟨s4.1,H,(zH [] (sR O O) (blR O) (bkR O O O) aA).trans<|yW 320192 320128 O O (nR O) bi⟩)
theorem Xf{a1:(List Int)}{r:Bool}(H:yJ a1=some r):Fn Tryz.prog 230 (lent [.sl 1 (a1.map zm)]) true [.bool r]:=by
 refine ac zH9 O ?_
 refine ak (zf [] (kv 0 (.one<|.d<|.sl 1<|a1.map zm) O O ar) am aj) ?_
 unfold yJ at H
 unfold zCK
 refine aV (za eC<|xQ<|zD (fun t2:Unit=>kl t2=some r) (fun t2=>mk [] [] noG) ?_ ?_)
 ·intro t2 H
  unfold kl at H
  refine aV (za eC<|xQ<|aq ?_)
  cases H
  exact eE O O
 ·refine aV (za O<|zX eZ (n:=a1.length) lm<|za eC<|xQ<|aw<|aG (fun s4:Int=>mk [(0,.one<|.d<|.sl 1<|a1.map zm),(5,.one<|.d<|.sl 1<|a1.map zm),(6,oI (a1.length:Int)),(7,oI s4)] [] noG) H (zf [] (sR O O) am aj) ?_)
  intro kb5 s4 H
  unfold Ju at H
  refine aV (qj O O<|xQ<|aS ?_)
  obtain⟨h6,H⟩|⟨h6,H⟩:=ab H
  ·refine zi eZ h6 (au<|al<|aS<|aw<|aV<|za O ?_)
   obtain⟨v7,h8,H⟩:=zk H
   refine qk O O h8 (zV (e:=.int .i64 v7) eZ O<|za O<|za O<|xQ<|zD (fun t9:Bool=>yY kb5 s4 t9=some r) (fun t9=>mk [(0,.one<|.d<|.sl 1<|a1.map zm),(5,.one<|.d<|.sl 1<|a1.map zm),(6,oI (a1.length:Int)),(7,oI s4),(27,oB t9)] [] noG) ?_ ?_)
   ·intro t9 H
    obtain⟨h11,H⟩|⟨h11,H⟩:=aa H
    ·refine zi O h11 (aV<|za eC<|xQ<|aq<|aJ<|ax<|ax<|aJ<|ax ?_)
     cases H
     exact eE O O
    ·exact zh O h11 (au<|aP<|al<|aR<|qb O eC<|za eZ<|zl<|al ⟨IntKind.wrap .i64 (s4+1),H,zf [] (sR O O) am aj⟩)
   ·refine aR (za eZ ?_)
    obtain⟨v12,h13,H⟩:=zk H
    refine zF (u:=oB v12) eC ay (zbB h13) (Ec eZ En) (Vc Vp Vn) O (qS eZ<|za eZ ?_)
    obtain⟨h14,H⟩|⟨h14,H⟩:=aa H
    ·refine gDo eZ (cN h14) (za O<|gDo O (cN h14)<|zaC eZ eC<|gDo O (cN h14)<|za eZ ?_)
     obtain⟨h15,H⟩|⟨h15,H⟩:=ab H
     ·refine gDo eZ h15 (za O<|gDo O h15<|za O<|gDo O h15<|zbP eZ eC<|gDo O h15 ?_)
      obtain⟨v16,h17,H⟩:=zk H
      exact qk O eZ h17 (gDo O h15<|zV (e:=.int .i64 v16) eZ O<|gDo O h15<|za O<|gDo O h15<|Xo O eZ<|gDo O (cN h14)<|zB O h15 eZ<|zM O (cN h14) eZ<|zl<|al ⟨decide (v7≤v16),H,zf [] (sR O O) am aj⟩)
     ·exact zb eZ h15 O (zb O h15 O<|zb O h15 O<|zb O h15 O<|zb O h15 O<|zb O h15 O<|zb O h15 O<|gDo O (cN h14)<|zM O h15 eC<|zM O (cN h14) eZ<|zl<|al ⟨false,H,zf [] (sR O O) am aj⟩)
    ·exact zb eZ (cN h14) O (zb O (cN h14) O<|zb O (cN h14) O<|zE eZ O<|zE O O<|zE O O<|zE O O<|zE O O<|zE O O<|zE O O<|zb O (cN h14) O<|zB O (cN h14) eC<|zl<|al ⟨true,H,zf [] (sR O O) am aj⟩)
  ·exact zh eZ h6 (aH<|aC<|aC<|aT<|al ⟨(),H,zf [] ar am aj⟩)
theorem zfL{a1:zp}{r:Bool}(H:JX a1=some r):Fn Tryz.prog 229 (lent [.agg (zT a1)]) true [.bool r]:=by
 refine ac zJ4 O ?_
 refine ak (t:=mk [(0,.agg<|zK a1)] [] (lk [])) (zf [] (sR O O) am aj) ?_
 unfold JX at H
 unfold zDj
 refine aV (yd (n:=64) (m:=9) (cs:=zK a1) O eZ O O nZ<|za eC<|xQ<|zD (fun t2:Unit=>xP a1 t2=some r) (fun t2=>mk [(1,.one<|.ptr<|.nm 64 0 0)] [(64,.vars 9<|zK a1)] (lk [])) ?_ ?_)
 ·intro t2 H
  unfold xP at H
  refine aV (ze (m:=5) eZ O<|zn (q:=5) (c:=.d (.sl 2<|a1.Helds.map zx)) eZ bZ O O ?_)
  obtain⟨v4,h5,H⟩:=zk H
  refine zF (u:=.one (.d<|.sl 1<|v4.map zm)) eC ay (za0 h5) (Ec eZ En) (Vc Vp Vn) O ?_
  obtain⟨v6,h7,H⟩:=zk H
  refine zF (u:=oB v6) eC ay (Xf h7) (Ec eZ En) (Vc Vp Vn) O (za eZ<|xQ<|aq ?_)
  cases H
  exact eE O O
 ·refine aV (ze (m:=5) O O<|zn (q:=5) (c:=.d (.sl 2<|a1.Helds.map zx)) eZ bZ O O<|zX eZ (n:=a1.Helds.length) lm<|za eC<|xQ<|aw<|aG (fun s8:Int=>mk [(1,.one<|.ptr<|.nm 64 0 0),(6,.one<|.d<|.sl 2<|a1.Helds.map zx),(7,oI (a1.Helds.length:Int)),(8,oI s8)] [(64,.vars 9<|zK a1)] (lk [])) H (zH [] (sR O O) (blR O) (bkR O O O) aA) ?_)
  intro kb9 s8 H
  unfold xN at H
  refine aV (qj O O<|xQ<|aS ?_)
  obtain⟨h10,H⟩|⟨h10,H⟩:=ab H
  ·refine zi eZ h10 (au<|al<|aS<|aw<|aS<|zZ<|zr ?_)
   obtain⟨v11,h12,H⟩:=zk H
   refine qk O O h12 (zl<|zr<|qi (es:=jm v11) eZ O<|zl<|zr<|Zn (n:=256) (m:=2) O O (nR O)<|zl<|zr<|zP (es:=jm v11) eZ O O O bZ O<|zl<|qf<|xQ<|zD (fun t13:Bool=>Qs kb9 s8 t13=some r) (fun t13=>mk [(1,.one<|.ptr<|.nm 64 0 0),(6,.one<|.d<|.sl 2<|a1.Helds.map zx),(7,oI (a1.Helds.length:Int)),(8,oI s8),(21,oB t13)] [(64,.vars 9<|zK a1)] (lk [])) ?_ ?_)
   ·intro t13 H
    obtain⟨h15,H⟩|⟨h15,H⟩:=aa H
    ·refine zi O h15 (aV<|za eC<|xQ<|aq<|aJ<|ax<|ax<|aJ<|ax ?_)
     cases H
     exact eE O O
    ·exact zh O h15 (au<|aP<|al<|aR<|qb O eC<|za eZ<|zl<|al ⟨IntKind.wrap .i64 (s8+1),H,zH [] (sR O O) (blR O) (bkR O O O) aA⟩)
   ·refine aR (ze (m:=1) eZ O<|zn (q:=1) (c:=.d (.sl 2<|v11.Writes.map zd)) eZ bZ O O ?_)
    obtain⟨v16,h17,H⟩:=zk H
    refine zF (u:=oB v16) eC ay (X5 h17) (Ec eZ En) (Vc Vp Vn) O (qS eZ<|za eZ ?_)
    obtain⟨h18,H⟩|⟨h18,H⟩:=aa H
    ·refine gDo eZ (cN h18) (ze (m:=1) O O<|gDo O (cN h18)<|zn (q:=1) (c:=.d (.sl 2<|v11.Writes.map zd)) eZ bZ O O<|gDo O (cN h18)<|zer (ps:=[.nm 64 0 0,.nm 256 0 0]) (Ec O<|Ec O En)<|gDo O (cN h18) ?_)
     obtain⟨v19,h20,H⟩:=zk H
     exact zF (u:=oB v19) eC ay (JE h20) (Ec O<|Ec eZ En) (Vc Vp<|Vc (bw<|a8 (xY (bR O)<|aD<|aD<|aD<|aD<|aD<|aD<|aD<|aD<|aD bc)<|a8 (xY bZ<|aD<|aD bc) bg) Vn) O (zM O (cN h18) eZ<|zl<|al ⟨v19,H,zH [256] (sR O O) (blR O) (bkR O O O) aA⟩)
    ·exact zb eZ (cN h18) O (zb O (cN h18) O<|zb O (cN h18) O<|zb O (cN h18) O<|zB O (cN h18) eC<|zl<|al ⟨true,H,zH [256] (sR O O) (blR O) (bkR O O O) aA⟩)
  ·exact zh eZ h10 (aH<|aC<|aC<|aT<|al ⟨(),H,zH [] (sR O O) (blR O) (bkR O O O) aA⟩)
theorem KI{a1:(List zw)}{a2:zw}{r:Bool}(H:Zx a1 a2=some r):Fn Tryz.prog 93 (lent [.sl 2 (a1.map zg),.agg<|zg a2]) true [.bool r]:=by
 refine ac f93 O ?_
 refine ak (zf [] (kv 0 (.one<|.d<|.sl 2<|a1.map zg) O O<|kv 1 (.agg [dI a2.Lo,dI a2.Hi]) O O ar) am aj) ?_
 unfold Zx at H
 unfold i93
 refine aV (yd (n:=192) (m:=2) (cs:=[dI a2.Lo,dI a2.Hi]) O O O O nZ<|za eC<|xQ<|aV<|ze (m:=0) O O<|zn (q:=0) (c:=dI a2.Lo) eZ bZ O O<|za eZ<|xQ<|zD (fun t3:Int=>xG a2 t3=some r) (fun t3=>mk [(3,.one<|.ptr<|.nm 192 0 0),(5,oI t3)] [(192,.vars 2 [dI a2.Lo,dI a2.Hi])] noG) ?_ ?_)
 ·intro t3 H
  unfold xG at H
  refine aV (za O<|ze (m:=1) O O<|zn (q:=1) (c:=dI a2.Hi) eZ bZ O O<|Xo O eZ<|za eZ<|xQ<|aq ?_)
  cases H
  exact eE O O
 ·refine aV (za O<|zX eZ (n:=a1.length) lm<|za eC<|xQ<|aw<|aG (fun s5:(Int×Int)=>mk [(3,.one<|.ptr<|.nm 192 0 0),(5,oI s5.1),(10,.one<|.d<|.sl 2<|a1.map zg),(11,oI (a1.length:Int)),(12,oI s5.2)] [(192,.vars 2 [dI a2.Lo,dI a2.Hi])] noG) H (zf [] (sR O O) (blR O)<|bkR O O O) ?_)
  intro kb6 s5 H
  unfold xx at H
  refine aV (qj O O<|xQ<|aS ?_)
  obtain⟨h7,H⟩|⟨h7,H⟩:=ab H
  ·refine zi eZ h7 (au<|al<|aS<|aw<|aV ?_)
   obtain⟨v8,h9,H⟩:=zk H
   refine qk O O h9 (qi (es:=[dI v8.Lo,dI v8.Hi]) eZ O<|Zn (n:=448) (m:=2) O O (nR O)<|zP (es:=[dI v8.Lo,dI v8.Hi]) eZ O O O bZ O<|xQ<|zD (fun t10:Bool=>Qg kb6 v8 s5 t10=some r) (fun t10=>mk [(3,.one<|.ptr<|.nm 192 0 0),(5,oI s5.1),(7,.one<|.ptr<|.nm 448 0 0),(10,.one<|.d<|.sl 2<|a1.map zg),(11,oI (a1.length:Int)),(12,oI s5.2),(25,oB t10)] [(192,.vars 2 [dI a2.Lo,dI a2.Hi]),(448,.vars 2 [dI v8.Lo,dI v8.Hi])] noG) ?_ ?_)
   ·intro t10 H
    obtain⟨h12,H⟩|⟨h12,H⟩:=aa H
    ·exact zi O h12 (aR<|ze (m:=1) O O<|zn (q:=1) (c:=dI v8.Hi) eZ (bR O) O O<|za eZ<|zl<|aP<|al<|aR<|qb O eC<|za eZ<|zl<|al ⟨(v8.Hi,IntKind.wrap .i64 (s5.2+1)),H,zf [448] (sR O O) (blR O)<|bkR O O O⟩)
    ·exact zh O h12 (au<|aP<|al<|aR<|qb O eC<|za eZ<|zl<|al ⟨(s5.1,IntKind.wrap .i64 (s5.2+1)),H,zf [448] (sR O O) (blR O)<|bkR O O O⟩)
   ·refine aR (ze (m:=0) eZ O<|zn (q:=0) (c:=dI v8.Lo) eZ bZ O O<|za O<|zbE O eZ<|za eZ ?_)
    obtain⟨h13,H⟩|⟨h13,H⟩:=ab H
    ·exact gDo eZ h13 (za O<|gDo O h13<|ze (m:=1) O O<|gDo O h13<|zn (q:=1) (c:=dI v8.Hi) eZ bZ O O<|gDo O h13<|qj O eZ<|zB O h13 eZ<|zl<|al ⟨decide (s5.1 < v8.Hi),H,zf [] (sR O O) (blR O)<|bkR O O O⟩)
    ·exact zb eZ h13 O (zb O h13 O<|zb O h13 O<|zb O h13 O<|zM O h13 eC<|zl<|al ⟨false,H,zf [] (sR O O) (blR O)<|bkR O O O⟩)
  ·exact zh eZ h7 (aH<|aC<|aC<|aT<|al ⟨s5.1,H,zf [] (sR O O) (blR O)<|bkR O O O⟩)
theorem zdI{a1:zw}{a2:zp}{r:Bool}(H:Qz a1 a2=some r):Fn Tryz.prog 231 (lent [.agg (zg a1),.ptr<|zT a2]) true [.bool r]:=by
 refine ac zJ5 O ?_
 refine ak (zf [] (kv 0 (.agg [dI a1.Lo,dI a1.Hi]) O O<|aF (v:=.one (.ptr<|.bd (zT a2) 0)) (eS O eZ) O (aK bq) ar) am aj) ?_
 unfold Qz at H
 unfold zDp
 refine aV (yd (n:=128) (m:=2) (cs:=[dI a1.Lo,dI a1.Hi]) O eZ O O nZ<|za eC<|xQ<|aV<|z7 (m:=1) O O<|zV (e:=.sl 2 (a2.Own.map zg)) eZ O<|zY (es:=[dI a1.Lo,dI a1.Hi]) O bZ O ?_)
 obtain⟨v3,h4,H⟩:=zk H
 refine zF (u:=oB v3) eC ay (KI h4) (Ec O<|Ec eZ En) (Vc Vp<|Vc (aI O) Vn) O (qS eZ<|za eZ<|xQ<|aq ?_)
 cases H
 exact eE O O
theorem Y9{a1:(List zw)}{a2:zp}{r:Int}(H:js a1 a2=some r):Fn Tryz.prog 284 (lent [.sl 2 (a1.map zg),.fn 231 [.ptr (zT a2)]]) true [.int .i64 r]:=by
 refine ac zIb O ?_
 refine ak (zf [] (kv 0 (.one<|.d<|.sl 2<|a1.map zg) O O<|aF (v:=.one (.fn 231 [.bd (zT a2) 0])) (eS O eZ) O (aK<|bn (css:=[zT a2])) ar) am aj) ?_
 unfold js at H
 unfold zFu
 refine aV (za eC<|xQ<|zD (fun t3:Unit=>jY t3=some r) (fun t3=>mk [] [] noG) ?_ ?_)
 ·intro t3 H
  unfold jY at H
  refine aV (za eC<|xQ<|aq ?_)
  cases H
  exact eE O O
 ·refine aV (za O<|zX eZ (n:=a1.length) lm<|za eC<|xQ<|aw<|aG (fun s5:Int=>mk [(0,.one<|.d<|.sl 2<|a1.map zg),(1,.one<|.fn 231 [.bd (zT a2) 0]),(7,oI (a1.length:Int)),(8,oI s5)] [] noG) H (zf [] (sR O O) am aj) ?_)
  intro kb6 s5 H
  unfold jh at H
  refine aV (qj O O<|xQ<|aS ?_)
  obtain⟨h7,H⟩|⟨h7,H⟩:=ab H
  ·refine zi eZ h7 (au<|al<|aS<|aw<|aV<|za O<|za eZ<|xQ<|aV<|za O<|za O<|za O ?_)
   obtain⟨v8,h9,H⟩:=zk H
   refine qk O eZ h9 (qi (es:=[dI v8.Lo,dI v8.Hi]) eZ O ?_)
   obtain⟨v10,h11,H⟩:=zk H
   refine zF (u:=oB v10) O ay (zdI h11) (Ec eZ En) (Vc (aI O)<|Vc j3 Vn) O (xQ ?_)
   obtain⟨h12,H⟩|⟨h12,H⟩:=aa H
   ·refine zi eZ h12 (aV<|za O<|za eZ<|xQ<|aq<|aJ<|ax<|ax<|aJ<|ax ?_)
    cases H
    exact eE O O
   ·exact zh eZ h12 (au<|aP<|al<|aR<|qb O eC<|za eZ<|zl<|al ⟨IntKind.wrap .i64 (s5+1),H,zf [] (sR O O) am aj⟩)
  ·exact zh eZ h7 (aH<|aC<|aC<|aT<|al ⟨(),H,zf [] ar am aj⟩)
theorem J0{a1:(List zw)}{a2:zp}{r:Bool}(H:qw a1 a2=some r):Fn Tryz.prog 201 (lent [.sl 2 (a1.map zg),.fn 231 [.ptr (zT a2)]]) true [.bool r]:=by
 refine ac zJX O ?_
 refine ak (zf [] (kv 0 (.one<|.d<|.sl 2<|a1.map zg) O O<|aF (v:=.one (.fn 231 [.bd (zT a2) 0])) (eS O eZ) O (aK<|bn (css:=[zT a2])) ar) am aj) ?_
 unfold qw at H
 unfold zEu
 refine aV (za eC<|xQ<|aV<|za O<|za O ?_)
 obtain⟨v3,h4,H⟩:=zk H
 refine zF (u:=oI v3) eC ay (Y9 h4) (Ec O<|Ec eZ En) (Vc Vp<|Vc (bw<|a8 j3 bg) Vn) O (Xo eZ eC<|za eZ<|xQ<|aq ?_)
 cases H
 exact eE O O
theorem zd6{a1:zj}{a2:zp}{r:Bool}(H:Ql a1 a2=some r):Fn Tryz.prog 233 (lent [.agg (zd a1),.ptr<|zT a2]) true [.bool r]:=by
 refine ac zJy O ?_
 refine ak (zf [] (kv 0 (.agg [dI a1.Key,dI a1.Value]) O O<|aF (v:=.one (.ptr<|.bd (zT a2) 0)) (eS O eZ) O (aK bq) ar) am aj) ?_
 unfold Ql at H
 unfold zH6
 refine aV (yd (n:=128) (m:=2) (cs:=[dI a1.Key,dI a1.Value]) O eZ O O nZ<|za eC<|xQ<|aS<|aX<|z7 (m:=1) O O<|zV (e:=.sl 2 (a2.Own.map zg)) eZ O<|ze (m:=0) O O<|zn (q:=0) (c:=dI a1.Key) eZ bZ O O ?_)
 obtain⟨v3,h4,H⟩:=zk H
 refine zF (u:=.agg [dI v3.Lo,dI v3.Hi]) eC ay (zgf h4) (Ec eZ En) (Vc Vp Vn) O ?_
 obtain⟨v5,h6,H⟩:=zk H
 refine zF (u:=oB v5) eC ay (KI h6) (Ec O<|Ec eZ En) (Vc Vp<|Vc (aI O) Vn) O (qS eZ<|za eZ<|xQ<|aq ?_)
 cases H
 exact eE O O
theorem kc{a1:(List zj)}{a2:zp}{r:Int}(H:jy a1 a2=some r):Fn Tryz.prog 303 (lent [.sl 2 (a1.map zd),.fn 233 [.ptr (zT a2)]]) true [.int .i64 r]:=by
 refine ac zIC O ?_
 refine ak (zf [] (kv 0 (.one<|.d<|.sl 2<|a1.map zd) O O<|aF (v:=.one (.fn 233 [.bd (zT a2) 0])) (eS O eZ) O (aK<|bn (css:=[zT a2])) ar) am aj) ?_
 unfold jy at H
 unfold zGk
 refine aV (za eC<|xQ<|zD (fun t3:Unit=>j8 t3=some r) (fun t3=>mk [] [] noG) ?_ ?_)
 ·intro t3 H
  unfold j8 at H
  refine aV (za eC<|xQ<|aq ?_)
  cases H
  exact eE O O
 ·refine aV (za O<|zX eZ (n:=a1.length) lm<|za eC<|xQ<|aw<|aG (fun s5:Int=>mk [(0,.one<|.d<|.sl 2<|a1.map zd),(1,.one<|.fn 233 [.bd (zT a2) 0]),(7,oI (a1.length:Int)),(8,oI s5)] [] noG) H (zf [] (sR O O) am aj) ?_)
  intro kb6 s5 H
  unfold jr at H
  refine aV (qj O O<|xQ<|aS ?_)
  obtain⟨h7,H⟩|⟨h7,H⟩:=ab H
  ·refine zi eZ h7 (au<|al<|aS<|aw<|aV<|za O<|za eZ<|xQ<|aV<|za O<|za O<|za O ?_)
   obtain⟨v8,h9,H⟩:=zk H
   refine qk O eZ h9 (qi (es:=[dI v8.Key,dI v8.Value]) eZ O ?_)
   obtain⟨v10,h11,H⟩:=zk H
   refine zF (u:=oB v10) O ay (zd6 h11) (Ec eZ En) (Vc (aI O)<|Vc j3 Vn) O (xQ ?_)
   obtain⟨h12,H⟩|⟨h12,H⟩:=aa H
   ·refine zi eZ h12 (aV<|za O<|za eZ<|xQ<|aq<|aJ<|ax<|ax<|aJ<|ax ?_)
    cases H
    exact eE O O
   ·exact zh eZ h12 (au<|aP<|al<|aR<|qb O eC<|za eZ<|zl<|al ⟨IntKind.wrap .i64 (s5+1),H,zf [] (sR O O) am aj⟩)
  ·exact zh eZ h7 (aH<|aC<|aC<|aT<|al ⟨(),H,zf [] ar am aj⟩)
theorem Yz{a1:(List zj)}{a2:zp}{r:Bool}(H:qC a1 a2=some r):Fn Tryz.prog 232 (lent [.sl 2 (a1.map zd),.fn 233 [.ptr (zT a2)]]) true [.bool r]:=by
 refine ac zJw O ?_
 refine ak (zf [] (kv 0 (.one<|.d<|.sl 2<|a1.map zd) O O<|aF (v:=.one (.fn 233 [.bd (zT a2) 0])) (eS O eZ) O (aK<|bn (css:=[zT a2])) ar) am aj) ?_
 unfold qC at H
 unfold zHs
 refine aV (za eC<|xQ<|aV<|za O<|za O ?_)
 obtain⟨v3,h4,H⟩:=zk H
 refine zF (u:=oI v3) eC ay (kc h4) (Ec O<|Ec eZ En) (Vc Vp<|Vc (bw<|a8 j3 bg) Vn) O (Xo eZ eC<|za eZ<|xQ<|aq ?_)
 cases H
 exact eE O O
theorem zdp{a1 r:List Int}{a2:Int}(H:kz a1 a2=some r):Fn Tryz.prog 304 [⟨.sl 1 [],.z⟩,⟨.int .i64 a2,.b⟩] true [.sl 1 (List.map zm r)]:=by
 obtain⟨⟨h1,h2⟩,H⟩:=zW H
 cases H
 obtain⟨n,rfl⟩:∃n:Nat,a2=(n:Int):=⟨Int.toNat a2,by omega⟩
 exact zoa zhN (by kernel_rfl) (by kernel_rfl) (by kernel_rfl) n (by omega)
theorem zch{a1:(List<|List Int)}{r:(List Int)}(H:Zd a1=some r):Fn Tryz.prog 235 (lent [.sl 1 (a1.map Z8)]) true [.sl 1 (List.map zm r)]:=by
 refine ac zJ3 O ?_
 refine ak (t:=mk [(0,.one<|.d<|.sl 1<|a1.map Z8)] [] (lk [])) (zf [] (sR O O) am aj) ?_
 unfold Zd at H
 unfold zCy
 refine aV (za eC<|xQ<|aV<|za eC<|xQ<|zD (fun t2:Int=>ZT a1 t2=some r) (fun t2=>mk [(0,.one<|.d<|.sl 1<|a1.map Z8),(3,oI t2)] [] (lk [])) ?_ ?_)
 ·intro t2 H
  unfold ZT at H
  refine aS (zZ<|zr<|za O<|zl ?_)
  obtain⟨v4,h5,H⟩:=zk H
  refine zaV (ON:=[]) (ls:=[]) (G:=[]) (E:=[]) (MB:=[]) (u:=.one (.sl 1536 0 v4.length)) (bs:=[(1536,.data 1 (v4.map zm) true none)]) eC ay (zdp h5) (Ec eC<|Ec eZ En) (AO.zs<|bf Vp O bj) O O O bh (ai (v':=oI t2) O<|ai (v':=.one (.d<|.sl 1<|a1.map Z8)) O<|ai (v':=oI t2) O aN) aU aN (by simp[jg,jD,qy,jq,qF]) O (fC nZ O<|fC nZ O fN) (qf<|za eZ<|xQ<|zD (fun t6:(List Int)=>Z6 t6=some r) (fun t6=>mk [(6,.one<|.sl 320128 0 t6.length)] [(320128,.data 1 (List.map zm t6) true none)] (lk [])) ?_ ?_)
  ·intro t6 H
   unfold Z6 at H
   refine aV (za eZ<|za eZ<|xQ<|aq ?_)
   obtain rfl:=(Option.some.inj H)
   exact qT (aE (aM eZ) (aL bZ lm (zI fun _=>O)) aO) (by decide)
  ·refine aV (za O<|zX eZ (n:=a1.length) lm<|za eC<|xQ<|aw<|aG (fun s8:((List Int)×Int)=>mk [(6,.one<|.sl 320192 0 s8.1.length),(25,.one<|.d<|.sl 1<|a1.map Z8),(26,oI (a1.length:Int)),(27,oI s8.2)] [(320192,.data 1 (List.map zm s8.1) true none)] (lk [])) H ((zH [] (sR O O) (blR O) (bkR O O O) aA).trans<|yW 1536 320192 O O (nR O) bi) ?_)
   intro kb9 s8 H
   unfold ZY at H
   refine aV (qj O O<|xQ<|aS ?_)
   obtain⟨h10,H⟩|⟨h10,H⟩:=ab H
   ·refine zi eZ h10 (au<|al<|aS<|aw<|aV ?_)
    obtain⟨v11,h12,H⟩:=zk H
    refine qk O O h12 (zV (e:=.sl 1 (v11.map zm)) eZ O<|za eZ<|xQ<|aR<|za O<|za O ?_)
    obtain⟨h13,H⟩:=zW H
    exact zhr (f:=zm) (xs:=s8.1) (ys:=v11) (q:=(s8.1++v11).length) O eZ bZ O (bl fun _ _=>O) O h13 (by decide) (by decide) (ai (v':=.one (.d<|.sl 1<|v11.map zm)) O<|ai (v':=.one .any) O<|ai (v':=.one (.d<|.sl 1<|v11.map zm)) O<|ai (v':=.one (.d<|.sl 1<|v11.map zm)) O<|ai (v':=.one (.ptr<|.bd (Z8 v11) 0)) O<|ai (v':=oB (decide (s8.2 < (a1.length:Int)))) O<|ai (v':=.one .any) O<|ai (v':=.one (.d<|.sl 1<|a1.map Z8)) O<|ai (v':=oI (a1.length:Int)) O<|ai (v':=oI s8.2) O aN) (aY O aU) aA (za eZ<|zl<|aP<|al<|aR<|qb O eC<|za eZ<|zl<|al ⟨(s8.1++v11,IntKind.wrap .i64 (s8.2+1)),H,zH [] (sR O O) (blR O) (bkR O O O) aA⟩)
   ·exact zh eZ h10 (aH<|aC<|aC<|aT<|al ⟨s8.1,H,(zH [] (sR O O) (blR O) (bkR O O O) aA).trans<|yW 320192 320128 O O (nR O) bi⟩)
 ·refine aV (za O<|zX eZ (n:=a1.length) lm<|za eC<|xQ<|aw<|aG (fun s14:(Int×Int)=>mk [(0,.one<|.d<|.sl 1<|a1.map Z8),(3,oI s14.1),(9,.one<|.d<|.sl 1<|a1.map Z8),(10,oI (a1.length:Int)),(11,oI s14.2)] [] (lk [])) H (zH [] (sR O O) am aj aA) ?_)
  intro kb15 s14 H
  unfold ZJ at H
  refine aV (qj O O<|xQ<|aS ?_)
  obtain⟨h16,H⟩|⟨h16,H⟩:=ab H
  ·refine zi eZ h16 (au<|al<|aS<|aw<|aV ?_)
   obtain⟨v17,h18,H⟩:=zk H
   refine qk O O h18 (zV (e:=.sl 1 (v17.map zm)) eZ O<|za eZ<|xQ<|aV<|za O<|za O<|zX eZ (n:=v17.length) lm<|qb O eZ<|za eZ<|xQ<|aV<|za eZ<|qj eZ eC<|xQ<|ak (zH [] (kr 20 O O<|kr 3 O O<|kr 0 O O<|kr 9 O O<|kr 10 O O<|kr 11 O O ar) am aj aA) ?_)
   obtain⟨h19,H⟩|⟨h19,H⟩:=ab H
   ·refine zi eZ h19 (aR ?_)
    cases H
   ·exact zh eZ h19 (au<|aP<|al<|aR<|qb O eC<|za eZ<|zl<|al ⟨(IntKind.wrap .i64 (s14.1+(v17.length:Int)),IntKind.wrap .i64 (s14.2+1)),H,zH [] (sR O O) am aj aA⟩)
  ·exact zh eZ h16 (aH<|aC<|aC<|aT<|al ⟨s14.1,H,zH [] (sR O O) am aj aA⟩)
theorem K4{a1:(List Int)}{a2:Int}{r:Int}(H:yh a1 a2=some r):Fn Tryz.prog 125 (lent [.sl 1 (a1.map zm),.int .i64 a2]) true [.int .i64 r]:=by
 refine ac f125 O ?_
 refine ak (zf [] (kv 0 (.one<|.d<|.sl 1<|a1.map zm) O O<|kv 1 (oI a2) O O ar) am aj) ?_
 unfold yh at H
 unfold zFD
 refine aV (za eC<|xQ<|zD (fun t3:Unit=>Y4 t3=some r) (fun t3=>mk [] [] noG) ?_ ?_)
 ·intro t3 H
  unfold Y4 at H
  refine aV (za eC<|xQ<|aq ?_)
  cases H
  exact eE O O
 ·refine aV (za O<|zX eZ (n:=a1.length) lm<|za eC<|xQ<|aw<|aG (fun s5:Int=>mk [(0,.one<|.d<|.sl 1<|a1.map zm),(1,oI a2),(7,oI (a1.length:Int)),(8,oI s5)] [] noG) H (zf [] (sR O O) am aj) ?_)
  intro kb6 s5 H
  unfold yy at H
  refine aV (qj O O<|xQ<|aS ?_)
  obtain⟨h7,H⟩|⟨h7,H⟩:=ab H
  ·refine zi eZ h7 (au<|al<|aS<|aw<|aV<|za O<|za eZ<|xQ<|aV<|za O<|za O<|za O ?_)
   obtain⟨v8,h9,H⟩:=zk H
   refine qk O eZ h9 (zV (e:=.int .i64 v8) eZ O<|kZ O eZ<|xQ ?_)
   obtain⟨h10,H⟩|⟨h10,H⟩:=ab H
   ·refine zi eZ h10 (aV<|za O<|za eZ<|xQ<|aq<|aJ<|ax<|ax<|aJ<|ax ?_)
    cases H
    exact eE O O
   ·exact zh eZ h10 (au<|aP<|al<|aR<|qb O eC<|za eZ<|zl<|al ⟨IntKind.wrap .i64 (s5+1),H,zf [] (sR O O) am aj⟩)
  ·exact zh eZ h7 (aH<|aC<|aC<|aT<|al ⟨(),H,zf [] ar am aj⟩)
theorem Xd{a1:(List Int)}{a2:Int}{r:Bool}(H:j5 a1 a2=some r):Fn Tryz.prog 124 (lent [.sl 1 (a1.map zm),.int .i64 a2]) true [.bool r]:=by
 refine ac zII O ?_
 refine ak (zf [] (kv 0 (.one<|.d<|.sl 1<|a1.map zm) O O<|kv 1 (oI a2) O O ar) am aj) ?_
 unfold j5 at H
 unfold zBx
 refine aV (za eC<|xQ<|aV<|za O<|za O ?_)
 obtain⟨v3,h4,H⟩:=zk H
 refine zF (u:=oI v3) eC ay (K4 h4) (Ec O<|Ec eZ En) (Vc Vp<|Vc Vp Vn) O (Xo eZ eC<|za eZ<|xQ<|aq ?_)
 cases H
 exact eE O O
theorem zec{a1:zC}{a2:zp}{a3:(List Int)}{r:Bool}(H:Qt a1 a2 a3=some r):Fn Tryz.prog 236 (lent [.agg (zo a1),.ptr<|zT a2,.ptr<|Z8 a3]) true [.bool r]:=by
 refine ac zIf O ?_
 refine ak (zf [] (kv 0 (.agg<|qa a1) O O<|aF (v:=.one (.ptr<|.bd (zT a2) 0)) (eS O eZ) O (aK bq)<|aF (v:=.one (.ptr<|.bd (Z8 a3) 0)) (eS O<|eS O eZ) O (aK bq) ar) am aj) ?_
 unfold Qt at H
 unfold zD7
 refine aV (yd (n:=192) (m:=4) (cs:=qa a1) O eZ O O nZ<|za eC<|xQ<|aS<|aX<|z7 (m:=1) O O<|zV (e:=.sl 2 (a2.Own.map zg)) eZ O<|zY (es:=qa a1) O bZ O ?_)
 obtain⟨v4,h5,H⟩:=zk H
 refine zF (u:=.agg [dI v4.Lo,dI v4.Hi]) eC ay (Zk h5) (Ec eZ En) (Vc (aI O) Vn) O ?_
 obtain⟨v6,h7,H⟩:=zk H
 refine zF (u:=oB v6) eC ay (KI h7) (Ec O<|Ec eZ En) (Vc Vp<|Vc (aI O) Vn) O (qS eZ<|za eZ ?_)
 obtain⟨h8,H⟩|⟨h8,H⟩:=aa H
 ·refine gDo eZ (cN h8) (zV (e:=.sl 1 (a3.map zm)) O O<|gDo O (cN h8)<|ze (m:=0) O O<|gDo O (cN h8)<|zn (q:=0) (c:=dI a1.Tx) eZ bZ O O<|gDo O (cN h8) ?_)
  obtain⟨v9,h10,H⟩:=zk H
  refine zF (u:=oB v9) eC ay (Xd h10) (Ec O<|Ec eZ En) (Vc Vp<|Vc Vp Vn) O (zM O (cN h8) eZ<|za eZ<|xQ<|ak (zf [192] (kr 4 O O ar) (blR O) aj)<|aq ?_)
  cases H
  exact eE O O
 ·refine zb eZ (cN h8) O (zb O (cN h8) O<|zb O (cN h8) O<|zb O (cN h8) O<|zB O (cN h8) eC<|za eZ<|xQ<|ak (zf [192] (kr 4 O O ar) (blR O) aj)<|aq ?_)
  cases H
  exact eE O O
theorem ka{a1:(List zC)}{a2:zp}{a3:(List Int)}{r:Int}(H:jv a1 a2 a3=some r):Fn Tryz.prog 216 (lent [.sl 4 (a1.map zo),.fn 236 [.ptr (zT a2),.ptr<|Z8 a3]]) true [.int .i64 r]:=by
 refine ac f216 O ?_
 refine ak (zf [] (kv 0 (.one<|.d<|.sl 4<|a1.map zo) O O<|aF (v:=.one (.fn 236 [.bd (zT a2) 0,.bd (Z8 a3) 0])) (eS O eZ) O (aK<|bn (css:=[zT a2,Z8 a3])) ar) am aj) ?_
 unfold jv at H
 unfold zlM
 refine aV (za eC<|xQ<|zD (fun t4:Unit=>j7 t4=some r) (fun t4=>mk [] [] noG) ?_ ?_)
 ·intro t4 H
  unfold j7 at H
  refine aV (za eC<|xQ<|aq ?_)
  cases H
  exact eE O O
 ·refine aV (za O<|zX eZ (n:=a1.length) lm<|za eC<|xQ<|aw<|aG (fun s6:Int=>mk [(0,.one<|.d<|.sl 4<|a1.map zo),(1,.one<|.fn 236 [.bd (zT a2) 0,.bd (Z8 a3) 0]),(7,oI (a1.length:Int)),(8,oI s6)] [] noG) H (zf [] (sR O O) am aj) ?_)
  intro kb7 s6 H
  unfold jp at H
  refine aV (qj O O<|xQ<|aS ?_)
  obtain⟨h8,H⟩|⟨h8,H⟩:=ab H
  ·refine zi eZ h8 (au<|al<|aS<|aw<|aV<|za O<|za eZ<|xQ<|aV<|za O<|za O<|za O ?_)
   obtain⟨v9,h10,H⟩:=zk H
   refine qk O eZ h10 (qi (es:=qa v9) eZ O ?_)
   obtain⟨v11,h12,H⟩:=zk H
   refine zF (u:=oB v11) O ay (zec h12) (Ec eZ En) (Vc (aI O)<|Vc j3<|Vc j3 Vn) O (xQ ?_)
   obtain⟨h13,H⟩|⟨h13,H⟩:=aa H
   ·refine zi eZ h13 (aV<|za O<|za eZ<|xQ<|aq<|aJ<|ax<|ax<|aJ<|ax ?_)
    cases H
    exact eE O O
   ·exact zh eZ h13 (au<|aP<|al<|aR<|qb O eC<|za eZ<|zl<|al ⟨IntKind.wrap .i64 (s6+1),H,zf [] (sR O O) am aj⟩)
  ·exact zh eZ h8 (aH<|aC<|aC<|aT<|al ⟨(),H,zf [] ar am aj⟩)
theorem Yq{a1:(List zC)}{a2:zp}{a3:(List Int)}{r:Bool}(H:qD a1 a2 a3=some r):Fn Tryz.prog 110 (lent [.sl 4 (a1.map zo),.fn 236 [.ptr (zT a2),.ptr<|Z8 a3]]) true [.bool r]:=by
 refine ac zyR O ?_
 refine ak (zf [] (kv 0 (.one<|.d<|.sl 4<|a1.map zo) O O<|aF (v:=.one (.fn 236 [.bd (zT a2) 0,.bd (Z8 a3) 0])) (eS O eZ) O (aK<|bn (css:=[zT a2,Z8 a3])) ar) am aj) ?_
 unfold qD at H
 unfold znc
 refine aV (za eC<|xQ<|aV<|za O<|za O ?_)
 obtain⟨v4,h5,H⟩:=zk H
 refine zF (u:=oI v4) eC ay (ka h5) (Ec O<|Ec eZ En) (Vc Vp<|Vc (bw<|a8 j3<|a8 j3 bg) Vn) O (Xo eZ eC<|za eZ<|xQ<|aq ?_)
 cases H
 exact eE O O
theorem zc7{a1 r:List Int}(H:kO a1=some r):Fn Tryz.prog 237 [⟨.sl 1<|a1.map zm,.m<|.sl 1<|List.map zm r⟩] true []:=by
 obtain⟨h,H⟩:=zW H
 cases H
 exact znN zhL (by kernel_rfl) (by kernel_rfl) a1 (by omega)
theorem QW{a1:(List Int)}{r:(List Int)}(H:jP a1=some r):Fn Tryz.prog 206 (lent [.sl 1 (a1.map zm)]) true [.sl 1 (List.map zm r)]:=by
 refine ac zJA O ?_
 refine ak (zf [] (kv 0 (.one<|.d<|.sl 1<|a1.map zm) O O ar) am aj) ?_
 unfold jP at H
 unfold zHj
 refine aV (za eC<|xQ<|zD (fun t2:Unit=>yB a1 t2=some r) (fun t2=>mk [(0,.one<|.d<|.sl 1<|a1.map zm)] [] noG) ?_ ?_)
 ·intro t2 H
  unfold yB at H
  refine aV (yb (m:=320) O nZ<|za O ?_)
  obtain⟨h4,H⟩:=zW H
  refine zaN (f:=zm) (m:=448) (own:=true) (ys:=a1) (q:=a1.length) O O O eZ (bl fun _ _=>O) O h4 (by decide) nZ (za eZ<|xQ<|aq ?_)
  obtain rfl:=(Option.some.inj H)
  exact qT (aE (aM eZ) (aL bZ lm (zI fun _=>O)) aO) (by decide)
 ·refine aV (za O ?_)
  obtain⟨h5,H⟩|⟨h5,H⟩:=zA H
  ·refine zfO eZ h5 (xQ<|bO eZ ?_ ?_)
   ·have H:(some ([]:(List Int)))=some r:=by rw[←H];simp[List.eq_nil_of_length_eq_zero h5,yB]
    refine aV (za eC<|xQ<|aq<|ax ?_)
    cases H
    exact qT (aE (aM eZ) bv aO) List.nodup_nil
   ·exact au (al ⟨(),H,zf [] (sR O O) am aj⟩)
  ·exact zhT eZ h5 (xQ<|zh eZ O<|au<|al ⟨(),H,zf [] (sR O O) am aj⟩)
theorem zbX{a1 r:List Int}(H:Ym a1=some r):Fn Tryz.prog 238 [⟨.sl 1<|a1.map zm,.g⟩] true [.sl 1 (List.map zm r)]:=by
 obtain⟨h,H⟩:=zW H
 cases H
 exact zjo zgq (by kernel_rfl) (by kernel_rfl) a1 (by omega)
theorem zaD{a1:zj}{a2:Int}{r:Int}(H:Zq a1 a2=some r):Fn Tryz.prog 390 (lent [.agg (zd a1),.int .i64 a2]) true [.int .i64 r]:=by
 refine ac zJB O ?_
 refine ak (zf [] (kv 0 (.agg [dI a1.Key,dI a1.Value]) O O<|kv 1 (oI a2) O O ar) am aj) ?_
 unfold Zq at H
 unfold zDt
 refine aV (yd (n:=128) (m:=2) (cs:=[dI a1.Key,dI a1.Value]) O eZ O O nZ<|za eC<|xQ<|aV<|ze (m:=0) O O<|zn (q:=0) (c:=dI a1.Key) eZ bZ O O<|za O<|zbP O eZ<|za eZ<|xQ<|aq ?_)
 cases H
 exact eE O O
theorem Qa{a1:(List zj)}{a2:Int}{r:(Int×Bool)}(H:qz a1 a2=some r):Fn Tryz.prog 389 (lent [.sl 2 (a1.map zd),.int .i64 a2,.fn 390 []]) true [.int .i64 r.1,.bool r.2]:=by
 refine ac zI5 O ?_
 refine ak (zf [] (kv 0 (.one<|.d<|.sl 2<|a1.map zd) O O<|kv 1 (oI a2) O O<|aF (v:=.one (.fn 390 [])) (eS O<|eS O eZ) O (aK<|bn (css:=[])) ar) am aj) ?_
 unfold qz at H
 unfold zGE
 refine aV (za eC<|za eC<|xQ<|aV<|za O<|zX eZ (n:=a1.length) lm<|za eZ<|xQ<|aV<|za eZ<|za eC<|za O<|xQ<|zD (fun t3:Int=>zU a1 a2 t3=some r) (fun t3=>mk [(0,.one<|.d<|.sl 2<|a1.map zd),(1,oI a2),(2,.one<|.fn 390 []),(8,oI (a1.length:Int)),(9,oI t3)] [] noG) ?_ ?_)
 ·intro t3 H
  unfold zU at H
  refine aV (za O<|za O<|za O<|qj O eZ<|za eZ ?_)
  obtain⟨h5,H⟩|⟨h5,H⟩:=ab H
  ·refine gDo eZ h5 (za O<|gDo O h5<|za O<|gDo O h5<|za O<|gDo O h5 ?_)
   obtain⟨v6,h7,H⟩:=zk H
   refine qk O eZ h7 (gDo O h5<|qi (es:=[dI v6.Key,dI v6.Value]) eZ O<|gDo O h5<|za O<|gDo O h5 ?_)
   obtain⟨v8,h9,H⟩:=zk H
   refine zF (u:=oI v8) O ay (zaD h9) (Ec O<|Ec eZ En) (Vc (aI O)<|Vc Vp Vn) O (gDo O h5<|kZ eZ eC<|zB O h5 eZ<|za O<|za O<|xQ<|ak (zf [] (kr 7 O O<|kr 6 O O ar) am aj)<|aq ?_)
   cases H
   exact qT (aE (aM O) (aQ O)<|aE (aM eZ) (aQ O) aO) List.nodup_nil
  ·refine zb eZ h5 O (zb O h5 O<|zb O h5 O<|zb O h5 O<|zb O h5 O<|zb O h5 O<|zb O h5 O<|zb O h5 O<|zM O h5 eC<|za O<|za O<|xQ<|ak (zf [] (kr 7 O O<|kr 6 O O ar) am aj)<|aq ?_)
   cases H
   exact qT (aE (aM O) (aQ O)<|aE (aM eZ) (aQ O) aO) List.nodup_nil
 ·refine aw (aG (fun s10:(Int×Int)=>mk [(0,.one<|.d<|.sl 2<|a1.map zd),(1,oI a2),(2,.one<|.fn 390 []),(8,oI (a1.length:Int)),(9,oI s10.1),(10,oI s10.2)] [] noG) H (zf [] (sR O O) am aj) ?_)
  intro kb11 s10 H
  unfold z8 at H
  refine aS (aV<|za O<|za O<|qj O eZ<|xQ ?_)
  obtain⟨h12,H⟩|⟨h12,H⟩:=zA H
  ·refine zi eZ (dT h12) (au<|al<|aw<|aV<|za O<|za O<|qb O eZ<|zkc eZ<|zFE eZ eC (by decide)<|zkc eZ<|za eZ<|xQ<|ak (zf [] (kr 11 O O<|kr 0 O O<|kr 1 O O<|kr 2 O O<|kr 8 O O<|kr 9 O O<|kr 10 O O ar) am aj)<|aV<|za O<|za O<|za O ?_)
   obtain⟨v13,h14,H⟩:=zk H
   refine qk O eZ h14 (qi (es:=[dI v13.Key,dI v13.Value]) eZ O<|za O ?_)
   obtain⟨v15,h16,H⟩:=zk H
   refine zF (u:=oI v15) O ay (zaD h16) (Ec O<|Ec eZ En) (Vc (aI O)<|Vc Vp Vn) O (qj eZ eC<|xQ ?_)
   obtain⟨h17,H⟩|⟨h17,H⟩:=zA H
   ·exact zi eZ (dT h17) (aR<|za O<|qb eZ eC<|za eZ<|zl<|aP<|al ⟨(IntKind.wrap .i64 ((IntKind.wrap .i64<|Int.fdiv (IntKind.wrap .u64<|IntKind.wrap .i64 (s10.1+s10.2))<|2 ^ (min (Int.toNat 1)<|IntKind.bits .u64))+1),s10.2),H,zf [] (sR O O) am aj⟩)
   ·exact zh eZ (dF h17) (aR<|za O<|za eZ<|zl<|aP<|al ⟨(s10.1,IntKind.wrap .i64<|Int.fdiv (IntKind.wrap .u64<|IntKind.wrap .i64 (s10.1+s10.2))<|2 ^ (min (Int.toNat 1)<|IntKind.bits .u64)),H,zf [] (sR O O) am aj⟩)
  ·exact zh eZ (dF h12) (aH<|aC<|aC<|aT<|al ⟨s10.1,H,zf [] (sR O O) am aj⟩)
theorem zb3{a1:(List zj)}{a2:Int}{r:(Int×Bool)}(H:Qy a1 a2=some r):Fn Tryz.prog 360 (lent [.sl 2 (a1.map zd),.int .i64 a2]) true [.int .i64 r.1,.bool r.2]:=by
 refine ac zJ7 O ?_
 refine ak (zf [] (kv 0 (.one<|.d<|.sl 2<|a1.map zd) O O<|kv 1 (oI a2) O O ar) am aj) ?_
 unfold Qy at H
 unfold zC5
 refine aV (za eC<|za eC<|xQ<|aV<|za O<|za O ?_)
 obtain⟨v3,h4,H⟩:=zk H
 refine zF (u:=.tup [oI v3.1,oB v3.2]) eC ay (Qa h4) (Ec O<|Ec eZ<|Ec eC En) (Vc Vp<|Vc Vp<|Vc (bw bg) Vn) O (zaM (v:=oI v3.1) eZ O<|zaM (v:=oB v3.2) O O<|za O<|za O<|xQ<|aq ?_)
 cases H
 exact qT (aE (aM O) (aQ O)<|aE (aM eZ) (aQ O) aO) List.nodup_nil
theorem zga{a1:(List zj)}{a2:Int}{r:Int}(H:J8 a1 a2=some r):Fn Tryz.prog 359 (lent [.sl 2 (a1.map zd),.int .i64 a2]) true [.int .i64 r]:=by
 refine ac zI4 O ?_
 refine ak (zf [] (kv 0 (.one<|.d<|.sl 2<|a1.map zd) O O<|kv 1 (oI a2) O O ar) am aj) ?_
 unfold J8 at H
 unfold zCn
 refine aV (za eC<|xQ<|aV<|za O<|za O ?_)
 obtain⟨v3,h4,H⟩:=zk H
 refine zF (u:=.tup [oI v3.1,oB v3.2]) eC ay (zb3 h4) (Ec O<|Ec eZ En) (Vc Vp<|Vc Vp Vn) O (za eZ<|zaM (v:=oI v3.1) eZ O<|zaM (v:=oB v3.2) O O<|za O<|za O<|xQ<|aS<|aV<|za eZ<|qS eZ<|xQ ?_)
 obtain⟨h5,H⟩|⟨h5,H⟩:=aa H
 ·refine zh eZ (cN h5) (au<|al<|aV<|za O<|za O ?_)
  obtain⟨v6,h7,H⟩:=zk H
  refine qk O eZ h7 (z7 (m:=1) eZ O<|zV (e:=.int .i64 v6.Value) eZ O<|za eZ<|xQ<|ak (zf [] (kr 4 O O ar) am aj)<|aq ?_)
  cases H
  exact eE O O
 ·refine zi eZ (cN h5) (aV<|za eC<|xQ<|aq<|ax ?_)
  cases H
  exact eE O O
theorem zeO{a1:(List zj)}{a2:(List zj)}{r:Int}(H:Q5 a1 a2=some r):Fn Tryz.prog 307 (lent [.sl 2 (a1.map zd),.sl 2<|a2.map zd]) true [.int .i64 r]:=by
 refine ac zIR O ?_
 refine ak (zf [] (kv 0 (.one<|.d<|.sl 2<|a1.map zd) O O<|kv 1 (.one<|.d<|.sl 2<|a2.map zd) O O ar) am aj) ?_
 unfold Q5 at H
 unfold zBD
 refine aV (za eC<|xQ<|aS<|zD (fun t3:Bool=>Qi a2 a1 t3=some r) (fun t3=>mk [(0,.one<|.d<|.sl 2<|a1.map zd),(1,.one<|.d<|.sl 2<|a2.map zd),(15,oB t3)] [] noG) ?_ ?_)
 ·intro t3 H
  obtain⟨h5,H⟩|⟨h5,H⟩:=aa H
  ·refine zi O h5 (aV<|za eC<|xQ<|aq<|ax ?_)
   cases H
   exact eE O O
  ·refine zh O h5 (au<|al<|aV<|za eC<|xQ<|zD (fun t6:Int=>YN t6=some r) (fun t6=>mk [(5,oI t6)] [] noG) ?_ ?_)
   ·intro t6 H
    unfold YN at H
    refine aV (za eZ<|za eZ<|xQ<|aq ?_)
    cases H
    exact eE O O
   ·refine aV (za O<|zX eZ (n:=a2.length) lm<|za eC<|xQ<|aw<|aG (fun s8:(Int×Int)=>mk [(0,.one<|.d<|.sl 2<|a1.map zd),(5,oI s8.1),(16,.one<|.d<|.sl 2<|a2.map zd),(17,oI (a2.length:Int)),(18,oI s8.2)] [] noG) H (zf [] (sR O O) am aj) ?_)
    intro kb9 s8 H
    unfold YC at H
    refine aV (qj O O<|xQ<|aS ?_)
    obtain⟨h10,H⟩|⟨h10,H⟩:=ab H
    ·refine zi eZ h10 (au<|al<|aS<|aw<|aV ?_)
     obtain⟨v11,h12,H⟩:=zk H
     refine qk O O h12 (qi (es:=[dI v11.Key,dI v11.Value]) eZ O<|Zn (n:=448) (m:=2) O O nZ<|zP (es:=[dI v11.Key,dI v11.Value]) eZ O O O bZ O<|xQ<|zD (fun t13:Bool=>ZR kb9 s8 t13=some r) (fun t13=>mk [(0,.one<|.d<|.sl 2<|a1.map zd),(5,oI s8.1),(16,.one<|.d<|.sl 2<|a2.map zd),(17,oI (a2.length:Int)),(18,oI s8.2),(31,oB t13)] [] noG) ?_ ?_)
     ·intro t13 H
      obtain⟨h15,H⟩|⟨h15,H⟩:=aa H
      ·exact zi O h15 (aR<|za O<|qb eZ eC<|za eZ<|zl<|aP<|al<|aR<|qb O eC<|za eZ<|zl<|al ⟨(IntKind.wrap .i64 (s8.1+1),IntKind.wrap .i64 (s8.2+1)),H,zf [] (sR O O) am aj⟩)
      ·exact zh O h15 (au<|aP<|al<|aR<|qb O eC<|za eZ<|zl<|al ⟨(s8.1,IntKind.wrap .i64 (s8.2+1)),H,zf [] (sR O O) am aj⟩)
     ·refine aR (ze (m:=1) eZ O<|zn (q:=1) (c:=dI v11.Value) eZ bZ O O<|ZK eZ eC<|za eZ ?_)
      obtain⟨h16,H⟩|⟨h16,H⟩:=ab H
      ·refine gDo eZ h16 (za O<|gDo O h16<|ze (m:=0) O O<|gDo O h16<|zn (q:=0) (c:=dI v11.Key) eZ bZ O O<|gDo O h16 ?_)
       obtain⟨v17,h18,H⟩:=zk H
       exact zF (u:=oI v17) eC ay (zga h18) (Ec O<|Ec eZ En) (Vc Vp<|Vc Vp Vn) O (gDo O h16<|qj eZ eC<|zB O h16 eZ<|zl<|al ⟨decide (v17 < 0),H,zf [448] (sR O O) (blR O) aj⟩)
      ·exact zb eZ h16 O (zb O h16 O<|zb O h16 O<|zb O h16 O<|zb O h16 O<|zM O h16 eC<|zl<|al ⟨false,H,zf [448] (sR O O) (blR O) aj⟩)
    ·exact zh eZ h10 (aH<|aC<|aC<|aT<|al ⟨s8.1,H,zf [] (sR O O) am aj⟩)
 ·refine aR (za O ?_)
  obtain⟨v19,h20,H⟩:=zk H
  refine zF (u:=oB v19) eC ay (KJ h20) (Ec eZ En) (Vc Vp Vn) O (qS eZ<|za eZ ?_)
  obtain⟨h21,H⟩|⟨h21,H⟩:=zA H
  ·refine gDo eZ (cN h21) (za O<|gDo O (cN h21) ?_)
   obtain⟨v22,h23,H⟩:=zk H
   exact zF (u:=oB v22) eC ay (X5 h23) (Ec eZ En) (Vc Vp Vn) O (gDo O (cN h21)<|qS eZ<|zM O (cN h21) eZ<|zl<|al ⟨!v22,H,zf [] (sR O O) am aj⟩)
  ·exact zb eZ (cN<|nt h21) O (zb O (cN<|nt h21) O<|zb O (cN<|nt h21) O<|zB O (cN<|nt h21) eC<|zl<|al ⟨true,H,zf [] (sR O O) am aj⟩)
theorem ziX{a1:zp}{r:Int}(H:XL a1=some r):Fn Tryz.prog 239 (lent [.agg (zT a1)]) true [.int .i64 r]:=by
 refine ac zIF O ?_
 refine ak (t:=mk [(0,.agg<|zK a1)] [] (lk [])) (zf [] (sR O O) am aj) ?_
 unfold XL at H
 unfold zGq
 refine aV (yd (n:=64) (m:=9) (cs:=zK a1) O eZ O O nZ<|za eC<|xQ<|aV<|ze (m:=3) O O<|zn (q:=3) (c:=.d (.sl 2<|a1.Cells.map zd)) eZ bZ O O<|zX eZ (n:=a1.Cells.length) lm<|za eZ<|xQ<|zD (fun t2:Int=>Km t2=some r) (fun t2=>mk [(3,oI t2)] [] (lk [])) ?_ ?_)
 ·intro t2 H
  unfold Km at H
  refine aV (za eZ<|za eZ<|xQ<|aq ?_)
  cases H
  exact eE O O
 ·refine aV (ze (m:=5) O O<|zn (q:=5) (c:=.d (.sl 2<|a1.Helds.map zx)) eZ bZ O O<|zX eZ (n:=a1.Helds.length) lm<|za eC<|xQ<|aw<|aG (fun s4:(Int×Int)=>mk [(1,.one<|.ptr<|.nm 64 0 0),(3,oI s4.1),(10,.one<|.d<|.sl 2<|a1.Helds.map zx),(11,oI (a1.Helds.length:Int)),(12,oI s4.2)] [(64,.vars 9<|zK a1)] (lk [])) H (zH [] (sR O O) (blR O) (bkR O O O) aA) ?_)
  intro kb5 s4 H
  unfold Kp at H
  refine aV (qj O O<|xQ<|aS ?_)
  obtain⟨h6,H⟩|⟨h6,H⟩:=ab H
  ·refine zi eZ h6 (au<|al<|aS<|aw<|aS<|zZ<|zr ?_)
   obtain⟨v7,h8,H⟩:=zk H
   refine qk O O h8 (zl<|zr<|qi (es:=jm v7) eZ O<|zl<|zr<|Zn (n:=320) (m:=2) O O (nR O)<|zl<|zr<|zP (es:=jm v7) eZ O O O bZ O<|zl<|qf<|xQ<|aR<|za O<|ze (m:=3) O O<|zn (q:=3) (c:=.d (.sl 2<|a1.Cells.map zd)) eZ (bR O) O O<|ze (m:=1) O O<|zn (q:=1) (c:=.d (.sl 2<|v7.Writes.map zd)) eZ bZ O O ?_)
   obtain⟨v9,h10,H⟩:=zk H
   exact zF (u:=oI v9) eC ay (zeO h10) (Ec O<|Ec eZ En) (Vc Vp<|Vc Vp Vn) O (qb O eZ<|za eZ<|zl<|aP<|al<|ak (zH [320] (kr 3 O O<|kr 1 O O<|kr 10 O O<|kr 11 O O<|kr 12 O O ar) (blR O) (ao (n:=64) O (bR O) O O aj) aA)<|aR<|qb O eC<|za eZ<|zl<|al ⟨(IntKind.wrap .i64 (s4.1+v9),IntKind.wrap .i64 (s4.2+1)),H,zH [] (sR O O) (blR O) (bkR O O O) aA⟩)
  ·exact zh eZ h6 (aH<|aC<|aC<|aT<|al ⟨s4.1,H,zH [64] (sR O O) (blR O) aj aA⟩)
theorem zf0{a1:zp}{r:Bool}(H:Qf a1=some r):Fn Tryz.prog 122 (lent [.agg (zT a1)]) true [.bool r]:=by
 refine ac zIa O ?_
 refine ak (t:=mk [(0,.agg<|zK a1)] [] (lk [])) (zf [] (sR O O) am aj) ?_
 unfold Qf at H
 unfold zCe
 refine aV (yd (n:=64) (m:=9) (cs:=zK a1) O eZ O O nZ<|za eC<|xQ<|aS<|zD (fun t2:Bool=>qN a1 t2=some r) (fun t2=>mk [(1,.one<|.ptr<|.nm 64 0 0),(55,oB t2)] [(64,.vars 9<|zK a1)] (lk [])) ?_ ?_)
 ·intro t2 H
  obtain⟨h4,H⟩|⟨h4,H⟩:=aa H
  ·refine zi O h4 (aV<|za eC<|xQ<|aq<|ax ?_)
   cases H
   exact eE O O
  ·refine zh O h4 (au<|al<|aS<|zD (fun t5:Bool=>y9 a1 t5=some r) (fun t5=>mk [(1,.one<|.ptr<|.nm 64 0 0),(65,oB t5)] [(64,.vars 9<|zK a1)] (lk [])) ?_ ?_)
   ·intro t5 H
    obtain⟨h7,H⟩|⟨h7,H⟩:=aa H
    ·refine zi O h7 (aV<|za eC<|xQ<|aq<|ax ?_)
     cases H
     exact eE O O
    ·refine zh O h7 (au<|al<|aS<|zZ<|zr<|ze (m:=6) eZ O<|zl<|zr<|zn (q:=6) (c:=.d (.sl 1<|a1.Wounded.map zm)) eZ bZ O O<|zl<|zr<|ze (m:=7) O O<|zl<|zr<|zn (q:=7) (c:=.d (.sl 1<|a1.Ended.map zm)) eZ bZ O O<|zl<|zr<|QQ (m:=4480) (q:=2) (cs:=[.d (.sl 1<|a1.Wounded.map zm),.d<|.sl 1<|a1.Ended.map zm]) O (qY O<|qY eZ Z5) O (List.cons_ne_nil _ _) (by simp) (nR O)<|zl<|zr ?_)
     obtain⟨v8,h9,H⟩:=zk H
     refine zF (u:=.one (.d<|.sl 1<|v8.map zm)) eC ay (zch h9) (Ec eZ En) (Vc (VD.vars [.sl 1 (a1.Wounded.map zm),.sl 1<|a1.Ended.map zm] bZ O O) Vn) O (zl<|zr<|Zn (n:=192) (m:=1) O O (nR O)<|zl<|zr<|zP (es:=[.d (.sl 1<|v8.map zm)]) eZ O O O bZ O<|zl<|qf<|xQ<|aS<|aV<|ze (m:=4) O O<|zn (q:=4) (c:=.d (.sl 4<|a1.Locks.map zo)) eZ (bR O) O O<|zer (ps:=[.nm 64 0 0,.nm 192 0 0]) (Ec O<|Ec O En) ?_)
     obtain⟨v10,h11,H⟩:=zk H
     refine zF (u:=oB v10) eC ay (Yq h11) (Ec O<|Ec eZ En) (Vc Vp<|Vc (bw<|a8 (xY (bR O)<|aD<|aD<|aD<|aD<|aD<|aD<|aD<|aD<|aD bc)<|a8 (xY bZ<|aD bc) bg) Vn) O (xQ ?_)
     obtain⟨h12,H⟩|⟨h12,H⟩:=aa H
     ·refine zi eZ h12 (aV<|za eC<|xQ<|aq<|ax ?_)
      cases H
      exact eE O O
     ·refine zh eZ h12 (au<|al<|aS<|aX<|ze (m:=5) O O<|zn (q:=5) (c:=.d (.sl 2<|a1.Helds.map zx)) eZ (bR O) O O ?_)
      obtain⟨v13,h14,H⟩:=zk H
      refine j9 (u:=.one (.sl 4992 0 v13.length)) (bs:=[(4992,.data 1 (v13.map zm) true none)]) eC ay (za0 h14) (Ec eZ En) (Vc Vp Vn) (by simp[jg,jD,qy,jq,qF]) O (fC (nR O) O<|fC (nR O) O fN) (zn (q:=0) (c:=.d (.sl 1<|v8.map zm)) O (hB O<|bR O) O O ?_)
      obtain⟨h15,H⟩:=zW H
      refine zhr (f:=zm) (xs:=v13) (ys:=v8) (q:=(v13++v8).length) O eZ bZ O (bl fun _ _=>O) O h15 (by decide) (by decide) (ai (v':=.one (.d<|.sl 1<|v8.map zm)) O<|ai (v':=.one .any) O<|ai (v':=.one (.d<|.sl 2<|a1.Helds.map zx)) O<|ai (v':=.one (.ptr<|.nm 64 0 5)) O<|ai (v':=oB v10) O<|ai (v':=.one (.fn 236 [.nm 64 0 0,.nm 192 0 0])) O<|ai (v':=.one (.d<|.sl 4<|a1.Locks.map zo)) O<|ai (v':=.one (.ptr<|.nm 64 0 4)) O<|ai (v':=.one (.ptr<|.nm 192 0 0)) O<|ai (v':=.one (.d<|.sl 1<|v8.map zm)) O<|ai (v':=.one (.sl 4480 0 2)) O<|ai (v':=.one (.d<|.sl 1<|a1.Ended.map zm)) O<|ai (v':=.one (.ptr<|.nm 64 0 7)) O<|ai (v':=.one (.d<|.sl 1<|a1.Wounded.map zm)) O<|ai (v':=.one (.ptr<|.nm 64 0 6)) O<|ai (v':=.one (.ptr<|.nm 64 0 0)) O<|ai (v':=oB t5) O aN) (aY O<|av (v':=.vars 1 [.d (.sl 1<|v8.map zm)]) O O<|av (v':=.vars 1 [.zs]) O O<|av (v':=.vars 1 [.d (.sl 1<|a1.Wounded.map zm),.d<|.sl 1<|a1.Ended.map zm]) O O<|av (v':=.vars 9 (zK a1)) O O aU) aA (za eZ<|xQ<|ak (zH [192,4480] (kr 4 O O<|kr 1 O O ar) (blR O) (ao (n:=4992) O bZ O O<|ao (n:=64) O (bR O) O O aj) aA)<|aS<|zZ<|zr<|za eZ<|zl ?_)
      obtain⟨v16,h17,H⟩:=zk H
      obtain⟨h18,H⟩:=zW H
      refine kG (ON:=[4992]) (ls:=[]) (G:=[]) (E:=[ql 4992]) (MB:=[(4992,.data 1 (v16.map zm) true none)]) (u:=.tup []) eC ay (zc7 h17) (Ec eZ En) (bD (aL bZ lm (zI fun _=>O)) bj) O O O (bb bZ bh) (ai (v':=.one (.sl 4992 0<|(v13++v8).length)) O<|ai (v':=.one (.sl 4992 0<|(v13++v8).length)) O<|ai (v':=.one (.ptr<|.nm 64 0 0)) O aN) (av (v':=.data 1 (List.map zm (v13++v8)) true none) O O<|av (v':=.vars 9 (zK a1)) O O aU) aN O O (qf<|xQ<|aS<|zZ<|zr<|za O<|zl<|zr ?_)
      obtain⟨v19,h20,H⟩:=zk H
      refine j9 (u:=.one (.sl 5376 0 v19.length)) (bs:=[(5376,.data 1 (v19.map zm) true none)]) eC ay (QW h20) (Ec eZ En) (Vc (bF bZ (by first|(simp;done)|(simp;omega)|omega|(simp only[List.length_map];omega))) Vn) (by simp[jg,jD,qy,jq,qF]) O (fC (nR O) O<|fC (nR O) O fN) (zl ?_)
      obtain⟨v21,h22,H⟩:=zk H
      refine kG (ON:=[5376]) (ls:=[]) (G:=[5376]) (E:=[5376]) (MB:=[]) (u:=.one (.d<|.sl 1<|v21.map zm)) eC ay (zbX h22) (Ec eZ En) (bz (aL bZ lm (zI fun _=>O)) bj) O O O bh (ai (v':=.one .any) O<|ai (v':=.one (.sl 4992 0<|(v13++v8).length)) O<|ai (v':=.tup []) O<|ai (v':=.one (.sl 4992 0<|(v13++v8).length)) O<|ai (v':=.one (.sl 4992 0<|(v13++v8).length)) O<|ai (v':=.one (.ptr<|.nm 64 0 0)) O aN) (aY O<|av (v':=.data 1 (v16.map zm) true none) O O<|av (v':=.data 1 (List.map zm (v13++v8)) true none) O O<|av (v':=.vars 9 (zK a1)) O O aU) aN O O (qf<|zX eZ (n:=v21.length) lm<|za O<|kT eZ<|kZ O eZ<|za eZ ?_)
      obtain⟨h23,H⟩|⟨h23,H⟩:=ab H
      ·refine gDo eZ h23 (zY (es:=zK a1) O (bR O) O<|gDo O h23 ?_)
       obtain⟨v24,h25,H⟩:=zk H
       refine zF (u:=oI v24) eC ay (ziX h25) (Ec eZ En) (Vc (aI O) Vn) O (gDo O h23<|zbE eZ eC<|zB O h23 eZ<|za eZ<|xQ<|ak (zH [4992,64] (kr 2 O O ar) (blR O) aj aA)<|aq ?_)
       cases H
       exact eE O O
      ·refine zb eZ h23 O (zb O h23 O<|zb O h23 O<|zM O h23 eC<|za eZ<|xQ<|ak (zH [4992,64] (kr 2 O O ar) (blR O) aj aA)<|aq ?_)
       cases H
       exact eE O O
   ·refine aR (ze (m:=2) eZ O<|zn (q:=2) (c:=.d (.sl 2<|a1.Frozen.map zg)) eZ bZ O O<|zer (ps:=[.nm 64 0 0]) (Ec O En) ?_)
    obtain⟨v26,h27,H⟩:=zk H
    refine zF (u:=oB v26) eC ay (J0 h27) (Ec O<|Ec eZ En) (Vc Vp<|Vc (bw<|a8 (xY bZ<|aD<|aD<|aD<|aD<|aD<|aD<|aD<|aD<|aD bc) bg) Vn) O (za eZ ?_)
    obtain⟨h28,H⟩|⟨h28,H⟩:=zA H
    ·exact zb eZ h28 O (zb O h28 O<|zb O h28 O<|zb O h28 O<|zB O h28 eC<|zl<|al ⟨true,H,zH [] (sR O O) (blR O) (bkR O O O) aA⟩)
    ·refine gDo eZ (nt h28) (ze (m:=3) O O<|gDo O (nt h28)<|zn (q:=3) (c:=.d (.sl 2<|a1.Cells.map zd)) eZ bZ O O<|gDo O (nt h28)<|zer (ps:=[.nm 64 0 0]) (Ec O En)<|gDo O (nt h28) ?_)
     obtain⟨v29,h30,H⟩:=zk H
     exact zF (u:=oB v29) eC ay (Yz h30) (Ec O<|Ec eZ En) (Vc Vp<|Vc (bw<|a8 (xY bZ<|aD<|aD<|aD<|aD<|aD<|aD<|aD<|aD<|aD bc) bg) Vn) O (zM O (nt h28) eZ<|zl<|al ⟨v29,H,zH [] (sR O O) (blR O) (bkR O O O) aA⟩)
 ·refine aR (ze (m:=0) O O<|zn (q:=0) (c:=dI a1.Me) eZ bZ O O ?_)
  obtain⟨v31,h32,H⟩:=zk H
  refine zF (u:=oB v31) eC ay (zgp h32) (Ec eZ En) (Vc Vp Vn) O (qS eZ<|za eZ ?_)
  obtain⟨h33,H⟩|⟨h33,H⟩:=zA H
  ·refine gDo eZ (cN h33) (ze (m:=1) O O<|gDo O (cN h33)<|zn (q:=1) (c:=.d (.sl 2<|a1.Own.map zg)) eZ bZ O O<|gDo O (cN h33) ?_)
   obtain⟨v34,h35,H⟩:=zk H
   refine zF (u:=oB v34) eC ay (zbo h35) (Ec eZ En) (Vc Vp Vn) O (gDo O (cN h33)<|qS eZ<|zM O (cN h33) eZ<|za eZ ?_)
   obtain⟨h36,H⟩|⟨h36,H⟩:=zA H
   ·refine gDo eZ (cN h36) (ze (m:=2) O O<|gDo O (cN h36)<|zn (q:=2) (c:=.d (.sl 2<|a1.Frozen.map zg)) eZ bZ O O<|gDo O (cN h36) ?_)
    obtain⟨v37,h38,H⟩:=zk H
    refine zF (u:=oB v37) eC ay (zbo h38) (Ec eZ En) (Vc Vp Vn) O (gDo O (cN h36)<|qS eZ<|zM O (cN h36) eZ<|za eZ ?_)
    obtain⟨h39,H⟩|⟨h39,H⟩:=zA H
    ·refine gDo eZ (cN h39) (ze (m:=3) O O<|gDo O (cN h39)<|zn (q:=3) (c:=.d (.sl 2<|a1.Cells.map zd)) eZ bZ O O<|gDo O (cN h39) ?_)
     obtain⟨v40,h41,H⟩:=zk H
     refine zF (u:=oB v40) eC ay (KJ h41) (Ec eZ En) (Vc Vp Vn) O (gDo O (cN h39)<|qS eZ<|zM O (cN h39) eZ<|za eZ ?_)
     obtain⟨h42,H⟩|⟨h42,H⟩:=zA H
     ·refine gDo eZ (cN h42) (ze (m:=4) O O<|gDo O (cN h42)<|zn (q:=4) (c:=.d (.sl 4<|a1.Locks.map zo)) eZ bZ O O<|gDo O (cN h42) ?_)
      obtain⟨v43,h44,H⟩:=zk H
      refine zF (u:=oB v43) eC ay (KH h44) (Ec eZ En) (Vc Vp Vn) O (gDo O (cN h42)<|qS eZ<|zM O (cN h42) eZ<|za eZ ?_)
      obtain⟨h45,H⟩|⟨h45,H⟩:=zA H
      ·refine gDo eZ (cN h45) (zY (es:=zK a1) O bZ O<|gDo O (cN h45) ?_)
       obtain⟨v46,h47,H⟩:=zk H
       refine zF (u:=oB v46) eC ay (zfL h47) (Ec eZ En) (Vc (aI O) Vn) O (gDo O (cN h45)<|qS eZ<|zM O (cN h45) eZ<|za eZ ?_)
       obtain⟨h48,H⟩|⟨h48,H⟩:=zA H
       ·refine gDo eZ (cN h48) (ze (m:=6) O O<|gDo O (cN h48)<|zn (q:=6) (c:=.d (.sl 1<|a1.Wounded.map zm)) eZ bZ O O<|gDo O (cN h48) ?_)
        obtain⟨v49,h50,H⟩:=zk H
        refine zF (u:=oB v49) eC ay (Xf h50) (Ec eZ En) (Vc Vp Vn) O (gDo O (cN h48)<|qS eZ<|zM O (cN h48) eZ<|za eZ ?_)
        obtain⟨h51,H⟩|⟨h51,H⟩:=zA H
        ·refine gDo eZ (cN h51) (ze (m:=7) O O<|gDo O (cN h51)<|zn (q:=7) (c:=.d (.sl 1<|a1.Ended.map zm)) eZ bZ O O<|gDo O (cN h51) ?_)
         obtain⟨v52,h53,H⟩:=zk H
         refine zF (u:=oB v52) eC ay (Xf h53) (Ec eZ En) (Vc Vp Vn) O (gDo O (cN h51)<|qS eZ<|zM O (cN h51) eZ<|za eZ ?_)
         obtain⟨h54,H⟩|⟨h54,H⟩:=zA H
         ·refine gDo eZ (cN h54) (ze (m:=8) O O<|gDo O (cN h54)<|zn (q:=8) (c:=dI a1.Rank) eZ bZ O O<|gDo O (cN h54) ?_)
          obtain⟨v55,h56,H⟩:=zk H
          exact zF (u:=oB v55) eC ay (ki h56) (Ec eZ<|Ec eC<|Ec eC En) (Vc Vp<|Vc Vp<|Vc Vp Vn) O (gDo O (cN h54)<|qS eZ<|zM O (cN h54) eZ<|zl<|al ⟨!v55,H,zH [] (sR O O) (blR O) (bkR O O O) aA⟩)
         ·exact zb eZ (cN<|nt h54) O (zb O (cN<|nt h54) O<|zb O (cN<|nt h54) O<|zb O (cN<|nt h54) O<|zB O (cN<|nt h54) eC<|zl<|al ⟨true,H,zH [] (sR O O) (blR O) (bkR O O O) aA⟩)
        ·exact zb eZ (cN<|nt h51) O (zb O (cN<|nt h51) O<|zb O (cN<|nt h51) O<|zb O (cN<|nt h51) O<|zB O (cN<|nt h51) eC<|za eZ<|zb eZ O O<|zb O O O<|zb O O O<|zb O O O<|zB O O eC<|zl<|al ⟨true,H,zH [] (sR O O) (blR O) (bkR O O O) aA⟩)
       ·exact zb eZ (cN<|nt h48) O (zb O (cN<|nt h48) O<|zb O (cN<|nt h48) O<|zb O (cN<|nt h48) O<|zB O (cN<|nt h48) eC<|za eZ<|zb eZ O O<|zb O O O<|zb O O O<|zb O O O<|zB O O eC<|za eZ<|zb eZ O O<|zb O O O<|zb O O O<|zb O O O<|zB O O eC<|zl<|al ⟨true,H,zH [] (sR O O) (blR O) (bkR O O O) aA⟩)
      ·exact zb eZ (cN<|nt h45) O (zb O (cN<|nt h45) O<|zb O (cN<|nt h45) O<|zB O (cN<|nt h45) eC<|za eZ<|zb eZ O O<|zb O O O<|zb O O O<|zb O O O<|zB O O eC<|za eZ<|zb eZ O O<|zb O O O<|zb O O O<|zb O O O<|zB O O eC<|za eZ<|zb eZ O O<|zb O O O<|zb O O O<|zb O O O<|zB O O eC<|zl<|al ⟨true,H,zH [] (sR O O) (blR O) (bkR O O O) aA⟩)
     ·exact zb eZ (cN<|nt h42) O (zb O (cN<|nt h42) O<|zb O (cN<|nt h42) O<|zb O (cN<|nt h42) O<|zB O (cN<|nt h42) eC<|za eZ<|zb eZ O O<|zb O O O<|zb O O O<|zB O O eC<|za eZ<|zb eZ O O<|zb O O O<|zb O O O<|zb O O O<|zB O O eC<|za eZ<|zb eZ O O<|zb O O O<|zb O O O<|zb O O O<|zB O O eC<|za eZ<|zb eZ O O<|zb O O O<|zb O O O<|zb O O O<|zB O O eC<|zl<|al ⟨true,H,zH [] (sR O O) (blR O) (bkR O O O) aA⟩)
    ·exact zb eZ (cN<|nt h39) O (zb O (cN<|nt h39) O<|zb O (cN<|nt h39) O<|zb O (cN<|nt h39) O<|zB O (cN<|nt h39) eC<|za eZ<|zb eZ O O<|zb O O O<|zb O O O<|zb O O O<|zB O O eC<|za eZ<|zb eZ O O<|zb O O O<|zb O O O<|zB O O eC<|za eZ<|zb eZ O O<|zb O O O<|zb O O O<|zb O O O<|zB O O eC<|za eZ<|zb eZ O O<|zb O O O<|zb O O O<|zb O O O<|zB O O eC<|za eZ<|zb eZ O O<|zb O O O<|zb O O O<|zb O O O<|zB O O eC<|zl<|al ⟨true,H,zH [] (sR O O) (blR O) (bkR O O O) aA⟩)
   ·refine zb eZ (cN<|nt h36) O (zb O (cN<|nt h36) O<|zb O (cN<|nt h36) O<|zb O (cN<|nt h36) O<|zB O (cN<|nt h36) eC<|za eZ<|zb eZ O O<|zb O O O<|zb O O O<|zb O O O<|zB O O eC<|za eZ<|zb eZ O O<|zb O O O<|zb O O O<|zb O O O<|zB O O eC<|za eZ<|zb eZ O O<|zb O O O<|zb O O O<|zB O O eC<|za eZ<|zb eZ O O<|zb O O O<|zb O O O<|zb O O O<|zB O O eC<|za eZ<|zb eZ O O<|zb O O O<|zb O O O<|zb O O O<|zB O O eC<|za eZ<|zb eZ O O<|zb O O O<|zb O O O<|zb O O O<|zB O O eC ?_)
    exact zl (al ⟨true,H,zH [] (sR O O) (blR O) (bkR O O O) aA⟩)
  ·refine zb eZ (cN<|nt h33) O (zb O (cN<|nt h33) O<|zb O (cN<|nt h33) O<|zb O (cN<|nt h33) O<|zB O (cN<|nt h33) eC<|za eZ<|zb eZ O O<|zb O O O<|zb O O O<|zb O O O<|zB O O eC<|za eZ<|zb eZ O O<|zb O O O<|zb O O O<|zb O O O<|zB O O eC<|za eZ<|zb eZ O O<|zb O O O<|zb O O O<|zb O O O<|zB O O eC<|za eZ<|zb eZ O O<|zb O O O<|zb O O O<|zB O O eC<|za eZ<|zb eZ O O<|zb O O O<|zb O O O<|zb O O O<|zB O O eC<|za eZ<|zb eZ O O<|zb O O O<|zb O O O<|zb O O O<|zB O O eC ?_)
   exact za eZ (zb eZ O O<|zb O O O<|zb O O O<|zb O O O<|zB O O eC<|zl<|al ⟨true,H,zH [] (sR O O) (blR O) (bkR O O O) aA⟩)
theorem XN{a1:(List zw)}{r:(List zw)}(H:yj a1=some r):Fn Tryz.prog 203 (lent [.sl 2 (a1.map zg)]) true [.sl 2 (List.map zg r)]:=by
 refine ac zJn O ?_
 refine ak (zf [] (kv 0 (.one<|.d<|.sl 2<|a1.map zg) O O ar) am aj) ?_
 unfold yj at H
 unfold zHi
 refine aV (za eC<|xQ<|zD (fun t2:Unit=>j4 a1 t2=some r) (fun t2=>mk [(0,.one<|.d<|.sl 2<|a1.map zg)] [] noG) ?_ ?_)
 ·intro t2 H
  unfold j4 at H
  refine aV (yb (m:=320) O nZ<|za O ?_)
  obtain⟨h4,H⟩:=zW H
  refine zaN (f:=zg) (m:=448) (own:=true) (ys:=a1) (q:=a1.length) O O O eZ (bl fun _ _=>O) O h4 (by decide) nZ (za eZ<|xQ<|aq ?_)
  obtain rfl:=(Option.some.inj H)
  exact qT (aE (aM eZ) (aL bZ lm (zI fun _=>O)) aO) (by decide)
 ·refine aV (za O ?_)
  obtain⟨h5,H⟩|⟨h5,H⟩:=zA H
  ·refine zfO eZ h5 (xQ<|bO eZ ?_ ?_)
   ·have H:(some ([]:(List zw)))=some r:=by rw[←H];simp[List.eq_nil_of_length_eq_zero h5,j4]
    refine aV (za eC<|xQ<|aq<|ax ?_)
    cases H
    exact qT (aE (aM eZ) bv aO) List.nodup_nil
   ·exact au (al ⟨(),H,zf [] (sR O O) am aj⟩)
  ·exact zhT eZ h5 (xQ<|zh eZ O<|au<|al ⟨(),H,zf [] (sR O O) am aj⟩)
theorem yz{a1:(List zj)}{r:(List zj)}(H:qR a1=some r):Fn Tryz.prog 204 (lent [.sl 2 (a1.map zd)]) true [.sl 2 (List.map zd r)]:=by
 refine ac zJt O ?_
 refine ak (zf [] (kv 0 (.one<|.d<|.sl 2<|a1.map zd) O O ar) am aj) ?_
 unfold qR at H
 unfold zGF
 refine aV (za eC<|xQ<|zD (fun t2:Unit=>yk a1 t2=some r) (fun t2=>mk [(0,.one<|.d<|.sl 2<|a1.map zd)] [] noG) ?_ ?_)
 ·intro t2 H
  unfold yk at H
  refine aV (yb (m:=320) O nZ<|za O ?_)
  obtain⟨h4,H⟩:=zW H
  refine zaN (f:=zd) (m:=448) (own:=true) (ys:=a1) (q:=a1.length) O O O eZ (bl fun _ _=>O) O h4 (by decide) nZ (za eZ<|xQ<|aq ?_)
  obtain rfl:=(Option.some.inj H)
  exact qT (aE (aM eZ) (aL bZ lm (zI fun _=>O)) aO) (by decide)
 ·refine aV (za O ?_)
  obtain⟨h5,H⟩|⟨h5,H⟩:=zA H
  ·refine zfO eZ h5 (xQ<|bO eZ ?_ ?_)
   ·have H:(some ([]:(List zj)))=some r:=by rw[←H];simp[List.eq_nil_of_length_eq_zero h5,yk]
    refine aV (za eC<|xQ<|aq<|ax ?_)
    cases H
    exact qT (aE (aM eZ) bv aO) List.nodup_nil
   ·exact au (al ⟨(),H,zf [] (sR O O) am aj⟩)
  ·exact zhT eZ h5 (xQ<|zh eZ O<|au<|al ⟨(),H,zf [] (sR O O) am aj⟩)
theorem Kg{a1:(List zC)}{r:(List zC)}(H:yw a1=some r):Fn Tryz.prog 205 (lent [.sl 4 (a1.map zo)]) true [.sl 4 (List.map zo r)]:=by
 refine ac zIE O ?_
 refine ak (zf [] (kv 0 (.one<|.d<|.sl 4<|a1.map zo) O O ar) am aj) ?_
 unfold yw at H
 unfold zCl
 refine aV (za eC<|xQ<|zD (fun t2:Unit=>yo a1 t2=some r) (fun t2=>mk [(0,.one<|.d<|.sl 4<|a1.map zo)] [] noG) ?_ ?_)
 ·intro t2 H
  unfold yo at H
  refine aV (yb (m:=320) O nZ<|za O ?_)
  obtain⟨h4,H⟩:=zW H
  refine zaN (f:=zo) (m:=448) (own:=true) (ys:=a1) (q:=a1.length) O O O eZ (bl fun _ _=>O) O h4 (by decide) nZ (za eZ<|xQ<|aq ?_)
  obtain rfl:=(Option.some.inj H)
  exact qT (aE (aM eZ) (aL bZ lm (zI fun _=>O)) aO) (by decide)
 ·refine aV (za O ?_)
  obtain⟨h5,H⟩|⟨h5,H⟩:=zA H
  ·refine zfO eZ h5 (xQ<|bO eZ ?_ ?_)
   ·have H:(some ([]:(List zC)))=some r:=by rw[←H];simp[List.eq_nil_of_length_eq_zero h5,yo]
    refine aV (za eC<|xQ<|aq<|ax ?_)
    cases H
    exact qT (aE (aM eZ) bv aO) List.nodup_nil
   ·exact au (al ⟨(),H,zf [] (sR O O) am aj⟩)
  ·exact zhT eZ h5 (xQ<|zh eZ O<|au<|al ⟨(),H,zf [] (sR O O) am aj⟩)
theorem zbv{a1:(List zj)}{r:(List zj)}(H:yR a1=some r):Fn Tryz.prog 207 (lent [.sl 2 (a1.map zd)]) true [.sl 2 (List.map zd r)]:=by
 refine ac zJW O ?_
 refine ak (zf [] (kv 0 (.one<|.d<|.sl 2<|a1.map zd) O O ar) am aj) ?_
 unfold yR at H
 unfold zBy
 refine aV (za eC<|xQ<|zD (fun t2:Unit=>j6 a1 t2=some r) (fun t2=>mk [(0,.one<|.d<|.sl 2<|a1.map zd)] [] noG) ?_ ?_)
 ·intro t2 H
  unfold j6 at H
  refine aV (yb (m:=320) O nZ<|za O ?_)
  obtain⟨h4,H⟩:=zW H
  refine zaN (f:=zd) (m:=448) (own:=true) (ys:=a1) (q:=a1.length) O O O eZ (bl fun _ _=>O) O h4 (by decide) nZ (za eZ<|xQ<|aq ?_)
  obtain rfl:=(Option.some.inj H)
  exact qT (aE (aM eZ) (aL bZ lm (zI fun _=>O)) aO) (by decide)
 ·refine aV (za O ?_)
  obtain⟨h5,H⟩|⟨h5,H⟩:=zA H
  ·refine zfO eZ h5 (xQ<|bO eZ ?_ ?_)
   ·have H:(some ([]:(List zj)))=some r:=by rw[←H];simp[List.eq_nil_of_length_eq_zero h5,j6]
    refine aV (za eC<|xQ<|aq<|ax ?_)
    cases H
    exact qT (aE (aM eZ) bv aO) List.nodup_nil
   ·exact au (al ⟨(),H,zf [] (sR O O) am aj⟩)
  ·exact zhT eZ h5 (xQ<|zh eZ O<|au<|al ⟨(),H,zf [] (sR O O) am aj⟩)
theorem zej{a1:zp}{r:zp}(H:Qu a1=some r):Fn Tryz.prog 92 (lent [.agg (zT a1)]) true [.agg (zT r)]:=by
 refine ac f92 O ?_
 refine ak (t:=mk [(0,.agg<|zK a1)] [] (lk [])) (zf [] (sR O O) am aj) ?_
 unfold Qu at H
 unfold i92
 refine aV (yd (n:=64) (m:=9) (cs:=zK a1) O eZ O O nZ<|Zn (n:=128) (m:=9) O O (nR O)<|xQ<|aS<|aX<|ze (m:=0) O O<|zn (q:=0) (c:=dI a1.Me) eZ (hB O<|bR O) O O<|ze (m:=1) O O<|zn (q:=1) (c:=.d (.sl 2<|a1.Own.map zg)) eZ (hB O<|bR O) O O ?_)
 obtain⟨v2,h3,H⟩:=zk H
 refine j9 (u:=.one (.sl 640 0 v2.length)) (bs:=[(640,.data 2 (v2.map zg) true none)]) eC ay (XN h3) (Ec eZ En) (Vc Vp Vn) (by simp[jg,jD,qy,jq,qF]) O (fC (hN<|nR O) O<|fC (hN<|nR O) O fN) (ze (m:=2) O O<|zn (q:=2) (c:=.d (.sl 2<|a1.Frozen.map zg)) eZ (hB O<|bR O) O O ?_)
 obtain⟨v4,h5,H⟩:=zk H
 refine j9 (u:=.one (.sl 832 0 v4.length)) (bs:=[(832,.data 2 (v4.map zg) true none)]) eC ay (XN h5) (Ec eZ En) (Vc Vp Vn) (by simp[jg,jD,qy,jq,qF]) O (fC (hN<|nR O) O<|fC (hN<|nR O) O fN) (ze (m:=3) O O<|zn (q:=3) (c:=.d (.sl 2<|a1.Cells.map zd)) eZ (hB O<|bR O) O O ?_)
 obtain⟨v6,h7,H⟩:=zk H
 refine j9 (u:=.one (.sl 1024 0 v6.length)) (bs:=[(1024,.data 2 (v6.map zd) true none)]) eC ay (yz h7) (Ec eZ En) (Vc Vp Vn) (by simp[jg,jD,qy,jq,qF]) O (fC (hN<|nR O) O<|fC (hN<|nR O) O fN) (ze (m:=4) O O<|zn (q:=4) (c:=.d (.sl 4<|a1.Locks.map zo)) eZ (hB O<|bR O) O O ?_)
 obtain⟨v8,h9,H⟩:=zk H
 refine j9 (u:=.one (.sl 1216 0 v8.length)) (bs:=[(1216,.data 4 (v8.map zo) true none)]) eC ay (Kg h9) (Ec eZ En) (Vc Vp Vn) (by simp[jg,jD,qy,jq,qF]) O (fC (hN<|nR O) O<|fC (hN<|nR O) O fN) (ze (m:=6) O O<|zn (q:=6) (c:=.d (.sl 1<|a1.Wounded.map zm)) eZ (hB O<|bR O) O O ?_)
 obtain⟨v10,h11,H⟩:=zk H
 refine j9 (u:=.one (.sl 1408 0 v10.length)) (bs:=[(1408,.data 1 (v10.map zm) true none)]) eC ay (QW h11) (Ec eZ En) (Vc Vp Vn) (by simp[jg,jD,qy,jq,qF]) O (fC (hN<|nR O) O<|fC (hN<|nR O) O fN) (ze (m:=7) O O<|zn (q:=7) (c:=.d (.sl 1<|a1.Ended.map zm)) eZ (hB O<|bR O) O O ?_)
 obtain⟨v12,h13,H⟩:=zk H
 refine j9 (u:=.one (.sl 1600 0 v12.length)) (bs:=[(1600,.data 1 (v12.map zm) true none)]) eC ay (QW h13) (Ec eZ En) (Vc Vp Vn) (by simp[jg,jD,qy,jq,qF]) O (fC (hN<|nR O) O<|fC (hN<|nR O) O fN) (ze (m:=8) O O<|zn (q:=8) (c:=dI a1.Rank) eZ (hB O<|bR O) O O<|Xa (cs:=[dI a1.Me,.sl 640 0 v2.length,.sl 832 0 v4.length,.sl 1024 0 v6.length,.sl 1216 0 v8.length,.zs,.sl 1408 0 v10.length,.sl 1600 0 v12.length,dI a1.Rank]) (qY O<|qY O<|qY O<|qY O<|qY O<|qY O<|qY O<|qY eZ Z5) (by kernel_rfl)<|Zn (n:=192) (m:=9) O O (hN<|nR O)<|zP (es:=[dI a1.Me,.sl 640 0 v2.length,.sl 832 0 v4.length,.sl 1024 0 v6.length,.sl 1216 0 v8.length,.zs,.sl 1408 0 v10.length,.sl 1600 0 v12.length,dI a1.Rank]) eZ O O O bZ O<|xQ<|ak (zH [] (kr 3 O O<|kr 2 O O<|kr 1 O O ar) (blR O) (ao (n:=192) O bZ O O<|ao (n:=1600) O (bR O) O O<|ao (n:=1408) O (bR O) O O<|ao (n:=1216) O (bR O) O O<|ao (n:=1024) O (bR O) O O<|ao (n:=832) O (bR O) O O<|ao (n:=640) O (bR O) O O<|ao (n:=128) O (bR O) O O<|ao (n:=64) O (bR O) O O aj) aA)<|zD (fun t14:(List zL)=>QH a1 v2 v4 v6 v8 v10 v12 t14=some r) (fun t14=>mk [(2,.one<|.ptr<|.nm 128 0 0),(3,.one<|.ptr<|.nm 192 0 0)] [(128,.vars 9 [dI 0,.zs,.zs,.zs,.zs,.zs,.zs,.zs,dI 0]),(320128,.data 2 (List.map zx t14) true none),(192,.vars 9 [dI a1.Me,.sl 640 0 v2.length,.sl 832 0 v4.length,.sl 1024 0 v6.length,.sl 1216 0 v8.length,.sl 320128 0 t14.length,.sl 1408 0 v10.length,.sl 1600 0 v12.length,dI a1.Rank]),(640,.data 2 (v2.map zg) true none),(832,.data 2 (v4.map zg) true none),(1024,.data 2 (v6.map zd) true none),(1216,.data 4 (v8.map zo) true none),(1408,.data 1 (v10.map zm) true none),(1600,.data 1 (v12.map zm) true none)] (lk [])) ?_ ?_)
 ·intro t14 H
  unfold QH at H
  refine aS (zZ<|zr<|zY (es:=[dI a1.Me,.sl 640 0 v2.length,.sl 832 0 v4.length,.sl 1024 0 v6.length,.sl 1216 0 v8.length,.sl 320128 0 t14.length,.sl 1408 0 v10.length,.sl 1600 0 v12.length,dI a1.Rank]) O (bR O) O<|zl<|zr<|zP (es:=[dI a1.Me,.sl 640 0 v2.length,.sl 832 0 v4.length,.sl 1024 0 v6.length,.sl 1216 0 v8.length,.sl 320128 0 t14.length,.sl 1408 0 v10.length,.sl 1600 0 v12.length,dI a1.Rank]) O eZ O O bZ O<|zl<|qf<|xQ<|aq ?_)
  cases H
  exact qT (aE (yq (es:=[dI a1.Me,.sl 640 0 v2.length,.sl 832 0 v4.length,.sl 1024 0 v6.length,.sl 1216 0 v8.length,.sl 320128 0 t14.length,.sl 1408 0 v10.length,.sl 1600 0 v12.length,dI a1.Rank]) O bZ O) (bA<|aB (aQ O)<|aB (aL (bR O) lm (zI fun _=>O))<|aB (aL (bR O) lm (zI fun _=>O))<|aB (aL (bR O) lm (zI fun _=>O))<|aB (aL (bR O) lm (zI fun _=>O))<|aB (Kf (bR O) lm O)<|aB (aL (bR O) lm (zI fun _=>O))<|aB (aL (bR O) lm (zI fun _=>O))<|aB (aQ O) bp) aO) (by decide)
 ·refine aV (ze (m:=5) O O<|zn (q:=5) (c:=.d (.sl 2<|a1.Helds.map zx)) eZ (bR O) O O<|zX eZ (n:=a1.Helds.length) lm<|za eC<|xQ<|aw<|aG (fun s16:(Int×(List zL))=>mk [(2,.one<|.ptr<|.nm 128 0 0),(3,.one<|.ptr<|.nm 192 0 0),(30,.one<|.d<|.sl 2<|a1.Helds.map zx),(31,oI (a1.Helds.length:Int)),(32,oI s16.1)] [(128,.vars 9 [dI 0,.zs,.zs,.zs,.zs,.zs,.zs,.zs,dI 0]),(320192,.data 2 (List.map zx s16.2) true none),(192,.vars 9 [dI a1.Me,.sl 640 0 v2.length,.sl 832 0 v4.length,.sl 1024 0 v6.length,.sl 1216 0 v8.length,.sl 320192 0 s16.2.length,.sl 1408 0 v10.length,.sl 1600 0 v12.length,dI a1.Rank]),(640,.data 2 (v2.map zg) true none),(832,.data 2 (v4.map zg) true none),(1024,.data 2 (v6.map zd) true none),(1216,.data 4 (v8.map zo) true none),(1408,.data 1 (v10.map zm) true none),(1600,.data 1 (v12.map zm) true none)] (lk [])) H ((zH [64] (sR O O) (blR O) (ao O (bR O) O O<|ao O (bR O) O O<|ao O bZ O (by first|rfl|simp)<|bkR O O O) aA).trans<|zlR 320192 2 192 5 true bZ O<|nR O) ?_)
  intro kb17 s16 H
  unfold QR at H
  refine aV (qj O O<|xQ<|aS ?_)
  obtain⟨h18,H⟩|⟨h18,H⟩:=ab H
  ·refine zi eZ h18 (au<|al<|aS<|aw<|aS<|zZ<|zr ?_)
   obtain⟨v19,h20,H⟩:=zk H
   refine qk O O h20 (zl<|zr<|qi (es:=jm v19) eZ O<|zl<|zr<|Zn (n:=320) (m:=2) O O (nR O)<|zl<|zr<|zP (es:=jm v19) eZ O O O bZ O<|zl<|qf<|xQ<|AW.regt<|ze (m:=5) O O<|zn (q:=5) (c:=.sl 320192 0 s16.2.length) eZ (hB O<|bR O) O O<|ze (m:=0) O O<|zn (q:=0) (c:=dI v19.Tx) eZ (hB O bZ) O O<|ze (m:=1) O O<|zn (q:=1) (c:=.d (.sl 2<|v19.Writes.map zd)) eZ bZ O O ?_)
   obtain⟨v21,h22,H⟩:=zk H
   refine j9 (u:=.one (.sl 2688 0 v21.length)) (bs:=[(2688,.data 2 (v21.map zd) true none)]) eC ay (zbv h22) (Ec eZ En) (Vc Vp Vn) (by simp[jg,jD,qy,jq,qF]) O (fC (nR O) O<|fC (nR O) O fN) (Xa (cs:=[dI v19.Tx,.sl 2688 0 v21.length]) (qY O<|qY eZ Z5) O<|QQ (m:=2816) (q:=1) (cs:=[dI v19.Tx,.sl 2688 0 v21.length]) O (qY eZ Z5) O (List.cons_ne_nil _ _) (by simp) (nR O)<|zl ?_)
   obtain⟨h23,H⟩:=zW H
   refine ziY (f:=zx) (xs:=s16.2) (t:=zL.mk v19.Tx v21) (q:=(s16.2++[zL.mk v19.Tx v21]).length) (ds:=[.int .i64 v19.Tx,.sl 2<|v21.map zd]) (ns:=[2688]) O eZ (bR O) O bZ O (aB (aQ O)<|aB (aL (bR O) lm (zI fun _=>O)) bp) O O O O h23 (by decide) (ai (v':=.one (.sl 2816 0 1)) O<|ai (v':=.agg [dI v19.Tx,.any]) O<|ai (v':=.one .any) O<|ai (v':=.one (.d<|.sl 2<|v19.Writes.map zd)) O<|ai (v':=.one (.ptr<|.nm 320 0 1)) O<|ai (v':=oI v19.Tx) O<|ai (v':=.one (.ptr<|.nm 320 0 0)) O<|ai (v':=.one (.sl 320192 0 s16.2.length)) O<|ai (v':=.one (.ptr<|.nm 192 0 5)) O<|ai (v':=.one (.ptr<|.nm 320 0 0)) O<|ai (v':=.agg (jm v19)) O<|ai (v':=.one (.ptr<|.bd (zx v19) 0)) O<|ai (v':=oB (decide (s16.1 < (a1.Helds.length:Int)))) O<|ai (v':=.one (.ptr<|.nm 128 0 0)) O<|ai (v':=.one (.ptr<|.nm 192 0 0)) O<|ai (v':=.one (.d<|.sl 2<|a1.Helds.map zx)) O<|ai (v':=oI (a1.Helds.length:Int)) O<|ai (v':=oI s16.1) O aN) (av (v':=.vars 2 [dI v19.Tx,.any]) O O<|aY O<|av (v':=.vars 2 (jm v19)) O O<|av (v':=.vars 2 [dI 0,.zs]) O O<|av (v':=.vars 9 [dI 0,.zs,.zs,.zs,.zs,.zs,.zs,.zs,dI 0]) O O<|av (v':=.data 2 (List.map zx s16.2) true none) O O<|av (v':=.vars 9 [dI a1.Me,.sl 640 0 v2.length,.sl 832 0 v4.length,.sl 1024 0 v6.length,.sl 1216 0 v8.length,.sl 320192 0 s16.2.length,.sl 1408 0 v10.length,.sl 1600 0 v12.length,dI a1.Rank]) O O<|av (v':=.data 2 (v2.map zg) true none) O O<|av (v':=.data 2 (v4.map zg) true none) O O<|av (v':=.data 2 (v6.map zd) true none) O O<|av (v':=.data 4 (v8.map zo) true none) O O<|av (v':=.data 1 (v10.map zm) true none) O O<|av (v':=.data 1 (v12.map zm) true none) O O aU) aN (ai (v':=.one (.sl 2816 0 1)) O<|ai (v':=.agg [dI v19.Tx,.any]) O<|ai (v':=.one .any) O<|ai (v':=.one (.d<|.sl 2<|v19.Writes.map zd)) O<|ai (v':=.one (.ptr<|.nm 320 0 1)) O<|ai (v':=oI v19.Tx) O<|ai (v':=.one (.ptr<|.nm 320 0 0)) O<|ai (v':=.one .any) O<|ai (v':=.one (.ptr<|.nm 192 0 5)) O<|ai (v':=.one (.ptr<|.nm 320 0 0)) O<|ai (v':=.agg (jm v19)) O<|ai (v':=.one (.ptr<|.bd (zx v19) 0)) O<|ai (v':=oB (decide (s16.1 < (a1.Helds.length:Int)))) O<|ai (v':=.one (.ptr<|.nm 128 0 0)) O<|ai (v':=.one (.ptr<|.nm 192 0 0)) O<|ai (v':=.one (.d<|.sl 2<|a1.Helds.map zx)) O<|ai (v':=oI (a1.Helds.length:Int)) O<|ai (v':=oI s16.1) O aN) (av (v':=.vars 2 [dI v19.Tx,.any]) O O<|av (v':=.vars 2 (jm v19)) O O<|av (v':=.vars 2 [dI 0,.zs]) O O<|av (v':=.vars 9 [dI 0,.zs,.zs,.zs,.zs,.zs,.zs,.zs,dI 0]) O O<|aY O<|av (v':=.vars 9 [dI a1.Me,.sl 640 0 v2.length,.sl 832 0 v4.length,.sl 1024 0 v6.length,.sl 1216 0 v8.length,.any,.sl 1408 0 v10.length,.sl 1600 0 v12.length,dI a1.Rank]) O O<|av (v':=.data 2 (v2.map zg) true none) O O<|av (v':=.data 2 (v4.map zg) true none) O O<|av (v':=.data 2 (v6.map zd) true none) O O<|av (v':=.data 4 (v8.map zo) true none) O O<|av (v':=.data 1 (v10.map zm) true none) O O<|av (v':=.data 1 (v12.map zm) true none) O O aU) aN (zr<|ze (m:=5) O O<|zl<|zr<|zP (es:=[dI a1.Me,.sl 640 0 v2.length,.sl 832 0 v4.length,.sl 1024 0 v6.length,.sl 1216 0 v8.length,.sl 320192 0<|(s16.2++[zL.mk v19.Tx v21]).length,.sl 1408 0 v10.length,.sl 1600 0 v12.length,dI a1.Rank]) eZ O O O (bR O) O<|zl<|qf<|zl<|aP<|al<|ak (zH [2816,320] (kr 2 O O<|kr 3 O O<|kr 30 O O<|kr 31 O O<|kr 32 O O ar) (blR O) (ao (n:=192) O bZ O O<|ao (n:=320192) O (bR O) O O<|ao (n:=128) O (bR O) O O<|ao (n:=640) O (bR O) O O<|ao (n:=832) O (bR O) O O<|ao (n:=1024) O (bR O) O O<|ao (n:=1216) O (bR O) O O<|ao (n:=1408) O (bR O) O O<|ao (n:=1600) O (bR O) O O aj) aA) ?_)
   exact aR (qb O eC<|za eZ<|zl<|al ⟨(IntKind.wrap .i64 (s16.1+1),s16.2++[zL.mk v19.Tx v21]),H,zH [] (sR O O) (blR O) (ao O (bR O) O O<|ao O (bR O) O O<|ao O bZ O (by first|rfl|simp)<|bkR O O O) aA⟩)
  ·exact zh eZ h18 (aH<|aC<|aC<|aT<|al ⟨s16.2,H,(zH [] (sR O O) (blR O) (ao O bZ O O<|ao O (bR O) O O<|ao O (bR O) O (by first|rfl|simp)<|bkR O O O) aA).trans<|yW 320192 320128 O O (nR O) bi⟩)
theorem zbF{a1:List zj}{a2 a3:Int}{r:List zj}(H:JM a1 a2 a3=some r):Fn Tryz.prog 361 [⟨.sl 2<|a1.map zd,.g⟩,⟨.int .i64 a2,.b⟩,⟨.int .i64 a3,.b⟩] true [.sl 2 (List.map zd r)]:=by
 obtain⟨⟨h1,h2,h3,h4⟩,H⟩:=zW H
 cases H
 obtain⟨i,rfl⟩:∃i:Nat,a2=(i:Int):=⟨Int.toNat a2,by omega⟩
 obtain⟨j,rfl⟩:∃j:Nat,a3=(j:Int):=⟨Int.toNat a3,by omega⟩
 rw[Int.toNat_natCast,Int.toNat_natCast]
 refine zIP (fle O) (fC nZ O fN) O ?_
 rw[ZE]
 exact ak (t:=mk [(0,.one<|.sl 0 0 a1.length),(1,.one<|dI (i:Int)),(2,.one<|dI (j:Int))] [(0,.data 2 (a1.map zd) true none)] (lk [])) (zH (gl:=[]) [] (aF (v:=.one (.sl 0 0 a1.length)) eZ O (aK<|ba (by simp))<|aF (v:=oI (i:Int)) (eS O eZ) O bI<|aF (v:=oI (j:Int)) (eS O<|eS O eZ) O bI ar) (blR O) (ao (n:=0) O bZ O O aj) aA) (zCt (f:=zd) (zv:=zj.mk 0 0) (sz:=2) (bytes:=16) (zs:=[.int .i64 0,.int .i64 0]) (fun _=>O) O O (by omega) (by omega) (by omega))
theorem zbN{a1:List zj}{a2:Int}{a3 r:List zj}(H:ZZ a1 a2 a3=some r):Fn Tryz.prog 362 [⟨.sl 2<|a1.map zd,.g⟩,⟨.int .i64 a2,.b⟩,⟨.sl 2<|a3.map zd,.g⟩] true [.sl 2 (List.map zd r)]:=by
 obtain⟨⟨h1,h2,h3,h4⟩,H⟩:=zW H
 cases H
 obtain⟨i,rfl⟩:∃i:Nat,a2=(i:Int):=⟨Int.toNat a2,by omega⟩
 obtain⟨x,rfl⟩:=List.length_eq_one_iff.1 h3
 rw[Int.toNat_natCast]
 refine zJz (fle O) (fC nZ O<|fC nZ O fN) O ?_
 rw[ZE]
 exact ak (t:=mk [(0,.one<|.sl 0 0 a1.length),(1,.one<|dI (i:Int)),(2,.one<|.sl 128 0 1)] [(128,.data 2 (List.map zd [x]) true none),(0,.data 2 (a1.map zd) true none)] (lk [])) (zH (gl:=[]) [] (aF (v:=.one (.sl 0 0 a1.length)) eZ O (aK<|ba (by simp))<|aF (v:=oI (i:Int)) (eS O eZ) O bI<|aF (v:=.one (.sl 128 0 1)) (eS O<|eS O eZ) O (aK<|ba (by simp)) ar) (blR O) (ao (n:=128) O bZ O O<|ao (n:=0) O (bR O) O O aj) aA) (zoS (f:=zd) (zv:=zj.mk 0 0) (sz:=2) (bytes:=16) (zs:=[.int .i64 0,.int .i64 0]) (ov:=391) (sx:=392) (fun _=>O) O (by decide) (by decide) (by omega) (by omega)<|zoJ (fn:=Tryz.f391) (tS:=35) (tR:=4) (e:=196) Tryz.func391 (by kernel_rfl) (by kernel_rfl) (by kernel_rfl) (by kernel_rfl) Tryz.underlying35 (Option.some_get (by kernel_rfl:(Tryz.prog.info? 196).isSome=true)).symm)
theorem zjU{a1:(List zj)}{a2:Int}{a3:Int}{r:(List zj)}(H:KF a1 a2 a3=some r):Fn Tryz.prog 308 (lent [.sl 2 (a1.map zd),.int .i64 a2,.int .i64 a3]) true [.sl 2 (List.map zd r)]:=by
 refine ac zJ8 O ?_
 refine ak (t:=mk [(0,.one<|.d<|.sl 2<|a1.map zd),(1,oI a2),(2,oI a3)] [] (lk [])) (zf [] (sR O O) am aj) ?_
 unfold KF at H
 unfold zGT
 refine aV (za eC<|xQ<|aV<|za O<|za O ?_)
 obtain⟨v4,h5,H⟩:=zk H
 refine zF (u:=.tup [oI v4.1,oB v4.2]) eC ay (zb3 h5) (Ec O<|Ec eZ En) (Vc Vp<|Vc Vp Vn) O (za eZ<|zaM (v:=oI v4.1) eZ O<|zaM (v:=oB v4.2) O O<|za O<|za O<|xQ<|aS<|aw<|zD (fun t6:Bool=>XM a1 v4 a3 a2 t6=some r) (fun t6=>mk [(0,.one<|.d<|.sl 2<|a1.map zd),(1,oI a2),(2,oI a3),(7,oI v4.1),(8,oB v4.2),(16,oB t6)] [] (lk [])) ?_ ?_)
 ·intro t6 H
  obtain⟨h8,H⟩|⟨h8,H⟩:=aa H
  ·refine zi O h8 (aS<|zZ<|zr<|za eZ<|zl<|zr ?_)
   obtain⟨v9,h10,H⟩:=zk H
   refine j9 (u:=.one (.sl 1472 0 v9.length)) (bs:=[(1472,.data 2 (v9.map zd) true none)]) eC ay (yz h10) (Ec eZ En) (Vc Vp Vn) (by simp[jg,jD,qy,jq,qF]) O (fC nZ O<|fC nZ O fN) (zl<|zr<|za O<|zl<|zr<|za O<|zl<|zr<|qb eZ eC<|zl ?_)
   obtain⟨v11,h12,H⟩:=zk H
   refine zaV (ON:=[1472]) (ls:=[]) (G:=[1472]) (E:=[1472]) (MB:=[]) (u:=.one (.sl 1728 0 v11.length)) (bs:=[(1728,.data 2 (v11.map zd) true none)]) eC ay (zbF h12) (Ec O<|Ec O<|Ec eZ En) (bz (aL bZ lm (zI fun _=>O))<|bf Vp O<|bf Vp O bj) O O O bh (ai (v':=oI (IntKind.wrap .i64 (v4.1+1))) O<|ai (v':=oI v4.1) O<|ai (v':=oI v4.1) O<|ai (v':=.one .any) O<|ai (v':=.one (.d<|.sl 2<|a1.map zd)) O<|ai (v':=.one (.d<|.sl 2<|a1.map zd)) O<|ai (v':=oI a2) O<|ai (v':=oI a3) O<|ai (v':=oI v4.1) O<|ai (v':=oB v4.2) O<|ai (v':=oB t6) O aN) (aY O aU) aN (by simp[jg,jD,qy,jq,qF]) O (fC nZ O<|fC nZ O fN) (qf<|za eZ<|xQ<|aq<|aJ<|ax ?_)
   obtain rfl:=(Option.some.inj H)
   exact qT (aE (aM eZ) (aL bZ lm (zI fun _=>O)) aO) (by decide)
  ·refine zh O h8 (aV<|za O<|kZ eZ eC<|za eZ<|xQ ?_)
   obtain⟨h13,H⟩|⟨h13,H⟩:=ab H
   ·refine zi eZ h13 (aV<|za O ?_)
    obtain⟨v14,h15,H⟩:=zk H
    refine j9 (u:=.one (.sl 2048 0 v14.length)) (bs:=[(2048,.data 2 (v14.map zd) true none)]) eC ay (yz h15) (Ec eZ En) (Vc Vp Vn) (by simp[jg,jD,qy,jq,qF]) O (fC nZ O<|fC nZ O fN) (za eZ<|xQ<|aq<|aJ<|ax ?_)
    obtain rfl:=(Option.some.inj H)
    exact qT (aE (aM eZ) (aL bZ lm (zI fun _=>O)) aO) (by decide)
   ·refine zh eZ h13 (aV<|za O<|za eZ<|xQ ?_)
    obtain⟨h16,H⟩|⟨h16,H⟩:=aa H
    ·refine zi eZ h16 (aV<|za O ?_)
     obtain⟨v17,h18,H⟩:=zk H
     refine j9 (u:=.one (.sl 2304 0 v17.length)) (bs:=[(2304,.data 2 (v17.map zd) true none)]) eC ay (yz h18) (Ec eZ En) (Vc Vp Vn) (by simp[jg,jD,qy,jq,qF]) O (fC nZ O<|fC nZ O fN) (za eZ<|xQ<|aV<|za eZ<|za O<|za O ?_)
     obtain⟨v19,h20,H⟩:=zk H
     refine X2 O O bZ O h20 (ze (m:=1) eZ O<|yX (t:=v19) (t':=zj.mk v19.Key a3) (es:=[.int .i64 a3]) eZ O O O bZ (y7 h20) O O<|xQ<|ak (zH [] (kr 9 O O ar) (blR O) (ao (n:=2304) O bZ O O aj) aA)<|aV<|za eZ<|za eZ<|xQ<|aq<|aJ<|ax ?_)
     cases H
     exact qT (aE (aM eZ) (aL bZ (by first|(simp;done)|(simp;omega)|omega|(simp only[List.length_map];omega)) (zI fun _=>O)) aO) (by decide)
    ·refine zh eZ h16 (au<|aP<|al<|aS<|zZ<|zr<|za O<|zl<|zr ?_)
     obtain⟨v21,h22,H⟩:=zk H
     refine j9 (u:=.one (.sl 2816 0 v21.length)) (bs:=[(2816,.data 2 (v21.map zd) true none)]) eC ay (yz h22) (Ec eZ En) (Vc Vp Vn) (by simp[jg,jD,qy,jq,qF]) O (fC nZ O<|fC nZ O fN) (zl<|zr<|za O<|zl<|zr<|za O<|zl<|zr<|za O<|zl<|zr<|Xa (cs:=[dI a2,dI a3]) (qY O<|qY eZ Z5) O<|zl<|zr<|QQ (m:=3136) (q:=1) (cs:=[dI a2,dI a3]) O (qY eZ Z5) O (List.cons_ne_nil _ _) (by simp) (nR O)<|zl ?_)
     obtain⟨v23,h24,H⟩:=zk H
     refine zhP (ziG 3136 (zs:=[]) (f:=zd) (t:=zj.mk a2 a3) bZ O O) (zaV (ON:=[2816,3136]) (ls:=[]) (G:=[2816,3136]) (E:=[2816,3136]) (MB:=[]) (u:=.one (.sl 3200 0 v23.length)) (bs:=[(3200,.data 2 (v23.map zd) true none)]) eC ay (zbN h24) (Ec O<|Ec O<|Ec eZ En) (bz (aL (bR O) lm (zI fun _=>O))<|bf Vp O<|bz (aL bZ O (zI fun _=>O)) bj) O O O bh (ai (v':=.one .any) O<|ai (v':=.agg [dI a2,dI a3]) O<|ai (v':=oI a3) O<|ai (v':=oI a2) O<|ai (v':=oI v4.1) O<|ai (v':=.one .any) O<|ai (v':=.one (.d<|.sl 2<|a1.map zd)) O<|ai (v':=oB v4.2) O<|ai (v':=oB v4.2) O<|ai (v':=oB (decide (a3=(-1)))) O<|ai (v':=oB (decide (a3=(-1)))) O<|ai (v':=oI a3) O<|ai (v':=.one (.d<|.sl 2<|a1.map zd)) O<|ai (v':=oI a2) O<|ai (v':=oI a3) O<|ai (v':=oI v4.1) O<|ai (v':=oB v4.2) O<|ai (v':=oB t6) O aN) (aY O<|aY O<|aY O aU) aN (by simp[jg,jD,qy,jq,qF]) O (fC nZ O<|fC nZ O fN)<|qf<|za eZ<|xQ<|ak (zH [] (kr 6 O O ar) (blR O) (ao (n:=3200) O bZ O O aj) aA)<|aq ?_)
     obtain rfl:=(Option.some.inj H)
     exact qT (aE (aM eZ) (aL bZ lm (zI fun _=>O)) aO) (by decide)
 ·refine aR (za O<|kZ eZ eC<|za eZ ?_)
  obtain⟨h25,H⟩|⟨h25,H⟩:=zA H
  ·exact gDo eZ (dT h25) (za O<|zB O (dT h25) eZ<|za eZ<|zl<|al ⟨v4.2,H,zH [] (sR O O) am aj aA⟩)
  ·exact zb eZ (dF h25) O (zM O (dF h25) eC<|za eZ<|zl<|al ⟨false,H,zH [] (sR O O) am aj aA⟩)
theorem zfq{a1:(List zj)}{a2:(List zj)}{r:(List zj)}(H:JG a1 a2=some r):Fn Tryz.prog 241 [⟨.sl 2<|a1.map zd,.g⟩,⟨.sl 2<|a2.map zd,.b⟩] true [.sl 2 (List.map zd r)]:=by
 refine zJK (fle O) (fC nZ O fN) O ?_
 rw[ZE]
 refine ak (t:=mk [(0,.one<|.sl 0 0 a1.length),(1,.one<|.d<|.sl 2<|a2.map zd)] [(0,.data 2 (a1.map zd) true none)] (lk [])) (zH (gl:=[]) [] (aF (v:=.one (.sl 0 0 a1.length)) eZ O (aK<|ba lm)<|kv 1 (.one<|.d<|.sl 2<|a2.map zd) O O ar) (blR O) (ao (n:=0) O bZ O O aj) aA) ?_
 unfold JG at H
 unfold zHE
 refine aV (za eC<|xQ<|zD (fun t3:(List zj)=>xL t3=some r) (fun t3=>mk [(0,.one<|.sl 320128 0 t3.length)] [(320128,.data 2 (List.map zd t3) true none)] (lk [])) ?_ ?_)
 ·intro t3 H
  unfold xL at H
  refine aV (za eZ<|za eZ<|xQ<|aq ?_)
  cases H
  exact QJ (aE (aM eZ) (aL bZ lm (zI fun _=>O)) aO) (bH<|bo bt) (by decide)
 ·refine aV (za O<|zX eZ (n:=a2.length) lm<|za eC<|xQ<|aw<|aG (fun s5:((List zj)×Int)=>mk [(0,.one<|.sl 320192 0 s5.1.length),(7,.one<|.d<|.sl 2<|a2.map zd),(8,oI (a2.length:Int)),(9,oI s5.2)] [(320192,.data 2 (List.map zd s5.1) true none)] (lk [])) H ((zH [] (sR O O) (blR O) (bkR O O O) aA).trans<|yW 0 320192 O O (nR O) bi) ?_)
  intro kb6 s5 H
  unfold xr at H
  refine aV (qj O O<|xQ<|aS ?_)
  obtain⟨h7,H⟩|⟨h7,H⟩:=ab H
  ·refine zi eZ h7 (au<|al<|aS<|aw<|aV ?_)
   obtain⟨v8,h9,H⟩:=zk H
   refine qk O O h9 (qi (es:=[dI v8.Key,dI v8.Value]) eZ O<|Zn (n:=384) (m:=2) O O (nR O)<|zP (es:=[dI v8.Key,dI v8.Value]) eZ O O O bZ O<|xQ<|aR<|za O<|ze (m:=0) O O<|zn (q:=0) (c:=dI v8.Key) eZ bZ O O<|ze (m:=1) O O<|zn (q:=1) (c:=dI v8.Value) eZ bZ O O ?_)
   obtain⟨v10,h11,H⟩:=zk H
   exact j9 (u:=.one (.sl 1152 0 v10.length)) (bs:=[(1152,.data 2 (v10.map zd) true none)]) eC ay (zjU h11) (Ec O<|Ec O<|Ec eZ En) (Vc (bF (bR O) lm)<|Vc Vp<|Vc Vp Vn) (by simp[jg,jD,qy,jq,qF]) O (fC (nR O) O<|fC (nR O) O fN) (za eZ<|zl<|aP<|al<|aR<|qb O eC<|za eZ<|zl<|al ⟨(v10,IntKind.wrap .i64 (s5.2+1)),H,bN (s:=mk [(0,.one<|.sl 1152 0 v10.length),(7,.one<|.d<|.sl 2<|a2.map zd),(8,oI (a2.length:Int)),(9,oI<|IntKind.wrap .i64 (s5.2+1))] [(1152,.data 2 (v10.map zd) true none)] (lk [])) ((zH [] (sR O O) (blR O) (bkR O O O) aA).trans<|yW 1152 320192 O O (nR O) bi)<|zH [384,320192] (kr 0 O O<|kr 7 O O<|kr 8 O O<|kr 9 O O ar) (blR O) (ao (n:=1152) O bZ O O aj) aA⟩)
  ·exact zh eZ h7 (aH<|aC<|aC<|aT<|al ⟨s5.1,H,(zH [] (sR O O) (blR O) (bkR O O O) aA).trans<|yW 320192 320128 O O (nR O) bi⟩)
theorem zdd{a1:(List zj)}{a2:(List zj)}{r:((List zj)×Bool)}(H:Z2 a1 a2=some r):Fn Tryz.prog 127 (lent [.sl 2 (a1.map zd),.sl 2<|a2.map zd]) true [.sl 2 (List.map zd r.1),.bool r.2]:=by
 refine ac zJf O ?_
 refine ak (t:=mk [(0,.one<|.d<|.sl 2<|a1.map zd),(1,.one<|.d<|.sl 2<|a2.map zd)] [] (lk [])) (zf [] (sR O O) am aj) ?_
 unfold Z2 at H
 unfold zBv
 refine aV (za eC<|za eC<|xQ<|aS<|zD (fun t3:Bool=>ZH a1 a2 t3=some r) (fun t3=>mk [(0,.one<|.d<|.sl 2<|a1.map zd),(1,.one<|.d<|.sl 2<|a2.map zd),(14,oB t3)] [] (lk [])) ?_ ?_)
 ·intro t3 H
  obtain⟨h5,H⟩|⟨h5,H⟩:=aa H
  ·refine zi O h5 (aV<|za eC<|za eC<|xQ<|aq<|ax ?_)
   cases H
   exact qT (aE (aM O) bv<|aE (aM eZ) (aQ O) aO) List.nodup_nil
  ·refine zh O h5 (au<|al<|aS<|zZ<|zr<|za eZ<|zl<|zr ?_)
   obtain⟨v6,h7,H⟩:=zk H
   refine j9 (u:=.one (.sl 1024 0 v6.length)) (bs:=[(1024,.data 2 (v6.map zd) true none)]) eC ay (yz h7) (Ec eZ En) (Vc Vp Vn) (by simp[jg,jD,qy,jq,qF]) O (fC nZ O<|fC nZ O fN) (zl<|zr<|za O<|zl ?_)
   obtain⟨v8,h9,H⟩:=zk H
   refine zaV (ON:=[1024]) (ls:=[]) (G:=[1024]) (E:=[1024]) (MB:=[]) (u:=.one (.sl 1152 0 v8.length)) (bs:=[(1152,.data 2 (v8.map zd) true none)]) eC ay (zfq h9) (Ec O<|Ec eZ En) (bz (aL bZ lm (zI fun _=>O))<|bf Vp O bj) O O O bh (ai (v':=.one (.d<|.sl 2<|a2.map zd)) O<|ai (v':=.one .any) O<|ai (v':=.one (.d<|.sl 2<|a1.map zd)) O<|ai (v':=.one (.d<|.sl 2<|a1.map zd)) O<|ai (v':=.one (.d<|.sl 2<|a2.map zd)) O<|ai (v':=oB t3) O aN) (aY O aU) aN (by simp[jg,jD,qy,jq,qF]) O (fC nZ O<|fC nZ O fN) (qf<|za eZ<|xQ<|aS<|aV<|za eZ<|kT eZ<|zaC eZ eC<|xQ ?_)
   obtain⟨h10,H⟩|⟨h10,H⟩:=ab H
   ·refine zi eZ h10 (aV<|za eC<|za eC<|xQ<|aq<|ax ?_)
    cases H
    exact qT (aE (aM O) bv<|aE (aM eZ) (aQ O) aO) List.nodup_nil
   ·refine zh eZ h10 (au<|al<|aV<|za O<|za eZ<|za eC<|xQ<|aq ?_)
    cases H
    exact qT (aE (aM O) (aL bZ lm (zI fun _=>O))<|aE (aM eZ) (aQ O) aO) (by decide)
 ·refine aR (za O ?_)
  obtain⟨v11,h12,H⟩:=zk H
  refine zF (u:=oB v11) eC ay (KJ h12) (Ec eZ En) (Vc Vp Vn) O (qS eZ<|za eZ ?_)
  obtain⟨h13,H⟩|⟨h13,H⟩:=aa H
  ·refine gDo eZ (cN h13) (za O<|gDo O (cN h13) ?_)
   obtain⟨v14,h15,H⟩:=zk H
   exact zF (u:=oB v14) eC ay (X5 h15) (Ec eZ En) (Vc Vp Vn) O (gDo O (cN h13)<|qS eZ<|zM O (cN h13) eZ<|zl<|al ⟨!v14,H,zH [] (sR O O) am aj aA⟩)
  ·exact zb eZ (cN h13) O (zb O (cN h13) O<|zb O (cN h13) O<|zB O (cN h13) eC<|zl<|al ⟨true,H,zH [] (sR O O) am aj aA⟩)
theorem zbI{a1:List zL}{a2 a3:Int}{r:List zL}(H:ZQ a1 a2 a3=some r):Fn Tryz.prog 128 [⟨.sl 2<|a1.map zx,.g⟩,⟨.int .i64 a2,.b⟩,⟨.int .i64 a3,.b⟩] true [.sl 2 (List.map zx r)]:=by
 obtain⟨⟨h1,h2,h3,h4⟩,H⟩:=zW H
 cases H
 obtain⟨i,rfl⟩:∃i:Nat,a2=(i:Int):=⟨Int.toNat a2,by omega⟩
 obtain⟨j,rfl⟩:∃j:Nat,a3=(j:Int):=⟨Int.toNat a3,by omega⟩
 rw[Int.toNat_natCast,Int.toNat_natCast]
 rw[List.map_append,List.map_take,List.map_drop]
 refine zly (by omega) (by rw[List.all_map,List.all_eq_true];intro x _;rfl) fun Y hl hY=> ?_
 rw[List.length_map] at hl
 refine zJc (fle O) (fC nZ O fN) O ?_
 rw[ZE]
 refine ak (t:=mk [(0,.one<|.sl 0 0 Y.length),(1,.one<|dI (i:Int)),(2,.one<|dI (j:Int))] [(0,.data 2 Y true none)] (lk [])) (zH (gl:=[]) [] (aF (v:=.one (.sl 0 0 Y.length)) eZ O (aK<|ba O)<|aF (v:=oI (i:Int)) (eS O eZ) O bI<|aF (v:=oI (j:Int)) (eS O<|eS O eZ) O bI ar) (blR O) (ao (n:=0) O bZ O O aj) aA) ?_
 have K:=ztW (P:=Tryz.prog) (f:=fun e:List D=>e) (xs:=Y) (i:=i) (j:=j) (zv:=[.int .i64 0,.sl 2 []]) (sz:=2) (bytes:=32) (zs:=[.int .i64 0,.sl 2 []]) (by simpa using hY) O O (by omega) (by omega) (by omega)
 simp only[List.map_id'] at K
 exact K
theorem KO{a1:zC}{a2:Int}{r:Bool}(H:ye a1 a2=some r):Fn Tryz.prog 243 (lent [.agg (zo a1),.ptr<|zm a2]) true [.bool r]:=by
 refine ac zIX O ?_
 refine ak (zf [] (kv 0 (.agg<|qa a1) O O<|aF (v:=.one (.ptr<|.bd (zm a2) 0)) (eS O eZ) O (aK bq) ar) am aj) ?_
 unfold ye at H
 unfold zEL
 refine aV (yd (n:=128) (m:=4) (cs:=qa a1) O eZ O O nZ<|za eC<|xQ<|aV<|ze (m:=0) O O<|zn (q:=0) (c:=dI a1.Tx) eZ bZ O O<|zV (e:=.int .i64 a2) O O<|kZ O eZ<|za eZ<|xQ<|aq ?_)
 cases H
 exact eE O O
theorem Y6{a1:(List zC)}{a2:Int}{r:Int}(H:qH a1 a2=some r):Fn Tryz.prog 216 (lent [.sl 4 (a1.map zo),.fn 243 [.ptr (zm a2)]]) true [.int .i64 r]:=by
 refine ac f216 O ?_
 refine ak (zf [] (kv 0 (.one<|.d<|.sl 4<|a1.map zo) O O<|aF (v:=.one (.fn 243 [.bd (zm a2) 0])) (eS O eZ) O (aK<|bn (css:=[zm a2])) ar) am aj) ?_
 unfold qH at H
 unfold zlM
 refine aV (za eC<|xQ<|zD (fun t3:Unit=>jT t3=some r) (fun t3=>mk [] [] noG) ?_ ?_)
 ·intro t3 H
  unfold jT at H
  refine aV (za eC<|xQ<|aq ?_)
  cases H
  exact eE O O
 ·refine aV (za O<|zX eZ (n:=a1.length) lm<|za eC<|xQ<|aw<|aG (fun s5:Int=>mk [(0,.one<|.d<|.sl 4<|a1.map zo),(1,.one<|.fn 243 [.bd (zm a2) 0]),(7,oI (a1.length:Int)),(8,oI s5)] [] noG) H (zf [] (sR O O) am aj) ?_)
  intro kb6 s5 H
  unfold je at H
  refine aV (qj O O<|xQ<|aS ?_)
  obtain⟨h7,H⟩|⟨h7,H⟩:=ab H
  ·refine zi eZ h7 (au<|al<|aS<|aw<|aV<|za O<|za eZ<|xQ<|aV<|za O<|za O<|za O ?_)
   obtain⟨v8,h9,H⟩:=zk H
   refine qk O eZ h9 (qi (es:=qa v8) eZ O ?_)
   obtain⟨v10,h11,H⟩:=zk H
   refine zF (u:=oB v10) O ay (KO h11) (Ec eZ En) (Vc (aI O)<|Vc j3 Vn) O (xQ ?_)
   obtain⟨h12,H⟩|⟨h12,H⟩:=aa H
   ·refine zi eZ h12 (aV<|za O<|za eZ<|xQ<|aq<|aJ<|ax<|ax<|aJ<|ax ?_)
    cases H
    exact eE O O
   ·exact zh eZ h12 (au<|aP<|al<|aR<|qb O eC<|za eZ<|zl<|al ⟨IntKind.wrap .i64 (s5+1),H,zf [] (sR O O) am aj⟩)
  ·exact zh eZ h7 (aH<|aC<|aC<|aT<|al ⟨(),H,zf [] ar am aj⟩)
theorem YD{a1:(List zC)}{a2:Int}{r:(List zC)}(H:qB a1 a2=some r):Fn Tryz.prog 242 [⟨.sl 4<|a1.map zo,.g⟩,⟨.fn 243 [.ptr (zm a2)],.b⟩] true [.sl 4 (List.map zo r)]:=by
 refine zId (fle O) (fC nZ O fN) O ?_
 rw[ZE]
 refine ak (t:=mk [(0,.one<|.sl 0 0 a1.length),(1,.one<|.fn 243 [.bd (zm a2) 0])] [(0,.data 4 (a1.map zo) true none)] (lk [])) (zH (gl:=[]) [] (aF (v:=.one (.sl 0 0 a1.length)) eZ O (aK<|ba lm)<|aF (v:=.one (.fn 243 [.bd (zm a2) 0])) (eS O eZ) O (aK<|bn (css:=[zm a2])) ar) (blR O) (ao (n:=0) O bZ O O aj) aA) ?_
 unfold qB at H
 unfold zDc
 refine aV (za eC<|xQ<|aV<|za O<|za O ?_)
 obtain⟨v3,h4,H⟩:=zk H
 refine zF (u:=oI v3) eC ay (Y6 h4) (Ec O<|Ec eZ En) (Vc (bF bZ lm)<|Vc (bw<|a8 j3 bg) Vn) O (za eZ<|xQ<|aS<|aV<|za eZ<|kZ eZ eC<|xQ ?_)
 obtain⟨h5,H⟩|⟨h5,H⟩:=ab H
 ·refine zi eZ h5 (aV<|za O<|za eZ<|xQ<|aq<|ax ?_)
  cases H
  exact QJ (aE (aM eZ) (aL bZ lm (zI fun _=>O)) aO) (bH<|bo bt) (by decide)
 ·refine zh eZ h5 (au<|al<|zD (fun t6:((List zC)×Int)=>qt t6=some r) (fun t6=>mk [(0,.one<|.sl 320128 0 t6.1.length),(5,oI t6.2)] [(320128,.data 4 (List.map zo t6.1) true none)] (lk [])) ?_ ?_)
  ·intro t6 H
   unfold qt at H
   refine aV (za eZ<|za O ?_)
   obtain⟨h8,H⟩:=zW H
   refine XO (r:=Int.toNat t6.2) (s:=Int.toNat ((t6.1.length:Nat):Int) - Int.toNat t6.2) O bZ O (Bd.at eZ) Xb O O h8 ?_
   obtain⟨h9,H⟩:=zW H
   refine zhw (zv:=zC.mk 0 0 0 0) eZ bZ O O h9 (xQ<|aV<|za O<|za O ?_)
   obtain⟨h10,H⟩:=zW H
   refine XO (r:=0) (s:=Int.toNat t6.2) O bZ O Xb (Bd.at eZ) O O h10 (za eZ<|xQ<|ak (zeX 320128 (Int.toNat t6.2) bZ)<|aq ?_)
   cases H
   exact QJ (aE (aM eZ) (aL bZ (by first|(simp;done)|(simp;omega)|omega|(simp only[List.length_map];omega)) (zI fun _=>O)) aO) (bH<|bo bt) (by decide)
  ·refine aV (za O<|qb eZ eC<|za eZ<|xQ<|aw<|aG (fun s11:((List zC)×Int×Int)=>mk [(0,.one<|.sl 320192 0 s11.1.length),(1,.one<|.fn 243 [.bd (zm a2) 0]),(5,oI s11.2.1),(6,oI s11.2.2)] [(320192,.data 4 (List.map zo s11.1) true none)] (lk [])) H ((zH [] (sR O O) (blR O) (bkR O O O) aA).trans<|yW 0 320192 O O (nR O) bi) ?_)
   intro kb12 s11 H
   unfold qo at H
   refine aS (aV<|za O<|za O<|kT eZ<|qj O eZ<|xQ ?_)
   obtain⟨h13,H⟩|⟨h13,H⟩:=ab H
   ·refine zi eZ h13 (au<|al<|aS<|aw<|aV<|za O<|za O ?_)
    obtain⟨v14,h15,H⟩:=zk H
    refine X2 O eZ bZ O h15 (zmZ (t:=v14) (es:=[.int .i64 v14.Tx,.int .i64 v14.Lo,.int .i64 v14.Hi,.int .i64 v14.Mode]) (cs:=qa v14) eZ bZ (y7 h15) O O O<|Zn (n:=448) (m:=4) O O (nR O)<|zP (es:=qa v14) eZ O O O bZ O<|xQ<|aV<|za O<|zY (es:=qa v14) O bZ O ?_)
    obtain⟨v16,h17,H⟩:=zk H
    refine zF (u:=oB v16) O ay (KO h17) (Ec eZ En) (Vc (aI O)<|Vc j3 Vn) O (qS eZ<|xQ<|ak (zH [] (kr 29 O O<|kr 7 O O<|kr 0 O O<|kr 1 O O<|kr 5 O O<|kr 6 O O ar) (blR O) (ao (n:=448) O bZ O O<|ao (n:=320192) O (bR O) O O aj) aA) ?_)
    obtain⟨h18,H⟩|⟨h18,H⟩:=aa H
    ·exact zh eZ (cN h18) (au<|aP<|al<|aR<|za O<|qb eZ eC<|za eZ<|zl<|al ⟨(s11.1,s11.2.1,IntKind.wrap .i64 (s11.2.2+1)),H,zH [448] (sR O O) (blR O) (bkR O O O) aA⟩)
    ·refine zi eZ (cN h18) (aV<|za O<|za O<|zY (es:=qa v14) O bZ O ?_)
     obtain⟨v19,h20,H⟩:=zk H
     exact X2 O O (bR O) O h20 (yX (t:=v19) (t':=v14) (es:=[.int .i64 v14.Tx,.int .i64 v14.Lo,.int .i64 v14.Hi,.int .i64 v14.Mode]) eZ O O O (bR O) (y7 h20) O O<|xQ<|aR<|za O<|qb eZ eC<|za eZ<|zl<|aP<|al<|aR<|za O<|qb eZ eC<|za eZ<|zl<|al ⟨(s11.1.set (Int.toNat s11.2.1) v14,IntKind.wrap .i64 (s11.2.1+1),IntKind.wrap .i64 (s11.2.2+1)),H,zH [448] (aF O O (aK af)<|sR O O) (blR O) (bkR O O O) aA⟩)
   ·exact zh eZ h13 (aH<|aC<|aC<|aT<|al ⟨(s11.1,s11.2.1),H,(zH [] (sR O O) (blR O) (bkR O O O) aA).trans<|yW 320192 320128 O O (nR O) bi⟩)
theorem zef{a1:(List zC)}{a2:Int}{r:(List zC)}(H:Qn a1 a2=some r):Fn Tryz.prog 129 (lent [.sl 4 (a1.map zo),.int .i64 a2]) true [.sl 4 (List.map zo r)]:=by
 refine ac f129 O ?_
 refine ak (t:=mk [(0,.one<|.d<|.sl 4<|a1.map zo),(1,oI a2)] [] (lk [])) (zf [] (sR O O) am aj) ?_
 unfold Qn at H
 unfold zDd
 refine aV (yd (n:=192) (m:=1) (cs:=[dI a2]) O O O O nZ<|za eC<|xQ<|aS<|aV<|za O ?_)
 obtain⟨v3,h4,H⟩:=zk H
 refine zF (u:=oB v3) eC ay (KH h4) (Ec eZ En) (Vc Vp Vn) O (qS eZ<|xQ ?_)
 obtain⟨h5,H⟩|⟨h5,H⟩:=aa H
 ·refine zh eZ (cN h5) (au<|al<|aS<|zZ<|zr<|za O<|zl<|zr ?_)
  obtain⟨v6,h7,H⟩:=zk H
  refine j9 (u:=.one (.sl 576 0 v6.length)) (bs:=[(576,.data 4 (v6.map zo) true none)]) eC ay (Kg h7) (Ec eZ En) (Vc Vp Vn) (by simp[jg,jD,qy,jq,qF]) O (fC (nR O) O<|fC (nR O) O fN) (zl<|zr<|zer (ps:=[.nm 192 0 0]) (Ec O En)<|zl ?_)
  obtain⟨v8,h9,H⟩:=zk H
  refine zaV (ON:=[576]) (ls:=[192]) (G:=[576]) (E:=[576]) (MB:=[]) (u:=.one (.sl 704 0 v8.length)) (bs:=[(704,.data 4 (v8.map zo) true none)]) eC ay (YD h9) (Ec O<|Ec eZ En) (bz (aL bZ lm (zI fun _=>O))<|bf (bw<|a8 (xY (bR O)<|aD bc) bg) O bj) O O O bh (ai (v':=.one (.fn 243 [.nm 192 0 0])) O<|ai (v':=.one .any) O<|ai (v':=.one (.d<|.sl 4<|a1.map zo)) O<|ai (v':=oB (!v3)) O<|ai (v':=oB v3) O<|ai (v':=.one (.d<|.sl 4<|a1.map zo)) O<|ai (v':=.one .zs) O<|ai (v':=.one (.ptr<|.nm 192 0 0)) O<|ai (v':=.one (.d<|.sl 4<|a1.map zo)) O<|ai (v':=oI a2) O aN) (aY O<|av (v':=.vars 1 [dI a2]) O O aU) aN (by simp[jg,jD,qy,jq,qF]) O (fC (nR O) O<|fC (nR O) O fN) (qf<|za eZ<|xQ<|aq ?_)
  obtain rfl:=(Option.some.inj H)
  exact qT (aE (aM eZ) (aL bZ lm (zI fun _=>O)) aO) (by decide)
 ·refine zi eZ (cN h5) (aV<|za eC<|xQ<|aq<|ax ?_)
  cases H
  exact qT (aE (aM eZ) bv aO) List.nodup_nil
theorem XQ{a1:Int}{a2:Int}{r:Bool}(H:jN a1 a2=some r):Fn Tryz.prog 131 (lent [.int .i64 a1,.ptr<|zm a2]) true [.bool r]:=by
 refine ac zJg O ?_
 refine ak (zf [] (kv 0 (oI a1) O O<|aF (v:=.one (.ptr<|.bd (zm a2) 0)) (eS O eZ) O (aK bq) ar) am aj) ?_
 unfold jN at H
 unfold zG6
 refine aV (za eC<|xQ<|aV<|za O<|zV (e:=.int .i64 a2) O O<|kZ O eZ<|za eZ<|xQ<|aq ?_)
 cases H
 exact eE O O
theorem YW{a1:(List Int)}{a2:Int}{r:Int}(H:qA a1 a2=some r):Fn Tryz.prog 244 (lent [.sl 1 (a1.map zm),.fn 131 [.ptr (zm a2)]]) true [.int .i64 r]:=by
 refine ac zIw O ?_
 refine ak (zf [] (kv 0 (.one<|.d<|.sl 1<|a1.map zm) O O<|aF (v:=.one (.fn 131 [.bd (zm a2) 0])) (eS O eZ) O (aK<|bn (css:=[zm a2])) ar) am aj) ?_
 unfold qA at H
 unfold zGu
 refine aV (za eC<|xQ<|zD (fun t3:Unit=>jO t3=some r) (fun t3=>mk [] [] noG) ?_ ?_)
 ·intro t3 H
  unfold jO at H
  refine aV (za eC<|xQ<|aq ?_)
  cases H
  exact eE O O
 ·refine aV (za O<|zX eZ (n:=a1.length) lm<|za eC<|xQ<|aw<|aG (fun s5:Int=>mk [(0,.one<|.d<|.sl 1<|a1.map zm),(1,.one<|.fn 131 [.bd (zm a2) 0]),(7,oI (a1.length:Int)),(8,oI s5)] [] noG) H (zf [] (sR O O) am aj) ?_)
  intro kb6 s5 H
  unfold qX at H
  refine aV (qj O O<|xQ<|aS ?_)
  obtain⟨h7,H⟩|⟨h7,H⟩:=ab H
  ·refine zi eZ h7 (au<|al<|aS<|aw<|aV<|za O<|za eZ<|xQ<|aV<|za O<|za O<|za O ?_)
   obtain⟨v8,h9,H⟩:=zk H
   refine qk O eZ h9 (zV (e:=.int .i64 v8) eZ O ?_)
   obtain⟨v10,h11,H⟩:=zk H
   refine zF (u:=oB v10) O ay (XQ h11) (Ec eZ En) (Vc Vp<|Vc j3 Vn) O (xQ ?_)
   obtain⟨h12,H⟩|⟨h12,H⟩:=aa H
   ·refine zi eZ h12 (aV<|za O<|za eZ<|xQ<|aq<|aJ<|ax<|ax<|aJ<|ax ?_)
    cases H
    exact eE O O
   ·exact zh eZ h12 (au<|aP<|al<|aR<|qb O eC<|za eZ<|zl<|al ⟨IntKind.wrap .i64 (s5+1),H,zf [] (sR O O) am aj⟩)
  ·exact zh eZ h7 (aH<|aC<|aC<|aT<|al ⟨(),H,zf [] ar am aj⟩)
theorem JP{a1:(List Int)}{a2:Int}{r:(List Int)}(H:qx a1 a2=some r):Fn Tryz.prog 130 [⟨.sl 1<|a1.map zm,.g⟩,⟨.fn 131 [.ptr (zm a2)],.b⟩] true [.sl 1 (List.map zm r)]:=by
 refine zJx (fle O) (fC nZ O fN) O ?_
 rw[ZE]
 refine ak (t:=mk [(0,.one<|.sl 0 0 a1.length),(1,.one<|.fn 131 [.bd (zm a2) 0])] [(0,.data 1 (a1.map zm) true none)] (lk [])) (zH (gl:=[]) [] (aF (v:=.one (.sl 0 0 a1.length)) eZ O (aK<|ba lm)<|aF (v:=.one (.fn 131 [.bd (zm a2) 0])) (eS O eZ) O (aK<|bn (css:=[zm a2])) ar) (blR O) (ao (n:=0) O bZ O O aj) aA) ?_
 unfold qx at H
 unfold zHC
 refine aV (za eC<|xQ<|aV<|za O<|za O ?_)
 obtain⟨v3,h4,H⟩:=zk H
 refine zF (u:=oI v3) eC ay (YW h4) (Ec O<|Ec eZ En) (Vc (bF bZ lm)<|Vc (bw<|a8 j3 bg) Vn) O (za eZ<|xQ<|aS<|aV<|za eZ<|kZ eZ eC<|xQ ?_)
 obtain⟨h5,H⟩|⟨h5,H⟩:=ab H
 ·refine zi eZ h5 (aV<|za O<|za eZ<|xQ<|aq<|ax ?_)
  cases H
  exact QJ (aE (aM eZ) (aL bZ lm (zI fun _=>O)) aO) (bH<|bo bt) (by decide)
 ·refine zh eZ h5 (au<|al<|zD (fun t6:((List Int)×Int)=>qq t6=some r) (fun t6=>mk [(0,.one<|.sl 320128 0 t6.1.length),(5,oI t6.2)] [(320128,.data 1 (List.map zm t6.1) true none)] (lk [])) ?_ ?_)
  ·intro t6 H
   unfold qq at H
   refine aV (za eZ<|za O ?_)
   obtain⟨h8,H⟩:=zW H
   refine XO (r:=Int.toNat t6.2) (s:=Int.toNat ((t6.1.length:Nat):Int) - Int.toNat t6.2) O bZ O (Bd.at eZ) Xb O O h8 ?_
   obtain⟨h9,H⟩:=zW H
   refine zhw (zv:=0) eZ bZ O O h9 (xQ<|aV<|za O<|za O ?_)
   obtain⟨h10,H⟩:=zW H
   refine XO (r:=0) (s:=Int.toNat t6.2) O bZ O Xb (Bd.at eZ) O O h10 (za eZ<|xQ<|ak (zeX 320128 (Int.toNat t6.2) bZ)<|aq ?_)
   cases H
   exact QJ (aE (aM eZ) (aL bZ (by first|(simp;done)|(simp;omega)|omega|(simp only[List.length_map];omega)) (zI fun _=>O)) aO) (bH<|bo bt) (by decide)
  ·refine aV (za O<|qb eZ eC<|za eZ<|xQ<|aw<|aG (fun s11:((List Int)×Int×Int)=>mk [(0,.one<|.sl 320192 0 s11.1.length),(1,.one<|.fn 131 [.bd (zm a2) 0]),(5,oI s11.2.1),(6,oI s11.2.2)] [(320192,.data 1 (List.map zm s11.1) true none)] (lk [])) H ((zH [] (sR O O) (blR O) (bkR O O O) aA).trans<|yW 0 320192 O O (nR O) bi) ?_)
   intro kb12 s11 H
   unfold qm at H
   refine aS (aV<|za O<|za O<|kT eZ<|qj O eZ<|xQ ?_)
   obtain⟨h13,H⟩|⟨h13,H⟩:=ab H
   ·refine zi eZ h13 (au<|al<|aS<|aw<|aV<|za O<|za O ?_)
    obtain⟨v14,h15,H⟩:=zk H
    refine X2 O eZ bZ O h15 (zvM (t:=v14) (e:=.int .i64 v14) eZ bZ (y7 h15) O O<|za eZ<|xQ<|aV<|za O<|za O ?_)
    obtain⟨v16,h17,H⟩:=zk H
    refine zF (u:=oB v16) O ay (XQ h17) (Ec eZ En) (Vc Vp<|Vc j3 Vn) O (qS eZ<|xQ<|ak (zH [] (kr 29 O O<|kr 7 O O<|kr 0 O O<|kr 1 O O<|kr 5 O O<|kr 6 O O ar) (blR O) (ao (n:=320192) O bZ O O aj) aA) ?_)
    obtain⟨h18,H⟩|⟨h18,H⟩:=aa H
    ·exact zh eZ (cN h18) (au<|aP<|al<|aR<|za O<|qb eZ eC<|za eZ<|zl<|al ⟨(s11.1,s11.2.1,IntKind.wrap .i64 (s11.2.2+1)),H,zH [] (sR O O) (blR O) (bkR O O O) aA⟩)
    ·refine zi eZ (cN h18) (aV<|za O<|za O<|za O ?_)
     obtain⟨v19,h20,H⟩:=zk H
     exact X2 O O bZ O h20 (yX (t:=v19) (t':=v14) (es:=[.int .i64 v14]) eZ O O O bZ (y7 h20) O O<|xQ<|aR<|za O<|qb eZ eC<|za eZ<|zl<|aP<|al<|aR<|za O<|qb eZ eC<|za eZ<|zl<|al ⟨(s11.1.set (Int.toNat s11.2.1) v14,IntKind.wrap .i64 (s11.2.1+1),IntKind.wrap .i64 (s11.2.2+1)),H,zH [] (aF O O (aK af)<|sR O O) (blR O) (bkR O O O) aA⟩)
   ·exact zh eZ h13 (aH<|aC<|aC<|aT<|al ⟨(s11.1,s11.2.1),H,(zH [] (sR O O) (blR O) (bkR O O O) aA).trans<|yW 320192 320128 O O (nR O) bi⟩)
theorem zbl{a1:Int}{r:Bool}(H:Q4 a1=some r):Fn Tryz.prog 363 (lent [.int .i64 a1]) true [.bool r]:=by
 refine ac zI2 O ?_
 refine ak (zf [] (kv 0 (oI a1) O O ar) am aj) ?_
 unfold Q4 at H
 unfold zC0
 refine aV (za eC<|xQ<|aV<|za O<|za O<|ZK O eZ<|za eZ<|xQ<|aq ?_)
 cases H
 exact eE O O
theorem zfM{a1:Int}{a2:Int}{r:Bool}(H:J4 a1 a2=some r):Fn Tryz.prog 309 (lent [.int .i64 a1,.int .i64 a2]) true [.bool r]:=by
 refine ac zIl O ?_
 refine ak (zf [] (kv 0 (oI a1) O O<|kv 1 (oI a2) O O ar) am aj) ?_
 unfold J4 at H
 unfold zCH
 refine aV (za eC<|xQ<|aV<|za O ?_)
 obtain⟨v3,h4,H⟩:=zk H
 refine zF (u:=oB v3) eC ay (zbl h4) (Ec eZ En) (Vc Vp Vn) O (za eZ ?_)
 obtain⟨h5,H⟩|⟨h5,H⟩:=aa H
 ·refine gDo eZ h5 (za O<|gDo O h5 ?_)
  obtain⟨v6,h7,H⟩:=zk H
  refine zF (u:=oB v6) eC ay (zbl h7) (Ec eZ En) (Vc Vp Vn) O (gDo O h5<|qS eZ<|zB O h5 eZ<|za eZ ?_)
  obtain⟨h8,H⟩|⟨h8,H⟩:=aa H
  ·refine gDo eZ (cN h8) (za O<|gDo O (cN h8)<|za O<|gDo O (cN h8)<|qj O eZ<|zM O (cN h8) eZ<|za eZ<|xQ<|ak (zf [] (kr 4 O O ar) am aj)<|aq ?_)
   cases H
   exact eE O O
  ·refine zb eZ (cN h8) O (zb O (cN h8) O<|zb O (cN h8) O<|zB O (cN h8) eC<|za eZ<|xQ<|ak (zf [] (kr 4 O O ar) am aj)<|aq ?_)
   cases H
   exact eE O O
 ·refine zb eZ h5 O (zb O h5 O<|zb O h5 O<|zM O h5 eC<|za eZ<|gDo eZ O<|za O<|gDo O O<|za O<|gDo O O<|qj O eZ<|zM O O eZ<|za eZ<|xQ<|ak (zf [] (kr 4 O O ar) am aj)<|aq ?_)
  cases H
  exact eE O O
theorem Kz{a1:Int}{r:Bool}(H:ZD a1=some r):Fn Tryz.prog 310 (lent [.int .i64 a1]) true [.bool r]:=by
 refine ac zIS O ?_
 refine ak (zf [] (kv 0 (oI a1) O O ar) am aj) ?_
 unfold ZD at H
 unfold zD8
 refine aV (za eC<|xQ<|aV<|za O<|za O<|ZK O eZ<|za eZ<|xQ<|aq ?_)
 cases H
 exact eE O O
end Go.AW
