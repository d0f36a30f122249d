/- That functions of the program compute what the plain functions say. Conditions: each theorem's own. -/
import Derived.Test.YtpabbbmfcgnhdaaGreatMShardDecide
import Derived.Test.YtpabbbmfcgnhdaaGreatGShardDecide
import Derived.Test.YtpabbbmfcgnhdaaGreatYn
import Derived.Test.YtpabbbmfcgnhdaaGreatSShardDecide
import Derived.Test.YtpabbbmfcgnhdaaGreatYt
import Derived.KernelRfl
import Derived.Test.YtpabbbmfcgnhdaaGreatDShardDecidea
set_option linter.unusedVariables false
set_option linter.unusedSimpArgs false
set_option maxRecDepth 100000
namespace Go.AW
open Go.Proofs
theorem zfF{a1:zp}{r:Bool}(H:J6 a1=some r):Fn Tryz.prog 115 (lent [.agg (zT a1)]) true [.bool r]:=by
 refine ac zIy O ?_
 refine ak (zf [] (kv 0 (.agg<|zK a1) O O ar) am aj) ?_
 unfold J6 at H
 unfold zF6
 refine aV (yd (n:=64) (m:=9) (cs:=zK a1) O eZ O O nZ<|za eC<|xQ<|aS<|zD (fun t2:Bool=>jR a1 t2=some r) (fun t2=>mk [(1,.one<|.ptr<|.nm 64 0 0),(41,oB t2)] [(64,.vars 9<|zK a1)] noG) ?_ ?_)
 ·intro t2 H
  obtain⟨h4,H⟩|⟨h4,H⟩:=aa H
  ·refine zi O h4 (aV<|za eC<|xQ<|aq<|ax ?_)
   cases H
   exact eE O O
  ·refine zh O h4 (au<|al<|aS<|zD (fun t5:Bool=>jQ a1 t5=some r) (fun t5=>mk [(1,.one<|.ptr<|.nm 64 0 0),(69,oB t5)] [(64,.vars 9<|zK a1)] noG) ?_ ?_)
   ·intro t5 H
    obtain⟨h7,H⟩|⟨h7,H⟩:=aa H
    ·refine zi O h7 (aV<|za eC<|xQ<|aq<|ax ?_)
     cases H
     exact eE O O
    ·refine zh O h7 (au<|al<|zD (fun t8:Unit=>Q1 a1 t8=some r) (fun t8=>mk [(1,.one<|.ptr<|.nm 64 0 0)] [(64,.vars 9<|zK a1)] noG) ?_ ?_)
     ·intro t8 H
      unfold Q1 at H
      refine zD (fun t10:Unit=>QB a1 t10=some r) (fun t10=>mk [(1,.one<|.ptr<|.nm 64 0 0)] [(64,.vars 9<|zK a1)] noG) ?_ ?_
      ·intro t10 H
       unfold QB at H
       refine zD (fun t12:Unit=>Qh a1 t12=some r) (fun t12=>mk [(1,.one<|.ptr<|.nm 64 0 0)] [(64,.vars 9<|zK a1)] noG) ?_ ?_
       ·intro t12 H
        unfold Qh at H
        refine zD (fun t14:Unit=>QA a1 t14=some r) (fun t14=>mk [(1,.one<|.ptr<|.nm 64 0 0)] [(64,.vars 9<|zK a1)] noG) ?_ ?_
        ·intro t14 H
         unfold QA at H
         refine aS (aX<|zY (es:=zK a1) eZ bZ O ?_)
         obtain⟨v16,h17,H⟩:=zk H
         refine zF (u:=oB v16) eC ay (zdr h17) (Ec eZ En) (Vc (aI O) Vn) O (za eZ ?_)
         obtain⟨h18,H⟩|⟨h18,H⟩:=aa H
         ·refine gDo eZ h18 (ze (m:=3) O O<|gDo O h18<|zn (q:=3) (c:=.d (.sl 2<|a1.Cells.map zd)) eZ (hB O bZ) O O<|gDo O h18<|zX eZ (n:=a1.Cells.length) lm<|gDo O h18<|zY (es:=zK a1) O bZ O<|gDo O h18 ?_)
          obtain⟨v19,h20,H⟩:=zk H
          refine zF (u:=oI v19) eC ay (zgD h20) (Ec eZ En) (Vc (aI O) Vn) O (gDo O h18<|qb O eZ<|gDo O h18<|zbE eZ eC<|zB O h18 eZ<|za eZ<|xQ<|aq ?_)
          cases H
          exact eE O O
         ·refine zb eZ h18 O (zb O h18 O<|zb O h18 O<|zb O h18 O<|zb O h18 O<|zb O h18 O<|zb O h18 O<|zM O h18 eC<|za eZ<|xQ<|aq ?_)
          cases H
          exact eE O O
        ·refine aV (za eC<|xQ<|aw<|aG (fun s21:Int=>mk [(1,.one<|.ptr<|.nm 64 0 0),(7,oI s21)] [(64,.vars 9<|zK a1)] noG) H (zf [] (sR O O) (blR O)<|bkR O O O) ?_)
         intro kb22 s21 H
         unfold Yv at H
         refine aS (aV<|za O<|ze (m:=6) O O<|zn (q:=6) (c:=.d (.sl 1<|a1.Wounded.map zm)) eZ bZ O O<|zX eZ (n:=a1.Wounded.length) lm<|qj O eZ<|xQ ?_)
         obtain⟨h23,H⟩|⟨h23,H⟩:=zA H
         ·refine zi eZ (dT h23) (au<|al<|aS<|aw<|aS<|aX<|ze (m:=7) O O<|zn (q:=7) (c:=.d (.sl 1<|a1.Ended.map zm)) eZ bZ O O<|ze (m:=6) O O<|zn (q:=6) (c:=.d (.sl 1<|a1.Wounded.map zm)) eZ bZ O O<|za O ?_)
          obtain⟨v24,h25,H⟩:=zk H
          refine qk O eZ h25 (zV (e:=.int .i64 v24) eZ O ?_)
          obtain⟨v26,h27,H⟩:=zk H
          refine zF (u:=oB v26) eC ay (Jl h27) (Ec O<|Ec eZ En) (Vc Vp<|Vc Vp Vn) O (xQ ?_)
          obtain⟨h28,H⟩|⟨h28,H⟩:=zA H
          ·refine zi eZ h28 (aV<|za eC<|xQ<|ak (zf [64] (kr 2 O O ar) (blR O) aj)<|aq<|aJ<|ax<|ax<|aJ<|ax ?_)
           cases H
           exact eE O O
          ·exact zh eZ (nt h28) (au<|aP<|al<|aR<|za O<|qb eZ eC<|za eZ<|zl<|al ⟨IntKind.wrap .i64 (s21+1),H,zf [] (sR O O) (blR O)<|bkR O O O⟩)
         ·exact zh eZ (dF h23) (aH<|aC<|aC<|aT<|al ⟨(),H,zf [] (sR O O) (blR O)<|bkR O O O⟩)
       ·refine aV (za eC<|xQ<|aw<|aG (fun s29:Int=>mk [(1,.one<|.ptr<|.nm 64 0 0),(5,oI s29)] [(64,.vars 9<|zK a1)] noG) H (zf [] (sR O O) (blR O)<|bkR O O O) ?_)
        intro kb30 s29 H
        unfold Yp at H
        refine aS (aV<|za O<|ze (m:=4) O O<|zn (q:=4) (c:=.d (.sl 4<|a1.Locks.map zo)) eZ bZ O O<|zX eZ (n:=a1.Locks.length) lm<|qj O eZ<|xQ ?_)
        obtain⟨h31,H⟩|⟨h31,H⟩:=zA H
        ·refine zi eZ (dT h31) (au<|al<|aS<|aw<|aV<|ze (m:=4) O O<|zn (q:=4) (c:=.d (.sl 4<|a1.Locks.map zo)) eZ bZ O O<|za O ?_)
         obtain⟨v32,h33,H⟩:=zk H
         refine qk O eZ h33 (qi (es:=qa v32) eZ O<|Zn (n:=384) (m:=4) O O (nR O)<|zP (es:=qa v32) eZ O O O bZ O<|xQ<|zD (fun t34:Bool=>Zl kb30 s29 t34=some r) (fun t34=>mk [(1,.one<|.ptr<|.nm 64 0 0),(5,oI s29),(135,oB t34)] [(64,.vars 9<|zK a1)] noG) ?_ ?_)
         ·intro t34 H
          obtain⟨h36,H⟩|⟨h36,H⟩:=zA H
          ·refine zi O h36 (aV<|za eC<|xQ<|aq<|aJ<|ax<|ax<|aJ<|ax ?_)
           cases H
           exact eE O O
          ·exact zh O (nt h36) (au<|aP<|al<|aR<|za O<|qb eZ eC<|za eZ<|zl<|al ⟨IntKind.wrap .i64 (s29+1),H,zf [] (sR O O) (blR O)<|bkR O O O⟩)
         ·refine aX (ze (m:=1) O O<|zn (q:=1) (c:=.d (.sl 2<|a1.Own.map zg)) eZ (hB O<|bR O) O O<|zY (es:=qa v32) O bZ O ?_)
          obtain⟨v37,h38,H⟩:=zk H
          refine zF (u:=.agg [dI v37.Lo,dI v37.Hi]) eC ay (Q9 h38) (Ec eZ En) (Vc (aI O) Vn) O ?_
          obtain⟨v39,h40,H⟩:=zk H
          refine zF (u:=oB v39) eC ay (kJ h40) (Ec O<|Ec eZ En) (Vc Vp<|Vc (aI O) Vn) O (qS eZ<|za eZ ?_)
          obtain⟨h41,H⟩|⟨h41,H⟩:=zA H
          ·refine gDo eZ (cN h41) (ze (m:=6) O O<|gDo O (cN h41)<|zn (q:=6) (c:=.d (.sl 1<|a1.Wounded.map zm)) eZ (bR O) O O<|gDo O (cN h41)<|ze (m:=0) O O<|gDo O (cN h41)<|zn (q:=0) (c:=dI v32.Tx) eZ bZ O O<|gDo O (cN h41) ?_)
           obtain⟨v42,h43,H⟩:=zk H
           refine zF (u:=oB v42) eC ay (Jl h43) (Ec O<|Ec eZ En) (Vc Vp<|Vc Vp Vn) O (zM O (cN h41) eZ<|za eZ ?_)
           obtain⟨h44,H⟩|⟨h44,H⟩:=zA H
           ·exact zb eZ h44 O (zb O h44 O<|zb O h44 O<|zb O h44 O<|zb O h44 O<|zB O h44 eC<|zl<|al ⟨true,H,zf [384] (sR O O) (blR O)<|bkR O O O⟩)
           ·refine gDo eZ (nt h44) (ze (m:=7) O O<|gDo O (nt h44)<|zn (q:=7) (c:=.d (.sl 1<|a1.Ended.map zm)) eZ (bR O) O O<|gDo O (nt h44)<|ze (m:=0) O O<|gDo O (nt h44)<|zn (q:=0) (c:=dI v32.Tx) eZ bZ O O<|gDo O (nt h44) ?_)
            obtain⟨v45,h46,H⟩:=zk H
            exact zF (u:=oB v45) eC ay (Jl h46) (Ec O<|Ec eZ En) (Vc Vp<|Vc Vp Vn) O (zM O (nt h44) eZ<|zl<|al ⟨v45,H,zf [384] (sR O O) (blR O)<|bkR O O O⟩)
          ·exact zb eZ (cN<|nt h41) O (zb O (cN<|nt h41) O<|zb O (cN<|nt h41) O<|zb O (cN<|nt h41) O<|zb O (cN<|nt h41) O<|zB O (cN<|nt h41) eC<|za eZ<|zb eZ O O<|zb O O O<|zb O O O<|zb O O O<|zb O O O<|zB O O eC<|zl<|al ⟨true,H,zf [384] (sR O O) (blR O)<|bkR O O O⟩)
        ·exact zh eZ (dF h31) (aH<|aC<|aC<|aT<|al ⟨(),H,zf [] (sR O O) (blR O)<|bkR O O O⟩)
      ·refine aV (za eC<|xQ<|aw<|aG (fun s47:Int=>mk [(1,.one<|.ptr<|.nm 64 0 0),(4,oI s47)] [(64,.vars 9<|zK a1)] noG) H (zf [] (sR O O) (blR O)<|bkR O O O) ?_)
       intro kb48 s47 H
       unfold Yt at H
       refine aS (aV<|za O<|ze (m:=3) O O<|zn (q:=3) (c:=.d (.sl 2<|a1.Cells.map zd)) eZ bZ O O<|zX eZ (n:=a1.Cells.length) lm<|qj O eZ<|xQ ?_)
       obtain⟨h49,H⟩|⟨h49,H⟩:=zA H
       ·refine zi eZ (dT h49) (au<|al<|aS<|aw<|aS<|aX<|ze (m:=1) O O<|zn (q:=1) (c:=.d (.sl 2<|a1.Own.map zg)) eZ (hB O bZ) O O<|ze (m:=3) O O<|zn (q:=3) (c:=.d (.sl 2<|a1.Cells.map zd)) eZ bZ O O<|za O ?_)
        obtain⟨v50,h51,H⟩:=zk H
        refine qk O eZ h51 (z7 (m:=0) eZ O<|zV (e:=.int .i64 v50.Key) eZ O ?_)
        obtain⟨v52,h53,H⟩:=zk H
        refine zF (u:=.agg [dI v52.Lo,dI v52.Hi]) eC ay (zcm h53) (Ec eZ En) (Vc Vp Vn) O ?_
        obtain⟨v54,h55,H⟩:=zk H
        refine zF (u:=oB v54) eC ay (kJ h55) (Ec O<|Ec eZ En) (Vc Vp<|Vc (aI O) Vn) O (qS eZ<|xQ<|ak (zf [] (kr 103 O O<|kr 1 O O<|kr 4 O O ar) (blR O)<|ao (n:=64) O bZ O O aj) ?_)
        obtain⟨h56,H⟩|⟨h56,H⟩:=zA H
        ·exact zh eZ (cN h56) (au<|aP<|al<|aR<|za O<|qb eZ eC<|za eZ<|zl<|al ⟨IntKind.wrap .i64 (s47+1),H,zf [] (sR O O) (blR O)<|bkR O O O⟩)
        ·refine zi eZ (cN<|nt h56) (aV<|za eC<|xQ<|aq<|aJ<|ax<|ax<|aJ<|ax ?_)
         cases H
         exact eE O O
       ·exact zh eZ (dF h49) (aH<|aC<|aC<|aT<|al ⟨(),H,zf [] (sR O O) (blR O)<|bkR O O O⟩)
     ·refine aV (za eC<|xQ<|aw<|aG (fun s57:Int=>mk [(1,.one<|.ptr<|.nm 64 0 0),(3,oI s57)] [(64,.vars 9<|zK a1)] noG) H (zf [] (sR O O) (blR O)<|bkR O O O) ?_)
      intro kb58 s57 H
      unfold YM at H
      refine aS (aV<|za O<|ze (m:=2) O O<|zn (q:=2) (c:=.d (.sl 2<|a1.Frozen.map zg)) eZ bZ O O<|zX eZ (n:=a1.Frozen.length) lm<|qj O eZ<|xQ ?_)
      obtain⟨h59,H⟩|⟨h59,H⟩:=zA H
      ·refine zi eZ (dT h59) (au<|al<|aS<|aw<|aS<|aX<|ze (m:=1) O O<|zn (q:=1) (c:=.d (.sl 2<|a1.Own.map zg)) eZ bZ O O<|ze (m:=2) O O<|zn (q:=2) (c:=.d (.sl 2<|a1.Frozen.map zg)) eZ bZ O O<|za O ?_)
       obtain⟨v60,h61,H⟩:=zk H
       refine qk O eZ h61 (qi (es:=[dI v60.Lo,dI v60.Hi]) eZ O ?_)
       obtain⟨v62,h63,H⟩:=zk H
       refine zF (u:=oB v62) eC ay (kJ h63) (Ec O<|Ec eZ En) (Vc Vp<|Vc (aI O) Vn) O (qS eZ<|xQ<|ak (zf [] (kr 85 O O<|kr 1 O O<|kr 3 O O ar) (blR O)<|ao (n:=64) O bZ O O aj) ?_)
       obtain⟨h64,H⟩|⟨h64,H⟩:=zA H
       ·exact zh eZ (cN h64) (au<|aP<|al<|aR<|za O<|qb eZ eC<|za eZ<|zl<|al ⟨IntKind.wrap .i64 (s57+1),H,zf [] (sR O O) (blR O)<|bkR O O O⟩)
       ·refine zi eZ (cN<|nt h64) (aV<|za eC<|xQ<|aq<|aJ<|ax<|ax<|aJ<|ax ?_)
        cases H
        exact eE O O
      ·exact zh eZ (dF h59) (aH<|aC<|aC<|aT<|al ⟨(),H,zf [] (sR O O) (blR O)<|bkR O O O⟩)
   ·refine aR (ze (m:=5) eZ O<|zn (q:=5) (c:=.d (.sl 2<|a1.Helds.map zx)) eZ bZ O O<|zX eZ (n:=a1.Helds.length) lm<|zaC eZ eC<|za eZ ?_)
    obtain⟨h65,H⟩|⟨h65,H⟩:=zA H
    ·exact zb eZ (dT h65) O (zb O (dT h65) O<|zb O (dT h65) O<|zb O (dT h65) O<|zB O (dT h65) eC<|za eZ<|zb eZ O O<|zb O O O<|zb O O O<|zb O O O<|zB O O eC<|za eZ<|zb eZ O O<|zb O O O<|zb O O O<|zb O O O<|zB O O eC<|za eZ<|zb eZ O O<|zb O O O<|zb O O O<|zb O O O<|zB O O eC<|zl<|al ⟨true,H,zf [] (sR O O) (blR O)<|bkR O O O⟩)
    ·refine gDo eZ (dF h65) (ze (m:=6) O O<|gDo O (dF h65)<|zn (q:=6) (c:=.d (.sl 1<|a1.Wounded.map zm)) eZ bZ O O<|gDo O (dF h65)<|zX eZ (n:=a1.Wounded.length) lm<|gDo O (dF h65)<|zaC eZ eC<|zM O (dF h65) eZ<|za eZ ?_)
     obtain⟨h66,H⟩|⟨h66,H⟩:=zA H
     ·exact zb eZ (dT h66) O (zb O (dT h66) O<|zb O (dT h66) O<|zb O (dT h66) O<|zB O (dT h66) eC<|za eZ<|zb eZ O O<|zb O O O<|zb O O O<|zb O O O<|zB O O eC<|za eZ<|zb eZ O O<|zb O O O<|zb O O O<|zb O O O<|zB O O eC<|zl<|al ⟨true,H,zf [] (sR O O) (blR O)<|bkR O O O⟩)
     ·refine gDo eZ (dF h66) (ze (m:=7) O O<|gDo O (dF h66)<|zn (q:=7) (c:=.d (.sl 1<|a1.Ended.map zm)) eZ bZ O O<|gDo O (dF h66)<|zX eZ (n:=a1.Ended.length) lm<|gDo O (dF h66)<|zaC eZ eC<|zM O (dF h66) eZ<|za eZ ?_)
      obtain⟨h67,H⟩|⟨h67,H⟩:=zA H
      ·exact zb eZ (dT h67) O (zb O (dT h67) O<|zb O (dT h67) O<|zb O (dT h67) O<|zB O (dT h67) eC<|za eZ<|zb eZ O O<|zb O O O<|zb O O O<|zb O O O<|zB O O eC<|zl<|al ⟨true,H,zf [] (sR O O) (blR O)<|bkR O O O⟩)
      ·refine gDo eZ (dF h67) (ze (m:=6) O O<|gDo O (dF h67)<|zn (q:=6) (c:=.d (.sl 1<|a1.Wounded.map zm)) eZ bZ O O<|gDo O (dF h67) ?_)
       obtain⟨v68,h69,H⟩:=zk H
       refine zF (u:=oB v68) eC ay (zcx h69) (Ec eZ En) (Vc Vp Vn) O (gDo O (dF h67)<|qS eZ<|zM O (dF h67) eZ<|za eZ ?_)
       obtain⟨h70,H⟩|⟨h70,H⟩:=zA H
       ·refine gDo eZ (cN h70) (ze (m:=7) O O<|gDo O (cN h70)<|zn (q:=7) (c:=.d (.sl 1<|a1.Ended.map zm)) eZ bZ O O<|gDo O (cN h70) ?_)
        obtain⟨v71,h72,H⟩:=zk H
        exact zF (u:=oB v71) eC ay (zcx h72) (Ec eZ En) (Vc Vp Vn) O (gDo O (cN h70)<|qS eZ<|zM O (cN h70) eZ<|zl<|al ⟨!v71,H,zf [] (sR O O) (blR O)<|bkR O O O⟩)
       ·exact zb eZ (cN<|nt h70) O (zb O (cN<|nt h70) O<|zb O (cN<|nt h70) O<|zb O (cN<|nt h70) O<|zB O (cN<|nt h70) eC<|zl<|al ⟨true,H,zf [] (sR O O) (blR O)<|bkR O O O⟩)
 ·refine aR (ze (m:=0) O O<|zn (q:=0) (c:=dI a1.Me) eZ bZ O O ?_)
  obtain⟨v73,h74,H⟩:=zk H
  refine zF (u:=oB v73) eC ay (kh h74) (Ec eZ<|Ec eC<|Ec eC En) (Vc Vp<|Vc Vp<|Vc Vp Vn) O (qS eZ<|za eZ ?_)
  obtain⟨h75,H⟩|⟨h75,H⟩:=zA H
  ·refine gDo eZ (cN h75) (ze (m:=1) O O<|gDo O (cN h75)<|zn (q:=1) (c:=.d (.sl 2<|a1.Own.map zg)) eZ bZ O O<|gDo O (cN h75) ?_)
   obtain⟨v76,h77,H⟩:=zk H
   refine zF (u:=oB v76) eC ay (X6 h77) (Ec eZ En) (Vc Vp Vn) O (gDo O (cN h75)<|qS eZ<|zM O (cN h75) eZ<|za eZ ?_)
   obtain⟨h78,H⟩|⟨h78,H⟩:=zA H
   ·refine gDo eZ (cN h78) (ze (m:=2) O O<|gDo O (cN h78)<|zn (q:=2) (c:=.d (.sl 2<|a1.Frozen.map zg)) eZ bZ O O<|gDo O (cN h78) ?_)
    obtain⟨v79,h80,H⟩:=zk H
    refine zF (u:=oB v79) eC ay (X6 h80) (Ec eZ En) (Vc Vp Vn) O (gDo O (cN h78)<|qS eZ<|zM O (cN h78) eZ<|za eZ ?_)
    obtain⟨h81,H⟩|⟨h81,H⟩:=zA H
    ·refine gDo eZ (cN h81) (ze (m:=3) O O<|gDo O (cN h81)<|zn (q:=3) (c:=.d (.sl 2<|a1.Cells.map zd)) eZ bZ O O<|gDo O (cN h81) ?_)
     obtain⟨v82,h83,H⟩:=zk H
     refine zF (u:=oB v82) eC ay (K3 h83) (Ec eZ En) (Vc Vp Vn) O (gDo O (cN h81)<|qS eZ<|zM O (cN h81) eZ<|za eZ ?_)
     obtain⟨h84,H⟩|⟨h84,H⟩:=zA H
     ·refine gDo eZ (cN h84) (ze (m:=4) O O<|gDo O (cN h84)<|zn (q:=4) (c:=.d (.sl 4<|a1.Locks.map zo)) eZ bZ O O<|gDo O (cN h84) ?_)
      obtain⟨v85,h86,H⟩:=zk H
      refine zF (u:=oB v85) eC ay (zfC h86) (Ec eZ En) (Vc Vp Vn) O (gDo O (cN h84)<|qS eZ<|zM O (cN h84) eZ<|za eZ ?_)
      obtain⟨h87,H⟩|⟨h87,H⟩:=zA H
      ·refine gDo eZ (cN h87) (ze (m:=8) O O<|gDo O (cN h87)<|zn (q:=8) (c:=dI a1.Rank) eZ bZ O O<|gDo O (cN h87) ?_)
       obtain⟨v88,h89,H⟩:=zk H
       exact zF (u:=oB v88) eC ay (kh h89) (Ec eZ<|Ec eC<|Ec eC En) (Vc Vp<|Vc Vp<|Vc Vp Vn) O (gDo O (cN h87)<|qS eZ<|zM O (cN h87) eZ<|zl<|al ⟨!v88,H,zf [] (sR O O) (blR O)<|bkR O O O⟩)
      ·exact zb eZ (cN<|nt h87) O (zb O (cN<|nt h87) O<|zb O (cN<|nt h87) O<|zb O (cN<|nt h87) O<|zB O (cN<|nt h87) eC<|zl<|al ⟨true,H,zf [] (sR O O) (blR O)<|bkR O O O⟩)
     ·exact zb eZ (cN<|nt h84) O (zb O (cN<|nt h84) O<|zb O (cN<|nt h84) O<|zb O (cN<|nt h84) O<|zB O (cN<|nt h84) eC<|za eZ<|zb eZ O O<|zb O O O<|zb O O O<|zb O O O<|zB O O eC<|zl<|al ⟨true,H,zf [] (sR O O) (blR O)<|bkR O O O⟩)
    ·exact zb eZ (cN<|nt h81) O (zb O (cN<|nt h81) O<|zb O (cN<|nt h81) O<|zb O (cN<|nt h81) O<|zB O (cN<|nt h81) eC<|za eZ<|zb eZ O O<|zb O O O<|zb O O O<|zb O O O<|zB O O eC<|za eZ<|zb eZ O O<|zb O O O<|zb O O O<|zb O O O<|zB O O eC<|zl<|al ⟨true,H,zf [] (sR O O) (blR O)<|bkR O O O⟩)
   ·exact zb eZ (cN<|nt h78) O (zb O (cN<|nt h78) O<|zb O (cN<|nt h78) O<|zb O (cN<|nt h78) O<|zB O (cN<|nt h78) eC<|za eZ<|zb eZ O O<|zb O O O<|zb O O O<|zb O O O<|zB O O eC<|za eZ<|zb eZ O O<|zb O O O<|zb O O O<|zb O O O<|zB O O eC<|za eZ<|zb eZ O O<|zb O O O<|zb O O O<|zb O O O<|zB O O eC<|zl<|al ⟨true,H,zf [] (sR O O) (blR O)<|bkR O O O⟩)
  ·exact zb eZ (cN<|nt h75) O (zb O (cN<|nt h75) O<|zb O (cN<|nt h75) O<|zb O (cN<|nt h75) O<|zB O (cN<|nt h75) eC<|za eZ<|zb eZ O O<|zb O O O<|zb O O O<|zb O O O<|zB O O eC<|za eZ<|zb eZ O O<|zb O O O<|zb O O O<|zb O O O<|zB O O eC<|za eZ<|zb eZ O O<|zb O O O<|zb O O O<|zb O O O<|zB O O eC<|za eZ<|zb eZ O O<|zb O O O<|zb O O O<|zb O O O<|zB O O eC<|zl<|al ⟨true,H,zf [] (sR O O) (blR O)<|bkR O O O⟩)
theorem zfA{a1:zp}{r:zp}(H:JQ a1=some r):Fn Tryz.prog 80 (lent [.agg (zT a1)]) true [.agg (zT r)]:=by
 refine ac f80 O ?_
 refine ak (t:=mk [(0,.agg<|zK a1)] [] (lk [])) (zf [] (sR O O) am aj) ?_
 unfold JQ at H
 unfold i80
 refine aV (yd (n:=64) (m:=9) (cs:=zK a1) O eZ O O nZ<|Zn (n:=128) (m:=9) O O (nR O)<|xQ<|aS<|zZ<|zr<|ze (m:=0) O O<|zl<|zr<|zn (q:=0) (c:=dI a1.Me) eZ (bR O) O O<|zl<|zr<|ze (m:=8) O O<|zl<|zr<|zn (q:=8) (c:=dI a1.Rank) eZ (bR O) O O<|zl<|zr<|Xa (cs:=[dI a1.Me,.zs,.zs,.zs,.zs,.zs,.zs,.zs,dI a1.Rank]) (qY O<|qY eZ Z5) O<|zl<|zr<|Zn (n:=192) (m:=9) O O (nR O)<|zl<|zr<|zP (es:=[dI a1.Me,.zs,.zs,.zs,.zs,.zs,.zs,.zs,dI a1.Rank]) eZ O O O bZ O<|zl<|qf<|xQ<|aS<|zZ<|zr<|yb (m:=704) O (nR O)<|zl<|zr<|ze (m:=1) O O<|zl ?_)
 refine zr (zn (q:=1) (c:=.d (.sl 2<|a1.Own.map zg)) eZ (bR O) O O<|zl<|zr ?_)
 obtain⟨h2,H⟩:=zW H
 refine zaN (f:=zg) (m:=896) (own:=true) (ys:=a1.Own) (q:=a1.Own.length) O O O eZ (bl fun _ _=>O) O h2 (by decide) (nR O) (zl<|zr<|ze (m:=1) O O<|zl<|zr<|zP (es:=[dI a1.Me,.sl 896 0 a1.Own.length,.zs,.zs,.zs,.zs,.zs,.zs,dI a1.Rank]) eZ O O O (bR O) O<|zl<|qf<|xQ<|aS<|zZ<|zr<|yb (m:=1024) O (nR O)<|zl<|zr<|ze (m:=2) O O<|zl<|zr<|zn (q:=2) (c:=.d (.sl 2<|a1.Frozen.map zg)) eZ (bR O) O O<|zl<|zr ?_)
 obtain⟨h3,H⟩:=zW H
 refine zaN (f:=zg) (m:=1216) (own:=true) (ys:=a1.Frozen) (q:=a1.Frozen.length) O O O eZ (bl fun _ _=>O) O h3 (by decide) (nR O) (zl<|zr<|ze (m:=2) O O<|zl<|zr<|zP (es:=[dI a1.Me,.sl 896 0 a1.Own.length,.sl 1216 0 a1.Frozen.length,.zs,.zs,.zs,.zs,.zs,dI a1.Rank]) eZ O O O (bR O) O<|zl<|qf<|xQ<|ak (zH [] (kr 3 O O<|kr 2 O O<|kr 1 O O ar) (blR O) (ao (n:=192) O bZ O O<|ao (n:=1216) O (bR O) O O<|ao (n:=896) O (bR O) O O<|ao (n:=128) O (bR O) O O<|ao (n:=64) O (bR O) O O aj) aA)<|aS<|zZ<|zr<|yb (m:=1344) O (nR O)<|zl<|zr<|ze (m:=3) O O<|zl<|zr<|zn (q:=3) (c:=.d (.sl 2<|a1.Cells.map zd)) eZ (bR O) O O<|zl<|zr ?_)
 obtain⟨h4,H⟩:=zW H
 refine zaN (f:=zd) (m:=1536) (own:=true) (ys:=a1.Cells) (q:=a1.Cells.length) O O O eZ (bl fun _ _=>O) O h4 (by decide) (nR O) (zl<|zr<|ze (m:=3) O O<|zl<|zr<|zP (es:=[dI a1.Me,.sl 896 0 a1.Own.length,.sl 1216 0 a1.Frozen.length,.sl 1536 0 a1.Cells.length,.zs,.zs,.zs,.zs,dI a1.Rank]) eZ O O O (bR O) O<|zl<|qf<|xQ<|aS<|zZ<|zr<|yb (m:=1664) O (nR O)<|zl<|zr<|ze (m:=4) O O<|zl<|zr<|zn (q:=4) (c:=.d (.sl 4<|a1.Locks.map zo)) eZ (bR O) O O<|zl<|zr ?_)
 obtain⟨h5,H⟩:=zW H
 refine zaN (f:=zo) (m:=1856) (own:=true) (ys:=a1.Locks) (q:=a1.Locks.length) O O O eZ (bl fun _ _=>O) O h5 (by decide) (nR O) (zl<|zr<|ze (m:=4) O O<|zl<|zr<|zP (es:=[dI a1.Me,.sl 896 0 a1.Own.length,.sl 1216 0 a1.Frozen.length,.sl 1536 0 a1.Cells.length,.sl 1856 0 a1.Locks.length,.zs,.zs,.zs,dI a1.Rank]) eZ O O O (bR O) O<|zl<|qf<|xQ<|zD (fun t6:(List zL)=>xo a1 t6=some r) (fun t6=>mk [(1,.one<|.ptr<|.nm 64 0 0),(2,.one<|.ptr<|.nm 128 0 0),(3,.one<|.ptr<|.nm 192 0 0)] [(64,.vars 9<|zK a1),(128,.vars 9 [dI 0,.zs,.zs,.zs,.zs,.zs,.zs,.zs,dI 0]),(320128,.data 2 (List.map zx t6) true none),(192,.vars 9 [dI a1.Me,.sl 896 0 a1.Own.length,.sl 1216 0 a1.Frozen.length,.sl 1536 0 a1.Cells.length,.sl 1856 0 a1.Locks.length,.sl 320128 0 t6.length,.zs,.zs,dI a1.Rank]),(896,.data 2 (a1.Own.map zg) true none),(1216,.data 2 (a1.Frozen.map zg) true none),(1536,.data 2 (a1.Cells.map zd) true none),(1856,.data 4 (a1.Locks.map zo) true none)] (lk [])) ?_ ?_)
 ·intro t6 H
  unfold xo at H
  refine aS (zZ<|zr<|yb (m:=3456) O (nR O)<|zl<|zr<|ze (m:=6) O O<|zl<|zr<|zn (q:=6) (c:=.d (.sl 1<|a1.Wounded.map zm)) eZ bZ O O<|zl<|zr ?_)
  obtain⟨h8,H⟩:=zW H
  refine zaN (f:=zm) (m:=3648) (own:=true) (ys:=a1.Wounded) (q:=a1.Wounded.length) O O O eZ (bl fun _ _=>O) O h8 (by decide) (nR O) (zl<|zr<|ze (m:=6) O O<|zl<|zr<|zP (es:=[dI a1.Me,.sl 896 0 a1.Own.length,.sl 1216 0 a1.Frozen.length,.sl 1536 0 a1.Cells.length,.sl 1856 0 a1.Locks.length,.sl 320128 0 t6.length,.sl 3648 0 a1.Wounded.length,.zs,dI a1.Rank]) eZ O O O (bR O) O<|zl<|qf<|xQ<|aS<|zZ<|zr<|yb (m:=3776) O (nR O)<|zl<|zr<|ze (m:=7) O O<|zl<|zr<|zn (q:=7) (c:=.d (.sl 1<|a1.Ended.map zm)) eZ (bR O) O O<|zl<|zr ?_)
  obtain⟨h9,H⟩:=zW H
  refine zaN (f:=zm) (m:=3968) (own:=true) (ys:=a1.Ended) (q:=a1.Ended.length) O O O eZ (bl fun _ _=>O) O h9 (by decide) (nR O) (zl<|zr<|ze (m:=7) O O<|zl<|zr<|zP (es:=[dI a1.Me,.sl 896 0 a1.Own.length,.sl 1216 0 a1.Frozen.length,.sl 1536 0 a1.Cells.length,.sl 1856 0 a1.Locks.length,.sl 320128 0 t6.length,.sl 3648 0 a1.Wounded.length,.sl 3968 0 a1.Ended.length,dI a1.Rank]) eZ O O O (bR O) O<|zl<|qf<|xQ<|aS<|zZ<|zr<|zY (es:=[dI a1.Me,.sl 896 0 a1.Own.length,.sl 1216 0 a1.Frozen.length,.sl 1536 0 a1.Cells.length,.sl 1856 0 a1.Locks.length,.sl 320128 0 t6.length,.sl 3648 0 a1.Wounded.length,.sl 3968 0 a1.Ended.length,dI a1.Rank]) O bZ O<|zl<|zr<|zP (es:=[dI a1.Me,.sl 896 0 a1.Own.length,.sl 1216 0 a1.Frozen.length,.sl 1536 0 a1.Cells.length,.sl 1856 0 a1.Locks.length,.sl 320128 0 t6.length,.sl 3648 0 a1.Wounded.length,.sl 3968 0 a1.Ended.length,dI a1.Rank]) O eZ O O (bR O) O<|zl<|qf<|xQ<|aq ?_)
  cases H
  exact qT (aE (yq (es:=[dI a1.Me,.sl 896 0 a1.Own.length,.sl 1216 0 a1.Frozen.length,.sl 1536 0 a1.Cells.length,.sl 1856 0 a1.Locks.length,.sl 320128 0 t6.length,.sl 3648 0 a1.Wounded.length,.sl 3968 0 a1.Ended.length,dI a1.Rank]) O bZ O) (bA<|aB (aQ O)<|aB (aL (bR O) lm (zI fun _=>O))<|aB (aL (bR O) lm (zI fun _=>O))<|aB (aL (bR O) lm (zI fun _=>O))<|aB (aL (bR O) lm (zI fun _=>O))<|aB (Kf (bR O) lm O)<|aB (aL (bR O) lm (zI fun _=>O))<|aB (aL (bR O) lm (zI fun _=>O))<|aB (aQ O) bp) aO) (by decide)
 ·refine aV (za eC<|xQ<|aw<|aG (fun s10:(Int×(List zL))=>mk [(1,.one<|.ptr<|.nm 64 0 0),(2,.one<|.ptr<|.nm 128 0 0),(3,.one<|.ptr<|.nm 192 0 0),(4,oI s10.1)] [(64,.vars 9<|zK a1),(128,.vars 9 [dI 0,.zs,.zs,.zs,.zs,.zs,.zs,.zs,dI 0]),(320192,.data 2 (List.map zx s10.2) true none),(192,.vars 9 [dI a1.Me,.sl 896 0 a1.Own.length,.sl 1216 0 a1.Frozen.length,.sl 1536 0 a1.Cells.length,.sl 1856 0 a1.Locks.length,.sl 320192 0 s10.2.length,.zs,.zs,dI a1.Rank]),(896,.data 2 (a1.Own.map zg) true none),(1216,.data 2 (a1.Frozen.map zg) true none),(1536,.data 2 (a1.Cells.map zd) true none),(1856,.data 4 (a1.Locks.map zo) true none)] (lk [])) H ((zH [] (sR O O) (blR O) (ao O (bR O) O O<|ao O (bR O) O O<|ao O (bR O) O O<|ao O bZ O (by first|rfl|simp)<|bkR O O O) aA).trans<|zlR 320192 2 192 5 true bZ O<|nR O) ?_)
  intro kb11 s10 H
  unfold YI at H
  refine aS (aV<|za O<|ze (m:=5) O O<|zn (q:=5) (c:=.d (.sl 2<|a1.Helds.map zx)) eZ bZ O O<|zX eZ (n:=a1.Helds.length) lm<|qj O eZ<|xQ ?_)
  obtain⟨h12,H⟩|⟨h12,H⟩:=ab H
  ·refine zi eZ h12 (au<|al<|aS<|aw<|aS<|zZ<|zr<|ze (m:=5) O O<|zl<|zr<|zn (q:=5) (c:=.d (.sl 2<|a1.Helds.map zx)) eZ bZ O O<|zl<|zr<|za O<|zl<|zr ?_)
   obtain⟨v13,h14,H⟩:=zk H
   refine qk O eZ h14 (zl<|zr<|qi (es:=jm v13) eZ O<|zl<|zr<|Zn (n:=320) (m:=2) O O (nR O)<|zl<|zr<|zP (es:=jm v13) eZ O O O bZ O<|zl<|qf<|xQ<|aS<|zZ<|zr<|yb (m:=2752) O (nR O)<|zl<|zr<|ze (m:=1) O O<|zl<|zr<|zn (q:=1) (c:=.d (.sl 2<|v13.Writes.map zd)) eZ bZ O O<|zl<|zr ?_)
   obtain⟨h15,H⟩:=zW H
   refine zaN (f:=zd) (m:=2944) (own:=true) (ys:=v13.Writes) (q:=v13.Writes.length) O O O eZ (bl fun _ _=>O) O h15 (by decide) (nR O) (zl<|zr<|ze (m:=1) O O<|zl<|zr<|zP (es:=[dI v13.Tx,.sl 2944 0 v13.Writes.length]) eZ O O O (bR O) O<|zl<|qf<|xQ<|ak (zH [] (kr 5 O O<|kr 1 O O<|kr 2 O O<|kr 3 O O<|kr 4 O O ar) (blR O) (ao (n:=320) O bZ O O<|ao (n:=2944) O (bR O) O O<|ao (n:=64) O (bR O) O O<|ao (n:=128) O (bR O) O O<|ao (n:=320192) O (bR O) O O<|ao (n:=192) O (bR O) O O<|ao (n:=896) O (bR O) O O<|ao (n:=1216) O (bR O) O O<|ao (n:=1536) O (bR O) O O<|ao (n:=1856) O (bR O) O O aj) aA)<|zZ<|zr<|ze (m:=5) O O<|zl<|zr<|zn (q:=5) (c:=.sl 320192 0 s10.2.length) eZ (bR O) O O<|zl<|zr<|zY (es:=[dI v13.Tx,.sl 2944 0 v13.Writes.length]) O bZ O<|zl<|zr<|QQ (m:=3264) (q:=1) (cs:=[dI v13.Tx,.sl 2944 0 v13.Writes.length]) O (qY eZ Z5) O (List.cons_ne_nil _ _) (by simp) (nR O)<|zl ?_)
   obtain⟨h16,H⟩:=zW H
   exact ziY (f:=zx) (xs:=s10.2) (t:=v13) (q:=(s10.2++[v13]).length) (ds:=[.int .i64 v13.Tx,.sl 2<|v13.Writes.map zd]) (ns:=[2944]) O eZ (bR O) O bZ O (aB (aQ O)<|aB (aL (bR O) lm (zI fun _=>O)) bp) O O O O h16 (by decide) (ai (v':=.one (.sl 3264 0 1)) O<|ai (v':=.agg [dI v13.Tx,.any]) O<|ai (v':=.one (.sl 320192 0 s10.2.length)) O<|ai (v':=.one (.ptr<|.nm 192 0 5)) O<|ai (v':=.one (.ptr<|.nm 320 0 0)) O<|ai (v':=.one (.ptr<|.nm 64 0 0)) O<|ai (v':=.one (.ptr<|.nm 128 0 0)) O<|ai (v':=.one (.ptr<|.nm 192 0 0)) O<|ai (v':=oI s10.1) O aN) (av (v':=.vars 2 [dI v13.Tx,.any]) O O<|av (v':=.vars 2 [dI v13.Tx,.any]) O O<|aY O<|av (v':=.vars 9 (zK a1)) O O<|av (v':=.vars 9 [dI 0,.zs,.zs,.zs,.zs,.zs,.zs,.zs,dI 0]) O O<|av (v':=.data 2 (List.map zx s10.2) true none) O O<|av (v':=.vars 9 [dI a1.Me,.sl 896 0 a1.Own.length,.sl 1216 0 a1.Frozen.length,.sl 1536 0 a1.Cells.length,.sl 1856 0 a1.Locks.length,.sl 320192 0 s10.2.length,.zs,.zs,dI a1.Rank]) O O<|av (v':=.data 2 (a1.Own.map zg) true none) O O<|av (v':=.data 2 (a1.Frozen.map zg) true none) O O<|av (v':=.data 2 (a1.Cells.map zd) true none) O O<|av (v':=.data 4 (a1.Locks.map zo) true none) O O aU) aN (ai (v':=.one (.sl 3264 0 1)) O<|ai (v':=.agg [dI v13.Tx,.any]) O<|ai (v':=.one .any) O<|ai (v':=.one (.ptr<|.nm 192 0 5)) O<|ai (v':=.one (.ptr<|.nm 320 0 0)) O<|ai (v':=.one (.ptr<|.nm 64 0 0)) O<|ai (v':=.one (.ptr<|.nm 128 0 0)) O<|ai (v':=.one (.ptr<|.nm 192 0 0)) O<|ai (v':=oI s10.1) O aN) (av (v':=.vars 2 [dI v13.Tx,.any]) O O<|av (v':=.vars 2 [dI v13.Tx,.any]) O O<|av (v':=.vars 9 (zK a1)) O O<|av (v':=.vars 9 [dI 0,.zs,.zs,.zs,.zs,.zs,.zs,.zs,dI 0]) O O<|aY O<|av (v':=.vars 9 [dI a1.Me,.sl 896 0 a1.Own.length,.sl 1216 0 a1.Frozen.length,.sl 1536 0 a1.Cells.length,.sl 1856 0 a1.Locks.length,.any,.zs,.zs,dI a1.Rank]) O O<|av (v':=.data 2 (a1.Own.map zg) true none) O O<|av (v':=.data 2 (a1.Frozen.map zg) true none) O O<|av (v':=.data 2 (a1.Cells.map zd) true none) O O<|av (v':=.data 4 (a1.Locks.map zo) true none) O O aU) aN (zr<|ze (m:=5) O O<|zl<|zr<|zP (es:=[dI a1.Me,.sl 896 0 a1.Own.length,.sl 1216 0 a1.Frozen.length,.sl 1536 0 a1.Cells.length,.sl 1856 0 a1.Locks.length,.sl 320192 0<|(s10.2++[v13]).length,.zs,.zs,dI a1.Rank]) eZ O O O (bR O) O<|zl<|qf<|zl<|aP<|al<|aR<|za O<|qb eZ eC<|za eZ<|zl<|al ⟨(IntKind.wrap .i64 (s10.1+1),s10.2++[v13]),H,zH [3264,320] (sR O O) (blR O) (ao O (bR O) O O<|ao O (bR O) O O<|ao O (bR O) O O<|ao O bZ O (by first|rfl|simp)<|bkR O O O) aA⟩)
  ·exact zh eZ h12 (aH<|aC<|aC<|aT<|al ⟨s10.2,H,(zH [] (sR O O) (blR O) (ao O bZ O O<|ao O (bR O) O O<|ao O (bR O) O O<|ao O (bR O) O (by first|rfl|simp)<|bkR O O O) aA).trans<|yW 320192 320128 O O (nR O) bi⟩)
theorem zgj{a1:(List zj)}{a2:Int}{a3:Int}{a4:Bool}{r:(List zj)}(H:JU a1 a2 a3 a4=some r):Fn Tryz.prog 158 (lent [.sl 2 (a1.map zd),.int .i64 a2,.int .i64 a3,.bool a4]) true [.sl 2 (List.map zd r)]:=by
 refine ac zIK O ?_
 refine ak (zf [] (kv 0 (.one<|.d<|.sl 2<|a1.map zd) O O<|kv 1 (oI a2) O O<|kv 2 (oI a3) O O<|kv 3 (oB a4) O O ar) am aj) ?_
 unfold JU at H
 unfold zHL
 refine aV (za eC<|xQ<|aV<|yb (m:=768) O nZ<|za eZ<|xQ<|aV<|za O<|qS eZ<|za eZ<|xQ<|zD (fun t5:((List zj)×Bool)=>xu a2 a3 t5=some r) (fun t5=>mk [(1,oI a2),(2,oI a3),(9,.one<|.sl 320320 0 t5.1.length),(10,oB t5.2)] [(320320,.data 2 (List.map zd t5.1) true none)] noG) ?_ ?_)
 ·intro t5 H
  unfold xu at H
  refine aS (aV<|za O<|qS eZ<|xQ ?_)
  obtain⟨h7,H⟩|⟨h7,H⟩:=aa H
  ·refine zh eZ (cN h7) (au<|al<|aV<|za O<|za eZ<|xQ<|aq ?_)
   cases H
   exact qT (aE (aM eZ) (aL bZ lm (zI fun _=>O)) aO) (by decide)
  ·refine zi eZ (cN h7) (aR<|za O<|za O<|za O<|Xa (cs:=[dI a2,dI a3]) (qY O<|qY eZ Z5) O<|QQ (m:=3712) (q:=1) (cs:=[dI a2,dI a3]) O (qY eZ Z5) O (List.cons_ne_nil _ _) (by simp) (nR O) ?_)
   obtain⟨h8,H⟩:=zW H
   refine zdv (f:=zd) (xs:=t5.1) (ys:=[zj.mk a2 a3]) (q:=(t5.1++([zj.mk a2 a3])).length) O eZ (bR O) O (bC (f:=zd) (t:=zj.mk a2 a3) (es:=[.int .i64 a2,.int .i64 a3]) bZ O O O) O h8 (by decide) (by decide) (ai (v':=.one (.sl 3712 0 1)) O<|ai (v':=.agg [dI a2,dI a3]) O<|ai (v':=oI a3) O<|ai (v':=oI a2) O<|ai (v':=.one .any) O<|ai (v':=oB (!t5.2)) O<|ai (v':=oB t5.2) O<|ai (v':=oI a2) O<|ai (v':=oI a3) O<|ai (v':=.one .any) O<|ai (v':=oB t5.2) O aN) (av (v':=.vars 2 [dI a2,dI a3]) O O<|aY O aU) (za eZ<|xQ<|aV<|za eZ<|za eZ<|xQ<|aq ?_)
   cases H
   exact qT (aE (aM eZ) (aL bZ lm (zI fun _=>O)) aO) (by decide)
 ·refine aV (za eC<|xQ<|aw<|aG (fun s9:((List zj)×Bool×Int)=>mk [(0,.one<|.d<|.sl 2<|a1.map zd),(1,oI a2),(2,oI a3),(9,.one<|.sl 320448 0 s9.1.length),(10,oB s9.2.1),(11,oI s9.2.2)] [(320448,.data 2 (List.map zd s9.1) true none)] noG) H ((zf [] (kR O O<|kR O O<|kR O O<|aF eZ O (aK af)<|sR O O) (blR O)<|bkR O O O).trans<|ziH 320448 2 9 true O nZ) ?_)
  intro kb10 s9 H
  unfold xD at H
  refine aS (aV<|za O<|za O<|zX eZ (n:=a1.length) lm<|qj O eZ<|xQ ?_)
  obtain⟨h11,H⟩|⟨h11,H⟩:=ab H
  ·refine zi eZ h11 (au<|al<|aS<|aw<|zD (fun t12:((List zj)×Bool)=>Zu a1 s9 a2 kb10 t12=some r) (fun t12=>mk [(0,.one<|.d<|.sl 2<|a1.map zd),(1,oI a2),(2,oI a3),(9,.one<|.sl 320576 0 t12.1.length),(10,oB t12.2),(11,oI s9.2.2)] [(320576,.data 2 (List.map zd t12.1) true none)] noG) ?_ ?_)
   ·intro t12 H
    unfold Zu at H
    refine aV (za eZ<|za O ?_)
    obtain⟨v14,h15,H⟩:=zk H
    refine qk O eZ h15 (z7 (m:=0) eZ O<|zV (e:=.int .i64 v14.Key) eZ O<|za O<|ZK O eZ<|xQ ?_)
    obtain⟨h16,H⟩|⟨h16,H⟩:=ab H
    ·refine zi eZ h16 (aR<|za O<|za O<|za O ?_)
     obtain⟨v17,h18,H⟩:=zk H
     refine qk O eZ h18 (qi (es:=[dI v17.Key,dI v17.Value]) eZ O<|QQ (m:=3200) (q:=1) (cs:=[dI v17.Key,dI v17.Value]) O (qY eZ Z5) O (List.cons_ne_nil _ _) (by simp) (nR O) ?_)
     obtain⟨h19,H⟩:=zW H
     exact zdv (f:=zd) (xs:=t12.1) (ys:=[v17]) (q:=(t12.1++([v17])).length) O eZ (bR O) O (bC (f:=zd) (t:=v17) (es:=[.int .i64 v17.Key,.int .i64 v17.Value]) bZ O O O) O h19 (by decide) (by decide) (ai (v':=.one (.sl 3200 0 1)) O<|ai (v':=.agg [dI v17.Key,dI v17.Value]) O<|ai (v':=.one (.ptr<|.bd (zd v17) 0)) O<|ai (v':=oI s9.2.2) O<|ai (v':=.one (.d<|.sl 2<|a1.map zd)) O<|ai (v':=.one .any) O<|ai (v':=oB (decide (¬v14.Key=a2))) O<|ai (v':=oI a2) O<|ai (v':=oI v14.Key) O<|ai (v':=.one (.ptr<|.bd (zd v14) 0)) O<|ai (v':=.one (.ptr<|.bd (zd v14) 0)) O<|ai (v':=oI s9.2.2) O<|ai (v':=.one (.d<|.sl 2<|a1.map zd)) O<|ai (v':=.one (.d<|.sl 2<|a1.map zd)) O<|ai (v':=oI a2) O<|ai (v':=oI a3) O<|ai (v':=.one .any) O<|ai (v':=oB t12.2) O<|ai (v':=oI s9.2.2) O aN) (av (v':=.vars 2 [dI v17.Key,dI v17.Value]) O O<|aY O aU) (za eZ<|zl<|aP<|al<|ak (zf [3200] (kr 9 O O<|kr 0 O O<|kr 1 O O<|kr 2 O O<|kr 10 O O<|kr 11 O O ar) (blR O)<|ao (n:=320576) O bZ O O aj)<|aR<|za O<|qb eZ eC<|za eZ<|zl<|al ⟨(t12.1++([v17]),t12.2,IntKind.wrap .i64 (s9.2.2+1)),H,(zf [] (sR O O) (blR O)<|bkR O O O).trans<|yP 320576 320448 O O<|nR O⟩)
    ·exact zh eZ h16 (au<|aP<|al<|aR<|za O<|qb eZ eC<|za eZ<|zl<|al ⟨(t12.1,t12.2,IntKind.wrap .i64 (s9.2.2+1)),H,(zf [] (sR O O) (blR O)<|bkR O O O).trans<|yP 320576 320448 O O<|nR O⟩)
   ·refine zD (fun t20:Bool=>(Qk s9 a2 a3<|Zu a1 s9 a2 kb10) t20=some r) (fun t20=>mk [(0,.one<|.d<|.sl 2<|a1.map zd),(1,oI a2),(2,oI a3),(9,.one<|.sl 320448 0 s9.1.length),(10,oB s9.2.1),(11,oI s9.2.2),(31,oB t20)] [(320448,.data 2 (List.map zd s9.1) true none)] noG) ?_ ?_
    ·intro t20 H
     obtain⟨h22,H⟩|⟨h22,H⟩:=zA H
     ·refine zi O h22 (aV<|za O<|za O<|za O<|Xa (cs:=[dI a2,dI a3]) (qY O<|qY eZ Z5) O<|QQ (m:=2304) (q:=1) (cs:=[dI a2,dI a3]) O (qY eZ Z5) O (List.cons_ne_nil _ _) (by simp) (nR O) ?_)
      obtain⟨h23,H⟩:=zW H
      exact zdv (f:=zd) (xs:=s9.1) (ys:=[zj.mk a2 a3]) (q:=(s9.1++([zj.mk a2 a3])).length) O eZ (bR O) O (bC (f:=zd) (t:=zj.mk a2 a3) (es:=[.int .i64 a2,.int .i64 a3]) bZ O O O) O h23 (by decide) (by decide) (ai (v':=.one (.sl 2304 0 1)) O<|ai (v':=.agg [dI a2,dI a3]) O<|ai (v':=oI a3) O<|ai (v':=oI a2) O<|ai (v':=.one .any) O<|ai (v':=.one (.d<|.sl 2<|a1.map zd)) O<|ai (v':=oI a2) O<|ai (v':=oI a3) O<|ai (v':=.one .any) O<|ai (v':=oB s9.2.1) O<|ai (v':=oI s9.2.2) O<|ai (v':=oB t20) O aN) (av (v':=.vars 2 [dI a2,dI a3]) O O<|aY O aU) (za eZ<|xQ<|aR<|za eC<|zl<|al ⟨(s9.1++([zj.mk a2 a3]),true),H,(zf [2304] (sR O O) (blR O)<|bkR O O O).trans<|yP 320448 320576 O O<|nR O⟩)
     ·exact zh O (nt h22) (au<|al ⟨(s9.1,s9.2.1),H,(zf [] (sR O O) (blR O)<|bkR O O O).trans<|yP 320448 320576 O O<|nR O⟩)
    ·refine aR (za O<|qS eZ<|za eZ ?_)
     obtain⟨h24,H⟩|⟨h24,H⟩:=zA H
     ·exact zb eZ (cN h24) O (zb O (cN h24) O<|zb O (cN h24) O<|zb O (cN h24) O<|zb O (cN h24) O<|zb O (cN h24) O<|zb O (cN h24) O<|zM O (cN h24) eC<|zl<|al ⟨false,H,zf [] (sR O O) (blR O)<|bkR O O O⟩)
     ·refine gDo eZ (cN<|nt h24) (za O<|gDo O (cN<|nt h24)<|za O<|gDo O (cN<|nt h24) ?_)
      obtain⟨v25,h26,H⟩:=zk H
      exact qk O eZ h26 (gDo O (cN<|nt h24)<|z7 (m:=0) eZ O<|gDo O (cN<|nt h24)<|zV (e:=.int .i64 v25.Key) eZ O<|gDo O (cN<|nt h24)<|za O<|gDo O (cN<|nt h24)<|Xo O eZ<|zB O (cN<|nt h24) eZ<|zl<|al ⟨decide (a2≤v25.Key),H,zf [] (sR O O) (blR O)<|bkR O O O⟩)
  ·exact zh eZ h11 (aH<|aC<|aC<|aT<|al ⟨(s9.1,s9.2.1),H,(zf [] (sR O O) (blR O)<|bkR O O O).trans<|yP 320448 320320 O O<|nR O⟩)
theorem zdc{a1:(List zj)}{a2:(List zj)}{r:((List zj)×Bool)}(H:ZV a1 a2=some r):Fn Tryz.prog 118 (lent [.sl 2 (a1.map zd),.sl 2<|a2.map zd]) true [.sl 2 (List.map zd r.1),.bool r.2]:=by
 refine ac zJC O ?_
 refine ak (zf [] (kv 0 (.one<|.d<|.sl 2<|a1.map zd) O O<|kv 1 (.one<|.d<|.sl 2<|a2.map zd) O O ar) am aj) ?_
 unfold ZV at H
 unfold zCN
 refine aV (za eC<|za eC<|xQ<|aS<|zD (fun t3:Bool=>ZC a1 a2 t3=some r) (fun t3=>mk [(0,.one<|.d<|.sl 2<|a1.map zd),(1,.one<|.d<|.sl 2<|a2.map zd),(15,oB t3)] [] noG) ?_ ?_)
 ·intro t3 H
  obtain⟨h5,H⟩|⟨h5,H⟩:=aa H
  ·refine zi O h5 (aV<|yb (m:=1024) O nZ<|za eZ<|za eC<|xQ<|aq<|ax ?_)
   cases H
   exact qT (aE (aM O) bv<|aE (aM eZ) (aQ O) aO) List.nodup_nil
  ·refine zh O h5 (au<|al<|aV<|yb (m:=1088) O nZ<|za O ?_)
   obtain⟨h6,H⟩:=zW H
   refine zaN (f:=zd) (m:=1216) (own:=true) (ys:=a1) (q:=a1.length) O O O eZ (bl fun _ _=>O) O h6 (by decide) nZ (za eZ<|xQ<|zD (fun t7:(List zj)=>QY t7=some r) (fun t7=>mk [(6,.one<|.sl 320128 0 t7.length)] [(320128,.data 2 (List.map zd t7) true none)] noG) ?_ ?_)
   ·intro t7 H
    unfold QY at H
    refine aS (aV<|za eZ<|kT eZ<|zaC eZ eC<|xQ ?_)
    obtain⟨h9,H⟩|⟨h9,H⟩:=ab H
    ·refine zi eZ h9 (aV<|yb (m:=3008) O (nR O)<|za eZ<|za eC<|xQ<|aq<|ax ?_)
     cases H
     exact qT (aE (aM O) bv<|aE (aM eZ) (aQ O) aO) List.nodup_nil
    ·refine zh eZ h9 (au<|al<|aV<|za O<|za eZ<|za eC<|xQ<|aq ?_)
     cases H
     exact qT (aE (aM O) (aL bZ lm (zI fun _=>O))<|aE (aM eZ) (aQ O) aO) (by decide)
   ·refine aV (za eC<|xQ<|aw<|aG (fun s10:((List zj)×Int)=>mk [(1,.one<|.d<|.sl 2<|a2.map zd),(6,.one<|.sl 320192 0 s10.1.length),(7,oI s10.2)] [(320192,.data 2 (List.map zd s10.1) true none)] noG) H ((zf [] (sR O O) (blR O)<|bkR O O O).trans<|yP 1216 320192 O O<|nR O) ?_)
    intro kb11 s10 H
    unfold Qb at H
    refine aS (aV<|za O<|za O<|zX eZ (n:=a2.length) lm<|qj O eZ<|xQ ?_)
    obtain⟨h12,H⟩|⟨h12,H⟩:=ab H
    ·refine zi eZ h12 (au<|al<|aS<|aw<|aX<|za O<|za O<|za O ?_)
     obtain⟨v13,h14,H⟩:=zk H
     refine qk O eZ h14 (z7 (m:=0) eZ O<|zV (e:=.int .i64 v13.Key) eZ O<|za O<|za O ?_)
     obtain⟨v15,h16,H⟩:=zk H
     refine qk O eZ h16 (z7 (m:=1) eZ O<|zV (e:=.int .i64 v15.Value) eZ O<|za O<|za O ?_)
     obtain⟨v17,h18,H⟩:=zk H
     refine qk O eZ h18 (z7 (m:=1) eZ O<|zV (e:=.int .i64 v17.Value) eZ O<|Xo eZ eC ?_)
     obtain⟨v19,h20,H⟩:=zk H
     exact j9 (u:=.one (.sl 2752 0 v19.length)) (bs:=[(2752,.data 2 (v19.map zd) true none)]) eC ay (zgj h20) (Ec O<|Ec O<|Ec O<|Ec eZ En) (Vc (bF bZ lm)<|Vc Vp<|Vc Vp<|Vc Vp Vn) (by simp[jg,jD,qy,jq,qF]) O (fC (nR O) O<|fC (nR O) O fN) (za eZ<|zl<|aP<|al<|ak (zf [320192] (kr 6 O O<|kr 1 O O<|kr 7 O O ar) (blR O)<|ao (n:=2752) O bZ O O aj)<|aR<|za O<|qb eZ eC<|za eZ<|zl<|al ⟨(v19,IntKind.wrap .i64 (s10.2+1)),H,(zf [] (sR O O) (blR O)<|bkR O O O).trans<|yP 2752 320192 O O<|nR O⟩)
    ·exact zh eZ h12 (aH<|aC<|aC<|aT<|al ⟨s10.1,H,(zf [] (sR O O) (blR O)<|bkR O O O).trans<|yP 320192 320128 O O<|nR O⟩)
 ·refine aR (za O ?_)
  obtain⟨v21,h22,H⟩:=zk H
  refine zF (u:=oB v21) eC ay (K3 h22) (Ec eZ En) (Vc Vp Vn) O (qS eZ<|za eZ ?_)
  obtain⟨h23,H⟩|⟨h23,H⟩:=zA H
  ·refine gDo eZ (cN h23) (za O<|gDo O (cN h23) ?_)
   obtain⟨v24,h25,H⟩:=zk H
   exact zF (u:=oB v24) eC ay (xR h25) (Ec eZ En) (Vc Vp Vn) O (gDo O (cN h23)<|qS eZ<|zM O (cN h23) eZ<|zl<|al ⟨!v24,H,zf [] (sR O O) am aj⟩)
  ·exact zb eZ (cN<|nt h23) O (zb O (cN<|nt h23) O<|zb O (cN<|nt h23) O<|zB O (cN<|nt h23) eC<|zl<|al ⟨true,H,zf [] (sR O O) am aj⟩)
theorem zfK{a1:(List zC)}{a2:Int}{a3:Bool}{r:(List zC)}(H:JR a1 a2 a3=some r):Fn Tryz.prog 119 (lent [.sl 4 (a1.map zo),.int .i64 a2,.bool a3]) true [.sl 4 (List.map zo r)]:=by
 refine ac zIt O ?_
 refine ak (zf [] (kv 0 (.one<|.d<|.sl 4<|a1.map zo) O O<|kv 1 (oI a2) O O<|kv 2 (oB a3) O O ar) am aj) ?_
 unfold JR at H
 unfold zH0
 refine aV (za eC<|xQ<|aV<|yb (m:=576) O nZ<|za eZ<|xQ<|zD (fun t4:(List zC)=>xE t4=some r) (fun t4=>mk [(7,.one<|.sl 320128 0 t4.length)] [(320128,.data 4 (List.map zo t4) true none)] noG) ?_ ?_)
 ·intro t4 H
  unfold xE at H
  refine aV (za eZ<|za eZ<|xQ<|aq ?_)
  obtain rfl:=(Option.some.inj H)
  exact qT (aE (aM eZ) (aL bZ lm (zI fun _=>O)) aO) (by decide)
 ·refine aV (za eC<|xQ<|aw<|aG (fun s6:((List zC)×Int)=>mk [(0,.one<|.d<|.sl 4<|a1.map zo),(1,oI a2),(2,oB a3),(7,.one<|.sl 320192 0 s6.1.length),(8,oI s6.2)] [(320192,.data 4 (List.map zo s6.1) true none)] noG) H ((zf [] (kR O O<|kR O O<|kR O O<|aF eZ O (aK af)<|sR O O) (blR O)<|bkR O O O).trans<|ziH 320192 4 7 true O nZ) ?_)
  intro kb7 s6 H
  unfold xn at H
  refine aS (aV<|za O<|za O<|zX eZ (n:=a1.length) lm<|qj O eZ<|xQ ?_)
  obtain⟨h8,H⟩|⟨h8,H⟩:=ab H
  ·refine zi eZ h8 (au<|al<|aS<|aw<|aV<|za O<|za O ?_)
   obtain⟨v9,h10,H⟩:=zk H
   refine qk O eZ h10 (z7 (m:=0) eZ O<|zV (e:=.int .i64 v9.Tx) eZ O<|za O<|kZ O eZ<|za O<|zI7 O eZ<|xQ<|ak (zf [] (kr 24 O O<|kr 0 O O<|kr 1 O O<|kr 2 O O<|kr 7 O O<|kr 8 O O ar) (blR O)<|ao (n:=320192) O bZ O O aj) ?_)
   obtain⟨h11,H⟩|⟨h11,H⟩:=aa H
   ·refine zi eZ h11 (aR<|za O<|za O<|za O ?_)
    obtain⟨v12,h13,H⟩:=zk H
    refine qk O eZ h13 (qi (es:=qa v12) eZ O<|QQ (m:=1920) (q:=1) (cs:=qa v12) O (qY eZ Z5) O (List.cons_ne_nil _ _) (by simp) (nR O) ?_)
    obtain⟨h14,H⟩:=zW H
    exact zdv (f:=zo) (xs:=s6.1) (ys:=[v12]) (q:=(s6.1++([v12])).length) O eZ (bR O) O (bC (f:=zo) (t:=v12) (es:=[.int .i64 v12.Tx,.int .i64 v12.Lo,.int .i64 v12.Hi,.int .i64 v12.Mode]) bZ O O O) O h14 (by decide) (by decide) (ai (v':=.one (.sl 1920 0 1)) O<|ai (v':=.agg (qa v12)) O<|ai (v':=.one (.ptr<|.bd (zo v12) 0)) O<|ai (v':=oI s6.2) O<|ai (v':=.one (.d<|.sl 4<|a1.map zo)) O<|ai (v':=.one .any) O<|ai (v':=oB ((decide (v9.Tx=a2)) == a3)) O<|ai (v':=.one (.d<|.sl 4<|a1.map zo)) O<|ai (v':=oI a2) O<|ai (v':=oB a3) O<|ai (v':=.one .any) O<|ai (v':=oI s6.2) O aN) (av (v':=.vars 4 (qa v12)) O O<|aY O aU) (za eZ<|zl<|aP<|al<|aR<|za O<|qb eZ eC<|za eZ<|zl<|al ⟨(s6.1++([v12]),IntKind.wrap .i64 (s6.2+1)),H,zf [1920] (sR O O) (blR O)<|bkR O O O⟩)
   ·exact zh eZ h11 (au<|aP<|al<|aR<|za O<|qb eZ eC<|za eZ<|zl<|al ⟨(s6.1,IntKind.wrap .i64 (s6.2+1)),H,zf [] (sR O O) (blR O)<|bkR O O O⟩)
  ·exact zh eZ h8 (aH<|aC<|aC<|aT<|al ⟨s6.1,H,(zf [] (sR O O) (blR O)<|bkR O O O).trans<|yP 320192 320128 O O<|nR O⟩)
theorem zff{a1:(List Int)}{a2:Int}{r:(List Int)}(H:J9 a1 a2=some r):Fn Tryz.prog 120 (lent [.sl 1 (a1.map zm),.int .i64 a2]) true [.sl 1 (List.map zm r)]:=by
 refine ac zIi O ?_
 refine ak (zf [] (kv 0 (.one<|.d<|.sl 1<|a1.map zm) O O<|kv 1 (oI a2) O O ar) am aj) ?_
 unfold J9 at H
 unfold zDx
 refine aV (za eC<|xQ<|aV<|yb (m:=448) O nZ<|za eZ<|xQ<|zD (fun t3:(List Int)=>xM t3=some r) (fun t3=>mk [(5,.one<|.sl 320128 0 t3.length)] [(320128,.data 1 (List.map zm t3) true none)] noG) ?_ ?_)
 ·intro t3 H
  unfold xM at H
  refine aV (za eZ<|za eZ<|xQ<|aq ?_)
  obtain rfl:=(Option.some.inj H)
  exact qT (aE (aM eZ) (aL bZ lm (zI fun _=>O)) aO) (by decide)
 ·refine aV (za eC<|xQ<|aw<|aG (fun s5:((List Int)×Int)=>mk [(0,.one<|.d<|.sl 1<|a1.map zm),(1,oI a2),(5,.one<|.sl 320192 0 s5.1.length),(6,oI s5.2)] [(320192,.data 1 (List.map zm s5.1) true none)] noG) H ((zf [] (kR O O<|kR O O<|aF eZ O (aK af)<|sR O O) (blR O)<|bkR O O O).trans<|ziH 320192 1 5 true O nZ) ?_)
  intro kb6 s5 H
  unfold xS at H
  refine aS (aV<|za O<|za O<|zX eZ (n:=a1.length) lm<|qj O eZ<|xQ ?_)
  obtain⟨h7,H⟩|⟨h7,H⟩:=ab H
  ·refine zi eZ h7 (au<|al<|aS<|aw<|aV<|za O<|za O ?_)
   obtain⟨v8,h9,H⟩:=zk H
   refine qk O eZ h9 (zV (e:=.int .i64 v8) eZ O<|za O<|ZK O eZ<|xQ ?_)
   obtain⟨h10,H⟩|⟨h10,H⟩:=ab H
   ·refine zi eZ h10 (aR<|za O<|za O<|za O ?_)
    obtain⟨v11,h12,H⟩:=zk H
    refine qk O eZ h12 (zV (e:=.int .i64 v11) eZ O<|QQ (m:=1600) (q:=1) (cs:=[dI v11]) O (qY eZ Z5) O (List.cons_ne_nil _ _) (by simp) (nR O) ?_)
    obtain⟨h13,H⟩:=zW H
    exact zdv (f:=zm) (xs:=s5.1) (ys:=[v11]) (q:=(s5.1++([v11])).length) O eZ (bR O) O (bC (f:=zm) (t:=v11) (es:=[.int .i64 v11]) bZ O O O) O h13 (by decide) (by decide) (ai (v':=.one (.sl 1600 0 1)) O<|ai (v':=oI v11) O<|ai (v':=.one (.ptr<|.bd (zm v11) 0)) O<|ai (v':=oI s5.2) O<|ai (v':=.one (.d<|.sl 1<|a1.map zm)) O<|ai (v':=.one .any) O<|ai (v':=oB (decide (¬v8=a2))) O<|ai (v':=oI a2) O<|ai (v':=oI v8) O<|ai (v':=.one (.ptr<|.bd (zm v8) 0)) O<|ai (v':=oI s5.2) O<|ai (v':=.one (.d<|.sl 1<|a1.map zm)) O<|ai (v':=oB (decide (s5.2 < (a1.length:Int)))) O<|ai (v':=oI (a1.length:Int)) O<|ai (v':=.one (.d<|.sl 1<|a1.map zm)) O<|ai (v':=oI s5.2) O<|ai (v':=.one (.d<|.sl 1<|a1.map zm)) O<|ai (v':=oI a2) O<|ai (v':=.one .any) O<|ai (v':=oI s5.2) O aN) (av (v':=.vars 1 [dI v11]) O O<|aY O aU) (za eZ<|zl<|aP<|al<|ak (zf [1600] (kr 5 O O<|kr 0 O O<|kr 1 O O<|kr 6 O O ar) (blR O)<|ao (n:=320192) O bZ O O aj)<|aR<|za O<|qb eZ eC<|za eZ<|zl<|al ⟨(s5.1++([v11]),IntKind.wrap .i64 (s5.2+1)),H,zf [] (sR O O) (blR O)<|bkR O O O⟩)
   ·exact zh eZ h10 (au<|aP<|al<|aR<|za O<|qb eZ eC<|za eZ<|zl<|al ⟨(s5.1,IntKind.wrap .i64 (s5.2+1)),H,zf [] (sR O O) (blR O)<|bkR O O O⟩)
  ·exact zh eZ h7 (aH<|aC<|aC<|aT<|al ⟨s5.1,H,(zf [] (sR O O) (blR O)<|bkR O O O).trans<|yP 320192 320128 O O<|nR O⟩)
theorem zgB{a1:(List Int)}{a2:Int}{r:(List Int)}(H:xl a1 a2=some r):Fn Tryz.prog 121 (lent [.sl 1 (a1.map zm),.int .i64 a2]) true [.sl 1 (List.map zm r)]:=by
 refine ac zJa O ?_
 refine ak (zf [] (kv 0 (.one<|.d<|.sl 1<|a1.map zm) O O<|kv 1 (oI a2) O O ar) am aj) ?_
 unfold xl at H
 unfold zF7
 refine aV (za eC<|xQ<|aV<|yb (m:=512) O nZ<|za eZ<|xQ<|aV<|za eC<|xQ<|zD (fun t3:((List Int)×Bool)=>kV a2 t3=some r) (fun t3=>mk [(1,oI a2),(5,.one<|.sl 320320 0 t3.1.length),(6,oB t3.2)] [(320320,.data 1 (List.map zm t3.1) true none)] noG) ?_ ?_)
 ·intro t3 H
  unfold kV at H
  refine aS (aV<|za O<|qS eZ<|xQ ?_)
  obtain⟨h5,H⟩|⟨h5,H⟩:=aa H
  ·refine zh eZ (cN h5) (au<|al<|aV<|za O<|za eZ<|xQ<|aq ?_)
   cases H
   exact qT (aE (aM eZ) (aL bZ lm (zI fun _=>O)) aO) (by decide)
  ·refine zi eZ (cN h5) (aR<|za O<|za O<|QQ (m:=2944) (q:=1) (cs:=[dI a2]) O (qY eZ Z5) O (List.cons_ne_nil _ _) (by simp) (nR O) ?_)
   obtain⟨h6,H⟩:=zW H
   refine zdv (f:=zm) (xs:=t3.1) (ys:=[a2]) (q:=(t3.1++([a2])).length) O eZ (bR O) O (bC (f:=zm) (t:=a2) (es:=[.int .i64 a2]) bZ O O O) O h6 (by decide) (by decide) (ai (v':=.one (.sl 2944 0 1)) O<|ai (v':=oI a2) O<|ai (v':=.one .any) O<|ai (v':=oB (!t3.2)) O<|ai (v':=oB t3.2) O<|ai (v':=oI a2) O<|ai (v':=.one .any) O<|ai (v':=oB t3.2) O aN) (av (v':=.vars 1 [dI a2]) O O<|aY O aU) (za eZ<|xQ<|aV<|za eZ<|za eZ<|xQ<|aq ?_)
   cases H
   exact qT (aE (aM eZ) (aL bZ lm (zI fun _=>O)) aO) (by decide)
 ·refine aV (za eC<|xQ<|aw<|aG (fun s7:((List Int)×Bool×Int)=>mk [(0,.one<|.d<|.sl 1<|a1.map zm),(1,oI a2),(5,.one<|.sl 320448 0 s7.1.length),(6,oB s7.2.1),(7,oI s7.2.2)] [(320448,.data 1 (List.map zm s7.1) true none)] noG) H ((zf [] (kR O O<|kR O O<|aF eZ O (aK af)<|sR O O) (blR O)<|bkR O O O).trans<|ziH 320448 1 5 true O nZ) ?_)
  intro kb8 s7 H
  unfold kK at H
  refine aS (aV<|za O<|za O<|zX eZ (n:=a1.length) lm<|qj O eZ<|xQ ?_)
  obtain⟨h9,H⟩|⟨h9,H⟩:=ab H
  ·refine zi eZ h9 (au<|al<|aS<|aw<|zD (fun t10:((List Int)×Bool)=>ZP a1 s7 a2 kb8 t10=some r) (fun t10=>mk [(0,.one<|.d<|.sl 1<|a1.map zm),(1,oI a2),(5,.one<|.sl 320576 0 t10.1.length),(6,oB t10.2),(7,oI s7.2.2)] [(320576,.data 1 (List.map zm t10.1) true none)] noG) ?_ ?_)
   ·intro t10 H
    unfold ZP at H
    refine aV (za eZ<|za O ?_)
    obtain⟨v12,h13,H⟩:=zk H
    refine qk O eZ h13 (zV (e:=.int .i64 v12) eZ O<|za O<|ZK O eZ<|xQ ?_)
    obtain⟨h14,H⟩|⟨h14,H⟩:=ab H
    ·refine zi eZ h14 (aR<|za O<|za O<|za O ?_)
     obtain⟨v15,h16,H⟩:=zk H
     refine qk O eZ h16 (zV (e:=.int .i64 v15) eZ O<|QQ (m:=2560) (q:=1) (cs:=[dI v15]) O (qY eZ Z5) O (List.cons_ne_nil _ _) (by simp) (nR O) ?_)
     obtain⟨h17,H⟩:=zW H
     exact zdv (f:=zm) (xs:=t10.1) (ys:=[v15]) (q:=(t10.1++([v15])).length) O eZ (bR O) O (bC (f:=zm) (t:=v15) (es:=[.int .i64 v15]) bZ O O O) O h17 (by decide) (by decide) (ai (v':=.one (.sl 2560 0 1)) O<|ai (v':=oI v15) O<|ai (v':=.one (.ptr<|.bd (zm v15) 0)) O<|ai (v':=oI s7.2.2) O<|ai (v':=.one (.d<|.sl 1<|a1.map zm)) O<|ai (v':=.one .any) O<|ai (v':=oB (decide (¬v12=a2))) O<|ai (v':=oI a2) O<|ai (v':=oI v12) O<|ai (v':=.one (.ptr<|.bd (zm v12) 0)) O<|ai (v':=oI s7.2.2) O<|ai (v':=.one (.d<|.sl 1<|a1.map zm)) O<|ai (v':=.one (.d<|.sl 1<|a1.map zm)) O<|ai (v':=oI a2) O<|ai (v':=.one .any) O<|ai (v':=oB t10.2) O<|ai (v':=oI s7.2.2) O aN) (av (v':=.vars 1 [dI v15]) O O<|aY O aU) (za eZ<|zl<|aP<|al<|ak (zf [2560] (kr 5 O O<|kr 0 O O<|kr 1 O O<|kr 6 O O<|kr 7 O O ar) (blR O)<|ao (n:=320576) O bZ O O aj)<|aR<|za O<|qb eZ eC<|za eZ<|zl<|al ⟨(t10.1++([v15]),t10.2,IntKind.wrap .i64 (s7.2.2+1)),H,(zf [] (sR O O) (blR O)<|bkR O O O).trans<|yP 320576 320448 O O<|nR O⟩)
    ·exact zh eZ h14 (au<|aP<|al<|aR<|za O<|qb eZ eC<|za eZ<|zl<|al ⟨(t10.1,t10.2,IntKind.wrap .i64 (s7.2.2+1)),H,(zf [] (sR O O) (blR O)<|bkR O O O).trans<|yP 320576 320448 O O<|nR O⟩)
   ·refine zD (fun t18:Bool=>(Je s7 a2<|ZP a1 s7 a2 kb8) t18=some r) (fun t18=>mk [(0,.one<|.d<|.sl 1<|a1.map zm),(1,oI a2),(5,.one<|.sl 320448 0 s7.1.length),(6,oB s7.2.1),(7,oI s7.2.2),(24,oB t18)] [(320448,.data 1 (List.map zm s7.1) true none)] noG) ?_ ?_
    ·intro t18 H
     obtain⟨h20,H⟩|⟨h20,H⟩:=zA H
     ·refine zi O h20 (aV<|za O<|za O<|QQ (m:=1728) (q:=1) (cs:=[dI a2]) O (qY eZ Z5) O (List.cons_ne_nil _ _) (by simp) (nR O) ?_)
      obtain⟨h21,H⟩:=zW H
      exact zdv (f:=zm) (xs:=s7.1) (ys:=[a2]) (q:=(s7.1++([a2])).length) O eZ (bR O) O (bC (f:=zm) (t:=a2) (es:=[.int .i64 a2]) bZ O O O) O h21 (by decide) (by decide) (ai (v':=.one (.sl 1728 0 1)) O<|ai (v':=oI a2) O<|ai (v':=.one .any) O<|ai (v':=.one (.d<|.sl 1<|a1.map zm)) O<|ai (v':=oI a2) O<|ai (v':=.one .any) O<|ai (v':=oB s7.2.1) O<|ai (v':=oI s7.2.2) O<|ai (v':=oB t18) O aN) (av (v':=.vars 1 [dI a2]) O O<|aY O aU) (za eZ<|xQ<|aR<|za eC<|zl<|al ⟨(s7.1++([a2]),true),H,(zf [1728] (sR O O) (blR O)<|bkR O O O).trans<|yP 320448 320576 O O<|nR O⟩)
     ·exact zh O (nt h20) (au<|al ⟨(s7.1,s7.2.1),H,(zf [] (sR O O) (blR O)<|bkR O O O).trans<|yP 320448 320576 O O<|nR O⟩)
    ·refine aR (za O<|qS eZ<|za eZ ?_)
     obtain⟨h22,H⟩|⟨h22,H⟩:=zA H
     ·exact zb eZ (cN h22) O (zb O (cN h22) O<|zb O (cN h22) O<|zb O (cN h22) O<|zb O (cN h22) O<|zb O (cN h22) O<|zM O (cN h22) eC<|zl<|al ⟨false,H,zf [] (sR O O) (blR O)<|bkR O O O⟩)
     ·refine gDo eZ (cN<|nt h22) (za O<|gDo O (cN<|nt h22)<|za O<|gDo O (cN<|nt h22) ?_)
      obtain⟨v23,h24,H⟩:=zk H
      exact qk O eZ h24 (gDo O (cN<|nt h22)<|zV (e:=.int .i64 v23) eZ O<|gDo O (cN<|nt h22)<|za O<|gDo O (cN<|nt h22)<|Xo O eZ<|zB O (cN<|nt h22) eZ<|zl<|al ⟨decide (a2≤v23),H,zf [] (sR O O) (blR O)<|bkR O O O⟩)
  ·exact zh eZ h9 (aH<|aC<|aC<|aT<|al ⟨(s7.1,s7.2.1),H,(zf [] (sR O O) (blR O)<|bkR O O O).trans<|yP 320448 320320 O O<|nR O⟩)
theorem zcK{a1:zp}{a2:Int}{a3:Bool}{r:(zp×Int)}(H:ZG a1 a2 a3=some r):Fn Tryz.prog 28 (lent [.agg (zT a1),.int .i64 a2,.bool a3]) false [.agg (zT r.1),.int .i64 r.2]:=by
 refine ae g28 O ?_
 refine ak (zf [] (kv 0 (.agg<|zK a1) O O<|kv 1 (oI a2) O O<|kv 2 (oB a3) O O ar) am aj) ?_
 unfold ZG at H
 unfold i28
 refine aV (yd (n:=192) (m:=9) (cs:=zK a1) O eZ O O nZ<|Zn (n:=384) (m:=9) O O (nR O)<|za eC<|xQ<|aS<|zD (fun t4:Bool=>yA a1 a2 a3 t4=some r) (fun t4=>mk [(1,oI a2),(2,oB a3),(3,.one<|.ptr<|.nm 192 0 0),(6,.one<|.ptr<|.nm 384 0 0),(19,oB t4)] [(192,.vars 9<|zK a1),(384,.vars 9 [dI 0,.zs,.zs,.zs,.zs,.zs,.zs,.zs,dI 0])] noG) ?_ ?_)
 ·intro t4 H
  obtain⟨h6,H⟩|⟨h6,H⟩:=aa H
  ·refine zi O h6 (aV<|Xa (cs:=[dI 0,.zs,.zs,.zs,.zs,.zs,.zs,.zs,dI 0]) Z5 O<|zP (es:=[dI 0,.zs,.zs,.zs,.zs,.zs,.zs,.zs,dI 0]) O eZ O O (bR O) O<|za eC<|xQ<|aq<|ax ?_)
   cases H
   exact zjH (bK (yq (es:=[dI 0,.zs,.zs,.zs,.zs,.zs,.zs,.zs,dI 0]) O bZ O) (bE<|aD<|bM<|bM<|bM<|bM<|bM<|bM<|bM<|aD bc) (RdI.agg<|zaE.cons bG O<|zaE.cons bJ O<|zaE.cons bJ O<|zaE.cons bJ O<|zaE.cons bJ O<|zaE.cons bJ O<|zaE.cons bJ O<|zaE.cons bJ O<|zaE.cons bG O zaE.nil) O<|bK (aM eZ) Vp bG O RB.nil)
  ·refine zh O h6 (au<|al<|aV<|zY (es:=zK a1) O bZ O ?_)
   obtain⟨v7,h8,H⟩:=zk H
   refine zF (u:=.agg (zK v7)) eC ay (zfA h8) (Ec eZ En) (Vc (aI O) Vn) O (Zn (n:=512) (m:=9) O O (nR O)<|zP (es:=zK v7) eZ O O O bZ O<|xQ<|aS<|aV<|ze (m:=7) O O<|zn (q:=7) (c:=.d (.sl 1<|a1.Ended.map zm)) eZ (bR O) O O<|za O ?_)
   obtain⟨v9,h10,H⟩:=zk H
   refine zF (u:=oB v9) eC ay (Jl h10) (Ec O<|Ec eZ En) (Vc Vp<|Vc Vp Vn) O (xQ ?_)
   obtain⟨h11,H⟩|⟨h11,H⟩:=aa H
   ·refine zi eZ h11 (aV<|zY (es:=zK v7) O bZ O<|zP (es:=zK v7) O eZ O O (bR O) O<|za eC<|xQ<|aq<|ax ?_)
    cases H
    exact zjH (bK (yq (es:=zK v7) O bZ O) (aI O) bG O<|bK (aM eZ) Vp bG O RB.nil)
   ·refine zh eZ h11 (au<|al<|aV<|yb (m:=1792) O (nR O)<|za eZ<|xQ<|zD (fun t12:((List zL)×(List zj))=>Z4 a1 a2 v7 t12=some r) (fun t12=>mk [(1,oI a2),(3,.one<|.ptr<|.nm 192 0 0),(6,.one<|.ptr<|.nm 384 0 0),(8,.one<|.ptr<|.nm 512 0 0),(9,.one<|.sl 320128 0 t12.1.length)] [(320128,.data 2 (List.map zx t12.1) false none),(192,.vars 9<|zK a1),(384,.vars 9 [dI 0,.zs,.zs,.zs,.zs,.zs,.zs,.zs,dI 0]),(512,.vars 9 [dI v7.Me,.d<|.sl 2<|v7.Own.map zg,.d<|.sl 2<|v7.Frozen.map zg,.d<|.sl 2<|List.map zd t12.2,.d<|.sl 4<|v7.Locks.map zo,.d<|.sl 2<|v7.Helds.map zx,.d<|.sl 1<|v7.Wounded.map zm,.d<|.sl 1<|v7.Ended.map zm,dI v7.Rank])] noG) ?_ ?_)
    ·intro t12 H
     unfold Z4 at H
     refine aV (za O<|ze (m:=5) O O<|zP (es:=[dI v7.Me,.d<|.sl 2<|v7.Own.map zg,.d<|.sl 2<|v7.Frozen.map zg,.d<|.sl 2<|List.map zd t12.2,.d<|.sl 4<|v7.Locks.map zo,.sl 320128 0 t12.1.length,.d<|.sl 1<|v7.Wounded.map zm,.d<|.sl 1<|v7.Ended.map zm,dI v7.Rank]) eZ O O O (bR O) O<|xQ<|aV<|ze (m:=4) O O<|zn (q:=4) (c:=.d (.sl 4<|a1.Locks.map zo)) eZ (bR O) O O<|za O ?_)
     obtain⟨v14,h15,H⟩:=zk H
     refine zF (u:=.one (.d<|.sl 4<|v14.map zo)) eC ay (zfK h15) (Ec O<|Ec eZ<|Ec eC En) (Vc Vp<|Vc Vp<|Vc Vp Vn) O (ze (m:=4) O O<|zP (es:=[dI v7.Me,.d<|.sl 2<|v7.Own.map zg,.d<|.sl 2<|v7.Frozen.map zg,.d<|.sl 2<|List.map zd t12.2,.d<|.sl 4<|v14.map zo,.sl 320128 0 t12.1.length,.d<|.sl 1<|v7.Wounded.map zm,.d<|.sl 1<|v7.Ended.map zm,dI v7.Rank]) eZ O O O bZ O<|xQ<|aV<|ze (m:=6) O O<|zn (q:=6) (c:=.d (.sl 1<|a1.Wounded.map zm)) eZ (bR O) O O<|za O ?_)
     obtain⟨v16,h17,H⟩:=zk H
     refine zF (u:=.one (.d<|.sl 1<|v16.map zm)) eC ay (zff h17) (Ec O<|Ec eZ En) (Vc Vp<|Vc Vp Vn) O (ze (m:=6) O O<|zP (es:=[dI v7.Me,.d<|.sl 2<|v7.Own.map zg,.d<|.sl 2<|v7.Frozen.map zg,.d<|.sl 2<|List.map zd t12.2,.d<|.sl 4<|v14.map zo,.sl 320128 0 t12.1.length,.d<|.sl 1<|v16.map zm,.d<|.sl 1<|v7.Ended.map zm,dI v7.Rank]) eZ O O O bZ O<|xQ<|ak (zf [] (kr 1 O O<|kr 3 O O<|kr 6 O O<|kr 8 O O ar) (blR O)<|ao (n:=512) O bZ O O<|ao (n:=320128) O (bR O) O O<|ao (n:=192) O (bR O) O O<|ao (n:=384) O (bR O) O O aj)<|aV<|ze (m:=7) O O<|zn (q:=7) (c:=.d (.sl 1<|a1.Ended.map zm)) eZ (bR O) O O<|za O ?_)
     obtain⟨v18,h19,H⟩:=zk H
     refine zF (u:=.one (.d<|.sl 1<|v18.map zm)) eC ay (zgB h19) (Ec O<|Ec eZ En) (Vc Vp<|Vc Vp Vn) O (ze (m:=7) O O<|zP (es:=[dI v7.Me,.d<|.sl 2<|v7.Own.map zg,.d<|.sl 2<|v7.Frozen.map zg,.d<|.sl 2<|List.map zd t12.2,.d<|.sl 4<|v14.map zo,.sl 320128 0 t12.1.length,.d<|.sl 1<|v16.map zm,.d<|.sl 1<|v18.map zm,dI v7.Rank]) eZ O O O bZ O<|xQ<|aV<|zY (es:=[dI v7.Me,.d<|.sl 2<|v7.Own.map zg,.d<|.sl 2<|v7.Frozen.map zg,.d<|.sl 2<|List.map zd t12.2,.d<|.sl 4<|v14.map zo,.sl 320128 0 t12.1.length,.d<|.sl 1<|v16.map zm,.d<|.sl 1<|v18.map zm,dI v7.Rank]) O bZ O<|zP (es:=[dI v7.Me,.d<|.sl 2<|v7.Own.map zg,.d<|.sl 2<|v7.Frozen.map zg,.d<|.sl 2<|List.map zd t12.2,.d<|.sl 4<|v14.map zo,.sl 320128 0 t12.1.length,.d<|.sl 1<|v16.map zm,.d<|.sl 1<|v18.map zm,dI v7.Rank]) O eZ O O (bR O) O<|za eC<|xQ<|aq ?_)
     cases H
     exact zjH (bK (yq (es:=[dI v7.Me,.d<|.sl 2<|v7.Own.map zg,.d<|.sl 2<|v7.Frozen.map zg,.d<|.sl 2<|List.map zd t12.2,.d<|.sl 4<|v14.map zo,.sl 320128 0 t12.1.length,.d<|.sl 1<|v16.map zm,.d<|.sl 1<|v18.map zm,dI v7.Rank]) O bZ O) (bE<|aD<|aD<|aD<|aD<|aD<|aW (bR O) lm<|aD<|aD<|aD bc) bG O<|bK (aM eZ) Vp bG O RB.nil)
    ·refine aV (za eC<|xQ<|aw<|aG (fun s20:((List zL)×Int×(List zj))=>mk [(1,oI a2),(2,oB a3),(3,.one<|.ptr<|.nm 192 0 0),(6,.one<|.ptr<|.nm 384 0 0),(8,.one<|.ptr<|.nm 512 0 0),(9,.one<|.sl 320192 0 s20.1.length),(10,oI s20.2.1)] [(320192,.data 2 (List.map zx s20.1) false none),(192,.vars 9<|zK a1),(384,.vars 9 [dI 0,.zs,.zs,.zs,.zs,.zs,.zs,.zs,dI 0]),(512,.vars 9 [dI v7.Me,.d<|.sl 2<|v7.Own.map zg,.d<|.sl 2<|v7.Frozen.map zg,.d<|.sl 2<|List.map zd s20.2.2,.d<|.sl 4<|v7.Locks.map zo,.d<|.sl 2<|v7.Helds.map zx,.d<|.sl 1<|v7.Wounded.map zm,.d<|.sl 1<|v7.Ended.map zm,dI v7.Rank])] noG) H ((zf [] (kR O O<|kR O O<|kR O O<|kR O O<|kR O O<|aF eZ O (aK af)<|sR O O) (blR O)<|bkR O O O).trans<|ziH 320192 2 9 false O<|nR O) ?_)
     intro kb21 s20 H
     unfold Z1 at H
     refine aS (aV<|za O<|ze (m:=5) O O<|zn (q:=5) (c:=.d (.sl 2<|v7.Helds.map zx)) eZ (bR O) O O<|zX eZ (n:=v7.Helds.length) lm<|qj O eZ<|xQ ?_)
     obtain⟨h22,H⟩|⟨h22,H⟩:=ab H
     ·refine zi eZ h22 (au<|al<|aS<|aw<|aV<|ze (m:=5) O O<|zn (q:=5) (c:=.d (.sl 2<|v7.Helds.map zx)) eZ (bR O) O O<|za O ?_)
      obtain⟨v23,h24,H⟩:=zk H
      refine qk O eZ h24 (qi (es:=jm v23) eZ O<|Zn (n:=704) (m:=2) O O (nR O)<|zP (es:=jm v23) eZ O O O bZ O<|xQ<|ak (zf [] (kr 11 O O<|kr 1 O O<|kr 2 O O<|kr 3 O O<|kr 6 O O<|kr 8 O O<|kr 9 O O<|kr 10 O O ar) (blR O)<|ao (n:=704) O bZ O O<|ao (n:=320192) O (bR O) O O<|ao (n:=192) O (bR O) O O<|ao (n:=384) O (bR O) O O<|ao (n:=512) O (bR O) O O aj)<|aV<|ze (m:=0) eZ O<|zn (q:=0) (c:=dI v23.Tx) eZ bZ O O<|za O<|ZK O eZ<|xQ ?_)
      obtain⟨h25,H⟩|⟨h25,H⟩:=ab H
      ·refine zi eZ h25 (aR<|za O<|zY (es:=jm v23) O bZ O<|QQ (m:=3008) (q:=1) (cs:=jm v23) O (qY eZ Z5) O (List.cons_ne_nil _ _) (by simp) (nR O) ?_)
       obtain⟨h26,H⟩:=zW H
       exact zdv (f:=zx) (xs:=s20.1) (ys:=[v23]) (q:=(s20.1++([v23])).length) O eZ (bR O) O (bC (f:=zx) (t:=v23) (es:=[.int .i64 v23.Tx,.sl 2<|v23.Writes.map zd]) bZ O O O) O h26 (by decide) (by decide) (ai (v':=.one (.sl 3008 0 1)) O<|ai (v':=.agg (jm v23)) O<|ai (v':=.one .any) O<|ai (v':=oB (decide (¬v23.Tx=a2))) O<|ai (v':=oI a2) O<|ai (v':=oI v23.Tx) O<|ai (v':=.one (.ptr<|.nm 704 0 0)) O<|ai (v':=.one (.ptr<|.nm 704 0 0)) O<|ai (v':=oI a2) O<|ai (v':=oB a3) O<|ai (v':=.one (.ptr<|.nm 192 0 0)) O<|ai (v':=.one (.ptr<|.nm 384 0 0)) O<|ai (v':=.one (.ptr<|.nm 512 0 0)) O<|ai (v':=.one .any) O<|ai (v':=oI s20.2.1) O aN) (av (v':=.vars 2 (jm v23)) O O<|av (v':=.vars 2 (jm v23)) O O<|aY O<|av (v':=.vars 9 (zK a1)) O O<|av (v':=.vars 9 [dI 0,.zs,.zs,.zs,.zs,.zs,.zs,.zs,dI 0]) O O<|av (v':=.vars 9 [dI v7.Me,.d<|.sl 2<|v7.Own.map zg,.d<|.sl 2<|v7.Frozen.map zg,.d<|.sl 2<|List.map zd s20.2.2,.d<|.sl 4<|v7.Locks.map zo,.d<|.sl 2<|v7.Helds.map zx,.d<|.sl 1<|v7.Wounded.map zm,.d<|.sl 1<|v7.Ended.map zm,dI v7.Rank]) O O aU) (za eZ<|zl<|aP<|al<|ak (zf [3008,704] (kr 9 O O<|kr 1 O O<|kr 2 O O<|kr 3 O O<|kr 6 O O<|kr 8 O O<|kr 10 O O ar) (blR O)<|ao (n:=320192) O bZ O O<|ao (n:=192) O (bR O) O O<|ao (n:=384) O (bR O) O O<|ao (n:=512) O (bR O) O O aj)<|aR<|za O<|qb eZ eC<|za eZ<|zl<|al ⟨(s20.1++([v23]),IntKind.wrap .i64 (s20.2.1+1),s20.2.2),H,zf [] (sR O O) (blR O)<|bkR O O O⟩)
      ·refine zh eZ h25 (aV<|za O<|xQ ?_)
       obtain⟨h27,H⟩|⟨h27,H⟩:=zA H
       ·refine zi eZ h27 (aR<|ze (m:=3) O O<|zn (q:=3) (c:=.d (.sl 2<|a1.Cells.map zd)) eZ (bR O) O O<|ze (m:=1) O O<|zn (q:=1) (c:=.d (.sl 2<|v23.Writes.map zd)) eZ bZ O O ?_)
        obtain⟨v28,h29,H⟩:=zk H
        exact zF (u:=.tup [.one (.d<|.sl 2<|v28.1.map zd),oB v28.2]) eC ay (zdc h29) (Ec O<|Ec eZ En) (Vc Vp<|Vc Vp Vn) O (za eZ<|zaM (v:=.one (.d<|.sl 2<|v28.1.map zd)) eZ O<|zaM (v:=oB v28.2) O O<|ze (m:=3) O O<|zP (es:=[dI v7.Me,.d<|.sl 2<|v7.Own.map zg,.d<|.sl 2<|v7.Frozen.map zg,.d<|.sl 2<|v28.1.map zd,.d<|.sl 4<|v7.Locks.map zo,.d<|.sl 2<|v7.Helds.map zx,.d<|.sl 1<|v7.Wounded.map zm,.d<|.sl 1<|v7.Ended.map zm,dI v7.Rank]) eZ O O O (bR O) O<|zl<|aP<|al<|ak (zf [704] (kr 1 O O<|kr 2 O O<|kr 3 O O<|kr 6 O O<|kr 8 O O<|kr 9 O O<|kr 10 O O ar) (blR O)<|ao (n:=512) O bZ O O<|ao (n:=320192) O (bR O) O O<|ao (n:=192) O (bR O) O O<|ao (n:=384) O (bR O) O O aj)<|aR<|za O<|qb eZ eC<|za eZ<|zl<|al ⟨(s20.1,IntKind.wrap .i64 (s20.2.1+1),v28.1),H,zf [] (sR O O) (blR O)<|bkR O O O⟩)
       ·exact zh eZ (nt h27) (au<|aP<|al<|aR<|za O<|qb eZ eC<|za eZ<|zl<|al ⟨(s20.1,IntKind.wrap .i64 (s20.2.1+1),s20.2.2),H,zf [704] (sR O O) (blR O)<|bkR O O O⟩)
     ·exact zh eZ h22 (aH<|aC<|aC<|aT<|al ⟨(s20.1,s20.2.2),H,(zf [] (sR O O) (blR O)<|bkR O O O).trans<|yP 320192 320128 O O<|nR O⟩)
 ·refine aR (zY (es:=zK a1) O (bR O) O ?_)
  obtain⟨v30,h31,H⟩:=zk H
  refine zF (u:=oB v30) eC ay (zfF h31) (Ec eZ En) (Vc (aI O) Vn) O (qS eZ<|za eZ ?_)
  obtain⟨h32,H⟩|⟨h32,H⟩:=zA H
  ·refine gDo eZ (cN h32) (za O<|gDo O (cN h32) ?_)
   obtain⟨v33,h34,H⟩:=zk H
   exact zF (u:=oB v33) eC ay (Kl h34) (Ec eZ En) (Vc Vp Vn) O (gDo O (cN h32)<|qS eZ<|zM O (cN h32) eZ<|zl<|al ⟨!v33,H,zf [] (sR O O) (blR O)<|bkR O O O⟩)
  ·exact zb eZ (cN<|nt h32) O (zb O (cN<|nt h32) O<|zb O (cN<|nt h32) O<|zB O (cN<|nt h32) eC<|zl<|al ⟨true,H,zf [] (sR O O) (blR O)<|bkR O O O⟩)
theorem ki{a1:Int}{a2:Int}{a3:Int}{r:Bool}(H:Zf a1 a2 a3=some r):Fn Tryz.prog 179 (lent [.int .i64 a1,.int .i64 a2,.int .i64 a3]) true [.bool r]:=by
 refine ac zIB O ?_
 refine ak (zf [] (kv 0 (oI a1) O O<|kv 1 (oI a2) O O<|kv 2 (oI a3) O O ar) am aj) ?_
 unfold Zf at H
 unfold zFZ
 refine aV (za eC<|xQ<|aV<|za O<|za O<|Xo O eZ<|za eZ ?_)
 obtain⟨h4,H⟩|⟨h4,H⟩:=ab H
 ·refine gDo eZ h4 (za O<|gDo O h4<|za O<|gDo O h4<|zbE O eZ<|zB O h4 eZ<|za eZ<|xQ<|aq ?_)
  cases H
  exact eE O O
 ·refine zb eZ h4 O (zb O h4 O<|zb O h4 O<|zM O h4 eC<|za eZ<|xQ<|aq ?_)
  cases H
  exact eE O O
theorem zgp{a1:Int}{r:Bool}(H:Yb a1=some r):Fn Tryz.prog 225 (lent [.int .i64 a1]) true [.bool r]:=by
 refine ac zJ0 O ?_
 refine ak (zf [] (kv 0 (oI a1) O O ar) am aj) ?_
 unfold Yb at H
 unfold zBO
 refine aV (za eC<|xQ<|aV<|za O ?_)
 obtain⟨v2,h3,H⟩:=zk H
 refine zF (u:=oB v2) eC ay (ki h3) (Ec eZ<|Ec eC<|Ec eC En) (Vc Vp<|Vc Vp<|Vc Vp Vn) O (za eZ<|xQ<|aq ?_)
 cases H
 exact eE O O
theorem K0{a1:zw}{r:Bool}(H:ZF a1=some r):Fn Tryz.prog 141 (lent [.agg (zg a1)]) true [.bool r]:=by
 refine ac zIu O ?_
 refine ak (zf [] (kv 0 (.agg [dI a1.Lo,dI a1.Hi]) O O ar) am aj) ?_
 unfold ZF at H
 unfold zE6
 refine aV (yd (n:=64) (m:=2) (cs:=[dI a1.Lo,dI a1.Hi]) O eZ O O nZ<|za eC<|xQ<|aV<|ze (m:=0) O O<|zn (q:=0) (c:=dI a1.Lo) eZ bZ O O<|Xo eZ eC<|za eZ ?_)
 obtain⟨h2,H⟩|⟨h2,H⟩:=ab H
 ·refine gDo eZ h2 (ze (m:=0) O O<|gDo O h2<|zn (q:=0) (c:=dI a1.Lo) eZ bZ O O<|gDo O h2<|ze (m:=1) O O<|gDo O h2<|zn (q:=1) (c:=dI a1.Hi) eZ bZ O O<|gDo O h2<|qj O eZ<|zB O h2 eZ<|za eZ ?_)
  obtain⟨h3,H⟩|⟨h3,H⟩:=zA H
  ·refine gDo eZ (dT h3) (ze (m:=1) O O<|gDo O (dT h3)<|zn (q:=1) (c:=dI a1.Hi) eZ bZ O O<|gDo O (dT h3)<|zbE eZ eC<|zB O (dT h3) eZ<|za eZ<|xQ<|ak (zf [64] (kr 2 O O ar) (blR O) aj)<|aq ?_)
   cases H
   exact eE O O
  ·refine zb eZ (dF h3) O (zb O (dF h3) O<|zb O (dF h3) O<|zM O (dF h3) eC<|za eZ<|xQ<|ak (zf [64] (kr 2 O O ar) (blR O) aj)<|aq ?_)
   cases H
   exact eE O O
 ·refine zb eZ h2 O (zb O h2 O<|zb O h2 O<|zb O h2 O<|zb O h2 O<|zM O h2 eC<|za eZ<|zb eZ O O<|zb O O O<|zb O O O<|zM O O eC<|za eZ<|xQ<|ak (zf [64] (kr 2 O O ar) (blR O) aj)<|aq ?_)
  cases H
  exact eE O O
theorem zbo{a1:(List zw)}{r:Bool}(H:ZN a1=some r):Fn Tryz.prog 226 (lent [.sl 2 (a1.map zg)]) true [.bool r]:=by
 refine ac zJQ O ?_
 refine ak (zf [] (kv 0 (.one<|.d<|.sl 2<|a1.map zg) O O ar) am aj) ?_
 unfold ZN at H
 unfold zDL
 refine aV (za eC<|xQ<|zD (fun t2:Unit=>YQ a1 t2=some r) (fun t2=>mk [(0,.one<|.d<|.sl 2<|a1.map zg)] [] noG) ?_ ?_)
 ·intro t2 H
  unfold YQ at H
  refine aV (za eZ<|zX eZ (n:=a1.length) lm<|zbE eZ eC<|za eZ<|xQ<|aq ?_)
  cases H
  exact eE O O
 ·refine aV (za O<|zX eZ (n:=a1.length) lm<|za eC<|xQ<|aw<|aG (fun s4:Int=>mk [(0,.one<|.d<|.sl 2<|a1.map zg),(5,.one<|.d<|.sl 2<|a1.map zg),(6,oI (a1.length:Int)),(7,oI s4)] [] noG) H (zf [] (sR O O) am aj) ?_)
  intro kb5 s4 H
  unfold Yu at H
  refine aV (qj O O<|xQ<|aS ?_)
  obtain⟨h6,H⟩|⟨h6,H⟩:=ab H
  ·refine zi eZ h6 (au<|al<|aS<|aw<|aV<|za O ?_)
   obtain⟨v7,h8,H⟩:=zk H
   refine qk O O h8 (qi (es:=[dI v7.Lo,dI v7.Hi]) eZ O<|Zn (n:=256) (m:=2) O O nZ<|za O<|zP (es:=[dI v7.Lo,dI v7.Hi]) O O O O bZ O<|xQ<|zD (fun t9:Bool=>Zj kb5 s4 t9=some r) (fun t9=>mk [(0,.one<|.d<|.sl 2<|a1.map zg),(5,.one<|.d<|.sl 2<|a1.map zg),(6,oI (a1.length:Int)),(7,oI s4),(29,oB t9)] [] noG) ?_ ?_)
   ·intro t9 H
    obtain⟨h11,H⟩|⟨h11,H⟩:=aa H
    ·refine zi O h11 (aV<|za eC<|xQ<|aq<|aJ<|ax<|ax<|aJ<|ax ?_)
     cases H
     exact eE O O
    ·exact zh O h11 (au<|aP<|al<|aR<|qb O eC<|za eZ<|zl<|al ⟨IntKind.wrap .i64 (s4+1),H,zf [] (sR O O) am aj⟩)
   ·refine aX (zY (es:=[dI v7.Lo,dI v7.Hi]) O bZ O ?_)
    obtain⟨v12,h13,H⟩:=zk H
    refine zF (u:=oB v12) eC ay (K0 h13) (Ec eZ En) (Vc (aI O) Vn) O (qS eZ<|za eZ ?_)
    obtain⟨h14,H⟩|⟨h14,H⟩:=aa H
    ·refine gDo eZ (cN h14) (za O<|gDo O (cN h14)<|zaC eZ eC<|gDo O (cN h14)<|za eZ ?_)
     obtain⟨h15,H⟩|⟨h15,H⟩:=ab H
     ·refine gDo eZ h15 (ze (m:=0) O O<|gDo O h15<|zn (q:=0) (c:=dI v7.Lo) eZ bZ O O<|gDo O h15<|za O<|gDo O h15<|za O<|gDo O h15<|zbP eZ eC<|gDo O h15 ?_)
      obtain⟨v16,h17,H⟩:=zk H
      exact qk O eZ h17 (gDo O h15<|z7 (m:=1) eZ O<|gDo O h15<|zV (e:=.int .i64 v16.Hi) eZ O<|gDo O h15<|qj O eZ<|gDo O (cN h14)<|zB O h15 eZ<|zM O (cN h14) eZ<|zl<|al ⟨decide (v7.Lo < v16.Hi),H,zf [256] (sR O O) (blR O) aj⟩)
     ·exact zb eZ h15 O (zb O h15 O<|zb O h15 O<|zb O h15 O<|zb O h15 O<|zb O h15 O<|zb O h15 O<|zb O h15 O<|zb O h15 O<|gDo O (cN h14)<|zM O h15 eC<|zM O (cN h14) eZ<|zl<|al ⟨false,H,zf [256] (sR O O) (blR O) aj⟩)
    ·exact zb eZ (cN h14) O (zb O (cN h14) O<|zb O (cN h14) O<|zE eZ O<|zE O O<|zE O O<|zE O O<|zE O O<|zE O O<|zE O O<|zE O O<|zE O O<|zb O (cN h14) O<|zB O (cN h14) eC<|zl<|al ⟨true,H,zf [256] (sR O O) (blR O) aj⟩)
  ·exact zh eZ h6 (aH<|aC<|aC<|aT<|al ⟨(),H,zf [] (sR O O) am aj⟩)
theorem zc6{a1:Int}{r:Bool}(H:YF a1=some r):Fn Tryz.prog 296 (lent [.int .i64 a1]) true [.bool r]:=by
 refine ac f296 O ?_
 refine ak (zf [] (kv 0 (oI a1) O O ar) am aj) ?_
 unfold YF at H
 unfold zFj
 refine aV (za eC<|xQ<|aV<|za O ?_)
 obtain⟨v2,h3,H⟩:=zk H
 refine zF (u:=oB v2) eC ay (ki h3) (Ec eZ<|Ec eC<|Ec eC En) (Vc Vp<|Vc Vp<|Vc Vp Vn) O (za eZ<|xQ<|aq ?_)
 cases H
 exact eE O O
theorem ze6{a1:Int}{r:Bool}(H:Yf a1=some r):Fn Tryz.prog 180 (lent [.int .i64 a1]) true [.bool r]:=by
 refine ac zJP O ?_
 refine ak (zf [] (kv 0 (oI a1) O O ar) am aj) ?_
 unfold Yf at H
 unfold zCi
 refine aV (za eC<|xQ<|aV<|za O ?_)
 obtain⟨v2,h3,H⟩:=zk H
 refine zF (u:=oB v2) eC ay (ki h3) (Ec eZ<|Ec eC<|Ec eC En) (Vc Vp<|Vc Vp<|Vc Vp Vn) O (za eZ<|xQ<|aq ?_)
 cases H
 exact eE O O
theorem KJ{a1:(List zj)}{r:Bool}(H:Zz a1=some r):Fn Tryz.prog 227 (lent [.sl 2 (a1.map zd)]) true [.bool r]:=by
 refine ac zJZ O ?_
 refine ak (zf [] (kv 0 (.one<|.d<|.sl 2<|a1.map zd) O O ar) am aj) ?_
 unfold Zz at H
 unfold zEq
 refine aV (za eC<|xQ<|zD (fun t2:Unit=>xw a1 t2=some r) (fun t2=>mk [(0,.one<|.d<|.sl 2<|a1.map zd)] [] noG) ?_ ?_)
 ·intro t2 H
  unfold xw at H
  refine aV (za eZ<|zX eZ (n:=a1.length) lm<|zbE eZ eC<|za eZ<|xQ<|aq ?_)
  cases H
  exact eE O O
 ·refine aV (za O<|zX eZ (n:=a1.length) lm<|za eC<|xQ<|aw<|aG (fun s4:Int=>mk [(0,.one<|.d<|.sl 2<|a1.map zd),(5,.one<|.d<|.sl 2<|a1.map zd),(6,oI (a1.length:Int)),(7,oI s4)] [] noG) H (zf [] (sR O O) am aj) ?_)
  intro kb5 s4 H
  unfold xp at H
  refine aV (qj O O<|xQ<|aS ?_)
  obtain⟨h6,H⟩|⟨h6,H⟩:=ab H
  ·refine zi eZ h6 (au<|al<|aS<|aw<|aV<|za O ?_)
   obtain⟨v7,h8,H⟩:=zk H
   refine qk O O h8 (qi (es:=[dI v7.Key,dI v7.Value]) eZ O<|Zn (n:=256) (m:=2) O O nZ<|za O<|zP (es:=[dI v7.Key,dI v7.Value]) O O O O bZ O<|xQ<|zD (fun t9:Bool=>y8 kb5 s4 t9=some r) (fun t9=>mk [(0,.one<|.d<|.sl 2<|a1.map zd),(5,.one<|.d<|.sl 2<|a1.map zd),(6,oI (a1.length:Int)),(7,oI s4),(36,oB t9)] [] noG) ?_ ?_)
   ·intro t9 H
    obtain⟨h11,H⟩|⟨h11,H⟩:=aa H
    ·refine zi O h11 (aV<|za eC<|xQ<|aq<|aJ<|ax<|ax<|aJ<|ax ?_)
     cases H
     exact eE O O
    ·exact zh O h11 (au<|aP<|al<|aR<|qb O eC<|za eZ<|zl<|al ⟨IntKind.wrap .i64 (s4+1),H,zf [] (sR O O) am aj⟩)
   ·refine aX (ze (m:=0) O O<|zn (q:=0) (c:=dI v7.Key) eZ bZ O O ?_)
    obtain⟨v12,h13,H⟩:=zk H
    refine zF (u:=oB v12) eC ay (zc6 h13) (Ec eZ En) (Vc Vp Vn) O (qS eZ<|za eZ ?_)
    obtain⟨h14,H⟩|⟨h14,H⟩:=aa H
    ·refine gDo eZ (cN h14) (ze (m:=1) O O<|gDo O (cN h14)<|zn (q:=1) (c:=dI v7.Value) eZ bZ O O<|gDo O (cN h14) ?_)
     obtain⟨v15,h16,H⟩:=zk H
     refine zF (u:=oB v15) eC ay (ze6 h16) (Ec eZ En) (Vc Vp Vn) O (gDo O (cN h14)<|qS eZ<|zM O (cN h14) eZ<|za eZ ?_)
     obtain⟨h17,H⟩|⟨h17,H⟩:=aa H
     ·refine gDo eZ (cN h17) (za O<|gDo O (cN h17)<|zaC eZ eC<|gDo O (cN h17)<|za eZ ?_)
      obtain⟨h18,H⟩|⟨h18,H⟩:=ab H
      ·refine gDo eZ h18 (za O<|gDo O h18<|za O<|gDo O h18<|zbP eZ eC<|gDo O h18 ?_)
       obtain⟨v19,h20,H⟩:=zk H
       exact qk O eZ h20 (gDo O h18<|z7 (m:=0) eZ O<|gDo O h18<|zV (e:=.int .i64 v19.Key) eZ O<|gDo O h18<|ze (m:=0) O O<|gDo O h18<|zn (q:=0) (c:=dI v7.Key) eZ bZ O O<|gDo O h18<|Xo O eZ<|gDo O (cN h17)<|zB O h18 eZ<|zM O (cN h17) eZ<|zl<|al ⟨decide (v7.Key≤v19.Key),H,zf [256] (sR O O) (blR O) aj⟩)
      ·exact zb eZ h18 O (zb O h18 O<|zb O h18 O<|zb O h18 O<|zb O h18 O<|zb O h18 O<|zb O h18 O<|zb O h18 O<|zb O h18 O<|gDo O (cN h17)<|zM O h18 eC<|zM O (cN h17) eZ<|zl<|al ⟨false,H,zf [256] (sR O O) (blR O) aj⟩)
     ·exact zb eZ (cN h17) O (zb O (cN h17) O<|zb O (cN h17) O<|zE eZ O<|zE O O<|zE O O<|zE O O<|zE O O<|zE O O<|zE O O<|zE O O<|zE O O<|zb O (cN h17) O<|zB O (cN h17) eC<|zl<|al ⟨true,H,zf [256] (sR O O) (blR O) aj⟩)
    ·exact zb eZ (cN h14) O (zb O (cN h14) O<|zb O (cN h14) O<|zb O (cN h14) O<|zB O (cN h14) eC<|za eZ<|zb eZ O O<|zb O O O<|zb O O O<|zE eZ O<|zE O O<|zE O O<|zE O O<|zE O O<|zE O O<|zE O O<|zE O O<|zE O O<|zb O O O<|zB O O eC<|zl<|al ⟨true,H,zf [256] (sR O O) (blR O) aj⟩)
  ·exact zh eZ h6 (aH<|aC<|aC<|aT<|al ⟨(),H,zf [] (sR O O) am aj⟩)
theorem zbB{a1:Int}{r:Bool}(H:Yd a1=some r):Fn Tryz.prog 123 (lent [.int .i64 a1]) true [.bool r]:=by
 refine ac zIc O ?_
 refine ak (zf [] (kv 0 (oI a1) O O ar) am aj) ?_
 unfold Yd at H
 unfold zBt
 refine aV (za eC<|xQ<|aV<|za O ?_)
 obtain⟨v2,h3,H⟩:=zk H
 refine zF (u:=oB v2) eC ay (ki h3) (Ec eZ<|Ec eC<|Ec eC En) (Vc Vp<|Vc Vp<|Vc Vp Vn) O (za eZ<|xQ<|aq ?_)
 cases H
 exact eE O O
theorem Zk{a1:zC}{r:zw}(H:jl a1=some r):Fn Tryz.prog 113 (lent [.agg (zo a1)]) true [.agg (zg r)]:=by
 refine ac zI6 O ?_
 refine ak (zf [] (kv 0 (.agg<|qa a1) O O ar) am aj) ?_
 unfold jl at H
 unfold zEx
 refine aV (yd (n:=64) (m:=4) (cs:=qa a1) O eZ O O nZ<|Zn (n:=128) (m:=2) O O (nR O)<|xQ<|aV<|ze (m:=1) O O<|zn (q:=1) (c:=dI a1.Lo) eZ (bR O) O O<|ze (m:=2) O O<|zn (q:=2) (c:=dI a1.Hi) eZ (bR O) O O<|Xa (cs:=[dI a1.Lo,dI a1.Hi]) (qY O<|qY eZ Z5) O<|zP (es:=[dI a1.Lo,dI a1.Hi]) O eZ O O bZ O<|xQ<|aq ?_)
 cases H
 exact qT (aE (yq (es:=[dI a1.Lo,dI a1.Hi]) O bZ O) (bB (ds:=[.int .i64 a1.Lo,.int .i64 a1.Hi]) O O) aO) List.nodup_nil
theorem zct{a1:Int}{r:Bool}(H:Jf a1=some r):Fn Tryz.prog 297 (lent [.int .i64 a1]) true [.bool r]:=by
 refine ac f297 O ?_
 refine ak (zf [] (kv 0 (oI a1) O O ar) am aj) ?_
 unfold Jf at H
 unfold zFh
 refine aV (za eC<|xQ<|aV<|za O<|kZ eZ eC<|za eZ ?_)
 obtain⟨h2,H⟩|⟨h2,H⟩:=ab H
 ·refine zb eZ h2 O (zb O h2 O<|zB O h2 eC<|za eZ<|xQ<|aq ?_)
  cases H
  exact eE O O
 ·refine gDo eZ h2 (za O<|gDo O h2<|kZ eZ eC<|zM O h2 eZ<|za eZ<|xQ<|aq ?_)
  cases H
  exact eE O O
theorem zda{a1:zw}{a2:zw}{r:Bool}(H:Y0 a1 a2=some r):Fn Tryz.prog 112 (lent [.agg (zg a1),.agg<|zg a2]) true [.bool r]:=by
 refine ac zJi O ?_
 refine ak (zf [] (kv 0 (.agg [dI a1.Lo,dI a1.Hi]) O O<|kv 1 (.agg [dI a2.Lo,dI a2.Hi]) O O ar) am aj) ?_
 unfold Y0 at H
 unfold zGg
 refine aV (yd (n:=128) (m:=2) (cs:=[dI a1.Lo,dI a1.Hi]) O eZ O O nZ<|yd (n:=192) (m:=2) (cs:=[dI a2.Lo,dI a2.Hi]) O O O O (nR O)<|za eC<|xQ<|aV<|ze (m:=0) O O<|zn (q:=0) (c:=dI a1.Lo) eZ (bR O) O O<|ze (m:=1) O O<|zn (q:=1) (c:=dI a2.Hi) eZ bZ O O<|qj O eZ<|za eZ ?_)
 obtain⟨h3,H⟩|⟨h3,H⟩:=ab H
 ·refine gDo eZ h3 (ze (m:=0) O O<|gDo O h3<|zn (q:=0) (c:=dI a2.Lo) eZ bZ O O<|gDo O h3<|ze (m:=1) O O<|gDo O h3<|zn (q:=1) (c:=dI a1.Hi) eZ (bR O) O O<|gDo O h3<|qj O eZ<|zB O h3 eZ<|za eZ<|xQ<|ak (zf [192,128] (kr 4 O O ar) (blR O) aj)<|aq ?_)
  cases H
  exact eE O O
 ·refine zb eZ h3 O (zb O h3 O<|zb O h3 O<|zb O h3 O<|zb O h3 O<|zM O h3 eC<|za eZ<|xQ<|ak (zf [192,128] (kr 4 O O ar) (blR O) aj)<|aq ?_)
  cases H
  exact eE O O
theorem zhn{a1:zC}{a2:zC}{r:Bool}(H:kS a1 a2=some r):Fn Tryz.prog 299 (lent [.agg (zo a1),.agg<|zo a2]) true [.bool r]:=by
 refine ac f299 O ?_
 refine ak (zf [] (kv 0 (.agg<|qa a1) O O<|kv 1 (.agg<|qa a2) O O ar) am aj) ?_
 unfold kS at H
 unfold zCW
 refine aV (yd (n:=128) (m:=4) (cs:=qa a1) O eZ O O nZ<|yd (n:=192) (m:=4) (cs:=qa a2) O O O O (nR O)<|za eC<|xQ<|aS<|aX<|ze (m:=0) O O<|zn (q:=0) (c:=dI a1.Tx) eZ (bR O) O O<|ze (m:=0) O O<|zn (q:=0) (c:=dI a2.Tx) eZ bZ O O<|ZK O eZ<|za eZ ?_)
 obtain⟨h3,H⟩|⟨h3,H⟩:=ab H
 ·refine gDo eZ h3 (ze (m:=3) O O<|gDo O h3<|zn (q:=3) (c:=dI a1.Mode) eZ (bR O) O O<|gDo O h3<|kZ eZ eC<|gDo O h3<|za eZ ?_)
  obtain⟨h4,H⟩|⟨h4,H⟩:=zA H
  ·refine zb eZ (dT h4) O (zb O (dT h4) O<|zb O (dT h4) O<|gDo O h3<|zB O (dT h4) eC<|zB O h3 eZ<|za eZ<|gDo eZ O<|zY (es:=qa a1) O (bR O) O<|gDo O O ?_)
   obtain⟨v5,h6,H⟩:=zk H
   refine zF (u:=.agg [dI v5.Lo,dI v5.Hi]) eC ay (Zk h6) (Ec eZ En) (Vc (aI O) Vn) O (gDo O O<|zY (es:=qa a2) O (hB O bZ) O<|gDo O O ?_)
   obtain⟨v7,h8,H⟩:=zk H
   refine zF (u:=.agg [dI v7.Lo,dI v7.Hi]) eC ay (Zk h8) (Ec eZ En) (Vc (aI O) Vn) O (gDo O O ?_)
   obtain⟨v9,h10,H⟩:=zk H
   refine zF (u:=oB v9) eC ay (zda h10) (Ec O<|Ec eZ En) (Vc (aI O)<|Vc (aI O) Vn) O (zB O O eZ<|za eZ<|xQ<|ak (zf [192,128] (kr 4 O O ar) (blR O) aj)<|aq ?_)
   cases H
   exact eE O O
  ·refine gDo eZ (dF h4) (ze (m:=3) O O<|gDo O (dF h4)<|zn (q:=3) (c:=dI a2.Mode) eZ bZ O O<|gDo O (dF h4)<|kZ eZ eC<|gDo O h3<|zM O (dF h4) eZ<|zB O h3 eZ<|za eZ ?_)
   obtain⟨h11,H⟩|⟨h11,H⟩:=zA H
   ·refine gDo eZ (dT h11) (zY (es:=qa a1) O (bR O) O<|gDo O (dT h11) ?_)
    obtain⟨v12,h13,H⟩:=zk H
    refine zF (u:=.agg [dI v12.Lo,dI v12.Hi]) eC ay (Zk h13) (Ec eZ En) (Vc (aI O) Vn) O (gDo O (dT h11)<|zY (es:=qa a2) O (hB O bZ) O<|gDo O (dT h11) ?_)
    obtain⟨v14,h15,H⟩:=zk H
    refine zF (u:=.agg [dI v14.Lo,dI v14.Hi]) eC ay (Zk h15) (Ec eZ En) (Vc (aI O) Vn) O (gDo O (dT h11) ?_)
    obtain⟨v16,h17,H⟩:=zk H
    refine zF (u:=oB v16) eC ay (zda h17) (Ec O<|Ec eZ En) (Vc (aI O)<|Vc (aI O) Vn) O (zB O (dT h11) eZ<|za eZ<|xQ<|ak (zf [192,128] (kr 4 O O ar) (blR O) aj)<|aq ?_)
    cases H
    exact eE O O
   ·refine zb eZ (dF h11) O (zb O (dF h11) O<|zb O (dF h11) O<|zb O (dF h11) O<|zb O (dF h11) O<|zM O (dF h11) eC<|za eZ<|xQ<|ak (zf [192,128] (kr 4 O O ar) (blR O) aj)<|aq ?_)
    cases H
    exact eE O O
 ·refine zb eZ h3 O (zb O h3 O<|zb O h3 O<|zb O h3 O<|zE eZ O<|zE O O<|zE O O<|zb O h3 O<|zM O h3 eC<|za eZ<|zb eZ O O<|zb O O O<|zb O O O<|zb O O O<|zb O O O<|zM O O eC<|za eZ<|xQ<|ak (zf [192,128] (kr 4 O O ar) (blR O) aj)<|aq ?_)
  cases H
  exact eE O O
theorem zdO{a1:zC}{a2:zC}{r:Bool}(H:Qm a1 a2=some r):Fn Tryz.prog 298 (lent [.agg (zo a1),.ptr<|zo a2]) true [.bool r]:=by
 refine ac f298 O ?_
 refine ak (zf [] (kv 0 (.agg<|qa a1) O O<|aF (v:=.one (.ptr<|.bd (zo a2) 0)) (eS O eZ) O (aK bq) ar) am aj) ?_
 unfold Qm at H
 unfold zHV
 refine aV (yd (n:=128) (m:=4) (cs:=qa a1) O eZ O O nZ<|za eC<|xQ<|aV<|qi (es:=qa a2) O O<|zY (es:=qa a1) O bZ O ?_)
 obtain⟨v3,h4,H⟩:=zk H
 refine zF (u:=oB v3) eC ay (zhn h4) (Ec O<|Ec eZ En) (Vc (aI O)<|Vc (aI O) Vn) O (za eZ<|xQ<|aq ?_)
 cases H
 exact eE O O
theorem xZ{a1:(List zC)}{a2:zC}{r:Int}(H:jx a1 a2=some r):Fn Tryz.prog 216 (lent [.sl 4 (a1.map zo),.fn 298 [.ptr (zo a2)]]) true [.int .i64 r]:=by
 refine ac f216 O ?_
 refine ak (zf [] (kv 0 (.one<|.d<|.sl 4<|a1.map zo) O O<|aF (v:=.one (.fn 298 [.bd (zo a2) 0])) (eS O eZ) O (aK<|bn (css:=[zo a2])) ar) am aj) ?_
 unfold jx at H
 unfold zlM
 refine aV (za eC<|xQ<|zD (fun t3:Unit=>yc t3=some r) (fun t3=>mk [] [] noG) ?_ ?_)
 ·intro t3 H
  unfold yc at H
  refine aV (za eC<|xQ<|aq ?_)
  cases H
  exact eE O O
 ·refine aV (za O<|zX eZ (n:=a1.length) lm<|za eC<|xQ<|aw<|aG (fun s5:Int=>mk [(0,.one<|.d<|.sl 4<|a1.map zo),(1,.one<|.fn 298 [.bd (zo a2) 0]),(7,oI (a1.length:Int)),(8,oI s5)] [] noG) H (zf [] (sR O O) am aj) ?_)
  intro kb6 s5 H
  unfold jn at H
  refine aV (qj O O<|xQ<|aS ?_)
  obtain⟨h7,H⟩|⟨h7,H⟩:=ab H
  ·refine zi eZ h7 (au<|al<|aS<|aw<|aV<|za O<|za eZ<|xQ<|aV<|za O<|za O<|za O ?_)
   obtain⟨v8,h9,H⟩:=zk H
   refine qk O eZ h9 (qi (es:=qa v8) eZ O ?_)
   obtain⟨v10,h11,H⟩:=zk H
   refine zF (u:=oB v10) O ay (zdO h11) (Ec eZ En) (Vc (aI O)<|Vc j3 Vn) O (xQ ?_)
   obtain⟨h12,H⟩|⟨h12,H⟩:=aa H
   ·refine zi eZ h12 (aV<|za O<|za eZ<|xQ<|aq<|aJ<|ax<|ax<|aJ<|ax ?_)
    cases H
    exact eE O O
   ·exact zh eZ h12 (au<|aP<|al<|aR<|qb O eC<|za eZ<|zl<|al ⟨IntKind.wrap .i64 (s5+1),H,zf [] (sR O O) am aj⟩)
  ·exact zh eZ h7 (aH<|aC<|aC<|aT<|al ⟨(),H,zf [] ar am aj⟩)
theorem YV{a1:(List zC)}{a2:zC}{r:Bool}(H:qE a1 a2=some r):Fn Tryz.prog 110 (lent [.sl 4 (a1.map zo),.fn 298 [.ptr (zo a2)]]) true [.bool r]:=by
 refine ac zyR O ?_
 refine ak (zf [] (kv 0 (.one<|.d<|.sl 4<|a1.map zo) O O<|aF (v:=.one (.fn 298 [.bd (zo a2) 0])) (eS O eZ) O (aK<|bn (css:=[zo a2])) ar) am aj) ?_
 unfold qE at H
 unfold znc
 refine aV (za eC<|xQ<|aV<|za O<|za O ?_)
 obtain⟨v3,h4,H⟩:=zk H
 refine zF (u:=oI v3) eC ay (xZ h4) (Ec O<|Ec eZ En) (Vc Vp<|Vc (bw<|a8 j3 bg) Vn) O (Xo eZ eC<|za eZ<|xQ<|aq ?_)
 cases H
 exact eE O O
theorem KH{a1:(List zC)}{r:Bool}(H:ZB a1=some r):Fn Tryz.prog 228 (lent [.sl 4 (a1.map zo)]) true [.bool r]:=by
 refine ac zI8 O ?_
 refine ak (zf [] (kv 0 (.one<|.d<|.sl 4<|a1.map zo) O O ar) am aj) ?_
 unfold ZB at H
 unfold zCV
 refine aV (za eC<|xQ<|zD (fun t2:Unit=>xA a1 t2=some r) (fun t2=>mk [(0,.one<|.d<|.sl 4<|a1.map zo)] [] noG) ?_ ?_)
 ·intro t2 H
  unfold xA at H
  refine aV (za eZ<|zX eZ (n:=a1.length) lm<|zbE eZ eC<|za eZ<|xQ<|aq ?_)
  cases H
  exact eE O O
 ·refine aV (za O<|zX eZ (n:=a1.length) lm<|za eC<|xQ<|aw<|aG (fun s4:Int=>mk [(0,.one<|.d<|.sl 4<|a1.map zo),(5,.one<|.d<|.sl 4<|a1.map zo),(6,oI (a1.length:Int)),(7,oI s4)] [] noG) H (zf [] (sR O O) am aj) ?_)
  intro kb5 s4 H
  unfold xK at H
  refine aV (qj O O<|xQ<|aS ?_)
  obtain⟨h6,H⟩|⟨h6,H⟩:=ab H
  ·refine zi eZ h6 (au<|al<|aS<|aw<|aV<|za O ?_)
   obtain⟨v7,h8,H⟩:=zk H
   refine qk O O h8 (qi (es:=qa v7) eZ O<|Zn (n:=256) (m:=4) O O nZ<|za O<|zP (es:=qa v7) O O O O bZ O<|xQ<|zD (fun t9:Bool=>y5 kb5 s4 t9=some r) (fun t9=>mk [(0,.one<|.d<|.sl 4<|a1.map zo),(5,.one<|.d<|.sl 4<|a1.map zo),(6,oI (a1.length:Int)),(7,oI s4),(34,oB t9)] [] noG) ?_ ?_)
   ·intro t9 H
    obtain⟨h11,H⟩|⟨h11,H⟩:=aa H
    ·refine zi O h11 (aV<|za eC<|xQ<|aq<|aJ<|ax<|ax<|aJ<|ax ?_)
     cases H
     exact eE O O
    ·exact zh O h11 (au<|aP<|al<|aR<|qb O eC<|za eZ<|zl<|al ⟨IntKind.wrap .i64 (s4+1),H,zf [] (sR O O) am aj⟩)
   ·refine aR (ze (m:=0) O O<|zn (q:=0) (c:=dI v7.Tx) eZ bZ O O ?_)
    obtain⟨v12,h13,H⟩:=zk H
    refine zF (u:=oB v12) eC ay (zbB h13) (Ec eZ En) (Vc Vp Vn) O (qS eZ<|za eZ ?_)
    obtain⟨h14,H⟩|⟨h14,H⟩:=aa H
    ·refine gDo eZ (cN h14) (zY (es:=qa v7) O bZ O<|gDo O (cN h14) ?_)
     obtain⟨v15,h16,H⟩:=zk H
     refine zF (u:=.agg [dI v15.Lo,dI v15.Hi]) eC ay (Zk h16) (Ec eZ En) (Vc (aI O) Vn) O (gDo O (cN h14) ?_)
     obtain⟨v17,h18,H⟩:=zk H
     refine zF (u:=oB v17) eC ay (K0 h18) (Ec eZ En) (Vc (aI O) Vn) O (gDo O (cN h14)<|qS eZ<|zM O (cN h14) eZ<|za eZ ?_)
     obtain⟨h19,H⟩|⟨h19,H⟩:=aa H
     ·refine gDo eZ (cN h19) (ze (m:=3) O O<|gDo O (cN h19)<|zn (q:=3) (c:=dI v7.Mode) eZ bZ O O<|gDo O (cN h19) ?_)
      obtain⟨v20,h21,H⟩:=zk H
      refine zF (u:=oB v20) eC ay (zct h21) (Ec eZ En) (Vc Vp Vn) O (gDo O (cN h19)<|qS eZ<|zM O (cN h19) eZ<|za eZ ?_)
      obtain⟨h22,H⟩|⟨h22,H⟩:=aa H
      ·refine gDo eZ (cN h22) (za O<|gDo O (cN h22)<|za O<|gDo O (cN h22) ?_)
       obtain⟨v23,h24,H⟩:=zk H
       refine zGe O Xb (n:=(a1.length:Int)) O (Bd.at eZ) h24 (gDo O (cN h22)<|zer (ps:=[.nm 256 0 0]) (Ec O En)<|gDo O (cN h22) ?_)
       obtain⟨v25,h26,H⟩:=zk H
       exact zF (u:=oB v25) eC ay (YV h26) (Ec O<|Ec eZ En) (Vc Vp<|Vc (bw<|a8 (xY bZ<|aD<|aD<|aD<|aD bc) bg) Vn) O (zM O (cN h22) eZ<|zl<|al ⟨v25,H,zf [256] (sR O O) (blR O) aj⟩)
      ·exact zb eZ (cN h22) O (zb O (cN h22) O<|zb O (cN h22) O<|zb O (cN h22) O<|zb O (cN h22) O<|zB O (cN h22) eC<|zl<|al ⟨true,H,zf [256] (sR O O) (blR O) aj⟩)
     ·exact zb eZ (cN h19) O (zb O (cN h19) O<|zb O (cN h19) O<|zb O (cN h19) O<|zB O (cN h19) eC<|za eZ<|zb eZ O O<|zb O O O<|zb O O O<|zb O O O<|zb O O O<|zB O O eC<|zl<|al ⟨true,H,zf [256] (sR O O) (blR O) aj⟩)
    ·exact zb eZ (cN h14) O (zb O (cN h14) O<|zb O (cN h14) O<|zb O (cN h14) O<|zB O (cN h14) eC<|za eZ<|zb eZ O O<|zb O O O<|zb O O O<|zb O O O<|zB O O eC<|za eZ<|zb eZ O O<|zb O O O<|zb O O O<|zb O O O<|zb O O O<|zB O O eC<|zl<|al ⟨true,H,zf [256] (sR O O) (blR O) aj⟩)
  ·exact zh eZ h6 (aH<|aC<|aC<|aT<|al ⟨(),H,zf [] (sR O O) am aj⟩)
theorem zeT{a1:Int}{r:Bool}(H:Q7 a1=some r):Fn Tryz.prog 260 (lent [.int .i64 a1]) true [.bool r]:=by
 refine ac zIM O ?_
 refine ak (zf [] (kv 0 (oI a1) O O ar) am aj) ?_
 unfold Q7 at H
 unfold zE9
 refine aV (za eC<|xQ<|aV<|za O ?_)
 obtain⟨v2,h3,H⟩:=zk H
 refine zF (u:=oB v2) eC ay (ki h3) (Ec eZ<|Ec eC<|Ec eC En) (Vc Vp<|Vc Vp<|Vc Vp Vn) O (za eZ<|xQ<|aq ?_)
 cases H
 exact eE O O
theorem X5{a1:(List zj)}{r:Bool}(H:y0 a1=some r):Fn Tryz.prog 240 (lent [.sl 2 (a1.map zd)]) true [.bool r]:=by
 refine ac zJq O ?_
 refine ak (zf [] (kv 0 (.one<|.d<|.sl 2<|a1.map zd) O O ar) am aj) ?_
 unfold y0 at H
 unfold zBC
 refine aV (za eC<|xQ<|zD (fun t2:Unit=>Ys a1 t2=some r) (fun t2=>mk [(0,.one<|.d<|.sl 2<|a1.map zd)] [] noG) ?_ ?_)
 ·intro t2 H
  unfold Ys at H
  refine aV (za eZ<|zX eZ (n:=a1.length) lm<|zbE eZ eC<|za eZ<|xQ<|aq ?_)
  cases H
  exact eE O O
 ·refine aV (za O<|zX eZ (n:=a1.length) lm<|za eC<|xQ<|aw<|aG (fun s4:Int=>mk [(0,.one<|.d<|.sl 2<|a1.map zd),(5,.one<|.d<|.sl 2<|a1.map zd),(6,oI (a1.length:Int)),(7,oI s4)] [] noG) H (zf [] (sR O O) am aj) ?_)
  intro kb5 s4 H
  unfold Yy at H
  refine aV (qj O O<|xQ<|aS ?_)
  obtain⟨h6,H⟩|⟨h6,H⟩:=ab H
  ·refine zi eZ h6 (au<|al<|aS<|aw<|aV<|za O ?_)
   obtain⟨v7,h8,H⟩:=zk H
   refine qk O O h8 (qi (es:=[dI v7.Key,dI v7.Value]) eZ O<|Zn (n:=256) (m:=2) O O nZ<|za O<|zP (es:=[dI v7.Key,dI v7.Value]) O O O O bZ O<|xQ<|zD (fun t9:Bool=>yK kb5 s4 t9=some r) (fun t9=>mk [(0,.one<|.d<|.sl 2<|a1.map zd),(5,.one<|.d<|.sl 2<|a1.map zd),(6,oI (a1.length:Int)),(7,oI s4),(36,oB t9)] [] noG) ?_ ?_)
   ·intro t9 H
    obtain⟨h11,H⟩|⟨h11,H⟩:=aa H
    ·refine zi O h11 (aV<|za eC<|xQ<|aq<|aJ<|ax<|ax<|aJ<|ax ?_)
     cases H
     exact eE O O
    ·exact zh O h11 (au<|aP<|al<|aR<|qb O eC<|za eZ<|zl<|al ⟨IntKind.wrap .i64 (s4+1),H,zf [] (sR O O) am aj⟩)
   ·refine aX (ze (m:=0) O O<|zn (q:=0) (c:=dI v7.Key) eZ bZ O O ?_)
    obtain⟨v12,h13,H⟩:=zk H
    refine zF (u:=oB v12) eC ay (zc6 h13) (Ec eZ En) (Vc Vp Vn) O (qS eZ<|za eZ ?_)
    obtain⟨h14,H⟩|⟨h14,H⟩:=aa H
    ·refine gDo eZ (cN h14) (ze (m:=1) O O<|gDo O (cN h14)<|zn (q:=1) (c:=dI v7.Value) eZ bZ O O<|gDo O (cN h14) ?_)
     obtain⟨v15,h16,H⟩:=zk H
     refine zF (u:=oB v15) eC ay (zeT h16) (Ec eZ En) (Vc Vp Vn) O (gDo O (cN h14)<|qS eZ<|zM O (cN h14) eZ<|za eZ ?_)
     obtain⟨h17,H⟩|⟨h17,H⟩:=aa H
     ·refine gDo eZ (cN h17) (za O<|gDo O (cN h17)<|zaC eZ eC<|gDo O (cN h17)<|za eZ ?_)
      obtain⟨h18,H⟩|⟨h18,H⟩:=ab H
      ·refine gDo eZ h18 (za O<|gDo O h18<|za O<|gDo O h18<|zbP eZ eC<|gDo O h18 ?_)
       obtain⟨v19,h20,H⟩:=zk H
       exact qk O eZ h20 (gDo O h18<|z7 (m:=0) eZ O<|gDo O h18<|zV (e:=.int .i64 v19.Key) eZ O<|gDo O h18<|ze (m:=0) O O<|gDo O h18<|zn (q:=0) (c:=dI v7.Key) eZ bZ O O<|gDo O h18<|Xo O eZ<|gDo O (cN h17)<|zB O h18 eZ<|zM O (cN h17) eZ<|zl<|al ⟨decide (v7.Key≤v19.Key),H,zf [256] (sR O O) (blR O) aj⟩)
      ·exact zb eZ h18 O (zb O h18 O<|zb O h18 O<|zb O h18 O<|zb O h18 O<|zb O h18 O<|zb O h18 O<|zb O h18 O<|zb O h18 O<|gDo O (cN h17)<|zM O h18 eC<|zM O (cN h17) eZ<|zl<|al ⟨false,H,zf [256] (sR O O) (blR O) aj⟩)
     ·exact zb eZ (cN h17) O (zb O (cN h17) O<|zb O (cN h17) O<|zE eZ O<|zE O O<|zE O O<|zE O O<|zE O O<|zE O O<|zE O O<|zE O O<|zE O O<|zb O (cN h17) O<|zB O (cN h17) eC<|zl<|al ⟨true,H,zf [256] (sR O O) (blR O) aj⟩)
    ·exact zb eZ (cN h14) O (zb O (cN h14) O<|zb O (cN h14) O<|zb O (cN h14) O<|zB O (cN h14) eC<|za eZ<|zb eZ O O<|zb O O O<|zb O O O<|zE eZ O<|zE O O<|zE O O<|zE O O<|zE O O<|zE O O<|zE O O<|zE O O<|zE O O<|zb O O O<|zB O O eC<|zl<|al ⟨true,H,zf [256] (sR O O) (blR O) aj⟩)
  ·exact zh eZ h6 (aH<|aC<|aC<|aT<|al ⟨(),H,zf [] (sR O O) am aj⟩)
theorem zgf{a1:Int}{r:zw}(H:KX a1=some r):Fn Tryz.prog 234 (lent [.int .i64 a1]) true [.agg (zg r)]:=by
 refine ac zKc O ?_
 refine ak (zf [] (kv 0 (oI a1) O O ar) am aj) ?_
 unfold KX at H
 unfold zHF
 refine aV (Zn (n:=128) (m:=2) O O nZ<|xQ<|aV<|za O<|za O<|qb eZ eC<|Xa (cs:=[dI a1,dI<|IntKind.wrap .i64 (a1+1)]) (qY O<|qY eZ Z5) O<|zP (es:=[dI a1,dI<|IntKind.wrap .i64 (a1+1)]) O eZ O O bZ O<|xQ<|aq ?_)
 cases H
 exact qT (aE (yq (es:=[dI a1,dI<|IntKind.wrap .i64 (a1+1)]) O bZ O) (bB (ds:=[.int .i64 a1,.int .i64<|IntKind.wrap .i64 (a1+1)]) O O) aO) List.nodup_nil
theorem zcB{a1:zC}{a2:Int}{a3:Int}{a4:zw}{r:Bool}(H:ZA a1 a2 a3 a4=some r):Fn Tryz.prog 348 (lent [.agg (zo a1),.ptr<|zm a2,.ptr<|zm a3,.ptr<|zg a4]) true [.bool r]:=by
 refine ac zJI O ?_
 refine ak (zf [] (kv 0 (.agg<|qa a1) O O<|aF (v:=.one (.ptr<|.bd (zm a2) 0)) (eS O eZ) O (aK bq)<|aF (v:=.one (.ptr<|.bd (zm a3) 0)) (eS O<|eS O eZ) O (aK bq)<|aF (v:=.one (.ptr<|.bd (zg a4) 0)) (eS O<|eS O<|eS O eZ) O (aK bq) ar) am aj) ?_
 unfold ZA at H
 unfold zHo
 refine aV (yd (n:=256) (m:=4) (cs:=qa a1) O eZ O O nZ<|za eC<|xQ<|aV<|ze (m:=0) O O<|zn (q:=0) (c:=dI a1.Tx) eZ bZ O O<|zV (e:=.int .i64 a2) O O<|kZ O eZ<|za eZ ?_)
 obtain⟨h5,H⟩|⟨h5,H⟩:=ab H
 ·refine gDo eZ h5 (ze (m:=3) O O<|gDo O h5<|zn (q:=3) (c:=dI a1.Mode) eZ bZ O O<|gDo O h5<|zV (e:=.int .i64 a3) O O<|gDo O h5<|kZ O eZ<|gDo O h5<|za eZ ?_)
  obtain⟨h6,H⟩|⟨h6,H⟩:=zA H
  ·refine zb eZ (dT h6) O (zb O (dT h6) O<|zb O (dT h6) O<|gDo O h5<|zB O (dT h6) eC<|zB O h5 eZ<|za eZ<|gDo eZ O<|ze (m:=1) O O<|gDo O O<|zn (q:=1) (c:=dI a1.Lo) eZ bZ O O<|gDo O O<|z7 (m:=0) O O<|gDo O O<|zV (e:=.int .i64 a4.Lo) eZ O<|gDo O O<|zbE O eZ<|zB O O eZ<|za eZ ?_)
   obtain⟨h7,H⟩|⟨h7,H⟩:=zA H
   ·refine gDo eZ (dT h7) (z7 (m:=1) O O<|gDo O (dT h7)<|zV (e:=.int .i64 a4.Hi) eZ O<|gDo O (dT h7)<|ze (m:=2) O O<|gDo O (dT h7)<|zn (q:=2) (c:=dI a1.Hi) eZ bZ O O<|gDo O (dT h7)<|zbE O eZ<|zB O (dT h7) eZ<|za eZ<|xQ<|ak (zf [256] (kr 5 O O ar) (blR O) aj)<|aq ?_)
    cases H
    exact eE O O
   ·refine zb eZ (dF h7) O (zb O (dF h7) O<|zb O (dF h7) O<|zb O (dF h7) O<|zb O (dF h7) O<|zM O (dF h7) eC<|za eZ<|xQ<|ak (zf [256] (kr 5 O O ar) (blR O) aj)<|aq ?_)
    cases H
    exact eE O O
  ·refine gDo eZ (dF h6) (ze (m:=3) O O<|gDo O (dF h6)<|zn (q:=3) (c:=dI a1.Mode) eZ bZ O O<|gDo O (dF h6)<|kZ eZ eC<|gDo O h5<|zM O (dF h6) eZ<|zB O h5 eZ<|za eZ ?_)
   obtain⟨h8,H⟩|⟨h8,H⟩:=zA H
   ·refine gDo eZ (dT h8) (ze (m:=1) O O<|gDo O (dT h8)<|zn (q:=1) (c:=dI a1.Lo) eZ bZ O O<|gDo O (dT h8)<|z7 (m:=0) O O<|gDo O (dT h8)<|zV (e:=.int .i64 a4.Lo) eZ O<|gDo O (dT h8)<|zbE O eZ<|zB O (dT h8) eZ<|za eZ ?_)
    obtain⟨h9,H⟩|⟨h9,H⟩:=zA H
    ·refine gDo eZ (dT h9) (z7 (m:=1) O O<|gDo O (dT h9)<|zV (e:=.int .i64 a4.Hi) eZ O<|gDo O (dT h9)<|ze (m:=2) O O<|gDo O (dT h9)<|zn (q:=2) (c:=dI a1.Hi) eZ bZ O O<|gDo O (dT h9)<|zbE O eZ<|zB O (dT h9) eZ<|za eZ<|xQ<|ak (zf [256] (kr 5 O O ar) (blR O) aj)<|aq ?_)
     cases H
     exact eE O O
    ·refine zb eZ (dF h9) O (zb O (dF h9) O<|zb O (dF h9) O<|zb O (dF h9) O<|zb O (dF h9) O<|zM O (dF h9) eC<|za eZ<|xQ<|ak (zf [256] (kr 5 O O ar) (blR O) aj)<|aq ?_)
     cases H
     exact eE O O
   ·refine zb eZ (dF h8) O (zb O (dF h8) O<|zb O (dF h8) O<|zb O (dF h8) O<|zb O (dF h8) O<|zM O (dF h8) eC<|za eZ<|zb eZ O O<|zb O O O<|zb O O O<|zb O O O<|zb O O O<|zM O O eC<|za eZ<|xQ<|ak (zf [256] (kr 5 O O ar) (blR O) aj)<|aq ?_)
    cases H
    exact eE O O
 ·refine zb eZ h5 O (zb O h5 O<|zb O h5 O<|zb O h5 O<|zb O h5 O<|zE eZ O<|zE O O<|zE O O<|zb O h5 O<|zM O h5 eC<|za eZ<|zb eZ O O<|zb O O O<|zb O O O<|zb O O O<|zb O O O<|zM O O eC<|za eZ<|zb eZ O O<|zb O O O<|zb O O O<|zb O O O<|zb O O O<|zM O O eC<|za eZ<|xQ<|ak (zf [256] (kr 5 O O ar) (blR O) aj)<|aq ?_)
  cases H
  exact eE O O
theorem Y5{a1:(List zC)}{a2:Int}{a3:Int}{a4:zw}{r:Int}(H:jk a1 a2 a3 a4=some r):Fn Tryz.prog 216 (lent [.sl 4 (a1.map zo),.fn 348 [.ptr (zm a2),.ptr<|zm a3,.ptr<|zg a4]]) true [.int .i64 r]:=by
 refine ac f216 O ?_
 refine ak (zf [] (kv 0 (.one<|.d<|.sl 4<|a1.map zo) O O<|aF (v:=.one (.fn 348 [.bd (zm a2) 0,.bd (zm a3) 0,.bd (zg a4) 0])) (eS O eZ) O (aK<|bn (css:=[zm a2,zm a3,zg a4])) ar) am aj) ?_
 unfold jk at H
 unfold zlM
 refine aV (za eC<|xQ<|zD (fun t5:Unit=>jS t5=some r) (fun t5=>mk [] [] noG) ?_ ?_)
 ·intro t5 H
  unfold jS at H
  refine aV (za eC<|xQ<|aq ?_)
  cases H
  exact eE O O
 ·refine aV (za O<|zX eZ (n:=a1.length) lm<|za eC<|xQ<|aw<|aG (fun s7:Int=>mk [(0,.one<|.d<|.sl 4<|a1.map zo),(1,.one<|.fn 348 [.bd (zm a2) 0,.bd (zm a3) 0,.bd (zg a4) 0]),(7,oI (a1.length:Int)),(8,oI s7)] [] noG) H (zf [] (sR O O) am aj) ?_)
  intro kb8 s7 H
  unfold jc at H
  refine aV (qj O O<|xQ<|aS ?_)
  obtain⟨h9,H⟩|⟨h9,H⟩:=ab H
  ·refine zi eZ h9 (au<|al<|aS<|aw<|aV<|za O<|za eZ<|xQ<|aV<|za O<|za O<|za O ?_)
   obtain⟨v10,h11,H⟩:=zk H
   refine qk O eZ h11 (qi (es:=qa v10) eZ O ?_)
   obtain⟨v12,h13,H⟩:=zk H
   refine zF (u:=oB v12) O ay (zcB h13) (Ec eZ En) (Vc (aI O)<|Vc j3<|Vc j3<|Vc j3 Vn) O (xQ ?_)
   obtain⟨h14,H⟩|⟨h14,H⟩:=aa H
   ·refine zi eZ h14 (aV<|za O<|za eZ<|xQ<|aq<|aJ<|ax<|ax<|aJ<|ax ?_)
    cases H
    exact eE O O
   ·exact zh eZ h14 (au<|aP<|al<|aR<|qb O eC<|za eZ<|zl<|al ⟨IntKind.wrap .i64 (s7+1),H,zf [] (sR O O) am aj⟩)
  ·exact zh eZ h9 (aH<|aC<|aC<|aT<|al ⟨(),H,zf [] ar am aj⟩)
theorem JB{a1:(List zC)}{a2:Int}{a3:Int}{a4:zw}{r:Bool}(H:qp a1 a2 a3 a4=some r):Fn Tryz.prog 110 (lent [.sl 4 (a1.map zo),.fn 348 [.ptr (zm a2),.ptr<|zm a3,.ptr<|zg a4]]) true [.bool r]:=by
 refine ac zyR O ?_
 refine ak (zf [] (kv 0 (.one<|.d<|.sl 4<|a1.map zo) O O<|aF (v:=.one (.fn 348 [.bd (zm a2) 0,.bd (zm a3) 0,.bd (zg a4) 0])) (eS O eZ) O (aK<|bn (css:=[zm a2,zm a3,zg a4])) ar) am aj) ?_
 unfold qp at H
 unfold znc
 refine aV (za eC<|xQ<|aV<|za O<|za O ?_)
 obtain⟨v5,h6,H⟩:=zk H
 refine zF (u:=oI v5) eC ay (Y5 h6) (Ec O<|Ec eZ En) (Vc Vp<|Vc (bw<|a8 j3<|a8 j3<|a8 j3 bg) Vn) O (Xo eZ eC<|za eZ<|xQ<|aq ?_)
 cases H
 exact eE O O
theorem zdV{a1:(List zC)}{a2:Int}{a3:zw}{a4:Int}{r:Bool}(H:Qv a1 a2 a3 a4=some r):Fn Tryz.prog 302 (lent [.sl 4 (a1.map zo),.int .i64 a2,.agg<|zg a3,.int .i64 a4]) true [.bool r]:=by
 refine ac zJU O ?_
 refine ak (zf [] (kv 0 (.one<|.d<|.sl 4<|a1.map zo) O O<|kv 1 (oI a2) O O<|kv 2 (.agg [dI a3.Lo,dI a3.Hi]) O O<|kv 3 (oI a4) O O ar) am aj) ?_
 unfold Qv at H
 unfold zFF
 refine aV (yd (n:=320) (m:=1) (cs:=[dI a2]) O O O O nZ<|yd (n:=384) (m:=2) (cs:=[dI a3.Lo,dI a3.Hi]) O O O O (nR O)<|yd (n:=448) (m:=1) (cs:=[dI a4]) O O O O (nR O)<|za eC<|xQ<|aV<|za O ?_)
 obtain⟨v5,h6,H⟩:=zk H
 refine zF (u:=oB v5) eC ay (KH h6) (Ec eZ En) (Vc Vp Vn) O (za eZ ?_)
 obtain⟨h7,H⟩|⟨h7,H⟩:=aa H
 ·refine gDo eZ h7 (zY (es:=[dI a3.Lo,dI a3.Hi]) O (bR O) O<|gDo O h7 ?_)
  obtain⟨v8,h9,H⟩:=zk H
  refine zF (u:=oB v8) eC ay (K0 h9) (Ec eZ En) (Vc (aI O) Vn) O (zB O h7 eZ<|za eZ ?_)
  obtain⟨h10,H⟩|⟨h10,H⟩:=aa H
  ·refine gDo eZ h10 (zn (q:=0) (c:=dI a4) O bZ O O<|gDo O h10 ?_)
   obtain⟨v11,h12,H⟩:=zk H
   refine zF (u:=oB v11) eC ay (zct h12) (Ec eZ En) (Vc Vp Vn) O (zB O h10 eZ<|za eZ ?_)
   obtain⟨h13,H⟩|⟨h13,H⟩:=aa H
   ·refine gDo eZ h13 (za O<|gDo O h13<|zer (ps:=[.nm 320 0 0,.nm 448 0 0,.nm 384 0 0]) (Ec O<|Ec O<|Ec O En)<|gDo O h13 ?_)
    obtain⟨v14,h15,H⟩:=zk H
    refine zF (u:=oB v14) eC ay (JB h15) (Ec O<|Ec eZ En) (Vc Vp<|Vc (bw<|a8 (xY (bR O)<|aD bc)<|a8 (xY bZ<|aD bc)<|a8 (xY (bR O)<|aD<|aD bc) bg) Vn) O (zB O h13 eZ<|za eZ<|xQ<|ak (zf [448,384,320] (kr 8 O O ar) (blR O) aj)<|aq ?_)
    cases H
    exact eE O O
   ·refine zb eZ h13 O (zb O h13 O<|zb O h13 O<|zM O h13 eC<|za eZ<|xQ<|ak (zf [448,384,320] (kr 8 O O ar) (blR O) aj)<|aq ?_)
    cases H
    exact eE O O
  ·refine zb eZ h10 O (zb O h10 O<|zM O h10 eC<|za eZ<|zb eZ O O<|zb O O O<|zb O O O<|zM O O eC<|za eZ<|xQ<|ak (zf [448,384,320] (kr 8 O O ar) (blR O) aj)<|aq ?_)
   cases H
   exact eE O O
 ·refine zb eZ h7 O (zb O h7 O<|zM O h7 eC<|za eZ<|zb eZ O O<|zb O O O<|zM O O eC<|za eZ<|zb eZ O O<|zb O O O<|zb O O O<|zM O O eC<|za eZ<|xQ<|ak (zf [448,384,320] (kr 8 O O ar) (blR O) aj)<|aq ?_)
  cases H
  exact eE O O
end Go.AW
