/- That functions of the program compute what the plain functions say. Conditions: each theorem's own. -/
import Derived.Test.YtpabbbmfcgnhdaaGreatMShardDecide
import Derived.Test.YtpabbbmfcgnhdaaGreatGShardDecide
import Derived.Test.YtpabbbmfcgnhdaaGreatYn
import Derived.Test.YtpabbbmfcgnhdaaGreatSShardDecide
import Derived.Test.YtpabbbmfcgnhdaaGreatYt
import Derived.KernelRfl
set_option linter.unusedVariables false
set_option linter.unusedSimpArgs false
set_option maxRecDepth 100000
namespace Go.AW
open Go.Proofs
theorem aa{β:Type}{b:Bool}{x y:Option β}{r:β}(H:(if b=true then x else y)=some r):(b=true∧x=some r)∨(b=false∧y=some r):=(zA H).imp id fun h=>⟨nt h.1,h.2⟩
theorem ab{β:Type}{c:Prop}[Decidable c]{x y:Option β}{r:β}(H:(if c then x else y)=some r):(decide c=true∧x=some r)∨(decide c=false∧y=some r):=(zA H).imp (fun h=>⟨dT h.1,h.2⟩) fun h=>⟨dF h.1,h.2⟩
theorem ac{P:Program}{n:Nat}{ic:IC}{ts:List JC}{f:FuncId}{ds rs:List D}(F:FI P n ic ts f)(e:Nat.ble ds.length n=true)(h:AW P n ic (zlP ts rs) (mk (zdM 0 ds) []<|X1 ds)):Fn P f (lent ds) true rs:=F (fle e) (zy ds▸h)
theorem ae{P:Program}{n:Nat}{ic:IC}{ts:List JC}{f:FuncId}{ds rs:List D}(F:FB P n ic ts f)(e:Nat.ble ds.length n=true)(h:AW P n ic (zkp ts rs) (mk (zdM 0 ds) []<|X1 ds)):Fn P f (lent ds) false rs:=F (fle e) (zy ds▸h)
theorem af{n off a b:Nat}(e:a=b:=by first|(simp;done)|(simp;omega)|omega|(simp only[List.length_map];omega)):CWk (.sl n off a) (.sl n off b):=CWk.len e
theorem O{α:Sort _}{a:α}:a=a:=rfl
abbrev ai:=@erL.cons
abbrev aj:=@BK.nil
abbrev ak:=@AW.weaken
abbrev al:=@TQ.qn
abbrev am:=@BL.nil
abbrev ao:=@BK.cons
abbrev aq:=@AW.ret
abbrev ar:=@SL.nil
abbrev au:=@AW.skip
abbrev av:=@erH.cons
abbrev aw:=@AW.block
abbrev ax:=@TQ.qr
abbrev ay:=@Cl.fn
abbrev aA:=@GK.nil
abbrev aB:=@VOs.cons
abbrev aC:=@TQ.qe
abbrev aD:=@CDs.plain
abbrev aE:=@RL.cons
abbrev aF:=@SL.cons
abbrev aG:=@AW.iter
abbrev aH:=@AW.exit
abbrev aI:=@VD.agg
abbrev aJ:=@BQ.qr
abbrev aK:=@VWk.one
abbrev aL:=@VO.sl
abbrev aM:=@RV.tmp
abbrev aN:=@erL.nil
abbrev aO:=@RL.nil
abbrev aP:=@BQ.qn
abbrev aQ:=@VO.flat
abbrev aT:=@BQ.qe
abbrev aU:=@erH.nil
abbrev aW:=@CDs.sl
abbrev aX:=@AW.regd
abbrev aY:=@erH.drop
abbrev aZ:=@GK.cons
abbrev a8:=@PDs.cons
abbrev ba:=@CWk.len
abbrev bb:=@SZ.cons
abbrev bc:=@CDs.nil
abbrev bf:=@AO.lent
abbrev bg:=@PDs.nil
abbrev bh:=@SZ.nil
abbrev bi:=@GR.nil
abbrev bj:=@AO.nil
abbrev bl:=@El.lent
abbrev bn:=@CWk.fn
abbrev bo:=@ML.lent
abbrev bp:=@VOs.nil
abbrev bq:=@CWk.ptr
abbrev bt:=@ML.nil
abbrev bv:=@VO.zs
abbrev bw:=@VD.fn
abbrev bz:=@AO.give
abbrev bA:=@VO.aggs
abbrev bB:=@VO.agg
abbrev bC:=@El.one
abbrev bD:=@AO.mut
abbrev bE:=@VD.aggs
abbrev bF:=@VD.sl
abbrev bG:=@RdI.rfl
abbrev bH:=@ML.give
abbrev bI:=@VWk.rfl
abbrev bJ:=@RdI.zs
abbrev bK:=@RB.cons
abbrev bL:=@ML.mut
abbrev bM:=@CDs.zs
abbrev bN:=@Wk.trans
abbrev bO:=@AW.condU
theorem zbf{a1:(List zw)}{a2:Int}{r:Int}(H:ZM a1 a2=some r):Fn Tryz.prog 73 (lent [.sl 2 (a1.map zg),.int .i64 a2]) true [.int .i64 r]:=by
 refine ac f73 O ?_
 refine ak (zf [] (kv 0 (.one<|.d<|.sl 2<|a1.map zg) O O<|kv 1 (oI a2) O O ar) am aj) ?_
 unfold ZM at H
 unfold i73
 refine aV (za eC<|xQ<|aV<|za O<|za O<|zX eZ (n:=a1.length) lm<|zbP O eZ<|za eZ<|xQ<|aS<|aV<|za eZ<|qj eZ eC<|xQ ?_)
 obtain⟨h3,H⟩|⟨h3,H⟩:=ab H
 ·refine zi eZ h3 (aV<|za eC<|xQ<|aq<|ax ?_)
  cases H
  exact eE O O
 ·refine zh eZ h3 (au<|al<|aV<|za O<|za eZ<|xQ<|aq ?_)
  cases H
  exact eE O O
theorem zfS{a1:(List zj)}{a2:Int}{r:Int}(H:JF a1 a2=some r):Fn Tryz.prog 74 (lent [.sl 2 (a1.map zd),.int .i64 a2]) true [.int .i64 r]:=by
 refine ac f74 O ?_
 refine ak (zf [] (kv 0 (.one<|.d<|.sl 2<|a1.map zd) O O<|kv 1 (oI a2) O O ar) am aj) ?_
 unfold JF at H
 unfold i74
 refine aV (za eC<|xQ<|aV<|za O<|za O<|zX eZ (n:=a1.length) lm<|zbP O eZ<|za eZ<|xQ<|aS<|aV<|za eZ<|qj eZ eC<|xQ ?_)
 obtain⟨h3,H⟩|⟨h3,H⟩:=ab H
 ·refine zi eZ h3 (aV<|za eC<|xQ<|aq<|ax ?_)
  cases H
  exact eE O O
 ·refine zh eZ h3 (au<|al<|aV<|za O<|za eZ<|xQ<|aq ?_)
  cases H
  exact eE O O
theorem zfI{a1:(List zC)}{a2:Int}{r:Int}(H:Yg a1 a2=some r):Fn Tryz.prog 75 (lent [.sl 4 (a1.map zo),.int .i64 a2]) true [.int .i64 r]:=by
 refine ac f75 O ?_
 refine ak (zf [] (kv 0 (.one<|.d<|.sl 4<|a1.map zo) O O<|kv 1 (oI a2) O O ar) am aj) ?_
 unfold Yg at H
 unfold i75
 refine aV (za eC<|xQ<|aV<|za O<|za O<|zX eZ (n:=a1.length) lm<|zbP O eZ<|za eZ<|xQ<|aS<|aV<|za eZ<|qj eZ eC<|xQ ?_)
 obtain⟨h3,H⟩|⟨h3,H⟩:=ab H
 ·refine zi eZ h3 (aV<|za eC<|xQ<|aq<|ax ?_)
  cases H
  exact eE O O
 ·refine zh eZ h3 (au<|al<|aV<|za O<|za eZ<|xQ<|aq ?_)
  cases H
  exact eE O O
theorem zeI{a1:(List zj)}{a2:Int}{r:Int}(H:Jd a1 a2=some r):Fn Tryz.prog 282 (lent [.sl 2 (a1.map zd),.int .i64 a2]) true [.int .i64 r]:=by
 refine ac zJJ O ?_
 refine ak (zf [] (kv 0 (.one<|.d<|.sl 2<|a1.map zd) O O<|kv 1 (oI a2) O O ar) am aj) ?_
 unfold Jd at H
 unfold zDk
 refine aV (za eC<|xQ<|aV<|za O<|za O<|zX eZ (n:=a1.length) lm<|zbP O eZ<|za eZ<|xQ<|aS<|aV<|za eZ<|qj eZ eC<|xQ ?_)
 obtain⟨h3,H⟩|⟨h3,H⟩:=ab H
 ·refine zi eZ h3 (aV<|za eC<|xQ<|aq<|ax ?_)
  cases H
  exact eE O O
 ·refine zh eZ h3 (au<|al<|aV<|za O<|za eZ<|xQ<|aq ?_)
  cases H
  exact eE O O
theorem zgr{a1:zL}{a2:Int}{r:Int}(H:xd a1 a2=some r):Fn Tryz.prog 195 (lent [.agg (zx a1),.int .i64 a2]) true [.int .i64 r]:=by
 refine ac zIA O ?_
 refine ak (zf [] (kv 0 (.agg<|jm a1) O O<|kv 1 (oI a2) O O ar) am aj) ?_
 unfold xd at H
 unfold zDU
 refine aV (yd (n:=128) (m:=2) (cs:=jm a1) O eZ O O nZ<|za eC<|xQ<|aV<|ze (m:=1) O O<|zn (q:=1) (c:=.d (.sl 2<|a1.Writes.map zd)) eZ bZ O O<|za O ?_)
 obtain⟨v3,h4,H⟩:=zk H
 refine zF (u:=oI v3) eC ay (zeI h4) (Ec O<|Ec eZ En) (Vc Vp<|Vc Vp Vn) O (za eZ<|xQ<|aS<|aV<|za eZ<|qj eZ eC<|xQ ?_)
 obtain⟨h5,H⟩|⟨h5,H⟩:=ab H
 ·refine zi eZ h5 (aV<|za eC<|xQ<|aq<|ax ?_)
  cases H
  exact eE O O
 ·refine zh eZ h5 (au<|al<|aV<|za O<|za eZ<|xQ<|aq ?_)
  cases H
  exact eE O O
theorem zfu{a1:(List zL)}{a2:Int}{r:Int}(H:Ye a1 a2=some r):Fn Tryz.prog 76 (lent [.sl 2 (a1.map zx),.int .i64 a2]) true [.int .i64 r]:=by
 refine ac f76 O ?_
 refine ak (zf [] (kv 0 (.one<|.d<|.sl 2<|a1.map zx) O O<|kv 1 (oI a2) O O ar) am aj) ?_
 unfold Ye at H
 unfold i76
 refine aV (za eC<|xQ<|aV<|za O<|za O<|zX eZ (n:=a1.length) lm<|zbP O eZ<|za eZ<|xQ<|aS<|aV<|za eZ<|qj eZ eC<|xQ ?_)
 obtain⟨h3,H⟩|⟨h3,H⟩:=ab H
 ·refine zi eZ h3 (aV<|za eC<|xQ<|aq<|ax ?_)
  cases H
  exact eE O O
 ·refine zh eZ h3 (au<|al<|zD (fun t4:Int=>xW t4=some r) (fun t4=>mk [(1,oI t4)] [] noG) ?_ ?_)
  ·intro t4 H
   unfold xW at H
   refine aV (za eZ<|za eZ<|xQ<|aq ?_)
   cases H
   exact eE O O
  ·refine aV (za eC<|xQ<|aw<|aG (fun s6:(Int×Int)=>mk [(0,.one<|.d<|.sl 2<|a1.map zx),(1,oI s6.1),(5,oI s6.2)] [] noG) H (zf [] (sR O O) am aj) ?_)
   intro kb7 s6 H
   unfold xT at H
   refine aS (aV<|za O<|za O<|zX eZ (n:=a1.length) lm<|qj O eZ<|xQ ?_)
   obtain⟨h8,H⟩|⟨h8,H⟩:=ab H
   ·refine zi eZ h8 (au<|al<|aS<|aw<|aV<|za O<|za O ?_)
    obtain⟨v9,h10,H⟩:=zk H
    refine qk O eZ h10 (qi (es:=jm v9) eZ O<|za O ?_)
    obtain⟨v11,h12,H⟩:=zk H
    refine zF (u:=oI v11) eC ay (zgr h12) (Ec O<|Ec eZ En) (Vc (aI O)<|Vc Vp Vn) O (za eZ<|xQ<|aV<|za eZ<|qj eZ eC<|xQ<|ak (zf [] (kr 25 O O<|kr 1 O O<|kr 0 O O<|kr 5 O O ar) am aj) ?_)
    obtain⟨h13,H⟩|⟨h13,H⟩:=ab H
    ·refine zi eZ h13 (aV<|za eC<|xQ<|aq<|aJ<|ax<|ax<|aJ<|ax ?_)
     cases H
     exact eE O O
    ·exact zh eZ h13 (au<|aP<|al<|aR<|za O<|qb eZ eC<|za eZ<|zl<|al ⟨(v11,IntKind.wrap .i64 (s6.2+1)),H,zf [] (sR O O) am aj⟩)
   ·exact zh eZ h8 (aH<|aC<|aC<|aT<|al ⟨s6.1,H,zf [] (sR O O) am aj⟩)
theorem zcp{a1:(List Int)}{a2:Int}{r:Int}(H:Ji a1 a2=some r):Fn Tryz.prog 77 (lent [.sl 1 (a1.map zm),.int .i64 a2]) true [.int .i64 r]:=by
 refine ac f77 O ?_
 refine ak (zf [] (kv 0 (.one<|.d<|.sl 1<|a1.map zm) O O<|kv 1 (oI a2) O O ar) am aj) ?_
 unfold Ji at H
 unfold i77
 refine aV (za eC<|xQ<|aV<|za O<|za O<|zX eZ (n:=a1.length) lm<|zbP O eZ<|za eZ<|xQ<|aS<|aV<|za eZ<|qj eZ eC<|xQ ?_)
 obtain⟨h3,H⟩|⟨h3,H⟩:=ab H
 ·refine zi eZ h3 (aV<|za eC<|xQ<|aq<|ax ?_)
  cases H
  exact eE O O
 ·refine zh eZ h3 (au<|al<|aV<|za O<|za eZ<|xQ<|aq ?_)
  cases H
  exact eE O O
theorem zfH{a1:zp}{a2:Int}{r:Int}(H:JI a1 a2=some r):Fn Tryz.prog 18 (lent [.agg (zT a1),.int .i64 a2]) true [.int .i64 r]:=by
 refine ac f18 O ?_
 refine ak (zf [] (kv 0 (.agg<|zK a1) O O<|kv 1 (oI a2) O O ar) am aj) ?_
 unfold JI at H
 unfold i18
 refine aV (yd (n:=128) (m:=9) (cs:=zK a1) O eZ O O nZ<|za eC<|xQ<|aV<|ze (m:=1) O O<|zn (q:=1) (c:=.d (.sl 2<|a1.Own.map zg)) eZ bZ O O<|za O ?_)
 obtain⟨v3,h4,H⟩:=zk H
 refine zF (u:=oI v3) eC ay (zbf h4) (Ec O<|Ec eZ En) (Vc Vp<|Vc Vp Vn) O (za eZ<|xQ<|aS<|aV<|za eZ<|qj eZ eC<|xQ ?_)
 obtain⟨h5,H⟩|⟨h5,H⟩:=ab H
 ·refine zi eZ h5 (aV<|za eC<|xQ<|aq<|ax ?_)
  cases H
  exact eE O O
 ·refine zh eZ h5 (au<|al<|aV<|ze (m:=2) O O<|zn (q:=2) (c:=.d (.sl 2<|a1.Frozen.map zg)) eZ bZ O O<|za O ?_)
  obtain⟨v6,h7,H⟩:=zk H
  refine zF (u:=oI v6) eC ay (zbf h7) (Ec O<|Ec eZ En) (Vc Vp<|Vc Vp Vn) O (za eZ<|xQ<|ak (zf [] (kr 1 O O<|kr 2 O O ar) (blR O)<|ao (n:=128) O bZ O O aj)<|aS<|aV<|za eZ<|qj eZ eC<|xQ ?_)
  obtain⟨h8,H⟩|⟨h8,H⟩:=ab H
  ·refine zi eZ h8 (aV<|za eC<|xQ<|aq<|ax ?_)
   cases H
   exact eE O O
  ·refine zh eZ h8 (au<|al<|aV<|ze (m:=3) O O<|zn (q:=3) (c:=.d (.sl 2<|a1.Cells.map zd)) eZ bZ O O<|za O ?_)
   obtain⟨v9,h10,H⟩:=zk H
   refine zF (u:=oI v9) eC ay (zfS h10) (Ec O<|Ec eZ En) (Vc Vp<|Vc Vp Vn) O (za eZ<|xQ<|aS<|aV<|za eZ<|qj eZ eC<|xQ ?_)
   obtain⟨h11,H⟩|⟨h11,H⟩:=zA H
   ·refine zi eZ (dT h11) (aV<|za eC<|xQ<|aq<|ax ?_)
    cases H
    exact eE O O
   ·refine zh eZ (dF h11) (au<|al<|aV<|ze (m:=4) O O<|zn (q:=4) (c:=.d (.sl 4<|a1.Locks.map zo)) eZ bZ O O<|za O ?_)
    obtain⟨v12,h13,H⟩:=zk H
    refine zF (u:=oI v12) eC ay (zfI h13) (Ec O<|Ec eZ En) (Vc Vp<|Vc Vp Vn) O (za eZ<|xQ<|ak (zf [] (kr 1 O O<|kr 2 O O ar) (blR O)<|ao (n:=128) O bZ O O aj)<|aS<|aV<|za eZ<|qj eZ eC<|xQ ?_)
    obtain⟨h14,H⟩|⟨h14,H⟩:=zA H
    ·refine zi eZ (dT h14) (aV<|za eC<|xQ<|aq<|ax ?_)
     cases H
     exact eE O O
    ·refine zh eZ (dF h14) (au<|al<|aV<|ze (m:=5) O O<|zn (q:=5) (c:=.d (.sl 2<|a1.Helds.map zx)) eZ bZ O O<|za O ?_)
     obtain⟨v15,h16,H⟩:=zk H
     refine zF (u:=oI v15) eC ay (zfu h16) (Ec O<|Ec eZ En) (Vc Vp<|Vc Vp Vn) O (za eZ<|xQ<|aS<|aV<|za eZ<|qj eZ eC<|xQ ?_)
     obtain⟨h17,H⟩|⟨h17,H⟩:=zA H
     ·refine zi eZ (dT h17) (aV<|za eC<|xQ<|aq<|ax ?_)
      cases H
      exact eE O O
     ·refine zh eZ (dF h17) (au<|al<|aV<|ze (m:=6) O O<|zn (q:=6) (c:=.d (.sl 1<|a1.Wounded.map zm)) eZ bZ O O<|za O ?_)
      obtain⟨v18,h19,H⟩:=zk H
      refine zF (u:=oI v18) eC ay (zcp h19) (Ec O<|Ec eZ En) (Vc Vp<|Vc Vp Vn) O (za eZ<|xQ<|ak (zf [] (kr 1 O O<|kr 2 O O ar) (blR O)<|ao (n:=128) O bZ O O aj)<|aS<|aV<|za eZ<|qj eZ eC<|xQ ?_)
      obtain⟨h20,H⟩|⟨h20,H⟩:=zA H
      ·refine zi eZ (dT h20) (aV<|za eC<|xQ<|aq<|ax ?_)
       cases H
       exact eE O O
      ·refine zh eZ (dF h20) (au<|al<|aV<|ze (m:=7) O O<|zn (q:=7) (c:=.d (.sl 1<|a1.Ended.map zm)) eZ bZ O O<|za O ?_)
       obtain⟨v21,h22,H⟩:=zk H
       refine zF (u:=oI v21) eC ay (zcp h22) (Ec O<|Ec eZ En) (Vc Vp<|Vc Vp Vn) O (za eZ<|xQ<|aS<|aV<|za eZ<|qj eZ eC<|xQ ?_)
       obtain⟨h23,H⟩|⟨h23,H⟩:=zA H
       ·refine zi eZ (dT h23) (aV<|za eC<|xQ<|aq<|ax ?_)
        cases H
        exact eE O O
       ·refine zh eZ (dF h23) (au<|al<|aV<|za O<|za eZ<|xQ<|aq ?_)
        cases H
        exact eE O O
theorem zf4{a1:zw}{r:zw}(H:kX a1=some r):Fn Tryz.prog 21 (lent [.agg (zg a1)]) true [.agg (zg r)]:=by
 refine ac f21 O ?_
 refine ak (zf [] (kv 0 (.agg [dI a1.Lo,dI a1.Hi]) O O ar) am aj) ?_
 unfold kX at H
 unfold i21
 refine aV (yd (n:=64) (m:=2) (cs:=[dI a1.Lo,dI a1.Hi]) O eZ O O nZ<|Zn (n:=128) (m:=2) O O (nR O)<|xQ<|aV<|Zn (n:=192) (m:=2) O O (nR O)<|xQ<|aV<|ze (m:=0) O O<|zn (q:=0) (c:=dI a1.Lo) eZ (bR O) O O<|ze (m:=0) O O<|zP (es:=[dI a1.Lo,dI 0]) eZ O O O bZ O<|xQ<|aV<|ze (m:=1) O O<|zn (q:=1) (c:=dI a1.Hi) eZ (bR O) O O<|ze (m:=1) O O<|zP (es:=[dI a1.Lo,dI a1.Hi]) eZ O O O bZ O<|xQ<|aV<|zY (es:=[dI a1.Lo,dI a1.Hi]) O bZ O<|zP (es:=[dI a1.Lo,dI a1.Hi]) O eZ O O (bR O) O<|xQ<|aq ?_)
 cases H
 exact qT (aE (yq (es:=[dI a1.Lo,dI a1.Hi]) O bZ O) (bB (ds:=[.int .i64 a1.Lo,.int .i64 a1.Hi]) O O) aO) List.nodup_nil
theorem zbe{a1:(List zw)}{r:(List zw)}(H:ZL a1=some r):Fn Tryz.prog 84 (lent [.sl 2 (a1.map zg)]) true [.sl 2 (List.map zg r)]:=by
 refine ac f84 O ?_
 refine ak (zf [] (kv 0 (.one<|.d<|.sl 2<|a1.map zg) O O ar) am aj) ?_
 unfold ZL at H
 unfold i84
 refine aV (za eC<|xQ<|aV<|za O<|zX eZ (n:=a1.length) lm ?_)
 obtain⟨h2,H⟩:=zW H
 refine zio (f:=zg) (zv:=zw.mk 0 0) (own:=true) (m:=448) (q:=Int.toNat (a1.length:Int)) O O eZ eZ h2.1 h2.2 O (by decide) O nZ (za eZ<|xQ<|zD (fun t3:(List zw)=>YS t3=some r) (fun t3=>mk [(3,.one<|.sl 320128 0 t3.length)] [(320128,.data 2 (List.map zg t3) true none)] noG) ?_ ?_)
 ·intro t3 H
  unfold YS at H
  refine aV (za eZ<|za eZ<|xQ<|aq ?_)
  obtain rfl:=(Option.some.inj H)
  exact qT (aE (aM eZ) (aL bZ lm (zI fun _=>O)) aO) (by decide)
 ·refine aV (za eC<|xQ<|aw<|aG (fun s5:((List zw)×Int)=>mk [(0,.one<|.d<|.sl 2<|a1.map zg),(3,.one<|.sl 320192 0 s5.1.length),(4,oI s5.2)] [(320192,.data 2 (List.map zg s5.1) true none)] noG) H ((zf [] (kR O O<|aF (eR O) O (aK af)<|sR O O) (blR O)<|bkR O O O).trans<|yP 448 320192 O O<|nR O) ?_)
  intro kb6 s5 H
  unfold Yr at H
  refine aS (aV<|za O<|za O<|zX eZ (n:=a1.length) lm<|qj O eZ<|xQ ?_)
  obtain⟨h7,H⟩|⟨h7,H⟩:=ab H
  ·refine zi eZ h7 (au<|al<|aS<|aw<|aR<|za O<|za O<|za O<|za O ?_)
   obtain⟨v8,h9,H⟩:=zk H
   refine qk O eZ h9 (qi (es:=[dI v8.Lo,dI v8.Hi]) eZ O ?_)
   obtain⟨v10,h11,H⟩:=zk H
   refine zF (u:=.agg [dI v10.Lo,dI v10.Hi]) eC ay (zf4 h11) (Ec eZ En) (Vc (aI O) Vn) O ?_
   obtain⟨v12,h13,H⟩:=zk H
   exact X2 O O bZ O h13 (yX (t:=v12) (t':=v10) (es:=[.int .i64 v10.Lo,.int .i64 v10.Hi]) eZ O O O bZ (y7 h13) O O<|zl<|aP<|al<|aR<|za O<|qb eZ eC<|za eZ<|zl<|al ⟨(s5.1.set (Int.toNat s5.2) v10,IntKind.wrap .i64 (s5.2+1)),H,zf [] (kR O O<|aF (eR O) O (aK af)<|sR O O) (blR O)<|bkR O O O⟩)
  ·exact zh eZ h7 (aH<|aC<|aC<|aT<|al ⟨s5.1,H,(zf [] (sR O O) (blR O)<|bkR O O O).trans<|yP 320192 320128 O O<|nR O⟩)
theorem zgu{a1:zj}{r:zj}(H:XF a1=some r):Fn Tryz.prog 198 (lent [.agg (zd a1)]) true [.agg (zd r)]:=by
 refine ac zJu O ?_
 refine ak (zf [] (kv 0 (.agg [dI a1.Key,dI a1.Value]) O O ar) am aj) ?_
 unfold XF at H
 unfold zEn
 refine aV (yd (n:=64) (m:=2) (cs:=[dI a1.Key,dI a1.Value]) O eZ O O nZ<|Zn (n:=128) (m:=2) O O (nR O)<|xQ<|aV<|Zn (n:=192) (m:=2) O O (nR O)<|xQ<|aV<|ze (m:=0) O O<|zn (q:=0) (c:=dI a1.Key) eZ (bR O) O O<|ze (m:=0) O O<|zP (es:=[dI a1.Key,dI 0]) eZ O O O bZ O<|xQ<|aV<|ze (m:=1) O O<|zn (q:=1) (c:=dI a1.Value) eZ (bR O) O O<|ze (m:=1) O O<|zP (es:=[dI a1.Key,dI a1.Value]) eZ O O O bZ O<|xQ<|aV<|zY (es:=[dI a1.Key,dI a1.Value]) O bZ O<|zP (es:=[dI a1.Key,dI a1.Value]) O eZ O O (bR O) O<|xQ<|aq ?_)
 cases H
 exact qT (aE (yq (es:=[dI a1.Key,dI a1.Value]) O bZ O) (bB (ds:=[.int .i64 a1.Key,.int .i64 a1.Value]) O O) aO) List.nodup_nil
theorem zf8{a1:(List zj)}{r:(List zj)}(H:Yl a1=some r):Fn Tryz.prog 85 (lent [.sl 2 (a1.map zd)]) true [.sl 2 (List.map zd r)]:=by
 refine ac f85 O ?_
 refine ak (zf [] (kv 0 (.one<|.d<|.sl 2<|a1.map zd) O O ar) am aj) ?_
 unfold Yl at H
 unfold i85
 refine aV (za eC<|xQ<|aV<|za O<|zX eZ (n:=a1.length) lm ?_)
 obtain⟨h2,H⟩:=zW H
 refine zio (f:=zd) (zv:=zj.mk 0 0) (own:=true) (m:=448) (q:=Int.toNat (a1.length:Int)) O O eZ eZ h2.1 h2.2 O (by decide) O nZ (za eZ<|xQ<|zD (fun t3:(List zj)=>xz t3=some r) (fun t3=>mk [(3,.one<|.sl 320128 0 t3.length)] [(320128,.data 2 (List.map zd t3) true none)] noG) ?_ ?_)
 ·intro t3 H
  unfold xz at H
  refine aV (za eZ<|za eZ<|xQ<|aq ?_)
  obtain rfl:=(Option.some.inj H)
  exact qT (aE (aM eZ) (aL bZ lm (zI fun _=>O)) aO) (by decide)
 ·refine aV (za eC<|xQ<|aw<|aG (fun s5:((List zj)×Int)=>mk [(0,.one<|.d<|.sl 2<|a1.map zd),(3,.one<|.sl 320192 0 s5.1.length),(4,oI s5.2)] [(320192,.data 2 (List.map zd s5.1) true none)] noG) H ((zf [] (kR O O<|aF (eR O) O (aK af)<|sR O O) (blR O)<|bkR O O O).trans<|yP 448 320192 O O<|nR O) ?_)
  intro kb6 s5 H
  unfold xq at H
  refine aS (aV<|za O<|za O<|zX eZ (n:=a1.length) lm<|qj O eZ<|xQ ?_)
  obtain⟨h7,H⟩|⟨h7,H⟩:=ab H
  ·refine zi eZ h7 (au<|al<|aS<|aw<|aR<|za O<|za O<|za O<|za O ?_)
   obtain⟨v8,h9,H⟩:=zk H
   refine qk O eZ h9 (qi (es:=[dI v8.Key,dI v8.Value]) eZ O ?_)
   obtain⟨v10,h11,H⟩:=zk H
   refine zF (u:=.agg [dI v10.Key,dI v10.Value]) eC ay (zgu h11) (Ec eZ En) (Vc (aI O) Vn) O ?_
   obtain⟨v12,h13,H⟩:=zk H
   exact X2 O O bZ O h13 (yX (t:=v12) (t':=v10) (es:=[.int .i64 v10.Key,.int .i64 v10.Value]) eZ O O O bZ (y7 h13) O O<|zl<|aP<|al<|aR<|za O<|qb eZ eC<|za eZ<|zl<|al ⟨(s5.1.set (Int.toNat s5.2) v10,IntKind.wrap .i64 (s5.2+1)),H,zf [] (kR O O<|aF (eR O) O (aK af)<|sR O O) (blR O)<|bkR O O O⟩)
  ·exact zh eZ h7 (aH<|aC<|aC<|aT<|al ⟨s5.1,H,(zf [] (sR O O) (blR O)<|bkR O O O).trans<|yP 320192 320128 O O<|nR O⟩)
theorem zgC{a1:zC}{r:zC}(H:XD a1=some r):Fn Tryz.prog 199 (lent [.agg (zo a1)]) true [.agg (zo r)]:=by
 refine ac zJ2 O ?_
 refine ak (zf [] (kv 0 (.agg<|qa a1) O O ar) am aj) ?_
 unfold XD at H
 unfold zEr
 refine aV (yd (n:=64) (m:=4) (cs:=qa a1) O eZ O O nZ<|Zn (n:=128) (m:=4) O O (nR O)<|xQ<|aV<|Zn (n:=192) (m:=4) O O (nR O)<|xQ<|aV<|ze (m:=0) O O<|zn (q:=0) (c:=dI a1.Tx) eZ (bR O) O O<|ze (m:=0) O O<|zP (es:=[dI a1.Tx,dI 0,dI 0,dI 0]) eZ O O O bZ O<|xQ<|aV<|ze (m:=1) O O<|zn (q:=1) (c:=dI a1.Lo) eZ (bR O) O O<|ze (m:=1) O O<|zP (es:=[dI a1.Tx,dI a1.Lo,dI 0,dI 0]) eZ O O O bZ O<|xQ<|aV<|ze (m:=2) O O<|zn (q:=2) (c:=dI a1.Hi) eZ (bR O) O O<|ze (m:=2) O O<|zP (es:=[dI a1.Tx,dI a1.Lo,dI a1.Hi,dI 0]) eZ O O O bZ O<|xQ<|aV<|ze (m:=3) O O<|zn (q:=3) (c:=dI a1.Mode) eZ (bR O) O O<|ze (m:=3) O O ?_)
 refine zP (es:=qa a1) eZ O O O bZ O (xQ<|ak (zf [64] (kr 3 O O<|kr 2 O O ar) (blR O)<|ao (n:=192) O bZ O O<|ao (n:=128) O (bR O) O O aj)<|aV<|zY (es:=qa a1) eZ bZ O<|zP (es:=qa a1) O eZ O O (bR O) O<|xQ<|aq ?_)
 cases H
 exact qT (aE (yq (es:=qa a1) O bZ O) (bB (ds:=[.int .i64 a1.Tx,.int .i64 a1.Lo,.int .i64 a1.Hi,.int .i64 a1.Mode]) O O) aO) List.nodup_nil
theorem zgc{a1:(List zC)}{r:(List zC)}(H:JH a1=some r):Fn Tryz.prog 86 (lent [.sl 4 (a1.map zo)]) true [.sl 4 (List.map zo r)]:=by
 refine ac f86 O ?_
 refine ak (zf [] (kv 0 (.one<|.d<|.sl 4<|a1.map zo) O O ar) am aj) ?_
 unfold JH at H
 unfold i86
 refine aV (za eC<|xQ<|aV<|za O<|zX eZ (n:=a1.length) lm ?_)
 obtain⟨h2,H⟩:=zW H
 refine zio (f:=zo) (zv:=zC.mk 0 0 0 0) (own:=true) (m:=448) (q:=Int.toNat (a1.length:Int)) O O eZ eZ h2.1 h2.2 O (by decide) O nZ (za eZ<|xQ<|zD (fun t3:(List zC)=>xB t3=some r) (fun t3=>mk [(3,.one<|.sl 320128 0 t3.length)] [(320128,.data 4 (List.map zo t3) true none)] noG) ?_ ?_)
 ·intro t3 H
  unfold xB at H
  refine aV (za eZ<|za eZ<|xQ<|aq ?_)
  obtain rfl:=(Option.some.inj H)
  exact qT (aE (aM eZ) (aL bZ lm (zI fun _=>O)) aO) (by decide)
 ·refine aV (za eC<|xQ<|aw<|aG (fun s5:((List zC)×Int)=>mk [(0,.one<|.d<|.sl 4<|a1.map zo),(3,.one<|.sl 320192 0 s5.1.length),(4,oI s5.2)] [(320192,.data 4 (List.map zo s5.1) true none)] noG) H ((zf [] (kR O O<|aF (eR O) O (aK af)<|sR O O) (blR O)<|bkR O O O).trans<|yP 448 320192 O O<|nR O) ?_)
  intro kb6 s5 H
  unfold xF at H
  refine aS (aV<|za O<|za O<|zX eZ (n:=a1.length) lm<|qj O eZ<|xQ ?_)
  obtain⟨h7,H⟩|⟨h7,H⟩:=ab H
  ·refine zi eZ h7 (au<|al<|aS<|aw<|aR<|za O<|za O<|za O<|za O ?_)
   obtain⟨v8,h9,H⟩:=zk H
   refine qk O eZ h9 (qi (es:=qa v8) eZ O ?_)
   obtain⟨v10,h11,H⟩:=zk H
   refine zF (u:=.agg (qa v10)) eC ay (zgC h11) (Ec eZ En) (Vc (aI O) Vn) O ?_
   obtain⟨v12,h13,H⟩:=zk H
   exact X2 O O bZ O h13 (yX (t:=v12) (t':=v10) (es:=[.int .i64 v10.Tx,.int .i64 v10.Lo,.int .i64 v10.Hi,.int .i64 v10.Mode]) eZ O O O bZ (y7 h13) O O<|zl<|aP<|al<|aR<|za O<|qb eZ eC<|za eZ<|zl<|al ⟨(s5.1.set (Int.toNat s5.2) v10,IntKind.wrap .i64 (s5.2+1)),H,zf [] (kR O O<|aF (eR O) O (aK af)<|sR O O) (blR O)<|bkR O O O⟩)
  ·exact zh eZ h7 (aH<|aC<|aC<|aT<|al ⟨s5.1,H,(zf [] (sR O O) (blR O)<|bkR O O O).trans<|yP 320192 320128 O O<|nR O⟩)
theorem zfD{a1:zj}{r:zj}(H:kC a1=some r):Fn Tryz.prog 344 (lent [.agg (zd a1)]) true [.agg (zd r)]:=by
 refine ac zIk O ?_
 refine ak (zf [] (kv 0 (.agg [dI a1.Key,dI a1.Value]) O O ar) am aj) ?_
 unfold kC at H
 unfold zHh
 refine aV (yd (n:=64) (m:=2) (cs:=[dI a1.Key,dI a1.Value]) O eZ O O nZ<|Zn (n:=128) (m:=2) O O (nR O)<|xQ<|aV<|Zn (n:=192) (m:=2) O O (nR O)<|xQ<|aV<|ze (m:=0) O O<|zn (q:=0) (c:=dI a1.Key) eZ (bR O) O O<|ze (m:=0) O O<|zP (es:=[dI a1.Key,dI 0]) eZ O O O bZ O<|xQ<|aV<|ze (m:=1) O O<|zn (q:=1) (c:=dI a1.Value) eZ (bR O) O O<|ze (m:=1) O O<|zP (es:=[dI a1.Key,dI a1.Value]) eZ O O O bZ O<|xQ<|aV<|zY (es:=[dI a1.Key,dI a1.Value]) O bZ O<|zP (es:=[dI a1.Key,dI a1.Value]) O eZ O O (bR O) O<|xQ<|aq ?_)
 cases H
 exact qT (aE (yq (es:=[dI a1.Key,dI a1.Value]) O bZ O) (bB (ds:=[.int .i64 a1.Key,.int .i64 a1.Value]) O O) aO) List.nodup_nil
theorem zeQ{a1:(List zj)}{r:(List zj)}(H:Q0 a1=some r):Fn Tryz.prog 283 (lent [.sl 2 (a1.map zd)]) true [.sl 2 (List.map zd r)]:=by
 refine ac zJd O ?_
 refine ak (zf [] (kv 0 (.one<|.d<|.sl 2<|a1.map zd) O O ar) am aj) ?_
 unfold Q0 at H
 unfold zEW
 refine aV (za eC<|xQ<|aV<|za O<|zX eZ (n:=a1.length) lm ?_)
 obtain⟨h2,H⟩:=zW H
 refine zio (f:=zd) (zv:=zj.mk 0 0) (own:=true) (m:=448) (q:=Int.toNat (a1.length:Int)) O O eZ eZ h2.1 h2.2 O (by decide) O nZ (za eZ<|xQ<|zD (fun t3:(List zj)=>YG t3=some r) (fun t3=>mk [(3,.one<|.sl 320128 0 t3.length)] [(320128,.data 2 (List.map zd t3) true none)] noG) ?_ ?_)
 ·intro t3 H
  unfold YG at H
  refine aV (za eZ<|za eZ<|xQ<|aq ?_)
  obtain rfl:=(Option.some.inj H)
  exact qT (aE (aM eZ) (aL bZ lm (zI fun _=>O)) aO) (by decide)
 ·refine aV (za eC<|xQ<|aw<|aG (fun s5:((List zj)×Int)=>mk [(0,.one<|.d<|.sl 2<|a1.map zd),(3,.one<|.sl 320192 0 s5.1.length),(4,oI s5.2)] [(320192,.data 2 (List.map zd s5.1) true none)] noG) H ((zf [] (kR O O<|aF (eR O) O (aK af)<|sR O O) (blR O)<|bkR O O O).trans<|yP 448 320192 O O<|nR O) ?_)
  intro kb6 s5 H
  unfold YP at H
  refine aS (aV<|za O<|za O<|zX eZ (n:=a1.length) lm<|qj O eZ<|xQ ?_)
  obtain⟨h7,H⟩|⟨h7,H⟩:=ab H
  ·refine zi eZ h7 (au<|al<|aS<|aw<|aR<|za O<|za O<|za O<|za O ?_)
   obtain⟨v8,h9,H⟩:=zk H
   refine qk O eZ h9 (qi (es:=[dI v8.Key,dI v8.Value]) eZ O ?_)
   obtain⟨v10,h11,H⟩:=zk H
   refine zF (u:=.agg [dI v10.Key,dI v10.Value]) eC ay (zfD h11) (Ec eZ En) (Vc (aI O) Vn) O ?_
   obtain⟨v12,h13,H⟩:=zk H
   exact X2 O O bZ O h13 (yX (t:=v12) (t':=v10) (es:=[.int .i64 v10.Key,.int .i64 v10.Value]) eZ O O O bZ (y7 h13) O O<|zl<|aP<|al<|aR<|za O<|qb eZ eC<|za eZ<|zl<|al ⟨(s5.1.set (Int.toNat s5.2) v10,IntKind.wrap .i64 (s5.2+1)),H,zf [] (kR O O<|aF (eR O) O (aK af)<|sR O O) (blR O)<|bkR O O O⟩)
  ·exact zh eZ h7 (aH<|aC<|aC<|aT<|al ⟨s5.1,H,(zf [] (sR O O) (blR O)<|bkR O O O).trans<|yP 320192 320128 O O<|nR O⟩)
theorem zgs{a1:zL}{r:zL}(H:xi a1=some r):Fn Tryz.prog 200 (lent [.agg (zx a1)]) true [.agg (zx r)]:=by
 refine ac zIo O ?_
 refine ak (t:=mk [(0,.agg<|jm a1)] [] (lk [])) (zf [] (sR O O) am aj) ?_
 unfold xi at H
 unfold zFS
 refine aV (yd (n:=64) (m:=2) (cs:=jm a1) O eZ O O nZ<|Zn (n:=128) (m:=2) O O (nR O)<|xQ<|aV<|Zn (n:=192) (m:=2) O O (nR O)<|xQ<|aV<|ze (m:=0) O O<|zn (q:=0) (c:=dI a1.Tx) eZ (bR O) O O<|ze (m:=0) O O<|zP (es:=[dI a1.Tx,.zs]) eZ O O O bZ O<|xQ<|aS<|zZ<|zr<|ze (m:=1) O O<|zl<|zr<|zn (q:=1) (c:=.d (.sl 2<|a1.Writes.map zd)) eZ (bR O) O O<|zl<|zr ?_)
 obtain⟨v2,h3,H⟩:=zk H
 refine j9 (u:=.one (.sl 576 0 v2.length)) (bs:=[(576,.data 2 (v2.map zd) true none)]) eC ay (zeQ h3) (Ec eZ En) (Vc Vp Vn) (by simp[jg,jD,qy,jq,qF]) O (fC (nR O) O<|fC (nR O) O fN) (zl<|zr<|ze (m:=1) O O<|zl<|zr<|zP (es:=[dI a1.Tx,.sl 576 0 v2.length]) eZ O O O (bR O) O<|zl<|qf<|xQ<|aS<|zZ<|zr<|zY (es:=[dI a1.Tx,.sl 576 0 v2.length]) O bZ O<|zl<|zr<|zP (es:=[dI a1.Tx,.sl 576 0 v2.length]) O eZ O O (bR O) O<|zl<|qf<|xQ<|aq ?_)
 cases H
 exact qT (aE (yq (es:=[dI a1.Tx,.sl 576 0 v2.length]) O bZ O) (bA<|aB (aQ O)<|aB (aL (bR O) lm (zI fun _=>O)) bp) aO) (by decide)
theorem zgm{a1:(List zL)}{r:(List zL)}(H:J3 a1=some r):Fn Tryz.prog 87 (lent [.sl 2 (a1.map zx)]) true [.sl 2 (List.map zx r)]:=by
 refine ac f87 O ?_
 refine ak (t:=mk [(0,.one<|.d<|.sl 2<|a1.map zx)] [] (lk [])) (zf [] (sR O O) am aj) ?_
 unfold J3 at H
 unfold i87
 refine aV (za eC<|xQ<|aS<|zZ<|zr<|za O<|zl<|zr<|zX eZ (n:=a1.length) lm<|zl ?_)
 obtain⟨h2,H⟩:=zW H
 refine zy9 (f:=zx) (zv:=zL.mk 0 ([]:(List zj))) (m:=448) (q:=Int.toNat (a1.length:Int)) O eZ eZ h2.1 h2.2 O (by decide) O nZ (qf<|za eZ<|xQ<|zD (fun t3:(List zL)=>xt t3=some r) (fun t3=>mk [(3,.one<|.sl 320128 0 t3.length)] [(320128,.data 2 (List.map zx t3) true none)] (lk [])) ?_ ?_)
 ·intro t3 H
  unfold xt at H
  refine aV (za eZ<|za eZ<|xQ<|aq ?_)
  obtain rfl:=(Option.some.inj H)
  exact qT (aE (aM eZ) (Kf bZ lm O) aO) (by decide)
 ·refine aV (za eC<|xQ<|aw<|aG (fun s5:((List zL)×Int)=>mk [(0,.one<|.d<|.sl 2<|a1.map zx),(3,.one<|.sl 320192 0 s5.1.length),(4,oI s5.2)] [(320192,.data 2 (List.map zx s5.1) true none)] (lk [])) H ((zH [] (kR O O<|aF (eR O) O (aK af)<|sR O O) (blR O) (bkR O O O) aA).trans<|yW 448 320192 O O (nR O) bi) ?_)
  intro kb6 s5 H
  unfold xC at H
  refine aS (aV<|za O<|za O<|zX eZ (n:=a1.length) lm<|qj O eZ<|xQ ?_)
  obtain⟨h7,H⟩|⟨h7,H⟩:=ab H
  ·refine zi eZ h7 (au<|al<|aS<|aw<|zZ<|zr<|za O<|zl<|zr<|za O<|zl<|zr<|za O<|zl<|zr<|za O<|zl<|zr ?_)
   obtain⟨v8,h9,H⟩:=zk H
   refine qk O eZ h9 (zl<|zr<|qi (es:=jm v8) eZ O<|zl<|zr ?_)
   obtain⟨v10,h11,H⟩:=zk H
   refine j9 (u:=.agg [dI v10.Tx,.sl 1281 0 v10.Writes.length]) (bs:=[(1281,.data 2 (v10.Writes.map zd) true none)]) eC ay (zgs h11) (Ec eZ En) (Vc (aI O) Vn) (by simp[jg,jD,qy,jq,qF]) O (fC (nR O) O<|fC (nR O) O fN) (zl<|zr ?_)
   obtain⟨v12,h13,H⟩:=zk H
   exact X2 O O (bR O) O h13 (zl<|zjD (f:=zx) (t:=v12) (t':=v10) (ds:=[.int .i64 v10.Tx,.sl 2<|v10.Writes.map zd]) (ns:=[1281]) eZ O O O (bR O) (y7 h13) (aB (aQ O)<|aB (aL bZ lm (zI fun _=>O)) bp) O O (ai (v':=.one (.ptr<|.nm 320192 (Int.toNat s5.2) 0)) O<|ai (v':=.agg [dI v10.Tx,.any]) O<|ai (v':=.agg (jm v8)) O<|ai (v':=.one (.ptr<|.bd (zx v8) 0)) O<|ai (v':=oI s5.2) O<|ai (v':=.one (.d<|.sl 2<|a1.map zx)) O<|ai (v':=oI s5.2) O<|ai (v':=.one (.sl 320192 0 s5.1.length)) O<|ai (v':=oB (decide (s5.2 < (a1.length:Int)))) O<|ai (v':=oI (a1.length:Int)) O<|ai (v':=.one (.d<|.sl 2<|a1.map zx)) O<|ai (v':=oI s5.2) O<|ai (v':=.one (.d<|.sl 2<|a1.map zx)) O<|ai (v':=.one (.sl 320192 0 s5.1.length)) O<|ai (v':=oI s5.2) O aN) (aY O<|av (v':=.data 2 (List.map zx s5.1) true none) O O aU) aN<|qf<|zl<|aP<|al<|aR<|za O<|qb eZ eC<|za eZ<|zl<|al ⟨(s5.1.set (Int.toNat s5.2) v10,IntKind.wrap .i64 (s5.2+1)),H,zH [] (kR O O<|aF (eR O) O (aK af)<|sR O O) (blR O) (bkR O O O) aA⟩)
  ·exact zh eZ h7 (aH<|aC<|aC<|aT<|al ⟨s5.1,H,(zH [] (sR O O) (blR O) (bkR O O O) aA).trans<|yW 320192 320128 O O (nR O) bi⟩)
theorem zcl{a1:(List Int)}{r:(List Int)}(H:Jk a1=some r):Fn Tryz.prog 88 (lent [.sl 1 (a1.map zm)]) true [.sl 1 (List.map zm r)]:=by
 refine ac f88 O ?_
 refine ak (zf [] (kv 0 (.one<|.d<|.sl 1<|a1.map zm) O O ar) am aj) ?_
 unfold Jk at H
 unfold i88
 refine aV (za eC<|xQ<|aV<|za O<|zX eZ (n:=a1.length) lm ?_)
 obtain⟨h2,H⟩:=zW H
 refine zio (f:=zm) (zv:=0) (own:=true) (m:=448) (q:=Int.toNat (a1.length:Int)) O O eZ eZ h2.1 h2.2 O (by decide) O nZ (za eZ<|xQ<|zD (fun t3:(List Int)=>kt t3=some r) (fun t3=>mk [(3,.one<|.sl 320128 0 t3.length)] [(320128,.data 1 (List.map zm t3) true none)] noG) ?_ ?_)
 ·intro t3 H
  unfold kt at H
  refine aV (za eZ<|za eZ<|xQ<|aq ?_)
  obtain rfl:=(Option.some.inj H)
  exact qT (aE (aM eZ) (aL bZ lm (zI fun _=>O)) aO) (by decide)
 ·refine aV (za eC<|xQ<|aw<|aG (fun s5:((List Int)×Int)=>mk [(0,.one<|.d<|.sl 1<|a1.map zm),(3,.one<|.sl 320192 0 s5.1.length),(4,oI s5.2)] [(320192,.data 1 (List.map zm s5.1) true none)] noG) H ((zf [] (kR O O<|aF (eR O) O (aK af)<|sR O O) (blR O)<|bkR O O O).trans<|yP 448 320192 O O<|nR O) ?_)
  intro kb6 s5 H
  unfold kU at H
  refine aS (aV<|za O<|za O<|zX eZ (n:=a1.length) lm<|qj O eZ<|xQ ?_)
  obtain⟨h7,H⟩|⟨h7,H⟩:=ab H
  ·refine zi eZ h7 (au<|al<|aS<|aw<|aR<|za O<|za O<|za O<|za O ?_)
   obtain⟨v8,h9,H⟩:=zk H
   refine qk O eZ h9 (zV (e:=.int .i64 v8) eZ O ?_)
   obtain⟨v10,h11,H⟩:=zk H
   exact X2 O O bZ O h11 (yX (t:=v10) (t':=v8) (es:=[.int .i64 v8]) eZ O O O bZ (y7 h11) O O<|zl<|aP<|al<|aR<|za O<|qb eZ eC<|za eZ<|zl<|al ⟨(s5.1.set (Int.toNat s5.2) v8,IntKind.wrap .i64 (s5.2+1)),H,zf [] (kR O O<|aF (eR O) O (aK af)<|sR O O) (blR O)<|bkR O O O⟩)
  ·exact zh eZ h7 (aH<|aC<|aC<|aT<|al ⟨s5.1,H,(zf [] (sR O O) (blR O)<|bkR O O O).trans<|yP 320192 320128 O O<|nR O⟩)
theorem kL{a1:zp}{r:zp}(H:yQ a1=some r):Fn Tryz.prog 20 (lent [.agg (zT a1)]) true [.agg (zT r)]:=by
 refine ac f20 O ?_
 refine ak (t:=mk [(0,.agg<|zK a1)] [] (lk [])) (zf [] (sR O O) am aj) ?_
 unfold yQ at H
 unfold i20
 refine aV (yd (n:=64) (m:=9) (cs:=zK a1) O eZ O O nZ<|Zn (n:=128) (m:=9) O O (nR O)<|xQ<|aV<|Zn (n:=192) (m:=9) O O (nR O)<|xQ<|aV<|ze (m:=0) O O<|zn (q:=0) (c:=dI a1.Me) eZ (bR O) O O<|ze (m:=0) O O<|zP (es:=[dI a1.Me,.zs,.zs,.zs,.zs,.zs,.zs,.zs,dI 0]) eZ O O O bZ O<|xQ<|aS<|zZ<|zr<|ze (m:=1) O O<|zl<|zr<|zn (q:=1) (c:=.d (.sl 2<|a1.Own.map zg)) eZ (bR O) O O<|zl<|zr ?_)
 obtain⟨v2,h3,H⟩:=zk H
 refine j9 (u:=.one (.sl 576 0 v2.length)) (bs:=[(576,.data 2 (v2.map zg) true none)]) eC ay (zbe h3) (Ec eZ En) (Vc Vp Vn) (by simp[jg,jD,qy,jq,qF]) O (fC (nR O) O<|fC (nR O) O fN) (zl<|zr<|ze (m:=1) O O<|zl<|zr<|zP (es:=[dI a1.Me,.sl 576 0 v2.length,.zs,.zs,.zs,.zs,.zs,.zs,dI 0]) eZ O O O (bR O) O<|zl<|qf<|xQ<|aS<|zZ<|zr<|ze (m:=2) O O<|zl<|zr<|zn (q:=2) (c:=.d (.sl 2<|a1.Frozen.map zg)) eZ (bR O) O O<|zl<|zr ?_)
 obtain⟨v4,h5,H⟩:=zk H
 refine j9 (u:=.one (.sl 832 0 v4.length)) (bs:=[(832,.data 2 (v4.map zg) true none)]) eC ay (zbe h5) (Ec eZ En) (Vc Vp Vn) (by simp[jg,jD,qy,jq,qF]) O (fC (nR O) O<|fC (nR O) O fN) (zl<|zr<|ze (m:=2) O O<|zl<|zr<|zP (es:=[dI a1.Me,.sl 576 0 v2.length,.sl 832 0 v4.length,.zs,.zs,.zs,.zs,.zs,dI 0]) eZ O O O (bR O) O<|zl<|qf<|xQ<|aS<|zZ<|zr<|ze (m:=3) O O<|zl<|zr<|zn (q:=3) (c:=.d (.sl 2<|a1.Cells.map zd)) eZ (bR O) O O<|zl<|zr ?_)
 obtain⟨v6,h7,H⟩:=zk H
 refine j9 (u:=.one (.sl 1088 0 v6.length)) (bs:=[(1088,.data 2 (v6.map zd) true none)]) eC ay (zf8 h7) (Ec eZ En) (Vc Vp Vn) (by simp[jg,jD,qy,jq,qF]) O (fC (nR O) O<|fC (nR O) O fN) (zl<|zr<|ze (m:=3) O O<|zl<|zr<|zP (es:=[dI a1.Me,.sl 576 0 v2.length,.sl 832 0 v4.length,.sl 1088 0 v6.length,.zs,.zs,.zs,.zs,dI 0]) eZ O O O (bR O) O<|zl<|qf<|xQ<|ak (zH [] (kr 3 O O<|kr 2 O O<|kr 1 O O ar) (blR O) (ao (n:=192) O bZ O O<|ao (n:=1088) O (bR O) O O<|ao (n:=832) O (bR O) O O<|ao (n:=576) O (bR O) O O<|ao (n:=128) O (bR O) O O<|ao (n:=64) O (bR O) O O aj) aA)<|aS<|zZ<|zr<|ze (m:=4) O O<|zl<|zr<|zn (q:=4) (c:=.d (.sl 4<|a1.Locks.map zo)) eZ (bR O) O O<|zl<|zr ?_)
 obtain⟨v8,h9,H⟩:=zk H
 refine j9 (u:=.one (.sl 1344 0 v8.length)) (bs:=[(1344,.data 4 (v8.map zo) true none)]) eC ay (zgc h9) (Ec eZ En) (Vc Vp Vn) (by simp[jg,jD,qy,jq,qF]) O (fC (nR O) O<|fC (nR O) O fN) (zl<|zr<|ze (m:=4) O O<|zl<|zr<|zP (es:=[dI a1.Me,.sl 576 0 v2.length,.sl 832 0 v4.length,.sl 1088 0 v6.length,.sl 1344 0 v8.length,.zs,.zs,.zs,dI 0]) eZ O O O (bR O) O<|zl<|qf<|xQ<|aS<|zZ<|zr<|ze (m:=5) O O<|zl<|zr<|zn (q:=5) (c:=.d (.sl 2<|a1.Helds.map zx)) eZ (bR O) O O<|zl<|zr ?_)
 obtain⟨v10,h11,H⟩:=zk H
 refine j9 (u:=.one (.sl 1600 0 v10.length)) (bs:=[(1600,.data 2 (v10.map zx) true none)]) eC ay (zgm h11) (Ec eZ En) (Vc Vp Vn) (by simp[jg,jD,qy,jq,qF]) O (fC (nR O) O<|fC (nR O) O fN) (zl<|zr<|ze (m:=5) O O<|zl<|zr<|zP (es:=[dI a1.Me,.sl 576 0 v2.length,.sl 832 0 v4.length,.sl 1088 0 v6.length,.sl 1344 0 v8.length,.sl 1600 0 v10.length,.zs,.zs,dI 0]) eZ O O O (bR O) O<|zl<|qf<|xQ<|aS<|zZ<|zr<|ze (m:=6) O O<|zl<|zr<|zn (q:=6) (c:=.d (.sl 1<|a1.Wounded.map zm)) eZ (bR O) O O<|zl<|zr ?_)
 obtain⟨v12,h13,H⟩:=zk H
 refine j9 (u:=.one (.sl 1856 0 v12.length)) (bs:=[(1856,.data 1 (v12.map zm) true none)]) eC ay (zcl h13) (Ec eZ En) (Vc Vp Vn) (by simp[jg,jD,qy,jq,qF]) O (fC (nR O) O<|fC (nR O) O fN) (zl<|zr<|ze (m:=6) O O<|zl<|zr<|zP (es:=[dI a1.Me,.sl 576 0 v2.length,.sl 832 0 v4.length,.sl 1088 0 v6.length,.sl 1344 0 v8.length,.sl 1600 0 v10.length,.sl 1856 0 v12.length,.zs,dI 0]) eZ O O O (bR O) O<|zl<|qf<|xQ<|aS<|zZ<|zr<|ze (m:=7) O O<|zl<|zr<|zn (q:=7) (c:=.d (.sl 1<|a1.Ended.map zm)) eZ (bR O) O O<|zl<|zr ?_)
 obtain⟨v14,h15,H⟩:=zk H
 refine j9 (u:=.one (.sl 2112 0 v14.length)) (bs:=[(2112,.data 1 (v14.map zm) true none)]) eC ay (zcl h15) (Ec eZ En) (Vc Vp Vn) (by simp[jg,jD,qy,jq,qF]) O (fC (nR O) O<|fC (nR O) O fN) (zl<|zr<|ze (m:=7) O O<|zl<|zr<|zP (es:=[dI a1.Me,.sl 576 0 v2.length,.sl 832 0 v4.length,.sl 1088 0 v6.length,.sl 1344 0 v8.length,.sl 1600 0 v10.length,.sl 1856 0 v12.length,.sl 2112 0 v14.length,dI 0]) eZ O O O (bR O) O<|zl<|qf<|xQ<|ak (zH [] (kr 3 O O<|kr 2 O O<|kr 1 O O ar) (blR O) (ao (n:=192) O bZ O O<|ao (n:=2112) O (bR O) O O<|ao (n:=1856) O (bR O) O O<|ao (n:=1600) O (bR O) O O<|ao (n:=1344) O (bR O) O O<|ao (n:=1088) O (bR O) O O<|ao (n:=832) O (bR O) O O<|ao (n:=576) O (bR O) O O<|ao (n:=128) O (bR O) O O<|ao (n:=64) O (bR O) O O aj) aA)<|aV<|ze (m:=8) O O<|zn (q:=8) (c:=dI a1.Rank) eZ (bR O) O O<|ze (m:=8) O O<|zP (es:=[dI a1.Me,.sl 576 0 v2.length,.sl 832 0 v4.length,.sl 1088 0 v6.length,.sl 1344 0 v8.length,.sl 1600 0 v10.length,.sl 1856 0 v12.length,.sl 2112 0 v14.length,dI a1.Rank]) eZ O O O bZ O<|xQ<|aS<|zZ<|zr<|zY (es:=[dI a1.Me,.sl 576 0 v2.length,.sl 832 0 v4.length,.sl 1088 0 v6.length,.sl 1344 0 v8.length,.sl 1600 0 v10.length,.sl 1856 0 v12.length,.sl 2112 0 v14.length,dI a1.Rank]) O bZ O<|zl<|zr<|zP (es:=[dI a1.Me,.sl 576 0 v2.length,.sl 832 0 v4.length,.sl 1088 0 v6.length,.sl 1344 0 v8.length,.sl 1600 0 v10.length,.sl 1856 0 v12.length,.sl 2112 0 v14.length,dI a1.Rank]) O eZ O O (bR O) O<|zl<|qf<|xQ<|aq ?_)
 cases H
 exact qT (aE (yq (es:=[dI a1.Me,.sl 576 0 v2.length,.sl 832 0 v4.length,.sl 1088 0 v6.length,.sl 1344 0 v8.length,.sl 1600 0 v10.length,.sl 1856 0 v12.length,.sl 2112 0 v14.length,dI a1.Rank]) O bZ O) (bA<|aB (aQ O)<|aB (aL (bR O) lm (zI fun _=>O))<|aB (aL (bR O) lm (zI fun _=>O))<|aB (aL (bR O) lm (zI fun _=>O))<|aB (aL (bR O) lm (zI fun _=>O))<|aB (Kf (bR O) lm O)<|aB (aL (bR O) lm (zI fun _=>O))<|aB (aL (bR O) lm (zI fun _=>O))<|aB (aQ O) bp) aO) (by decide)
theorem kh{a1:Int}{a2:Int}{a3:Int}{r:Bool}(H:Zg a1 a2 a3=some r):Fn Tryz.prog 168 (lent [.int .i64 a1,.int .i64 a2,.int .i64 a3]) true [.bool r]:=by
 refine ac zI3 O ?_
 refine ak (zf [] (kv 0 (oI a1) O O<|kv 1 (oI a2) O O<|kv 2 (oI a3) O O ar) am aj) ?_
 unfold Zg at H
 unfold zEv
 refine aV (za eC<|xQ<|aV<|za O<|za O<|Xo O eZ<|za eZ ?_)
 obtain⟨h4,H⟩|⟨h4,H⟩:=ab H
 ·refine gDo eZ h4 (za O<|gDo O h4<|za O<|gDo O h4<|zbE O eZ<|zB O h4 eZ<|za eZ<|xQ<|aq ?_)
  cases H
  exact eE O O
 ·refine zb eZ h4 O (zb O h4 O<|zb O h4 O<|zM O h4 eC<|za eZ<|xQ<|aq ?_)
  cases H
  exact eE O O
theorem yT{a1:zw}{r:Bool}(H:jB a1=some r):Fn Tryz.prog 133 (lent [.agg (zg a1)]) true [.bool r]:=by
 refine ac zIV O ?_
 refine ak (zf [] (kv 0 (.agg [dI a1.Lo,dI a1.Hi]) O O ar) am aj) ?_
 unfold jB at H
 unfold zEX
 refine aV (yd (n:=64) (m:=2) (cs:=[dI a1.Lo,dI a1.Hi]) O eZ O O nZ<|za eC<|xQ<|aV<|ze (m:=0) O O<|zn (q:=0) (c:=dI a1.Lo) eZ bZ O O<|Xo eZ eC<|za eZ ?_)
 obtain⟨h2,H⟩|⟨h2,H⟩:=ab H
 ·refine gDo eZ h2 (ze (m:=0) O O<|gDo O h2<|zn (q:=0) (c:=dI a1.Lo) eZ bZ O O<|gDo O h2<|ze (m:=1) O O<|gDo O h2<|zn (q:=1) (c:=dI a1.Hi) eZ bZ O O<|gDo O h2<|qj O eZ<|zB O h2 eZ<|za eZ ?_)
  obtain⟨h3,H⟩|⟨h3,H⟩:=zA H
  ·refine gDo eZ (dT h3) (ze (m:=1) O O<|gDo O (dT h3)<|zn (q:=1) (c:=dI a1.Hi) eZ bZ O O<|gDo O (dT h3)<|zbE eZ eC<|zB O (dT h3) eZ<|za eZ<|xQ<|ak (zf [64] (kr 2 O O ar) (blR O) aj)<|aq ?_)
   cases H
   exact eE O O
  ·refine zb eZ (dF h3) O (zb O (dF h3) O<|zb O (dF h3) O<|zM O (dF h3) eC<|za eZ<|xQ<|ak (zf [64] (kr 2 O O ar) (blR O) aj)<|aq ?_)
   cases H
   exact eE O O
 ·refine zb eZ h2 O (zb O h2 O<|zb O h2 O<|zb O h2 O<|zb O h2 O<|zM O h2 eC<|za eZ<|zb eZ O O<|zb O O O<|zb O O O<|zM O O eC<|za eZ<|xQ<|ak (zf [64] (kr 2 O O ar) (blR O) aj)<|aq ?_)
  cases H
  exact eE O O
theorem X6{a1:(List zw)}{r:Bool}(H:y4 a1=some r):Fn Tryz.prog 196 (lent [.sl 2 (a1.map zg)]) true [.bool r]:=by
 refine ac zJN O ?_
 refine ak (zf [] (kv 0 (.one<|.d<|.sl 2<|a1.map zg) O O ar) am aj) ?_
 unfold y4 at H
 unfold zHG
 refine aV (za eC<|xQ<|aS<|aV<|za O<|zX eZ (n:=a1.length) lm<|zaC eZ eC<|xQ ?_)
 obtain⟨h2,H⟩|⟨h2,H⟩:=ab H
 ·refine zi eZ h2 (aV<|za eC<|xQ<|aq<|ax ?_)
  cases H
  exact eE O O
 ·refine zh eZ h2 (au<|al<|zD (fun t3:Unit=>Xs t3=some r) (fun t3=>mk [] [] noG) ?_ ?_)
  ·intro t3 H
   unfold Xs at H
   refine aV (za eC<|xQ<|aq ?_)
   cases H
   exact eE O O
  ·refine aV (za eC<|xQ<|aw<|aG (fun s5:Int=>mk [(0,.one<|.d<|.sl 2<|a1.map zg),(3,oI s5)] [] noG) H (zf [] (sR O O) am aj) ?_)
   intro kb6 s5 H
   unfold YA at H
   refine aS (aV<|za O<|za O<|zX eZ (n:=a1.length) lm<|qj O eZ<|xQ ?_)
   obtain⟨h7,H⟩|⟨h7,H⟩:=ab H
   ·refine zi eZ h7 (au<|al<|aS<|aw<|zD (fun t8:Bool=>Zp kb6 s5 t8=some r) (fun t8=>mk [(0,.one<|.d<|.sl 2<|a1.map zg),(3,oI s5),(36,oB t8)] [] noG) ?_ ?_)
    ·intro t8 H
     obtain⟨h10,H⟩|⟨h10,H⟩:=aa H
     ·refine zi O h10 (aV<|za eC<|xQ<|aq<|aJ<|ax<|ax<|aJ<|ax ?_)
      cases H
      exact eE O O
     ·exact zh O h10 (au<|aP<|al<|aR<|za O<|qb eZ eC<|za eZ<|zl<|al ⟨IntKind.wrap .i64 (s5+1),H,zf [] (sR O O) am aj⟩)
    ·refine aX (za O<|za O ?_)
     obtain⟨v11,h12,H⟩:=zk H
     refine qk O eZ h12 (qi (es:=[dI v11.Lo,dI v11.Hi]) eZ O ?_)
     obtain⟨v13,h14,H⟩:=zk H
     refine zF (u:=oB v13) eC ay (yT h14) (Ec eZ En) (Vc (aI O) Vn) O (qS eZ<|za eZ ?_)
     obtain⟨h15,H⟩|⟨h15,H⟩:=zA H
     ·refine gDo eZ (cN h15) (za O<|gDo O (cN h15)<|zaC eZ eC<|gDo O (cN h15)<|za eZ ?_)
      obtain⟨h16,H⟩|⟨h16,H⟩:=zA H
      ·refine gDo eZ (dT h16) (za O<|gDo O (dT h16)<|za O<|gDo O (dT h16) ?_)
       obtain⟨v17,h18,H⟩:=zk H
       refine qk O eZ h18 (gDo O (dT h16)<|z7 (m:=0) eZ O<|gDo O (dT h16)<|zV (e:=.int .i64 v17.Lo) eZ O<|gDo O (dT h16)<|za O<|gDo O (dT h16)<|za O<|gDo O (dT h16)<|zbP eZ eC<|gDo O (dT h16) ?_)
       obtain⟨v19,h20,H⟩:=zk H
       exact qk O eZ h20 (gDo O (dT h16)<|z7 (m:=1) eZ O<|gDo O (dT h16)<|zV (e:=.int .i64 v19.Hi) eZ O<|gDo O (dT h16)<|qj O eZ<|gDo O (cN h15)<|zB O (dT h16) eZ<|zM O (cN h15) eZ<|zl<|al ⟨decide (v17.Lo < v19.Hi),H,zf [] (sR O O) am aj⟩)
      ·exact zb eZ (dF h16) O (zb O (dF h16) O<|zb O (dF h16) O<|zb O (dF h16) O<|zb O (dF h16) O<|zb O (dF h16) O<|zb O (dF h16) O<|zb O (dF h16) O<|zb O (dF h16) O<|zb O (dF h16) O<|zb O (dF h16) O<|zb O (dF h16) O<|gDo O (cN h15)<|zM O (dF h16) eC<|zM O (cN h15) eZ<|zl<|al ⟨false,H,zf [] (sR O O) am aj⟩)
     ·exact zb eZ (cN<|nt h15) O (zb O (cN<|nt h15) O<|zb O (cN<|nt h15) O<|zE eZ O<|zE O O<|zE O O<|zE O O<|zE O O<|zE O O<|zE O O<|zE O O<|zE O O<|zE O O<|zE O O<|zE O O<|zb O (cN<|nt h15) O<|zB O (cN<|nt h15) eC<|zl<|al ⟨true,H,zf [] (sR O O) am aj⟩)
   ·exact zh eZ h7 (aH<|aC<|aC<|aT<|al ⟨(),H,zf [] ar am aj⟩)
theorem zcj{a1:Int}{r:Bool}(H:Jg a1=some r):Fn Tryz.prog 292 (lent [.int .i64 a1]) true [.bool r]:=by
 refine ac zIn O ?_
 refine ak (zf [] (kv 0 (oI a1) O O ar) am aj) ?_
 unfold Jg at H
 unfold zHa
 refine aV (za eC<|xQ<|aV<|za O ?_)
 obtain⟨v2,h3,H⟩:=zk H
 refine zF (u:=oB v2) eC ay (kh h3) (Ec eZ<|Ec eC<|Ec eC En) (Vc Vp<|Vc Vp<|Vc Vp Vn) O (za eZ<|xQ<|aq ?_)
 cases H
 exact eE O O
theorem zfZ{a1:Int}{r:Bool}(H:Yn a1=some r):Fn Tryz.prog 169 (lent [.int .i64 a1]) true [.bool r]:=by
 refine ac zIN O ?_
 refine ak (zf [] (kv 0 (oI a1) O O ar) am aj) ?_
 unfold Yn at H
 unfold zGn
 refine aV (za eC<|xQ<|aV<|za O ?_)
 obtain⟨v2,h3,H⟩:=zk H
 refine zF (u:=oB v2) eC ay (kh h3) (Ec eZ<|Ec eC<|Ec eC En) (Vc Vp<|Vc Vp<|Vc Vp Vn) O (za eZ<|xQ<|aq ?_)
 cases H
 exact eE O O
theorem K3{a1:(List zj)}{r:Bool}(H:Zy a1=some r):Fn Tryz.prog 218 (lent [.sl 2 (a1.map zd)]) true [.bool r]:=by
 refine ac zJR O ?_
 refine ak (zf [] (kv 0 (.one<|.d<|.sl 2<|a1.map zd) O O ar) am aj) ?_
 unfold Zy at H
 unfold zGR
 refine aV (za eC<|xQ<|aS<|aV<|za O<|zX eZ (n:=a1.length) lm<|zaC eZ eC<|xQ ?_)
 obtain⟨h2,H⟩|⟨h2,H⟩:=ab H
 ·refine zi eZ h2 (aV<|za eC<|xQ<|aq<|ax ?_)
  cases H
  exact eE O O
 ·refine zh eZ h2 (au<|al<|zD (fun t3:Unit=>X7 t3=some r) (fun t3=>mk [] [] noG) ?_ ?_)
  ·intro t3 H
   unfold X7 at H
   refine aV (za eC<|xQ<|aq ?_)
   cases H
   exact eE O O
  ·refine aV (za eC<|xQ<|aw<|aG (fun s5:Int=>mk [(0,.one<|.d<|.sl 2<|a1.map zd),(3,oI s5)] [] noG) H (zf [] (sR O O) am aj) ?_)
   intro kb6 s5 H
   unfold xv at H
   refine aS (aV<|za O<|za O<|zX eZ (n:=a1.length) lm<|qj O eZ<|xQ ?_)
   obtain⟨h7,H⟩|⟨h7,H⟩:=ab H
   ·refine zi eZ h7 (au<|al<|aS<|aw<|zD (fun t8:Bool=>yZ kb6 s5 t8=some r) (fun t8=>mk [(0,.one<|.d<|.sl 2<|a1.map zd),(3,oI s5),(46,oB t8)] [] noG) ?_ ?_)
    ·intro t8 H
     obtain⟨h10,H⟩|⟨h10,H⟩:=aa H
     ·refine zi O h10 (aV<|za eC<|xQ<|aq<|aJ<|ax<|ax<|aJ<|ax ?_)
      cases H
      exact eE O O
     ·exact zh O h10 (au<|aP<|al<|aR<|za O<|qb eZ eC<|za eZ<|zl<|al ⟨IntKind.wrap .i64 (s5+1),H,zf [] (sR O O) am aj⟩)
    ·refine aX (za O<|za O ?_)
     obtain⟨v11,h12,H⟩:=zk H
     refine qk O eZ h12 (z7 (m:=0) eZ O<|zV (e:=.int .i64 v11.Key) eZ O ?_)
     obtain⟨v13,h14,H⟩:=zk H
     refine zF (u:=oB v13) eC ay (zcj h14) (Ec eZ En) (Vc Vp Vn) O (qS eZ<|za eZ ?_)
     obtain⟨h15,H⟩|⟨h15,H⟩:=zA H
     ·refine gDo eZ (cN h15) (za O<|gDo O (cN h15)<|za O<|gDo O (cN h15) ?_)
      obtain⟨v16,h17,H⟩:=zk H
      refine qk O eZ h17 (gDo O (cN h15)<|z7 (m:=1) eZ O<|gDo O (cN h15)<|zV (e:=.int .i64 v16.Value) eZ O<|gDo O (cN h15) ?_)
      obtain⟨v18,h19,H⟩:=zk H
      refine zF (u:=oB v18) eC ay (zfZ h19) (Ec eZ En) (Vc Vp Vn) O (gDo O (cN h15)<|qS eZ<|zM O (cN h15) eZ<|za eZ ?_)
      obtain⟨h20,H⟩|⟨h20,H⟩:=zA H
      ·refine gDo eZ (cN h20) (za O<|gDo O (cN h20)<|zaC eZ eC<|gDo O (cN h20)<|za eZ ?_)
       obtain⟨h21,H⟩|⟨h21,H⟩:=zA H
       ·refine gDo eZ (dT h21) (za O<|gDo O (dT h21)<|za O<|gDo O (dT h21)<|zbP eZ eC<|gDo O (dT h21) ?_)
        obtain⟨v22,h23,H⟩:=zk H
        refine qk O eZ h23 (gDo O (dT h21)<|z7 (m:=0) eZ O<|gDo O (dT h21)<|zV (e:=.int .i64 v22.Key) eZ O<|gDo O (dT h21)<|za O<|gDo O (dT h21)<|za O<|gDo O (dT h21) ?_)
        obtain⟨v24,h25,H⟩:=zk H
        exact qk O eZ h25 (gDo O (dT h21)<|z7 (m:=0) eZ O<|gDo O (dT h21)<|zV (e:=.int .i64 v24.Key) eZ O<|gDo O (dT h21)<|Xo O eZ<|gDo O (cN h20)<|zB O (dT h21) eZ<|zM O (cN h20) eZ<|zl<|al ⟨decide (v24.Key≤v22.Key),H,zf [] (sR O O) am aj⟩)
       ·exact zb eZ (dF h21) O (zb O (dF h21) O<|zb O (dF h21) O<|zb O (dF h21) O<|zb O (dF h21) O<|zb O (dF h21) O<|zb O (dF h21) O<|zb O (dF h21) O<|zb O (dF h21) O<|zb O (dF h21) O<|zb O (dF h21) O<|zb O (dF h21) O<|gDo O (cN h20)<|zM O (dF h21) eC<|zM O (cN h20) eZ<|zl<|al ⟨false,H,zf [] (sR O O) am aj⟩)
      ·exact zb eZ (cN<|nt h20) O (zb O (cN<|nt h20) O<|zb O (cN<|nt h20) O<|zE eZ O<|zE O O<|zE O O<|zE O O<|zE O O<|zE O O<|zE O O<|zE O O<|zE O O<|zE O O<|zE O O<|zE O O<|zb O (cN<|nt h20) O<|zB O (cN<|nt h20) eC<|zl<|al ⟨true,H,zf [] (sR O O) am aj⟩)
     ·exact zb eZ (cN<|nt h15) O (zb O (cN<|nt h15) O<|zb O (cN<|nt h15) O<|zb O (cN<|nt h15) O<|zb O (cN<|nt h15) O<|zb O (cN<|nt h15) O<|zb O (cN<|nt h15) O<|zB O (cN<|nt h15) eC<|za eZ<|zb eZ O O<|zb O O O<|zb O O O<|zE eZ O<|zE O O<|zE O O<|zE O O<|zE O O<|zE O O<|zE O O<|zE O O<|zE O O<|zE O O<|zE O O<|zE O O<|zb O O O<|zB O O eC<|zl<|al ⟨true,H,zf [] (sR O O) am aj⟩)
   ·exact zh eZ h7 (aH<|aC<|aC<|aT<|al ⟨(),H,zf [] ar am aj⟩)
theorem Kl{a1:Int}{r:Bool}(H:ZX a1=some r):Fn Tryz.prog 116 (lent [.int .i64 a1]) true [.bool r]:=by
 refine ac zJs O ?_
 refine ak (zf [] (kv 0 (oI a1) O O ar) am aj) ?_
 unfold ZX at H
 unfold zDu
 refine aV (za eC<|xQ<|aV<|za O ?_)
 obtain⟨v2,h3,H⟩:=zk H
 refine zF (u:=oB v2) eC ay (kh h3) (Ec eZ<|Ec eC<|Ec eC En) (Vc Vp<|Vc Vp<|Vc Vp Vn) O (za eZ<|xQ<|aq ?_)
 cases H
 exact eE O O
theorem Q9{a1:zC}{r:zw}(H:jz a1=some r):Fn Tryz.prog 108 (lent [.agg (zo a1)]) true [.agg (zg r)]:=by
 refine ac zIj O ?_
 refine ak (zf [] (kv 0 (.agg<|qa a1) O O ar) am aj) ?_
 unfold jz at H
 unfold zDW
 refine aV (yd (n:=64) (m:=4) (cs:=qa a1) O eZ O O nZ<|Zn (n:=128) (m:=2) O O (nR O)<|xQ<|aV<|ze (m:=1) O O<|zn (q:=1) (c:=dI a1.Lo) eZ (bR O) O O<|ze (m:=2) O O<|zn (q:=2) (c:=dI a1.Hi) eZ (bR O) O O<|Xa (cs:=[dI a1.Lo,dI a1.Hi]) (qY O<|qY eZ Z5) O<|zP (es:=[dI a1.Lo,dI a1.Hi]) O eZ O O bZ O<|xQ<|aq ?_)
 cases H
 exact qT (aE (yq (es:=[dI a1.Lo,dI a1.Hi]) O bZ O) (bB (ds:=[.int .i64 a1.Lo,.int .i64 a1.Hi]) O O) aO) List.nodup_nil
theorem zfP{a1:Int}{r:Bool}(H:J1 a1=some r):Fn Tryz.prog 293 (lent [.int .i64 a1]) true [.bool r]:=by
 refine ac zIO O ?_
 refine ak (zf [] (kv 0 (oI a1) O O ar) am aj) ?_
 unfold J1 at H
 unfold zEJ
 refine aV (za eC<|xQ<|aV<|za O<|kZ eZ eC<|za eZ ?_)
 obtain⟨h2,H⟩|⟨h2,H⟩:=ab H
 ·refine zb eZ h2 O (zb O h2 O<|zB O h2 eC<|za eZ<|xQ<|aq ?_)
  cases H
  exact eE O O
 ·refine gDo eZ h2 (za O<|gDo O h2<|kZ eZ eC<|zM O h2 eZ<|za eZ<|xQ<|aq ?_)
  cases H
  exact eE O O
theorem zhs{a1:Int}{a2:Int}{r:Int}(H:k9 a1 a2=some r):Fn Tryz.prog 159 (lent [.int .i64 a1,.int .i64 a2]) true [.int .i64 r]:=by
 refine ac zIQ O ?_
 refine ak (zf [] (kv 0 (oI a1) O O<|kv 1 (oI a2) O O ar) am aj) ?_
 unfold k9 at H
 unfold zB8
 refine aV (za eC<|xQ<|aS<|aV<|za O<|za O<|zaC O eZ<|xQ ?_)
 obtain⟨h3,H⟩|⟨h3,H⟩:=ab H
 ·refine zi eZ h3 (aV<|za O<|za eZ<|xQ<|aq<|ax ?_)
  cases H
  exact eE O O
 ·refine zh eZ h3 (au<|al<|aV<|za O<|za eZ<|xQ<|aq ?_)
  cases H
  exact eE O O
theorem zhB{a1:Int}{a2:Int}{r:Int}(H:kW a1 a2=some r):Fn Tryz.prog 214 (lent [.int .i64 a1,.int .i64 a2]) true [.int .i64 r]:=by
 refine ac zJk O ?_
 refine ak (zf [] (kv 0 (oI a1) O O<|kv 1 (oI a2) O O ar) am aj) ?_
 unfold kW at H
 unfold zBz
 refine aV (za eC<|xQ<|aS<|aV<|za O<|za O<|qj O eZ<|xQ ?_)
 obtain⟨h3,H⟩|⟨h3,H⟩:=ab H
 ·refine zi eZ h3 (aV<|za O<|za eZ<|xQ<|aq<|ax ?_)
  cases H
  exact eE O O
 ·refine zh eZ h3 (au<|al<|aV<|za O<|za eZ<|xQ<|aq ?_)
  cases H
  exact eE O O
theorem zek{a1:zw}{a2:zw}{r:(zw×Bool)}(H:Qp a1 a2=some r):Fn Tryz.prog 107 (lent [.agg (zg a1),.agg<|zg a2]) true [.agg (zg r.1),.bool r.2]:=by
 refine ac zJe O ?_
 refine ak (zf [] (kv 0 (.agg [dI a1.Lo,dI a1.Hi]) O O<|kv 1 (.agg [dI a2.Lo,dI a2.Hi]) O O ar) am aj) ?_
 unfold Qp at H
 unfold zFP
 refine aV (yd (n:=128) (m:=2) (cs:=[dI a1.Lo,dI a1.Hi]) O eZ O O nZ<|yd (n:=192) (m:=2) (cs:=[dI a2.Lo,dI a2.Hi]) O O O O (nR O)<|Zn (n:=256) (m:=2) O O (nR O)<|za eC<|xQ<|aS<|aX<|ze (m:=0) O O<|zn (q:=0) (c:=dI a1.Lo) eZ (hB O<|bR O) O O<|ze (m:=0) O O<|zn (q:=0) (c:=dI a2.Lo) eZ (hB O<|bR O) O O ?_)
 obtain⟨v3,h4,H⟩:=zk H
 refine zF (u:=oI v3) eC ay (zhs h4) (Ec O<|Ec eZ En) (Vc Vp<|Vc Vp Vn) O (ze (m:=1) O O<|zn (q:=1) (c:=dI a1.Hi) eZ (hB O<|bR O) O O<|ze (m:=1) O O<|zn (q:=1) (c:=dI a2.Hi) eZ (hB O<|bR O) O O ?_)
 obtain⟨v5,h6,H⟩:=zk H
 refine zF (u:=oI v5) eC ay (zhB h6) (Ec O<|Ec eZ En) (Vc Vp<|Vc Vp Vn) O (Xa (cs:=[dI v3,dI v5]) (qY O<|qY eZ Z5) O<|Zn (n:=384) (m:=2) O O (hN<|nR O)<|zP (es:=[dI v3,dI v5]) eZ O O O bZ O<|xQ<|ak (zf [] (kr 6 O O<|kr 4 O O<|kr 3 O O<|kr 2 O O ar) (blR O)<|ao (n:=384) O bZ O O<|ao (n:=256) O (bR O) O O<|ao (n:=192) O (bR O) O O<|ao (n:=128) O (bR O) O O aj)<|aS<|zD (fun t7:Bool=>yU v3 v5 t7=some r) (fun t7=>mk [(4,.one<|.ptr<|.nm 256 0 0),(6,.one<|.ptr<|.nm 384 0 0),(30,oB t7)] [(256,.vars 2 [dI 0,dI 0]),(384,.vars 2 [dI v3,dI v5])] noG) ?_ ?_)
 ·intro t7 H
  obtain⟨h9,H⟩|⟨h9,H⟩:=aa H
  ·refine zi O h9 (aV<|Xa (cs:=[dI 0,dI 0]) Z5 O<|zP (es:=[dI 0,dI 0]) O eZ O O bZ O<|za eC<|xQ<|aq<|ax ?_)
   cases H
   exact qT (aE (yq (es:=[dI 0,dI 0]) O bZ O) (bB (ds:=[.int .i64 0,.int .i64 0]) O O)<|aE (aM eZ) (aQ O) aO) List.nodup_nil
  ·refine zh O h9 (au<|al<|aV<|zY (es:=[dI v3,dI v5]) O (bR O) O<|zP (es:=[dI v3,dI v5]) O eZ O O bZ O<|za eC<|xQ<|aq ?_)
   cases H
   exact qT (aE (yq (es:=[dI v3,dI v5]) O bZ O) (bB (ds:=[.int .i64 v3,.int .i64 v5]) O O)<|aE (aM eZ) (aQ O) aO) List.nodup_nil
 ·refine aR (zY (es:=[dI a1.Lo,dI a1.Hi]) O (bR O) O ?_)
  obtain⟨v10,h11,H⟩:=zk H
  refine zF (u:=oB v10) eC ay (yT h11) (Ec eZ En) (Vc (aI O) Vn) O (qS eZ<|za eZ ?_)
  obtain⟨h12,H⟩|⟨h12,H⟩:=aa H
  ·refine gDo eZ (cN h12) (zY (es:=[dI a2.Lo,dI a2.Hi]) O (bR O) O<|gDo O (cN h12) ?_)
   obtain⟨v13,h14,H⟩:=zk H
   refine zF (u:=oB v13) eC ay (yT h14) (Ec eZ En) (Vc (aI O) Vn) O (gDo O (cN h12)<|qS eZ<|zM O (cN h12) eZ<|za eZ ?_)
   obtain⟨h15,H⟩|⟨h15,H⟩:=aa H
   ·refine gDo eZ (cN h15) (zY (es:=[dI v3,dI v5]) O bZ O<|gDo O (cN h15) ?_)
    obtain⟨v16,h17,H⟩:=zk H
    exact zF (u:=oB v16) eC ay (yT h17) (Ec eZ En) (Vc (aI O) Vn) O (gDo O (cN h15)<|qS eZ<|zM O (cN h15) eZ<|zl<|al ⟨!v16,H,zf [192,128] (sR O O) (blR O)<|bkR O O O⟩)
   ·exact zb eZ (cN h15) O (zb O (cN h15) O<|zb O (cN h15) O<|zB O (cN h15) eC<|zl<|al ⟨true,H,zf [192,128] (sR O O) (blR O)<|bkR O O O⟩)
  ·exact zb eZ (cN h12) O (zb O (cN h12) O<|zb O (cN h12) O<|zB O (cN h12) eC<|za eZ<|zb eZ O O<|zb O O O<|zb O O O<|zB O O eC<|zl<|al ⟨true,H,zf [192,128] (sR O O) (blR O)<|bkR O O O⟩)
theorem zeF{a1:zC}{a2:zC}{r:Bool}(H:Q2 a1 a2=some r):Fn Tryz.prog 294 (lent [.agg (zo a1),.agg<|zo a2]) true [.bool r]:=by
 refine ac f294 O ?_
 refine ak (zf [] (kv 0 (.agg<|qa a1) O O<|kv 1 (.agg<|qa a2) O O ar) am aj) ?_
 unfold Q2 at H
 unfold zEE
 refine aV (yd (n:=128) (m:=4) (cs:=qa a1) O eZ O O nZ<|yd (n:=192) (m:=4) (cs:=qa a2) O O O O (nR O)<|za eC<|xQ<|aS<|aX<|zY (es:=qa a1) O (hB O<|bR O) O ?_)
 obtain⟨v3,h4,H⟩:=zk H
 refine zF (u:=.agg [dI v3.Lo,dI v3.Hi]) eC ay (Q9 h4) (Ec eZ En) (Vc (aI O) Vn) O (zY (es:=qa a2) O (hB O bZ) O ?_)
 obtain⟨v5,h6,H⟩:=zk H
 refine zF (u:=.agg [dI v5.Lo,dI v5.Hi]) eC ay (Q9 h6) (Ec eZ En) (Vc (aI O) Vn) O ?_
 obtain⟨v7,h8,H⟩:=zk H
 refine zF (u:=.tup [.agg [dI v7.1.Lo,dI v7.1.Hi],oB v7.2]) eC ay (zek h8) (Ec O<|Ec eZ En) (Vc (aI O)<|Vc (aI O) Vn) O (za eZ<|zaM (v:=.agg [dI v7.1.Lo,dI v7.1.Hi]) eZ O<|zaM (v:=oB v7.2) O O<|Zn (n:=320) (m:=2) O O (hN<|nR O)<|zP (es:=[dI v7.1.Lo,dI v7.1.Hi]) eZ O O O bZ O<|za O<|xQ<|aV<|za eZ<|za eZ ?_)
 obtain⟨h9,H⟩|⟨h9,H⟩:=aa H
 ·refine gDo eZ h9 (ze (m:=0) O O<|gDo O h9<|zn (q:=0) (c:=dI a1.Tx) eZ (bR O) O O<|gDo O h9<|ze (m:=0) O O<|gDo O h9<|zn (q:=0) (c:=dI a2.Tx) eZ (bR O) O O<|gDo O h9<|ZK O eZ<|zB O h9 eZ<|za eZ ?_)
  obtain⟨h10,H⟩|⟨h10,H⟩:=ab H
  ·refine gDo eZ h10 (ze (m:=3) O O<|gDo O h10<|zn (q:=3) (c:=dI a1.Mode) eZ (bR O) O O<|gDo O h10<|kZ eZ eC<|gDo O h10<|za eZ ?_)
   obtain⟨h11,H⟩|⟨h11,H⟩:=zA H
   ·refine zb eZ (dT h11) O (zb O (dT h11) O<|zb O (dT h11) O<|gDo O h10<|zB O (dT h11) eC<|zB O h10 eZ<|za eZ<|xQ<|ak (zf [320,192,128] (kr 4 O O ar) (blR O) aj)<|aq ?_)
    cases H
    exact eE O O
   ·refine gDo eZ (dF h11) (ze (m:=3) O O<|gDo O (dF h11)<|zn (q:=3) (c:=dI a2.Mode) eZ (bR O) O O<|gDo O (dF h11)<|kZ eZ eC<|gDo O h10<|zM O (dF h11) eZ<|zB O h10 eZ<|za eZ<|xQ<|ak (zf [320,192,128] (kr 4 O O ar) (blR O) aj)<|aq ?_)
    cases H
    exact eE O O
  ·refine zb eZ h10 O (zb O h10 O<|zb O h10 O<|zb O h10 O<|zE eZ O<|zE O O<|zE O O<|zb O h10 O<|zM O h10 eC<|za eZ<|xQ<|ak (zf [320,192,128] (kr 4 O O ar) (blR O) aj)<|aq ?_)
   cases H
   exact eE O O
 ·refine zb eZ h9 O (zb O h9 O<|zb O h9 O<|zb O h9 O<|zb O h9 O<|zM O h9 eC<|za eZ<|zb eZ O O<|zb O O O<|zb O O O<|zb O O O<|zE eZ O<|zE O O<|zE O O<|zb O O O<|zM O O eC<|za eZ<|xQ<|ak (zf [320,192,128] (kr 4 O O ar) (blR O) aj)<|aq ?_)
  cases H
  exact eE O O
theorem zfC{a1:(List zC)}{r:Bool}(H:JO a1=some r):Fn Tryz.prog 219 (lent [.sl 4 (a1.map zo)]) true [.bool r]:=by
 refine ac zID O ?_
 refine ak (zf [] (kv 0 (.one<|.d<|.sl 4<|a1.map zo) O O ar) am aj) ?_
 unfold JO at H
 unfold zH4
 refine aV (za eC<|xQ<|aS<|aV<|za O<|zX eZ (n:=a1.length) lm<|zaC eZ eC<|xQ ?_)
 obtain⟨h2,H⟩|⟨h2,H⟩:=ab H
 ·refine zi eZ h2 (aV<|za eC<|xQ<|aq<|ax ?_)
  cases H
  exact eE O O
 ·refine zh eZ h2 (au<|al<|zD (fun t3:Unit=>X8 t3=some r) (fun t3=>mk [] [] noG) ?_ ?_)
  ·intro t3 H
   unfold X8 at H
   refine aV (za eC<|xQ<|aq ?_)
   cases H
   exact eE O O
  ·refine aV (za eC<|xQ<|aw<|aG (fun s5:Int=>mk [(0,.one<|.d<|.sl 4<|a1.map zo),(3,oI s5)] [] noG) H (zf [] (sR O O) am aj) ?_)
   intro kb6 s5 H
   unfold xO at H
   refine aS (aV<|za O<|za O<|zX eZ (n:=a1.length) lm<|qj O eZ<|xQ ?_)
   obtain⟨h7,H⟩|⟨h7,H⟩:=ab H
   ·refine zi eZ h7 (au<|al<|zD (fun t8:Unit=>y6 kb6 s5 t8=some r) (fun t8=>mk [(0,.one<|.d<|.sl 4<|a1.map zo),(3,oI s5)] [] noG) ?_ ?_)
    ·intro t8 H
     unfold y6 at H
     exact aR (za O<|qb eZ eC<|za eZ<|zl<|al ⟨IntKind.wrap .i64 (s5+1),H,zf [] (sR O O) am aj⟩)
    ·refine aw (aS<|zD (fun t10:Bool=>(Zo s5 a1<|y6 kb6 s5) t10=some r) (fun t10=>mk [(0,.one<|.d<|.sl 4<|a1.map zo),(3,oI s5),(38,oB t10)] [] noG) ?_ ?_)
     ·intro t10 H
      obtain⟨h12,H⟩|⟨h12,H⟩:=aa H
      ·refine zi O h12 (aV<|za eC<|xQ<|aq<|ax<|aJ<|ax<|ax<|aJ<|ax ?_)
       cases H
       exact eE O O
      ·refine zh O h12 (au<|al<|aV<|za eC<|xQ<|aw<|aG (fun s13:Int=>mk [(0,.one<|.d<|.sl 4<|a1.map zo),(3,oI s5),(4,oI s13)] [] noG) H (zf [] (sR O O) am aj) ?_)
       intro kb14 s13 H
       unfold YO at H
       refine aS (aV<|za O<|za O<|qj O eZ<|xQ ?_)
       obtain⟨h15,H⟩|⟨h15,H⟩:=zA H
       ·refine zi eZ (dT h15) (au<|al<|aS<|aw<|aS<|aX<|za O<|za O ?_)
        obtain⟨v16,h17,H⟩:=zk H
        refine qk O eZ h17 (qi (es:=qa v16) eZ O<|za O<|za O ?_)
        obtain⟨v18,h19,H⟩:=zk H
        refine qk O eZ h19 (qi (es:=qa v18) eZ O ?_)
        obtain⟨v20,h21,H⟩:=zk H
        refine zF (u:=oB v20) eC ay (zeF h21) (Ec O<|Ec eZ En) (Vc (aI O)<|Vc (aI O) Vn) O (xQ ?_)
        obtain⟨h22,H⟩|⟨h22,H⟩:=zA H
        ·refine zi eZ h22 (aV<|za eC<|xQ<|ak (zf [] (kr 2 O O ar) am aj)<|aq<|aJ<|ax<|ax<|aJ<|aJ<|ax<|ax<|aJ<|ax ?_)
         cases H
         exact eE O O
        ·exact zh eZ (nt h22) (au<|aP<|al<|aR<|za O<|qb eZ eC<|za eZ<|zl<|al ⟨IntKind.wrap .i64 (s13+1),H,zf [] (sR O O) am aj⟩)
       ·exact zh eZ (dF h15) (aH<|aC<|aC<|aT<|aP<|al ⟨(),H,zf [] (sR O O) am aj⟩)
     ·refine aR (za O<|za O ?_)
      obtain⟨v23,h24,H⟩:=zk H
      refine qk O eZ h24 (z7 (m:=0) eZ O<|zV (e:=.int .i64 v23.Tx) eZ O ?_)
      obtain⟨v25,h26,H⟩:=zk H
      refine zF (u:=oB v25) eC ay (Kl h26) (Ec eZ En) (Vc Vp Vn) O (qS eZ<|za eZ ?_)
      obtain⟨h27,H⟩|⟨h27,H⟩:=zA H
      ·refine gDo eZ (cN h27) (za O<|gDo O (cN h27)<|za O<|gDo O (cN h27) ?_)
       obtain⟨v28,h29,H⟩:=zk H
       refine qk O eZ h29 (gDo O (cN h27)<|qi (es:=qa v28) eZ O<|gDo O (cN h27) ?_)
       obtain⟨v30,h31,H⟩:=zk H
       refine zF (u:=.agg [dI v30.Lo,dI v30.Hi]) eC ay (Q9 h31) (Ec eZ En) (Vc (aI O) Vn) O (gDo O (cN h27) ?_)
       obtain⟨v32,h33,H⟩:=zk H
       refine zF (u:=oB v32) eC ay (yT h33) (Ec eZ En) (Vc (aI O) Vn) O (gDo O (cN h27)<|qS eZ<|zM O (cN h27) eZ<|za eZ ?_)
       obtain⟨h34,H⟩|⟨h34,H⟩:=zA H
       ·refine gDo eZ (cN h34) (za O<|gDo O (cN h34)<|za O<|gDo O (cN h34) ?_)
        obtain⟨v35,h36,H⟩:=zk H
        refine qk O eZ h36 (gDo O (cN h34)<|z7 (m:=3) eZ O<|gDo O (cN h34)<|zV (e:=.int .i64 v35.Mode) eZ O<|gDo O (cN h34) ?_)
        obtain⟨v37,h38,H⟩:=zk H
        exact zF (u:=oB v37) eC ay (zfP h38) (Ec eZ En) (Vc Vp Vn) O (gDo O (cN h34)<|qS eZ<|zM O (cN h34) eZ<|zl<|al ⟨!v37,H,zf [] (sR O O) am aj⟩)
       ·exact zb eZ (cN<|nt h34) O (zb O (cN<|nt h34) O<|zb O (cN<|nt h34) O<|zb O (cN<|nt h34) O<|zb O (cN<|nt h34) O<|zb O (cN<|nt h34) O<|zb O (cN<|nt h34) O<|zB O (cN<|nt h34) eC<|zl<|al ⟨true,H,zf [] (sR O O) am aj⟩)
      ·exact zb eZ (cN<|nt h27) O (zb O (cN<|nt h27) O<|zb O (cN<|nt h27) O<|zb O (cN<|nt h27) O<|zb O (cN<|nt h27) O<|zb O (cN<|nt h27) O<|zb O (cN<|nt h27) O<|zB O (cN<|nt h27) eC<|za eZ<|zb eZ O O<|zb O O O<|zb O O O<|zb O O O<|zb O O O<|zb O O O<|zb O O O<|zB O O eC<|zl<|al ⟨true,H,zf [] (sR O O) am aj⟩)
   ·exact zh eZ h7 (aH<|aC<|aC<|aT<|al ⟨(),H,zf [] ar am aj⟩)
theorem zcx{a1:(List Int)}{r:Bool}(H:Jh a1=some r):Fn Tryz.prog 220 (lent [.sl 1 (a1.map zm)]) true [.bool r]:=by
 refine ac zIq O ?_
 refine ak (zf [] (kv 0 (.one<|.d<|.sl 1<|a1.map zm) O O ar) am aj) ?_
 unfold Jh at H
 unfold zG2
 refine aV (za eC<|xQ<|zD (fun t2:Unit=>KR t2=some r) (fun t2=>mk [] [] noG) ?_ ?_)
 ·intro t2 H
  unfold KR at H
  refine aV (za eC<|xQ<|aq ?_)
  cases H
  exact eE O O
 ·refine aV (za eC<|xQ<|aw<|aG (fun s4:Int=>mk [(0,.one<|.d<|.sl 1<|a1.map zm),(3,oI s4)] [] noG) H (zf [] (sR O O) am aj) ?_)
  intro kb5 s4 H
  unfold ku at H
  refine aS (aV<|za O<|za O<|zX eZ (n:=a1.length) lm<|qj O eZ<|xQ ?_)
  obtain⟨h6,H⟩|⟨h6,H⟩:=ab H
  ·refine zi eZ h6 (au<|al<|aS<|aw<|zD (fun t7:Bool=>Qo kb5 s4 t7=some r) (fun t7=>mk [(0,.one<|.d<|.sl 1<|a1.map zm),(3,oI s4),(31,oB t7)] [] noG) ?_ ?_)
   ·intro t7 H
    obtain⟨h9,H⟩|⟨h9,H⟩:=aa H
    ·refine zi O h9 (aV<|za eC<|xQ<|aq<|aJ<|ax<|ax<|aJ<|ax ?_)
     cases H
     exact eE O O
    ·exact zh O h9 (au<|aP<|al<|aR<|za O<|qb eZ eC<|za eZ<|zl<|al ⟨IntKind.wrap .i64 (s4+1),H,zf [] (sR O O) am aj⟩)
   ·refine aX (za O<|za O ?_)
    obtain⟨v10,h11,H⟩:=zk H
    refine qk O eZ h11 (zV (e:=.int .i64 v10) eZ O ?_)
    obtain⟨v12,h13,H⟩:=zk H
    refine zF (u:=oB v12) eC ay (Kl h13) (Ec eZ En) (Vc Vp Vn) O (qS eZ<|za eZ ?_)
    obtain⟨h14,H⟩|⟨h14,H⟩:=aa H
    ·refine gDo eZ (cN h14) (za O<|gDo O (cN h14)<|zaC eZ eC<|gDo O (cN h14)<|za eZ ?_)
     obtain⟨h15,H⟩|⟨h15,H⟩:=ab H
     ·refine gDo eZ h15 (za O<|gDo O h15<|za O<|gDo O h15<|zbP eZ eC<|gDo O h15 ?_)
      obtain⟨v16,h17,H⟩:=zk H
      refine qk O eZ h17 (gDo O h15<|zV (e:=.int .i64 v16) eZ O<|gDo O h15<|za O<|gDo O h15<|za O<|gDo O h15 ?_)
      obtain⟨v18,h19,H⟩:=zk H
      exact qk O eZ h19 (gDo O h15<|zV (e:=.int .i64 v18) eZ O<|gDo O h15<|Xo O eZ<|gDo O (cN h14)<|zB O h15 eZ<|zM O (cN h14) eZ<|zl<|al ⟨decide (v18≤v16),H,zf [] (sR O O) am aj⟩)
     ·exact zb eZ h15 O (zb O h15 O<|zb O h15 O<|zb O h15 O<|zb O h15 O<|zb O h15 O<|zb O h15 O<|zb O h15 O<|zb O h15 O<|zb O h15 O<|gDo O (cN h14)<|zM O h15 eC<|zM O (cN h14) eZ<|zl<|al ⟨false,H,zf [] (sR O O) am aj⟩)
    ·exact zb eZ (cN h14) O (zb O (cN h14) O<|zb O (cN h14) O<|zE eZ O<|zE O O<|zE O O<|zE O O<|zE O O<|zE O O<|zE O O<|zE O O<|zE O O<|zE O O<|zb O (cN h14) O<|zB O (cN h14) eC<|zl<|al ⟨true,H,zf [] (sR O O) am aj⟩)
  ·exact zh eZ h6 (aH<|aC<|aC<|aT<|al ⟨(),H,zf [] ar am aj⟩)
theorem kJ{a1:(List zw)}{a2:zw}{r:Bool}(H:yu a1 a2=some r):Fn Tryz.prog 82 (lent [.sl 2 (a1.map zg),.agg<|zg a2]) true [.bool r]:=by
 refine ac f82 O ?_
 refine ak (zf [] (kv 0 (.one<|.d<|.sl 2<|a1.map zg) O O<|kv 1 (.agg [dI a2.Lo,dI a2.Hi]) O O ar) am aj) ?_
 unfold yu at H
 unfold i82
 refine aV (yd (n:=192) (m:=2) (cs:=[dI a2.Lo,dI a2.Hi]) O O O O nZ<|za eC<|xQ<|aS<|zD (fun t3:Bool=>yf a1 a2 t3=some r) (fun t3=>mk [(0,.one<|.d<|.sl 2<|a1.map zg),(3,.one<|.ptr<|.nm 192 0 0),(14,oB t3)] [(192,.vars 2 [dI a2.Lo,dI a2.Hi])] noG) ?_ ?_)
 ·intro t3 H
  obtain⟨h5,H⟩|⟨h5,H⟩:=aa H
  ·refine zi O h5 (aV<|za eC<|xQ<|aq<|ax ?_)
   cases H
   exact eE O O
  ·refine zh O h5 (au<|al<|aV<|ze (m:=0) O O<|zn (q:=0) (c:=dI a2.Lo) eZ bZ O O<|za eZ<|xQ<|zD (fun t6:Int=>QT a2 t6=some r) (fun t6=>mk [(3,.one<|.ptr<|.nm 192 0 0),(5,oI t6)] [(192,.vars 2 [dI a2.Lo,dI a2.Hi])] noG) ?_ ?_)
   ·intro t6 H
    unfold QT at H
    refine aV (za O<|ze (m:=1) O O<|zn (q:=1) (c:=dI a2.Hi) eZ bZ O O<|Xo O eZ<|za eZ<|xQ<|aq ?_)
    cases H
    exact eE O O
   ·refine aV (za eC<|xQ<|aw<|aG (fun s8:(Int×Int)=>mk [(0,.one<|.d<|.sl 2<|a1.map zg),(3,.one<|.ptr<|.nm 192 0 0),(5,oI s8.1),(6,oI s8.2)] [(192,.vars 2 [dI a2.Lo,dI a2.Hi])] noG) H (zf [] (sR O O) (blR O)<|bkR O O O) ?_)
    intro kb9 s8 H
    unfold QK at H
    refine aS (aV<|za O<|za O<|zX eZ (n:=a1.length) lm<|qj O eZ<|xQ ?_)
    obtain⟨h10,H⟩|⟨h10,H⟩:=ab H
    ·refine zi eZ h10 (au<|al<|aS<|aw<|zD (fun t11:Bool=>Zc a1 s8 kb9 t11=some r) (fun t11=>mk [(0,.one<|.d<|.sl 2<|a1.map zg),(3,.one<|.ptr<|.nm 192 0 0),(5,oI s8.1),(6,oI s8.2),(38,oB t11)] [(192,.vars 2 [dI a2.Lo,dI a2.Hi])] noG) ?_ ?_)
     ·intro t11 H
      obtain⟨h13,H⟩|⟨h13,H⟩:=aa H
      ·refine zi O h13 (aR<|za eZ<|za O ?_)
       obtain⟨v14,h15,H⟩:=zk H
       exact qk O eZ h15 (z7 (m:=1) eZ O<|zV (e:=.int .i64 v14.Hi) eZ O<|za eZ<|zl<|aP<|al<|aR<|za O<|qb eZ eC<|za eZ<|zl<|al ⟨(v14.Hi,IntKind.wrap .i64 (s8.2+1)),H,zf [] (sR O O) (blR O)<|bkR O O O⟩)
      ·exact zh O h13 (au<|aP<|al<|aR<|za O<|qb eZ eC<|za eZ<|zl<|al ⟨(s8.1,IntKind.wrap .i64 (s8.2+1)),H,zf [] (sR O O) (blR O)<|bkR O O O⟩)
     ·refine aR (za O<|za O ?_)
      obtain⟨v16,h17,H⟩:=zk H
      refine qk O eZ h17 (z7 (m:=0) eZ O<|zV (e:=.int .i64 v16.Lo) eZ O<|za O<|zbE O eZ<|za eZ ?_)
      obtain⟨h18,H⟩|⟨h18,H⟩:=ab H
      ·refine gDo eZ h18 (za O<|gDo O h18<|za O<|gDo O h18<|za O<|gDo O h18 ?_)
       obtain⟨v19,h20,H⟩:=zk H
       exact qk O eZ h20 (gDo O h18<|z7 (m:=1) eZ O<|gDo O h18<|zV (e:=.int .i64 v19.Hi) eZ O<|gDo O h18<|qj O eZ<|zB O h18 eZ<|zl<|al ⟨decide (s8.1 < v19.Hi),H,zf [] (sR O O) (blR O)<|bkR O O O⟩)
      ·exact zb eZ h18 O (zb O h18 O<|zb O h18 O<|zb O h18 O<|zb O h18 O<|zb O h18 O<|zb O h18 O<|zM O h18 eC<|zl<|al ⟨false,H,zf [] (sR O O) (blR O)<|bkR O O O⟩)
    ·exact zh eZ h10 (aH<|aC<|aC<|aT<|al ⟨s8.1,H,zf [] (sR O O) (blR O)<|bkR O O O⟩)
 ·refine aR (za O ?_)
  obtain⟨v21,h22,H⟩:=zk H
  refine zF (u:=oB v21) eC ay (X6 h22) (Ec eZ En) (Vc Vp Vn) O (qS eZ<|za eZ ?_)
  obtain⟨h23,H⟩|⟨h23,H⟩:=zA H
  ·refine gDo eZ (cN h23) (zY (es:=[dI a2.Lo,dI a2.Hi]) O bZ O<|gDo O (cN h23) ?_)
   obtain⟨v24,h25,H⟩:=zk H
   exact zF (u:=oB v24) eC ay (yT h25) (Ec eZ En) (Vc (aI O) Vn) O (gDo O (cN h23)<|qS eZ<|zM O (cN h23) eZ<|zl<|al ⟨!v24,H,zf [] (sR O O) (blR O)<|bkR O O O⟩)
  ·exact zb eZ (cN<|nt h23) O (zb O (cN<|nt h23) O<|zb O (cN<|nt h23) O<|zB O (cN<|nt h23) eC<|zl<|al ⟨true,H,zf [] (sR O O) (blR O)<|bkR O O O⟩)
theorem zcm{a1:Int}{r:zw}(H:xb a1=some r):Fn Tryz.prog 221 (lent [.int .i64 a1]) true [.agg (zg r)]:=by
 refine ac zI0 O ?_
 refine ak (zf [] (kv 0 (oI a1) O O ar) am aj) ?_
 unfold xb at H
 unfold zHQ
 refine aV (Zn (n:=128) (m:=2) O O nZ<|xQ<|aV<|za O<|za O<|qb eZ eC<|Xa (cs:=[dI a1,dI<|IntKind.wrap .i64 (a1+1)]) (qY O<|qY eZ Z5) O<|zP (es:=[dI a1,dI<|IntKind.wrap .i64 (a1+1)]) O eZ O O bZ O<|xQ<|aq ?_)
 cases H
 exact qT (aE (yq (es:=[dI a1,dI<|IntKind.wrap .i64 (a1+1)]) O bZ O) (bB (ds:=[.int .i64 a1,.int .i64<|IntKind.wrap .i64 (a1+1)]) O O) aO) List.nodup_nil
theorem Jl{a1:(List Int)}{a2:Int}{r:Bool}(H:yt a1 a2=some r):Fn Tryz.prog 117 (lent [.sl 1 (a1.map zm),.int .i64 a2]) true [.bool r]:=by
 refine ac zIv O ?_
 refine ak (zf [] (kv 0 (.one<|.d<|.sl 1<|a1.map zm) O O<|kv 1 (oI a2) O O ar) am aj) ?_
 unfold yt at H
 unfold zDb
 refine aV (za eC<|xQ<|zD (fun t3:Unit=>kQ t3=some r) (fun t3=>mk [] [] noG) ?_ ?_)
 ·intro t3 H
  unfold kQ at H
  refine aV (za eC<|xQ<|aq ?_)
  cases H
  exact eE O O
 ·refine aV (za eC<|xQ<|aw<|aG (fun s5:Int=>mk [(0,.one<|.d<|.sl 1<|a1.map zm),(1,oI a2),(5,oI s5)] [] noG) H (zf [] (sR O O) am aj) ?_)
  intro kb6 s5 H
  unfold kD at H
  refine aS (aV<|za O<|za O<|zX eZ (n:=a1.length) lm<|qj O eZ<|xQ ?_)
  obtain⟨h7,H⟩|⟨h7,H⟩:=ab H
  ·refine zi eZ h7 (au<|al<|aS<|aw<|aV<|za O<|za O ?_)
   obtain⟨v8,h9,H⟩:=zk H
   refine qk O eZ h9 (zV (e:=.int .i64 v8) eZ O<|za O<|kZ O eZ<|xQ ?_)
   obtain⟨h10,H⟩|⟨h10,H⟩:=ab H
   ·refine zi eZ h10 (aV<|za eC<|xQ<|aq<|aJ<|ax<|ax<|aJ<|ax ?_)
    cases H
    exact eE O O
   ·exact zh eZ h10 (au<|aP<|al<|aR<|za O<|qb eZ eC<|za eZ<|zl<|al ⟨IntKind.wrap .i64 (s5+1),H,zf [] (sR O O) am aj⟩)
  ·exact zh eZ h7 (aH<|aC<|aC<|aT<|al ⟨(),H,zf [] ar am aj⟩)
theorem xR{a1:(List zj)}{r:Bool}(H:yD a1=some r):Fn Tryz.prog 224 (lent [.sl 2 (a1.map zd)]) true [.bool r]:=by
 refine ac zJr O ?_
 refine ak (zf [] (kv 0 (.one<|.d<|.sl 2<|a1.map zd) O O ar) am aj) ?_
 unfold yD at H
 unfold zD9
 refine aV (za eC<|xQ<|aS<|aV<|za O<|zX eZ (n:=a1.length) lm<|zaC eZ eC<|xQ ?_)
 obtain⟨h2,H⟩|⟨h2,H⟩:=ab H
 ·refine zi eZ h2 (aV<|za eC<|xQ<|aq<|ax ?_)
  cases H
  exact eE O O
 ·refine zh eZ h2 (au<|al<|zD (fun t3:Unit=>Xl t3=some r) (fun t3=>mk [] [] noG) ?_ ?_)
  ·intro t3 H
   unfold Xl at H
   refine aV (za eC<|xQ<|aq ?_)
   cases H
   exact eE O O
  ·refine aV (za eC<|xQ<|aw<|aG (fun s5:Int=>mk [(0,.one<|.d<|.sl 2<|a1.map zd),(3,oI s5)] [] noG) H (zf [] (sR O O) am aj) ?_)
   intro kb6 s5 H
   unfold YX at H
   refine aS (aV<|za O<|za O<|zX eZ (n:=a1.length) lm<|qj O eZ<|xQ ?_)
   obtain⟨h7,H⟩|⟨h7,H⟩:=ab H
   ·refine zi eZ h7 (au<|al<|aS<|aw<|zD (fun t8:Bool=>yI kb6 s5 t8=some r) (fun t8=>mk [(0,.one<|.d<|.sl 2<|a1.map zd),(3,oI s5),(46,oB t8)] [] noG) ?_ ?_)
    ·intro t8 H
     obtain⟨h10,H⟩|⟨h10,H⟩:=aa H
     ·refine zi O h10 (aV<|za eC<|xQ<|aq<|aJ<|ax<|ax<|aJ<|ax ?_)
      cases H
      exact eE O O
     ·exact zh O h10 (au<|aP<|al<|aR<|za O<|qb eZ eC<|za eZ<|zl<|al ⟨IntKind.wrap .i64 (s5+1),H,zf [] (sR O O) am aj⟩)
    ·refine aX (za O<|za O ?_)
     obtain⟨v11,h12,H⟩:=zk H
     refine qk O eZ h12 (z7 (m:=0) eZ O<|zV (e:=.int .i64 v11.Key) eZ O ?_)
     obtain⟨v13,h14,H⟩:=zk H
     refine zF (u:=oB v13) eC ay (zcj h14) (Ec eZ En) (Vc Vp Vn) O (qS eZ<|za eZ ?_)
     obtain⟨h15,H⟩|⟨h15,H⟩:=zA H
     ·refine gDo eZ (cN h15) (za O<|gDo O (cN h15)<|za O<|gDo O (cN h15) ?_)
      obtain⟨v16,h17,H⟩:=zk H
      refine qk O eZ h17 (gDo O (cN h15)<|z7 (m:=1) eZ O<|gDo O (cN h15)<|zV (e:=.int .i64 v16.Value) eZ O<|gDo O (cN h15) ?_)
      obtain⟨v18,h19,H⟩:=zk H
      refine zF (u:=oB v18) eC ay (kh h19) (Ec eZ<|Ec eC<|Ec eC En) (Vc Vp<|Vc Vp<|Vc Vp Vn) O (gDo O (cN h15)<|qS eZ<|zM O (cN h15) eZ<|za eZ ?_)
      obtain⟨h20,H⟩|⟨h20,H⟩:=zA H
      ·refine gDo eZ (cN h20) (za O<|gDo O (cN h20)<|zaC eZ eC<|gDo O (cN h20)<|za eZ ?_)
       obtain⟨h21,H⟩|⟨h21,H⟩:=zA H
       ·refine gDo eZ (dT h21) (za O<|gDo O (dT h21)<|za O<|gDo O (dT h21)<|zbP eZ eC<|gDo O (dT h21) ?_)
        obtain⟨v22,h23,H⟩:=zk H
        refine qk O eZ h23 (gDo O (dT h21)<|z7 (m:=0) eZ O<|gDo O (dT h21)<|zV (e:=.int .i64 v22.Key) eZ O<|gDo O (dT h21)<|za O<|gDo O (dT h21)<|za O<|gDo O (dT h21) ?_)
        obtain⟨v24,h25,H⟩:=zk H
        exact qk O eZ h25 (gDo O (dT h21)<|z7 (m:=0) eZ O<|gDo O (dT h21)<|zV (e:=.int .i64 v24.Key) eZ O<|gDo O (dT h21)<|Xo O eZ<|gDo O (cN h20)<|zB O (dT h21) eZ<|zM O (cN h20) eZ<|zl<|al ⟨decide (v24.Key≤v22.Key),H,zf [] (sR O O) am aj⟩)
       ·exact zb eZ (dF h21) O (zb O (dF h21) O<|zb O (dF h21) O<|zb O (dF h21) O<|zb O (dF h21) O<|zb O (dF h21) O<|zb O (dF h21) O<|zb O (dF h21) O<|zb O (dF h21) O<|zb O (dF h21) O<|zb O (dF h21) O<|zb O (dF h21) O<|gDo O (cN h20)<|zM O (dF h21) eC<|zM O (cN h20) eZ<|zl<|al ⟨false,H,zf [] (sR O O) am aj⟩)
      ·exact zb eZ (cN<|nt h20) O (zb O (cN<|nt h20) O<|zb O (cN<|nt h20) O<|zE eZ O<|zE O O<|zE O O<|zE O O<|zE O O<|zE O O<|zE O O<|zE O O<|zE O O<|zE O O<|zE O O<|zE O O<|zb O (cN<|nt h20) O<|zB O (cN<|nt h20) eC<|zl<|al ⟨true,H,zf [] (sR O O) am aj⟩)
     ·exact zb eZ (cN<|nt h15) O (zb O (cN<|nt h15) O<|zb O (cN<|nt h15) O<|zb O (cN<|nt h15) O<|zb O (cN<|nt h15) O<|zb O (cN<|nt h15) O<|zb O (cN<|nt h15) O<|zB O (cN<|nt h15) eC<|za eZ<|zb eZ O O<|zb O O O<|zb O O O<|zE eZ O<|zE O O<|zE O O<|zE O O<|zE O O<|zE O O<|zE O O<|zE O O<|zE O O<|zE O O<|zE O O<|zE O O<|zb O O O<|zB O O eC<|zl<|al ⟨true,H,zf [] (sR O O) am aj⟩)
   ·exact zh eZ h7 (aH<|aC<|aC<|aT<|al ⟨(),H,zf [] ar am aj⟩)
theorem ze1{a1:zw}{a2:zw}{r:Bool}(H:JD a1 a2=some r):Fn Tryz.prog 313 (lent [.agg (zg a1),.agg<|zg a2]) true [.bool r]:=by
 refine ac zJo O ?_
 refine ak (zf [] (kv 0 (.agg [dI a1.Lo,dI a1.Hi]) O O<|kv 1 (.agg [dI a2.Lo,dI a2.Hi]) O O ar) am aj) ?_
 unfold JD at H
 unfold zEF
 refine aV (yd (n:=128) (m:=2) (cs:=[dI a1.Lo,dI a1.Hi]) O eZ O O nZ<|yd (n:=192) (m:=2) (cs:=[dI a2.Lo,dI a2.Hi]) O O O O (nR O)<|za eC<|xQ<|aV<|zY (es:=[dI a1.Lo,dI a1.Hi]) O (bR O) O ?_)
 obtain⟨v3,h4,H⟩:=zk H
 refine zF (u:=oB v3) eC ay (yT h4) (Ec eZ En) (Vc (aI O) Vn) O (za eZ ?_)
 obtain⟨h5,H⟩|⟨h5,H⟩:=aa H
 ·refine gDo eZ h5 (zY (es:=[dI a2.Lo,dI a2.Hi]) O bZ O<|gDo O h5 ?_)
  obtain⟨v6,h7,H⟩:=zk H
  refine zF (u:=oB v6) eC ay (yT h7) (Ec eZ En) (Vc (aI O) Vn) O (zB O h5 eZ<|za eZ ?_)
  obtain⟨h8,H⟩|⟨h8,H⟩:=aa H
  ·refine gDo eZ h8 (ze (m:=0) O O<|gDo O h8<|zn (q:=0) (c:=dI a1.Lo) eZ (bR O) O O<|gDo O h8<|ze (m:=0) O O<|gDo O h8<|zn (q:=0) (c:=dI a2.Lo) eZ bZ O O<|gDo O h8<|Xo O eZ<|zB O h8 eZ<|za eZ ?_)
   obtain⟨h9,H⟩|⟨h9,H⟩:=ab H
   ·refine gDo eZ h9 (ze (m:=1) O O<|gDo O h9<|zn (q:=1) (c:=dI a1.Hi) eZ (bR O) O O<|gDo O h9<|ze (m:=1) O O<|gDo O h9<|zn (q:=1) (c:=dI a2.Hi) eZ bZ O O<|gDo O h9<|zbE O eZ<|zB O h9 eZ<|za eZ<|xQ<|ak (zf [192,128] (kr 4 O O ar) (blR O) aj)<|aq ?_)
    cases H
    exact eE O O
   ·refine zb eZ h9 O (zb O h9 O<|zb O h9 O<|zb O h9 O<|zb O h9 O<|zM O h9 eC<|za eZ<|xQ<|ak (zf [192,128] (kr 4 O O ar) (blR O) aj)<|aq ?_)
    cases H
    exact eE O O
  ·refine zb eZ h8 O (zb O h8 O<|zb O h8 O<|zb O h8 O<|zb O h8 O<|zM O h8 eC<|za eZ<|zb eZ O O<|zb O O O<|zb O O O<|zb O O O<|zb O O O<|zM O O eC<|za eZ<|xQ<|ak (zf [192,128] (kr 4 O O ar) (blR O) aj)<|aq ?_)
   cases H
   exact eE O O
 ·refine zb eZ h5 O (zb O h5 O<|zM O h5 eC<|za eZ<|zb eZ O O<|zb O O O<|zb O O O<|zb O O O<|zb O O O<|zM O O eC<|za eZ<|zb eZ O O<|zb O O O<|zb O O O<|zb O O O<|zb O O O<|zM O O eC<|za eZ<|xQ<|ak (zf [192,128] (kr 4 O O ar) (blR O) aj)<|aq ?_)
  cases H
  exact eE O O
theorem zeJ{a1:(List zC)}{a2:Int}{a3:zw}{a4:Int}{r:Bool}(H:Q3 a1 a2 a3 a4=some r):Fn Tryz.prog 248 (lent [.sl 4 (a1.map zo),.int .i64 a2,.agg<|zg a3,.int .i64 a4]) true [.bool r]:=by
 refine ac zIZ O ?_
 refine ak (zf [] (kv 0 (.one<|.d<|.sl 4<|a1.map zo) O O<|kv 1 (oI a2) O O<|kv 2 (.agg [dI a3.Lo,dI a3.Hi]) O O<|kv 3 (oI a4) O O ar) am aj) ?_
 unfold Q3 at H
 unfold zGa
 refine aV (yd (n:=384) (m:=2) (cs:=[dI a3.Lo,dI a3.Hi]) O O O O nZ<|za eC<|xQ<|zD (fun t5:Unit=>Xt t5=some r) (fun t5=>mk [] [] noG) ?_ ?_)
 ·intro t5 H
  unfold Xt at H
  refine aV (za eC<|xQ<|aq ?_)
  cases H
  exact eE O O
 ·refine aV (za eC<|xQ<|aw<|aG (fun s7:Int=>mk [(0,.one<|.d<|.sl 4<|a1.map zo),(1,oI a2),(3,oI a4),(6,.one<|.ptr<|.nm 384 0 0),(9,oI s7)] [(384,.vars 2 [dI a3.Lo,dI a3.Hi])] noG) H (zf [] (sR O O) (blR O)<|bkR O O O) ?_)
  intro kb8 s7 H
  unfold YZ at H
  refine aS (aV<|za O<|za O<|zX eZ (n:=a1.length) lm<|qj O eZ<|xQ ?_)
  obtain⟨h9,H⟩|⟨h9,H⟩:=ab H
  ·refine zi eZ h9 (au<|al<|aS<|aw<|zD (fun t10:Bool=>yV kb8 s7 t10=some r) (fun t10=>mk [(0,.one<|.d<|.sl 4<|a1.map zo),(1,oI a2),(3,oI a4),(6,.one<|.ptr<|.nm 384 0 0),(9,oI s7),(40,oB t10)] [(384,.vars 2 [dI a3.Lo,dI a3.Hi])] noG) ?_ ?_)
   ·intro t10 H
    obtain⟨h12,H⟩|⟨h12,H⟩:=aa H
    ·refine zi O h12 (aV<|za eC<|xQ<|aq<|aJ<|ax<|ax<|aJ<|ax ?_)
     cases H
     exact eE O O
    ·exact zh O h12 (au<|aP<|al<|aR<|za O<|qb eZ eC<|za eZ<|zl<|al ⟨IntKind.wrap .i64 (s7+1),H,zf [] (sR O O) (blR O)<|bkR O O O⟩)
   ·refine aX (za O<|za O ?_)
    obtain⟨v13,h14,H⟩:=zk H
    refine qk O eZ h14 (z7 (m:=0) eZ O<|zV (e:=.int .i64 v13.Tx) eZ O<|za O<|kZ O eZ<|za eZ ?_)
    obtain⟨h15,H⟩|⟨h15,H⟩:=ab H
    ·refine gDo eZ h15 (zY (es:=[dI a3.Lo,dI a3.Hi]) O (hB O bZ) O<|gDo O h15<|za O<|gDo O h15<|za O<|gDo O h15 ?_)
     obtain⟨v16,h17,H⟩:=zk H
     refine qk O eZ h17 (gDo O h15<|qi (es:=qa v16) eZ O<|gDo O h15 ?_)
     obtain⟨v18,h19,H⟩:=zk H
     refine zF (u:=.agg [dI v18.Lo,dI v18.Hi]) eC ay (Q9 h19) (Ec eZ En) (Vc (aI O) Vn) O (gDo O h15 ?_)
     obtain⟨v20,h21,H⟩:=zk H
     refine zF (u:=oB v20) eC ay (ze1 h21) (Ec O<|Ec eZ En) (Vc (aI O)<|Vc (aI O) Vn) O (zB O h15 eZ<|za eZ ?_)
     obtain⟨h22,H⟩|⟨h22,H⟩:=zA H
     ·refine gDo eZ h22 (za O<|gDo O h22<|za O<|gDo O h22 ?_)
      obtain⟨v23,h24,H⟩:=zk H
      exact qk O eZ h24 (gDo O h22<|z7 (m:=3) eZ O<|gDo O h22<|zV (e:=.int .i64 v23.Mode) eZ O<|gDo O h22<|za O<|gDo O h22<|Xo O eZ<|zB O h22 eZ<|zl<|al ⟨decide (a4≤v23.Mode),H,zf [] (sR O O) (blR O)<|bkR O O O⟩)
     ·exact zb eZ (nt h22) O (zb O (nt h22) O<|zb O (nt h22) O<|zb O (nt h22) O<|zb O (nt h22) O<|zb O (nt h22) O<|zb O (nt h22) O<|zM O (nt h22) eC<|zl<|al ⟨false,H,zf [] (sR O O) (blR O)<|bkR O O O⟩)
    ·exact zb eZ h15 O (zb O h15 O<|zb O h15 O<|zb O h15 O<|zb O h15 O<|zb O h15 O<|zb O h15 O<|zM O h15 eC<|za eZ<|zb eZ O O<|zb O O O<|zb O O O<|zb O O O<|zb O O O<|zb O O O<|zb O O O<|zM O O eC<|zl<|al ⟨false,H,zf [] (sR O O) (blR O)<|bkR O O O⟩)
  ·exact zh eZ h9 (aH<|aC<|aC<|aT<|al ⟨(),H,zf [384] ar (blR O) aj⟩)
theorem zdr{a1:zp}{r:Bool}(H:ZS a1=some r):Fn Tryz.prog 222 (lent [.agg (zT a1)]) true [.bool r]:=by
 refine ac zJS O ?_
 refine ak (t:=mk [(0,.agg<|zK a1)] [] (lk [])) (zf [] (sR O O) am aj) ?_
 unfold ZS at H
 unfold zH2
 refine aV (yd (n:=64) (m:=9) (cs:=zK a1) O eZ O O nZ<|za eC<|xQ<|zD (fun t2:Unit=>x9 t2=some r) (fun t2=>mk [] [] (lk [])) ?_ ?_)
 ·intro t2 H
  unfold x9 at H
  refine aV (za eC<|xQ<|aq ?_)
  cases H
  exact eE O O
 ·refine aV (za eC<|xQ<|aw<|aG (fun s4:Int=>mk [(1,.one<|.ptr<|.nm 64 0 0),(3,oI s4)] [(64,.vars 9<|zK a1)] (lk [])) H (zH [] (sR O O) (blR O) (bkR O O O) aA) ?_)
  intro kb5 s4 H
  unfold QL at H
  refine aS (aV<|za O<|ze (m:=5) O O<|zn (q:=5) (c:=.d (.sl 2<|a1.Helds.map zx)) eZ bZ O O<|zX eZ (n:=a1.Helds.length) lm<|qj O eZ<|xQ ?_)
  obtain⟨h6,H⟩|⟨h6,H⟩:=ab H
  ·refine zi eZ h6 (au<|al<|zD (fun t7:Unit=>qZ kb5 s4 t7=some r) (fun t7=>mk [(1,.one<|.ptr<|.nm 64 0 0),(3,oI s4)] [(64,.vars 9<|zK a1)] (lk [])) ?_ ?_)
   ·intro t7 H
    unfold qZ at H
    exact aR (za O<|qb eZ eC<|za eZ<|zl<|al ⟨IntKind.wrap .i64 (s4+1),H,zH [] (sR O O) (blR O) (bkR O O O) aA⟩)
   ·refine aw (aS<|zZ<|zr<|ze (m:=5) O O<|zl<|zr<|zn (q:=5) (c:=.d (.sl 2<|a1.Helds.map zx)) eZ bZ O O<|zl<|zr<|za O<|zl<|zr ?_)
    obtain⟨v9,h10,H⟩:=zk H
    refine qk O eZ h10 (zl<|zr<|qi (es:=jm v9) eZ O<|zl<|zr<|Zn (n:=256) (m:=2) O O (nR O)<|zl<|zr<|zP (es:=jm v9) eZ O O O bZ O<|zl<|qf<|xQ<|aS<|zD (fun t11:Bool=>(ji v9 a1<|qZ kb5 s4) t11=some r) (fun t11=>mk [(1,.one<|.ptr<|.nm 64 0 0),(3,oI s4),(4,.one<|.ptr<|.nm 256 0 0),(43,oB t11)] [(64,.vars 9<|zK a1),(256,.vars 2<|jm v9)] (lk [])) ?_ ?_)
    ·intro t11 H
     obtain⟨h13,H⟩|⟨h13,H⟩:=aa H
     ·refine zi O h13 (aV<|za eC<|xQ<|aq<|ax<|aJ<|ax<|ax<|aJ<|ax ?_)
      cases H
      exact eE O O
     ·refine zh O h13 (au<|al<|zD (fun t14:Unit=>(Qd a1 v9<|qZ kb5 s4) t14=some r) (fun t14=>mk [(1,.one<|.ptr<|.nm 64 0 0),(3,oI s4),(4,.one<|.ptr<|.nm 256 0 0)] [(64,.vars 9<|zK a1),(256,.vars 2<|jm v9)] (lk [])) ?_ ?_)
      ·intro t14 H
       unfold Qd at H
       refine zD (fun t16:Bool=>(Zb<|qZ kb5 s4) t16=some r) (fun t16=>mk [(1,.one<|.ptr<|.nm 64 0 0),(3,oI s4),(75,oB t16)] [(64,.vars 9<|zK a1)] (lk [])) ?_ ?_
       ·intro t16 H
        obtain⟨h18,H⟩|⟨h18,H⟩:=aa H
        ·refine zi O h18 (aV<|za eC<|xQ<|aq<|aJ<|ax<|ax<|aJ<|ax ?_)
         cases H
         exact eE O O
        ·exact zh O h18 (au<|aP<|al ⟨(),H,zH [] (sR O O) (blR O) (bkR O O O) aA⟩)
       ·refine aR (ze (m:=6) eZ O<|zn (q:=6) (c:=.d (.sl 1<|a1.Wounded.map zm)) eZ bZ O O<|ze (m:=0) O O<|zn (q:=0) (c:=dI v9.Tx) eZ (bR O) O O ?_)
        obtain⟨v19,h20,H⟩:=zk H
        refine zF (u:=oB v19) eC ay (Jl h20) (Ec O<|Ec eZ En) (Vc Vp<|Vc Vp Vn) O (za eZ ?_)
        obtain⟨h21,H⟩|⟨h21,H⟩:=aa H
        ·exact zb eZ h21 O (zb O h21 O<|zb O h21 O<|zb O h21 O<|zb O h21 O<|zB O h21 eC<|zl<|al ⟨true,H,zH [256] (sR O O) (blR O) (bkR O O O) aA⟩)
        ·refine gDo eZ h21 (ze (m:=7) O O<|gDo O h21<|zn (q:=7) (c:=.d (.sl 1<|a1.Ended.map zm)) eZ bZ O O<|gDo O h21<|ze (m:=0) O O<|gDo O h21<|zn (q:=0) (c:=dI v9.Tx) eZ (bR O) O O<|gDo O h21 ?_)
         obtain⟨v22,h23,H⟩:=zk H
         exact zF (u:=oB v22) eC ay (Jl h23) (Ec O<|Ec eZ En) (Vc Vp<|Vc Vp Vn) O (zM O h21 eZ<|zl<|al ⟨v22,H,zH [256] (sR O O) (blR O) (bkR O O O) aA⟩)
      ·refine aV (za eC<|xQ<|aw<|aG (fun s24:Int=>mk [(1,.one<|.ptr<|.nm 64 0 0),(3,oI s4),(4,.one<|.ptr<|.nm 256 0 0),(5,oI s24)] [(64,.vars 9<|zK a1),(256,.vars 2<|jm v9)] (lk [])) H (zH [] (sR O O) (blR O) (bkR O O O) aA) ?_)
       intro kb25 s24 H
       unfold Qc at H
       refine aS (aV<|za O<|ze (m:=1) O O<|zn (q:=1) (c:=.d (.sl 2<|v9.Writes.map zd)) eZ (bR O) O O<|zX eZ (n:=v9.Writes.length) lm<|qj O eZ<|xQ ?_)
       obtain⟨h26,H⟩|⟨h26,H⟩:=zA H
       ·refine zi eZ (dT h26) (au<|al<|aS<|aw<|aS<|aX<|ze (m:=4) O O<|zn (q:=4) (c:=.d (.sl 4<|a1.Locks.map zo)) eZ (hB O bZ) O O<|ze (m:=0) O O<|zn (q:=0) (c:=dI v9.Tx) eZ (hB O<|bR O) O O<|ze (m:=1) O O<|zn (q:=1) (c:=.d (.sl 2<|v9.Writes.map zd)) eZ (bR O) O O<|za O ?_)
        obtain⟨v27,h28,H⟩:=zk H
        refine qk O eZ h28 (z7 (m:=0) eZ O<|zV (e:=.int .i64 v27.Key) eZ O ?_)
        obtain⟨v29,h30,H⟩:=zk H
        refine zF (u:=.agg [dI v29.Lo,dI v29.Hi]) eC ay (zcm h30) (Ec eZ En) (Vc Vp Vn) O ?_
        obtain⟨v31,h32,H⟩:=zk H
        refine zF (u:=oB v31) eC ay (zeJ h32) (Ec O<|Ec O<|Ec eZ<|Ec eC En) (Vc Vp<|Vc Vp<|Vc (aI O)<|Vc Vp Vn) O (qS eZ<|xQ<|ak (zH [] (kr 63 O O<|kr 1 O O<|kr 3 O O<|kr 4 O O<|kr 5 O O ar) (blR O) (ao (n:=64) O bZ O O<|ao (n:=256) O (bR O) O O aj) aA) ?_)
        obtain⟨h33,H⟩|⟨h33,H⟩:=zA H
        ·exact zh eZ (cN h33) (au<|aP<|al<|aR<|za O<|qb eZ eC<|za eZ<|zl<|al ⟨IntKind.wrap .i64 (s24+1),H,zH [] (sR O O) (blR O) (bkR O O O) aA⟩)
        ·refine zi eZ (cN<|nt h33) (aV<|za eC<|xQ<|aq<|aJ<|ax<|ax<|aJ<|ax<|aJ<|ax<|ax<|aJ<|ax ?_)
         cases H
         exact eE O O
       ·exact zh eZ (dF h26) (aH<|aC<|aC<|aT<|al ⟨(),H,zH [] (sR O O) (blR O) (bkR O O O) aA⟩)
    ·refine aX (ze (m:=0) eZ O<|zn (q:=0) (c:=dI v9.Tx) eZ bZ O O ?_)
     obtain⟨v34,h35,H⟩:=zk H
     refine zF (u:=oB v34) eC ay (Kl h35) (Ec eZ En) (Vc Vp Vn) O (qS eZ<|za eZ ?_)
     obtain⟨h36,H⟩|⟨h36,H⟩:=zA H
     ·refine gDo eZ (cN h36) (za O<|gDo O (cN h36)<|zaC eZ eC<|gDo O (cN h36)<|za eZ ?_)
      obtain⟨h37,H⟩|⟨h37,H⟩:=zA H
      ·refine gDo eZ (dT h37) (ze (m:=5) O O<|gDo O (dT h37)<|zn (q:=5) (c:=.d (.sl 2<|a1.Helds.map zx)) eZ (bR O) O O<|gDo O (dT h37)<|za O<|gDo O (dT h37)<|zbP eZ eC<|gDo O (dT h37) ?_)
       obtain⟨v38,h39,H⟩:=zk H
       refine qk O eZ h39 (gDo O (dT h37)<|z7 (m:=0) eZ O<|gDo O (dT h37)<|zV (e:=.int .i64 v38.Tx) eZ O<|gDo O (dT h37)<|ze (m:=0) O O<|gDo O (dT h37)<|zn (q:=0) (c:=dI v9.Tx) eZ bZ O O<|gDo O (dT h37)<|Xo O eZ<|gDo O (cN h36)<|zB O (dT h37) eZ<|zM O (cN h36) eZ<|za eZ ?_)
       obtain⟨h40,H⟩|⟨h40,H⟩:=zA H
       ·exact zb eZ (dT h40) O (zb O (dT h40) O<|zb O (dT h40) O<|zb O (dT h40) O<|zB O (dT h40) eC<|zl<|al ⟨true,H,zH [] (sR O O) (blR O) (bkR O O O) aA⟩)
       ·refine gDo eZ (dF h40) (ze (m:=1) O O<|gDo O (dF h40)<|zn (q:=1) (c:=.d (.sl 2<|v9.Writes.map zd)) eZ bZ O O<|gDo O (dF h40) ?_)
        obtain⟨v41,h42,H⟩:=zk H
        exact zF (u:=oB v41) eC ay (xR h42) (Ec eZ En) (Vc Vp Vn) O (gDo O (dF h40)<|qS eZ<|zM O (dF h40) eZ<|zl<|al ⟨!v41,H,zH [] (sR O O) (blR O) (bkR O O O) aA⟩)
      ·refine zb eZ (dF h37) O (zb O (dF h37) O<|zb O (dF h37) O<|zb O (dF h37) O<|zb O (dF h37) O<|zb O (dF h37) O<|zb O (dF h37) O<|zb O (dF h37) O<|zb O (dF h37) O<|zb O (dF h37) O<|gDo O (cN h36)<|zM O (dF h37) eC<|zM O (cN h36) eZ<|za eZ<|gDo eZ O<|ze (m:=1) O O<|gDo O O<|zn (q:=1) (c:=.d (.sl 2<|v9.Writes.map zd)) eZ bZ O O<|gDo O O ?_)
       obtain⟨v43,h44,H⟩:=zk H
       exact zF (u:=oB v43) eC ay (xR h44) (Ec eZ En) (Vc Vp Vn) O (gDo O O<|qS eZ<|zM O O eZ<|zl<|al ⟨!v43,H,zH [] (sR O O) (blR O) (bkR O O O) aA⟩)
     ·exact zb eZ (cN<|nt h36) O (zb O (cN<|nt h36) O<|zb O (cN<|nt h36) O<|zE eZ O<|zE O O<|zE O O<|zE O O<|zE O O<|zE O O<|zE O O<|zE O O<|zE O O<|zE O O<|zb O (cN<|nt h36) O<|zB O (cN<|nt h36) eC<|za eZ<|zb eZ O O<|zb O O O<|zb O O O<|zb O O O<|zB O O eC<|zl<|al ⟨true,H,zH [] (sR O O) (blR O) (bkR O O O) aA⟩)
  ·exact zh eZ h6 (aH<|aC<|aC<|aT<|al ⟨(),H,zH [64] ar (blR O) aj aA⟩)
theorem zgv{a1:(List zj)}{a2:Int}{r:Int}(H:Y7 a1 a2=some r):Fn Tryz.prog 346 (lent [.sl 2 (a1.map zd),.int .i64 a2]) true [.int .i64 r]:=by
 refine ac zIr O ?_
 refine ak (zf [] (kv 0 (.one<|.d<|.sl 2<|a1.map zd) O O<|kv 1 (oI a2) O O ar) am aj) ?_
 unfold Y7 at H
 unfold zEi
 refine aV (za eC<|xQ<|zD (fun t3:Unit=>KE t3=some r) (fun t3=>mk [] [] noG) ?_ ?_)
 ·intro t3 H
  unfold KE at H
  refine aV (za eC<|xQ<|aq ?_)
  cases H
  exact eE O O
 ·refine aV (za eC<|xQ<|aw<|aG (fun s5:Int=>mk [(0,.one<|.d<|.sl 2<|a1.map zd),(1,oI a2),(5,oI s5)] [] noG) H (zf [] (sR O O) am aj) ?_)
  intro kb6 s5 H
  unfold ko at H
  refine aS (aV<|za O<|za O<|zX eZ (n:=a1.length) lm<|qj O eZ<|xQ ?_)
  obtain⟨h7,H⟩|⟨h7,H⟩:=ab H
  ·refine zi eZ h7 (au<|al<|aS<|aw<|aV<|za O<|za O ?_)
   obtain⟨v8,h9,H⟩:=zk H
   refine qk O eZ h9 (z7 (m:=0) eZ O<|zV (e:=.int .i64 v8.Key) eZ O<|za O<|kZ O eZ<|xQ ?_)
   obtain⟨h10,H⟩|⟨h10,H⟩:=ab H
   ·refine zi eZ h10 (aV<|za O<|za O ?_)
    obtain⟨v11,h12,H⟩:=zk H
    refine qk O eZ h12 (z7 (m:=1) eZ O<|zV (e:=.int .i64 v11.Value) eZ O<|za eZ<|xQ<|ak (zf [] (kr 4 O O ar) am aj)<|aq<|aJ<|ax<|ax<|aJ<|ax ?_)
    cases H
    exact eE O O
   ·exact zh eZ h10 (au<|aP<|al<|aR<|za O<|qb eZ eC<|za eZ<|zl<|al ⟨IntKind.wrap .i64 (s5+1),H,zf [] (sR O O) am aj⟩)
  ·exact zh eZ h7 (aH<|aC<|aC<|aT<|al ⟨(),H,zf [] ar am aj⟩)
theorem zeM{a1:(List zj)}{a2:(List zj)}{r:Int}(H:Ja a1 a2=some r):Fn Tryz.prog 295 (lent [.sl 2 (a1.map zd),.sl 2<|a2.map zd]) true [.int .i64 r]:=by
 refine ac f295 O ?_
 refine ak (zf [] (kv 0 (.one<|.d<|.sl 2<|a1.map zd) O O<|kv 1 (.one<|.d<|.sl 2<|a2.map zd) O O ar) am aj) ?_
 unfold Ja at H
 unfold zC1
 refine aV (za eC<|xQ<|aS<|zD (fun t3:Bool=>Qq a2 a1 t3=some r) (fun t3=>mk [(0,.one<|.d<|.sl 2<|a1.map zd),(1,.one<|.d<|.sl 2<|a2.map zd),(14,oB t3)] [] noG) ?_ ?_)
 ·intro t3 H
  obtain⟨h5,H⟩|⟨h5,H⟩:=aa H
  ·refine zi O h5 (aV<|za eC<|xQ<|aq<|ax ?_)
   cases H
   exact eE O O
  ·refine zh O h5 (au<|al<|aV<|za eC<|xQ<|zD (fun t6:Int=>YT t6=some r) (fun t6=>mk [(5,oI t6)] [] noG) ?_ ?_)
   ·intro t6 H
    unfold YT at H
    refine aV (za eZ<|za eZ<|xQ<|aq ?_)
    cases H
    exact eE O O
   ·refine aV (za eC<|xQ<|aw<|aG (fun s8:(Int×Int)=>mk [(0,.one<|.d<|.sl 2<|a1.map zd),(1,.one<|.d<|.sl 2<|a2.map zd),(5,oI s8.1),(6,oI s8.2)] [] noG) H (zf [] (sR O O) am aj) ?_)
    intro kb9 s8 H
    unfold Yw at H
    refine aS (aV<|za O<|za O<|zX eZ (n:=a2.length) lm<|qj O eZ<|xQ ?_)
    obtain⟨h10,H⟩|⟨h10,H⟩:=ab H
    ·refine zi eZ h10 (au<|al<|aS<|aw<|zD (fun t11:Bool=>Z0 kb9 s8 t11=some r) (fun t11=>mk [(0,.one<|.d<|.sl 2<|a1.map zd),(1,.one<|.d<|.sl 2<|a2.map zd),(5,oI s8.1),(6,oI s8.2),(36,oB t11)] [] noG) ?_ ?_)
     ·intro t11 H
      obtain⟨h13,H⟩|⟨h13,H⟩:=aa H
      ·exact zi O h13 (aR<|za O<|qb eZ eC<|za eZ<|zl<|aP<|al<|aR<|za O<|qb eZ eC<|za eZ<|zl<|al ⟨(IntKind.wrap .i64 (s8.1+1),IntKind.wrap .i64 (s8.2+1)),H,zf [] (sR O O) am aj⟩)
      ·exact zh O h13 (au<|aP<|al<|aR<|za O<|qb eZ eC<|za eZ<|zl<|al ⟨(s8.1,IntKind.wrap .i64 (s8.2+1)),H,zf [] (sR O O) am aj⟩)
     ·refine aR (za O<|za O ?_)
      obtain⟨v14,h15,H⟩:=zk H
      refine qk O eZ h15 (z7 (m:=1) eZ O<|zV (e:=.int .i64 v14.Value) eZ O<|Xo eZ eC<|za eZ ?_)
      obtain⟨h16,H⟩|⟨h16,H⟩:=ab H
      ·refine gDo eZ h16 (za O<|gDo O h16<|za O<|gDo O h16<|za O<|gDo O h16 ?_)
       obtain⟨v17,h18,H⟩:=zk H
       refine qk O eZ h18 (gDo O h16<|z7 (m:=0) eZ O<|gDo O h16<|zV (e:=.int .i64 v17.Key) eZ O<|gDo O h16 ?_)
       obtain⟨v19,h20,H⟩:=zk H
       exact zF (u:=oI v19) eC ay (zgv h20) (Ec O<|Ec eZ En) (Vc Vp<|Vc Vp Vn) O (gDo O h16<|qj eZ eC<|zB O h16 eZ<|zl<|al ⟨decide (v19 < 0),H,zf [] (sR O O) am aj⟩)
      ·exact zb eZ h16 O (zb O h16 O<|zb O h16 O<|zb O h16 O<|zb O h16 O<|zb O h16 O<|zb O h16 O<|zb O h16 O<|zM O h16 eC<|zl<|al ⟨false,H,zf [] (sR O O) am aj⟩)
    ·exact zh eZ h10 (aH<|aC<|aC<|aT<|al ⟨s8.1,H,zf [] (sR O O) am aj⟩)
 ·refine aR (za O ?_)
  obtain⟨v21,h22,H⟩:=zk H
  refine zF (u:=oB v21) eC ay (K3 h22) (Ec eZ En) (Vc Vp Vn) O (qS eZ<|za eZ ?_)
  obtain⟨h23,H⟩|⟨h23,H⟩:=zA H
  ·refine gDo eZ (cN h23) (za O<|gDo O (cN h23) ?_)
   obtain⟨v24,h25,H⟩:=zk H
   exact zF (u:=oB v24) eC ay (xR h25) (Ec eZ En) (Vc Vp Vn) O (gDo O (cN h23)<|qS eZ<|zM O (cN h23) eZ<|zl<|al ⟨!v24,H,zf [] (sR O O) am aj⟩)
  ·exact zb eZ (cN<|nt h23) O (zb O (cN<|nt h23) O<|zb O (cN<|nt h23) O<|zB O (cN<|nt h23) eC<|zl<|al ⟨true,H,zf [] (sR O O) am aj⟩)
theorem zgD{a1:zp}{r:Int}(H:xh a1=some r):Fn Tryz.prog 223 (lent [.agg (zT a1)]) true [.int .i64 r]:=by
 refine ac zIT O ?_
 refine ak (zf [] (kv 0 (.agg<|zK a1) O O ar) am aj) ?_
 unfold xh at H
 unfold zGd
 refine aV (yd (n:=64) (m:=9) (cs:=zK a1) O eZ O O nZ<|za eC<|xQ<|aV<|za eC<|xQ<|zD (fun t2:Int=>k8 t2=some r) (fun t2=>mk [(3,oI t2)] [] noG) ?_ ?_)
 ·intro t2 H
  unfold k8 at H
  refine aV (za eZ<|za eZ<|xQ<|aq ?_)
  cases H
  exact eE O O
 ·refine aV (za eC<|xQ<|aw<|aG (fun s4:(Int×Int)=>mk [(1,.one<|.ptr<|.nm 64 0 0),(3,oI s4.1),(4,oI s4.2)] [(64,.vars 9<|zK a1)] noG) H (zf [] (sR O O) (blR O)<|bkR O O O) ?_)
  intro kb5 s4 H
  unfold kN at H
  refine aS (aV<|za O<|ze (m:=5) O O<|zn (q:=5) (c:=.d (.sl 2<|a1.Helds.map zx)) eZ bZ O O<|zX eZ (n:=a1.Helds.length) lm<|qj O eZ<|xQ ?_)
  obtain⟨h6,H⟩|⟨h6,H⟩:=ab H
  ·refine zi eZ h6 (au<|al<|aS<|aw<|aX<|za O<|ze (m:=3) O O<|zn (q:=3) (c:=.d (.sl 2<|a1.Cells.map zd)) eZ bZ O O<|ze (m:=5) O O<|zn (q:=5) (c:=.d (.sl 2<|a1.Helds.map zx)) eZ bZ O O<|za O ?_)
   obtain⟨v7,h8,H⟩:=zk H
   refine qk O eZ h8 (z7 (m:=1) eZ O<|zV (e:=.sl 2 (v7.Writes.map zd)) eZ O ?_)
   obtain⟨v9,h10,H⟩:=zk H
   exact zF (u:=oI v9) eC ay (zeM h10) (Ec O<|Ec eZ En) (Vc Vp<|Vc Vp Vn) O (qb O eZ<|za eZ<|zl<|aP<|al<|ak (zf [] (kr 3 O O<|kr 1 O O<|kr 4 O O ar) (blR O)<|ao (n:=64) O bZ O O aj)<|aR<|za O<|qb eZ eC<|za eZ<|zl<|al ⟨(IntKind.wrap .i64 (s4.1+v9),IntKind.wrap .i64 (s4.2+1)),H,zf [] (sR O O) (blR O)<|bkR O O O⟩)
  ·exact zh eZ h6 (aH<|aC<|aC<|aT<|al ⟨s4.1,H,zf [64] (sR O O) (blR O) aj⟩)
end Go.AW
