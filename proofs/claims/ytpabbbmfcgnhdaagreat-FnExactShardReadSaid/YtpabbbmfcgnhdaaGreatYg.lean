/- Regions in whatever order whose end is in order, or with loads beside appends: rules on written-out states. Lemmas. Conditions: none. -/
import Derived.Test.YtpabbbmfcgnhdaaGreatYe
set_option linter.unusedVariables false
namespace Go.AW
theorem ziC{P:Program}:∀{L:List RO} {s:St} {Q Q':St→Prop},zbj P L s Q→(∀s,Q s→Q' s)→zbj P L s Q'
 |[],_,_,_,h,hq=>hq _ h
 |_::_,_,_,_,h,hq=>zcf h fun _ h=>ziC h hq
theorem AW.regt{P:Program}{nn:Nat}{L M:List RO}{s:St}{Qx:Exit→St→Prop}(h:RG P L s (fun s'=>RM P nn M s' (Qx .normal))):AW P nn (.regt L M) Qx s:=
 ⟨AW0.regt (ziC h.out fun s' hs=>hs.out)⟩
structure RE(P:Program)(E:List Nat)(L:List RO)(s:St)(Q:St→Prop):Prop where
 out:zh8 P true E L s Q
theorem AW.regl{P:Program}{nn:Nat}{L:List RO}{s:St}{Qx:Exit→St→Prop}(E:List Nat)(h:RE P E L s (Qx .normal)):AW P nn (.regl L) Qx s:=⟨AW0.regl E h.out⟩
section
variable {P:Program} {l:bH} {h:bI} {g:Nat→V} {Q:St→Prop} {rs:List RO} {dep:Nat} {A E:List Nat} {d:Nat} {x y z:Opd} {v u:V}
theorem zH0{s:St}(H:Q s):RE P E [] s Q:=⟨H⟩
theorem zix{r:RO}{s:St}(hl:r.light=false)(ha:r.g.o.isApp=false)(H:RG P [r] s (fun s'=>RE P E rs s' Q)):RE P E (r::rs) s Q:=by
 have H':yF P (s.hide r.A) r.g fun out=>RE P E rs (s.app out) Q:=H.out;refine⟨fun _ hl'=>(by rw[hl] at hl';cases hl'),?_⟩;have e:vw true E r s=s:=by unfold vw;rw[hl];rfl
 rw[e];refine zcf H' fun out ho=>⟨fun _=>⟨fun ha'=>(by rw[ha] at ha';cases ha'),fun hl'=>(by rw[hl] at hl';cases hl')⟩,ho.out⟩
theorem zon{t n i j m q:Nat}{cs:List C}{c:C}(hl:(⟨⟨none,.load d none<|.t t⟩,dep,A⟩:RO).light=true)(hx:Ev l (.t t) (.one<|.ptr<|.nm n i j))(hE:E.contains n=false)(hA:znz A n=true)(hb:LB h n (.vars m cs))(hcl:cs.all (C.cl E)=true)(hq:i * m+j=q)(hc:cs[q]? =some c)
  (K:RE P E rs (mk ((d,.one c)::l) h g) Q):RE P E (⟨⟨none,.load d none<|.t t⟩,dep,A⟩::rs) (mk l h g) Q:=by
 subst hq;have hlt:i * m+j < cs.length:=(List.getElem?_eq_some_iff.1 hc).1;have hd:(cs.drop (i * m+j)).take 1=[c]:=by
  have h1:=(List.getElem?_eq_some_iff.1 hc).2;rw[List.drop_eq_getElem_cons hlt,h1];rfl
 have hcc:c.cl E=true:=by
  rw[List.all_eq_true] at hcl;exact hcl c (List.mem_of_getElem? hc)
 have hsl:(mk l h g).sl t= .one (.ptr<|.nm n i j):=hx.lk;refine⟨fun _ _ t' ht=> ?_,?_⟩
 ·have:t'=t:=by simpa[GOp.reads,IOp.opds,zdx] using ht
  subst this;rw[hsl];show((match (.ptr (.nm n i j):C) with| .any=>false|_=>true)&&!(C.has E<|.ptr<|.nm n i j))=true;show(true&&!(E.contains n))=true;rw[hE];rfl
 ·have ev1:AW.ev ((vw true E ⟨⟨none,.load d none<|.t t⟩,dep,A⟩<|mk l h g).hide A) (.load d none<|.t t)=some ⟨[],some (d,.one c),[]⟩:=by
   have e0:vw true E ⟨⟨none,.load d none<|.t t⟩,dep,A⟩ (mk l h g)=(mk l h g).void E:=by unfold vw;rw[hl];rfl
   rw[e0];have hhp:(((mk l h g).void E).hide A).hp n=some (.vars m cs):=by
    rw[Ky,zkK hA];show(if E.contains n then none else zlq E (lkB h n))=_;rw[hE,show lkB h n=some (.vars m cs) from hb];show(if cs.all (C.cl E) then some (Blk.vars m cs) else none)=_;rw[hcl];rfl
   have hsl2:(((mk l h g).void E).hide A).ev (.t t)= .one (.ptr<|.nm n i j):=by
    show(((mk l h g).void E).hide A).sl t=_;rw[Xp];exact hx.lk
   simp only[AW.ev,hsl2,St.rd,hhp];rw[if_pos (by omega),hd];rfl
  show zb4 (AW.ev ((vw true E ⟨⟨none,.load d none<|.t t⟩,dep,A⟩<|mk l h g).hide A)<|.load d none<|.t t) _;rw[ev1];exact⟨fun _=>⟨fun h=>(by cases h),fun _ p hp=>(by cases hp;exact hcc)⟩,K.out⟩
theorem zur{α:Type}{f:α→List D}{sz bytes n len q:Nat}{zs:List D}{own:Bool}{cp:Option Nat}{yv:V}{xs ys:List α}{l':bH}{h':bI}{gl:bH}(hlt:(⟨⟨none,.app d sz bytes zs x y⟩,dep,A⟩:RO).light=false)(hEn:E.contains n=true)(hx:Ev l x (.one<|.sl n 0 len))(hy:Ev l y yv)(hb:LB (qo A h) n (.data sz (xs.map f) own cp))(hl:xs.length=len)(he:El (qo A h) sz zs own yv (ys.map f))(hq:(xs++ys).length=q)(hle:q≤2147483648)(hby:bytes≤65536)(hnn:n < 1000000)
  (h1:erL [n] l l') (h2:erH [n] h h') (h3:GK [n] gl) (K:RE P E rs (mk ((d,.one<|.sl n 0 q)::l') ((n,.data sz ((xs++ys).map f) own none)::h')<|lk gl) Q):RE P E (⟨⟨none,.app d sz bytes zs x y⟩,dep,A⟩::rs) (mk l h<|lk gl) Q:=by
 subst hl;subst hq;have hb:(mk l (qo A h)<|lk gl).hp n=some (.data sz (xs.map f) own cp):=hb;have hev:AW.ev (mk l (qo A h)<|lk gl) (.app d sz bytes zs x y)=some ⟨[n],some (d,.one<|.sl n 0 (xs++ys).length),[(n,.data sz ((xs++ys).map f) own none)]⟩:=by
  simp only[AW.ev,hx.ev,hy.ev,hb,he.st,Option.bind_some,List.length_map];rw[if_pos ⟨trivial,trivial,by unfold big;simp only[List.length_append] at hle;omega,hby,hnn⟩];simp
 have hst:(mk l h<|lk gl).app ⟨[n],some (d,.one<|.sl n 0 (xs++ys).length),[(n,.data sz ((xs++ys).map f) own none)]⟩=mk ((d,.one<|.sl n 0 (xs++ys).length)::l') ((n,.data sz ((xs++ys).map f) own none)::h') (lk gl):=by
  refine St.ext' (fun t=> ?_) (fun k=> ?_) ?_
  ·show(if t=d then _ else(lk l t).er [n])=_;unfold mk;simp only[AW.lk];split
   ·rfl
   ·exact(h1.lk t).symm
  ·show(if k=n then _ else(if [n].contains k then none else(lkB h k).map (Blk.er [n])))=_;unfold mk;simp only[lkB];split
   ·rfl
   ·exact(h2.lk k).symm
  ·show(fun t=>(lk gl t).er [n])=lk gl;funext t;exact h3.lk t
 refine⟨fun _ hl'=>(by rw[hlt] at hl';cases hl'),?_⟩;have e0:vw true E ⟨⟨none,.app d sz bytes zs x y⟩,dep,A⟩ (mk l h<|lk gl)=mk l h (lk gl):=by unfold vw;rw[hlt];rfl
 rw[e0];show opA P ((mk l h<|lk gl).hide A) (.app d sz bytes zs x y) _;rw[JC];show zb4 (AW.ev _ _) _;rw[hev];refine⟨fun _=>⟨fun _ n' hn'=> ?_,fun hl'=>(by rw[hlt] at hl';cases hl')⟩,?_⟩
 ·have:n'=n:=by simpa[Out.names] using hn'
  subst this;exact hEn
 ·show zh8 P true E rs ((mk l h<|lk gl).app _) Q;rw[hst];exact K.out
end
end Go.AW
