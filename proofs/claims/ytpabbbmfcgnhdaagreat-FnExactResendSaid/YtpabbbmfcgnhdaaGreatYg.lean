/- Regions in whatever order whose end is in order, or with loads beside appends: rules on written-out states. Lemmas. Conditions: none. -/
import Derived.Test.YtpabbbmfcgnhdaaGreatYe
set_option linter.unusedVariables false
namespace Go.AW
theorem zd0{P:Program}:∀{L:List RO} {s:St} {Q Q':St→Prop},Kj P L s Q→(∀s,Q s→Q' s)→Kj P L s Q'
 |[],_,_,_,h,hq=>hq _ h
 |_::_,_,_,_,h,hq=>k9 h fun _ h=>zd0 h hq
theorem AW.regt{P:Program}{nn:Nat}{L M:List RO}{s:St}{Qx:Exit→St→Prop}(h:RG P L s (fun s'=>RM P nn M s' (Qx .normal))):AW P nn (.regt L M) Qx s:=
 ⟨AW0.regt (zd0 h.out fun s' hs=>hs.out)⟩
structure RE(P:Program)(E:List Nat)(L:List RO)(s:St)(Q:St→Prop):Prop where
 out:zex P true E L s Q
theorem AW.regl{P:Program}{nn:Nat}{L:List RO}{s:St}{Qx:Exit→St→Prop}(E:List Nat)(h:RE P E L s (Qx .normal)):AW P nn (.regl L) Qx s:=⟨AW0.regl E h.out⟩
section
variable {P:Program} {l:bB} {h:bC} {g:Nat→V} {Q:St→Prop} {rs:List RO} {dep:Nat} {A E:List Nat} {d:Nat} {x y z:Opd} {v u:V}
theorem zjv{s:St}(H:Q s):RE P E [] s Q:=⟨H⟩
theorem ku{r:RO}{s:St}(hl:r.light=false)(ha:r.g.o.isApp=false)(H:RG P [r] s (fun s'=>RE P E rs s' Q)):RE P E (r::rs) s Q:=by
 have H':jt P (s.hide r.A) r.g fun out=>RE P E rs (s.app out) Q:=H.out;refine⟨fun _ hl'=>(by rw[hl] at hl';cases hl'),?_⟩;have e:vw true E r s=s:=by unfold vw;rw[hl];rfl
 rw[e];refine k9 H' fun out ho=>⟨fun _=>⟨fun ha'=>(by rw[ha] at ha';cases ha'),fun hl'=>(by rw[hl] at hl';cases hl')⟩,ho.out⟩
theorem zgw{t n i j m q:Nat}{cs:List C}{c:C}(hl:(⟨⟨none,.load d none<|.t t⟩,dep,A⟩:RO).light=true)(hx:Ev l (.t t) (.one<|.ptr<|.nm n i j))(hE:E.contains n=false)(hA:zir A n=true)(hb:LB h n (.vars m cs))(hcl:cs.all (C.cl E)=true)(hq:i * m+j=q)(hc:cs[q]? =some c)
  (K:RE P E rs (mk ((d,.one c)::l) h g) Q):RE P E (⟨⟨none,.load d none<|.t t⟩,dep,A⟩::rs) (mk l h g) Q:=by
 subst hq;have hlt:i * m+j < cs.length:=(List.getElem?_eq_some_iff.1 hc).1;have hd:(cs.drop (i * m+j)).take 1=[c]:=by
  have h1:=(List.getElem?_eq_some_iff.1 hc).2;rw[List.drop_eq_getElem_cons hlt,h1];rfl
 have hcc:c.cl E=true:=by
  rw[List.all_eq_true] at hcl;exact hcl c (List.mem_of_getElem? hc)
 have hsl:(mk l h g).sl t= .one (.ptr<|.nm n i j):=hx.lk;refine⟨fun _ _ t' ht=> ?_,?_⟩
 ·have:t'=t:=by simpa[GOp.reads,IOp.opds,Qg] using ht
  subst this;rw[hsl];show((match (.ptr (.nm n i j):C) with| .any=>false|_=>true)&&!(C.has E<|.ptr<|.nm n i j))=true;show(true&&!(E.contains n))=true;rw[hE];rfl
 ·have ev1:AW.ev ((vw true E ⟨⟨none,.load d none<|.t t⟩,dep,A⟩<|mk l h g).hide A) (.load d none<|.t t)=some ⟨[],some (d,.one c),[]⟩:=by
   have e0:vw true E ⟨⟨none,.load d none<|.t t⟩,dep,A⟩ (mk l h g)=(mk l h g).void E:=by unfold vw;rw[hl];rfl
   rw[e0];have hhp:(((mk l h g).void E).hide A).hp n=some (.vars m cs):=by
    rw[YS,zge hA];show(if E.contains n then none else zgK E (lkB h n))=_;rw[hE,show lkB h n=some (.vars m cs) from hb];show(if cs.all (C.cl E) then some (Blk.vars m cs) else none)=_;rw[hcl];rfl
   have hsl2:(((mk l h g).void E).hide A).ev (.t t)= .one (.ptr<|.nm n i j):=by
    show(((mk l h g).void E).hide A).sl t=_;rw[ZQ];exact hx.lk
   simp only[AW.ev,hsl2,St.rd,hhp];rw[if_pos (by omega),hd];rfl
  show Ym (AW.ev ((vw true E ⟨⟨none,.load d none<|.t t⟩,dep,A⟩<|mk l h g).hide A)<|.load d none<|.t t) _;rw[ev1];exact⟨fun _=>⟨fun h=>(by cases h),fun _ p hp=>(by cases hp;exact hcc)⟩,K.out⟩
theorem zgB{t n i j m off:Nat}(hl:(⟨⟨none,.faddr d off<|.t t⟩,dep,A⟩:RO).light=true)(hx:Ev l (.t t) (.one<|.ptr<|.nm n i j))(hE:E.contains n=false)(hm:j+off=m)
  (K:RE P E rs (mk ((d,.one<|.ptr<|.nm n i m)::l) h g) Q):RE P E (⟨⟨none,.faddr d off<|.t t⟩,dep,A⟩::rs) (mk l h g) Q:=by
 subst hm;have hsl:(mk l h g).sl t= .one (.ptr<|.nm n i j):=hx.lk;refine⟨fun _ _ t' ht=> ?_,?_⟩
 ·have:t'=t:=by simpa[GOp.reads,IOp.opds,Qg] using ht
  subst this;rw[hsl];show(true&&!(E.contains n))=true;rw[hE];rfl
 ·have ev1:AW.ev ((vw true E ⟨⟨none,.faddr d off<|.t t⟩,dep,A⟩<|mk l h g).hide A) (.faddr d off<|.t t)=some ⟨[],some (d,.one<|.ptr<|.nm n i (j+off)),[]⟩:=by
   have e0:vw true E ⟨⟨none,.faddr d off<|.t t⟩,dep,A⟩ (mk l h g)=(mk l h g).void E:=by unfold vw;rw[hl];rfl
   rw[e0];have hsl2:(((mk l h g).void E).hide A).ev (.t t)= .one (.ptr<|.nm n i j):=by
    show(((mk l h g).void E).hide A).sl t=_;rw[ZQ];exact hx.lk
   simp only[AW.ev,hsl2]
  show Ym (AW.ev ((vw true E ⟨⟨none,.faddr d off<|.t t⟩,dep,A⟩<|mk l h g).hide A)<|.faddr d off<|.t t) _;rw[ev1];exact⟨fun _=>⟨fun h=>(by cases h),fun _ p hp=>(by
   cases hp;show(true&&!(E.contains n))=true;rw[hE];rfl)⟩,K.out⟩
theorem zv3(hl:(⟨⟨none,.pick d (.c<|.one<|.d<|.bool true) (.c<|.one .zs)<|.c<|.one .zs⟩,dep,A⟩:RO).light=true)
  (K:RE P E rs (mk ((d,.one .zs)::l) h g) Q):RE P E (⟨⟨none,.pick d (.c<|.one<|.d<|.bool true) (.c<|.one .zs)<|.c<|.one .zs⟩,dep,A⟩::rs) (mk l h g) Q:=by
 refine⟨fun _ _ t' ht=> ?_,?_⟩
 ·simp[GOp.reads,IOp.opds,Qg] at ht
 ·have ev1:∀s:St,AW.ev s (.pick d (.c<|.one<|.d<|.bool true) (.c<|.one .zs)<|.c<|.one .zs)=some ⟨[],some (d,.one .zs),[]⟩:=fun s=>by
   simp[AW.ev,St.ev]
  simp only[jt,opA,ev1,Ym];exact⟨fun _=>⟨fun h=>(by cases h),fun _ p hp=>(by cases hp;rfl)⟩,K.out⟩
theorem zf2{α:Type}{f:α→List D}{sz bytes m:Nat}{zs:List D}{own:Bool}{yv:V}{ys:List α}{q:Nat}(hlt:(⟨⟨none,.app d sz bytes zs x y⟩,dep,A⟩:RO).light=false)(hEn:E.contains m=true)(ho:zs.all D.flat=own)(hn:d * 64=m)(hx:Ev l x (.one .zs))(hy:Ev l y yv)(he:El (qU A h) sz zs own yv (ys.map f))(hq:ys.length=q)(hle:q≤2147483648)(hby:bytes≤65536)(hf:NB (qU A h) m)
  (K:RE P E rs (mk ((d,.one<|.sl m 0 q)::l) ((m,.data sz (ys.map f) own none)::h) g) Q):RE P E (⟨⟨none,.app d sz bytes zs x y⟩,dep,A⟩::rs) (mk l h g) Q:=by
 subst hn;subst hq;subst ho;have hf:(mk l (qU A h) g).hp (d * 64)=none:=hf;have hev:AW.ev (mk l (qU A h) g) (.app d sz bytes zs x y)=some ⟨[],some (d,.one<|.sl (d * 64) 0 ys.length),[(d * 64,.data sz (ys.map f) (zs.all D.flat) none)]⟩:=by
  simp only[AW.ev,hx.ev,hy.ev,hf,he.st,Option.bind_some,List.length_map];rw[if_pos ⟨by unfold big;omega,hby⟩]
 refine⟨fun _ hl'=>(by rw[hlt] at hl';cases hl'),?_⟩;have e0:vw true E ⟨⟨none,.app d sz bytes zs x y⟩,dep,A⟩ (mk l h g)=mk l h g:=by unfold vw;rw[hlt];rfl
 rw[e0];show opA P ((mk l h g).hide A) (.app d sz bytes zs x y) _;rw[YL];show Ym (AW.ev _ _) _;rw[hev];refine⟨fun _=>⟨fun _ n' hn'=> ?_,fun hl'=>(by rw[hlt] at hl';cases hl')⟩,?_⟩
 ·have:n'=d * 64:=by simpa[Out.names] using hn'
  subst this;exact hEn
 ·exact K.out
end
end Go.AW
