/- Regions in whatever order whose end is in order, or with loads beside appends: rules on written-out states. Lemmas. Conditions: none. -/
import Derived.Test.YtpabbbmfcgnhdaaGreatYe
set_option linter.unusedVariables false
namespace Go.AW
theorem ze1{P:Program}:∀{L:List RO} {s:St} {Q Q':St→Prop},Ka P L s Q→(∀s,Q s→Q' s)→Ka P L s Q'
 |[],_,_,_,h,hq=>hq _ h
 |_::_,_,_,_,h,hq=>KC h fun _ h=>ze1 h hq
theorem AW.regt{P:Program}{nn:Nat}{L M:List RO}{s:St}{Qx:Exit→St→Prop}(h:RG P L s (fun s'=>RM P nn M s' (Qx .normal))):AW P nn (.regt L M) Qx s:=
 ⟨AW0.regt (ze1 h.out fun s' hs=>hs.out)⟩
structure RE(P:Program)(E:List Nat)(L:List RO)(s:St)(Q:St→Prop):Prop where
 out:zeB P true E L s Q
theorem AW.regl{P:Program}{nn:Nat}{L:List RO}{s:St}{Qx:Exit→St→Prop}(E:List Nat)(h:RE P E L s (Qx .normal)):AW P nn (.regl L) Qx s:=⟨AW0.regl E h.out⟩
section
variable {P:Program} {l:bg} {h:bh} {g:Nat→V} {Q:St→Prop} {rs:List RO} {dep:Nat} {A E:List Nat} {d:Nat} {x y z:Opd} {v u:V}
theorem zcO{s:St}(H:Q s):RE P E [] s Q:=⟨H⟩
theorem qx{r:RO}{s:St}(hl:r.light=false)(ha:r.turns=false)(H:RG P [r] s (fun s'=>RE P E rs s' Q)):RE P E (r::rs) s Q:=by
 have H':je P (s.hide r.A) r.g fun out=>RE P E rs (s.app out) Q:=H.out;refine⟨fun _ hl'=>(by rw[hl] at hl';cases hl'),?_⟩;have e:vw true E r s=s:=by unfold vw;rw[hl];rfl
 rw[e];refine KC H' fun out ho=>⟨fun _=>⟨fun ha'=>(by rw[ha] at ha';cases ha'),fun hl'=>(by rw[hl] at hl';cases hl')⟩,ho.out⟩
theorem Kn{t n i j m q:Nat}{cs:List C}{c:C}(hl:(⟨⟨none,.load d none<|.t t⟩,dep,A⟩:RO).light=true)(hx:Ev l (.t t) (.one<|.ptr<|.nm n i j))(hE:E.contains n=false)(hA:zhU A n=true)(hb:LB h n (.vars m cs))(hcl:cs.all (C.cl E)=true)(hq:i * m+j=q)(hc:cs[q]? =some c)
  (K:RE P E rs (mk ((d,.one c)::l) h g) Q):RE P E (⟨⟨none,.load d none<|.t t⟩,dep,A⟩::rs) (mk l h g) Q:=by
 subst hq;have hlt:i * m+j < cs.length:=(List.getElem?_eq_some_iff.1 hc).1;have hd:(cs.drop (i * m+j)).take 1=[c]:=by
  have h1:=(List.getElem?_eq_some_iff.1 hc).2;rw[List.drop_eq_getElem_cons hlt,h1];rfl
 have hcc:c.cl E=true:=by
  rw[List.all_eq_true] at hcl;exact hcl c (List.mem_of_getElem? hc)
 have hsl:(mk l h g).sl t= .one (.ptr<|.nm n i j):=hx.lk;refine⟨fun _ _ t' ht=> ?_,?_⟩
 ·have:t'=t:=by simpa[GOp.reads,IOp.opds,jX] using ht
  subst this;rw[hsl];show((match (.ptr (.nm n i j):C) with| .any=>false|_=>true)&&!(C.has E<|.ptr<|.nm n i j))=true;show(true&&!(E.contains n))=true;rw[hE];rfl
 ·have ev1:AW.ev ((vw true E ⟨⟨none,.load d none<|.t t⟩,dep,A⟩<|mk l h g).hide A) (.load d none<|.t t)=some ⟨[],some (d,.one c),[]⟩:=by
   have e0:vw true E ⟨⟨none,.load d none<|.t t⟩,dep,A⟩ (mk l h g)=(mk l h g).void E:=by unfold vw;rw[hl];rfl
   rw[e0];have hhp:(((mk l h g).void E).hide A).hp n=some (.vars m cs):=by
    rw[xK,zhv hA];show(if E.contains n then none else zim E (lkB h n))=_;rw[hE,show lkB h n=some (.vars m cs) from hb];show(if cs.all (C.cl E) then some (Blk.vars m cs) else none)=_;rw[hcl];rfl
   have hsl2:(((mk l h g).void E).hide A).ev (.t t)= .one (.ptr<|.nm n i j):=by
    show(((mk l h g).void E).hide A).sl t=_;rw[j9];exact hx.lk
   simp only[AW.ev,hsl2,St.rd,hhp];rw[if_pos (by omega),hd];rfl
  show Qb (AW.ev ((vw true E ⟨⟨none,.load d none<|.t t⟩,dep,A⟩<|mk l h g).hide A)<|.load d none<|.t t) _;rw[ev1];exact⟨fun _=>⟨fun _ n' hn'=>(by simp[Out.names] at hn'),fun _ p hp=>(by cases hp;exact hcc)⟩,K.out⟩
theorem zF5{t:Nat}{v:V}(hl:(⟨⟨none,.mov d<|.t t⟩,dep,A⟩:RO).light=true)(hx:Ev l (.t t) v)(hc:v.cl E=true)
  (K:RE P E rs (mk ((d,v)::l) h g) Q):RE P E (⟨⟨none,.mov d<|.t t⟩,dep,A⟩::rs) (mk l h g) Q:=by
 have hsl:(mk l h g).sl t=v:=hx.lk;refine⟨fun _ _ t' ht=> ?_,?_⟩
 ·have:t'=t:=by simpa[GOp.reads,IOp.opds,jX] using ht
  subst this;rw[hsl];exact hc
 ·have ev1:AW.ev ((vw true E ⟨⟨none,.mov d<|.t t⟩,dep,A⟩<|mk l h g).hide A) (.mov d<|.t t)=some ⟨[],some (d,v),[]⟩:=by
   have e0:vw true E ⟨⟨none,.mov d<|.t t⟩,dep,A⟩ (mk l h g)=(mk l h g).void E:=by unfold vw;rw[hl];rfl
   rw[e0];have hsl2:(((mk l h g).void E).hide A).ev (.t t)=v:=by
    show(((mk l h g).void E).hide A).sl t=_;rw[j9];exact hx.lk
   simp only[AW.ev,hsl2]
  simp only[je,opA,ev1,Qb];exact⟨fun _=>⟨fun _ n' hn'=>(by simp[Out.names] at hn'),fun _ p hp=>(by cases hp;exact hc)⟩,K.out⟩
theorem zla{t n i j m off:Nat}(hl:(⟨⟨none,.faddr d off<|.t t⟩,dep,A⟩:RO).light=true)(hx:Ev l (.t t) (.one<|.ptr<|.nm n i j))(hE:E.contains n=false)(hm:j+off=m)
  (K:RE P E rs (mk ((d,.one<|.ptr<|.nm n i m)::l) h g) Q):RE P E (⟨⟨none,.faddr d off<|.t t⟩,dep,A⟩::rs) (mk l h g) Q:=by
 subst hm;have hsl:(mk l h g).sl t= .one (.ptr<|.nm n i j):=hx.lk;refine⟨fun _ _ t' ht=> ?_,?_⟩
 ·have:t'=t:=by simpa[GOp.reads,IOp.opds,jX] using ht
  subst this;rw[hsl];show(true&&!(E.contains n))=true;rw[hE];rfl
 ·have ev1:AW.ev ((vw true E ⟨⟨none,.faddr d off<|.t t⟩,dep,A⟩<|mk l h g).hide A) (.faddr d off<|.t t)=some ⟨[],some (d,.one<|.ptr<|.nm n i (j+off)),[]⟩:=by
   have e0:vw true E ⟨⟨none,.faddr d off<|.t t⟩,dep,A⟩ (mk l h g)=(mk l h g).void E:=by unfold vw;rw[hl];rfl
   rw[e0];have hsl2:(((mk l h g).void E).hide A).ev (.t t)= .one (.ptr<|.nm n i j):=by
    show(((mk l h g).void E).hide A).sl t=_;rw[j9];exact hx.lk
   simp only[AW.ev,hsl2]
  show Qb (AW.ev ((vw true E ⟨⟨none,.faddr d off<|.t t⟩,dep,A⟩<|mk l h g).hide A)<|.faddr d off<|.t t) _;rw[ev1];exact⟨fun _=>⟨fun _ n' hn'=>(by simp[Out.names] at hn'),fun _ p hp=>(by
   cases hp;show(true&&!(E.contains n))=true;rw[hE];rfl)⟩,K.out⟩
theorem zFz(hl:(⟨⟨none,.pick d (.c<|.one<|.d<|.bool true) (.c<|.one .zs)<|.c<|.one .zs⟩,dep,A⟩:RO).light=true)
  (K:RE P E rs (mk ((d,.one .zs)::l) h g) Q):RE P E (⟨⟨none,.pick d (.c<|.one<|.d<|.bool true) (.c<|.one .zs)<|.c<|.one .zs⟩,dep,A⟩::rs) (mk l h g) Q:=by
 refine⟨fun _ _ t' ht=> ?_,?_⟩
 ·simp[GOp.reads,IOp.opds,jX] at ht
 ·have ev1:∀s:St,AW.ev s (.pick d (.c<|.one<|.d<|.bool true) (.c<|.one .zs)<|.c<|.one .zs)=some ⟨[],some (d,.one .zs),[]⟩:=fun s=>by
   simp[AW.ev,St.ev]
  simp only[je,opA,ev1,Qb];exact⟨fun _=>⟨fun _ n' hn'=>(by simp[Out.names] at hn'),fun _ p hp=>(by cases hp;rfl)⟩,K.out⟩
theorem zFU{α:Type}{f:α→List D}{sz t:Nat}{i:Opd}{k:IntKind}{a:Int}{xs:List α}{u:α}(hl:(⟨⟨none,.iaddr d sz (.t t) i⟩,dep,A⟩:RO).light=true)(hx:Ev l (.t t) (.one<|.d<|.sl sz<|xs.map f))(hy:Ev l i (.one<|.d<|.int k a))(hi:idx xs a=some u)
  (K:RE P E rs (mk ((d,.one<|.ptr<|.bd (f u) 0)::l) h g) Q):RE P E (⟨⟨none,.iaddr d sz (.t t) i⟩,dep,A⟩::rs) (mk l h g) Q:=by
 obtain⟨h0,h1,_⟩:=zaq hi;refine⟨fun _ _ t' ht=> ?_,?_⟩
 ·have:t'=t∨i= .t t':=by
   cases i with
   |c v=>simpa[GOp.reads,IOp.opds,jX] using ht
   |t n=>
    have:t'=t∨t'=n:=by simpa[GOp.reads,IOp.opds,jX] using ht
    exact this.imp id (fun e=>by rw[e])
  rcases this with rfl|rfl
  ·rw[show(mk l h g).sl t'= .one (.d<|.sl sz<|xs.map f) from hx.lk];rfl
  ·rw[show(mk l h g).sl t'= .one (.d<|.int k a) from hy.lk];rfl
 ·have ev1:AW.ev ((vw true E ⟨⟨none,.iaddr d sz (.t t) i⟩,dep,A⟩<|mk l h g).hide A) (.iaddr d sz (.t t) i)=some ⟨[],some (d,.one<|.ptr<|.bd (f u) 0),[]⟩:=by
   have e0:vw true E ⟨⟨none,.iaddr d sz (.t t) i⟩,dep,A⟩ (mk l h g)=(mk l h g).void E:=by unfold vw;rw[hl];rfl
   rw[e0];have e1:∀o:Opd,(((mk l h g).void E).hide A).ev o=(mk l h g).ev o:=fun o=>by
    cases o with
    |c v=>rfl
    |t n=>show(((mk l h g).void E).hide A).sl n=_;rw[j9];rfl
   simp only[AW.ev,e1,hx.ev,hy.ev,St.at];rw[if_pos ⟨trivial,h0⟩];simp[h1]
  show Qb (AW.ev ((vw true E ⟨⟨none,.iaddr d sz (.t t) i⟩,dep,A⟩<|mk l h g).hide A)<|.iaddr d sz (.t t) i) _;rw[ev1];exact⟨fun _=>⟨fun _ n' hn'=>(by simp[Out.names] at hn'),fun _ p hp=>(by cases hp;rfl)⟩,K.out⟩
theorem zkl{cs:List D}{t j n:Nat}{es:List C}(hl:(⟨⟨none,.load d (some n)<|.t t⟩,dep,A⟩:RO).light=true)(hx:Ev l (.t t) (.one<|.ptr<|.bd cs j))(he:(if j+n≤cs.length then some (((cs.drop j).take n).map C.d) else none)=some es)
  (K:RE P E rs (mk ((d,.agg es)::l) h g) Q):RE P E (⟨⟨none,.load d (some n)<|.t t⟩,dep,A⟩::rs) (mk l h g) Q:=by
 refine⟨fun _ _ t' ht=> ?_,?_⟩
 ·have:t'=t:=by simpa[GOp.reads,IOp.opds,jX] using ht
  subst this;rw[show(mk l h g).sl t'= .one (.ptr<|.bd cs j) from hx.lk];rfl
 ·have ev1:AW.ev ((vw true E ⟨⟨none,.load d (some n)<|.t t⟩,dep,A⟩<|mk l h g).hide A) (.load d (some n)<|.t t)=some ⟨[],some (d,.agg es),[]⟩:=by
   have e0:vw true E ⟨⟨none,.load d (some n)<|.t t⟩,dep,A⟩ (mk l h g)=(mk l h g).void E:=by unfold vw;rw[hl];rfl
   rw[e0];have hsl2:(((mk l h g).void E).hide A).ev (.t t)= .one (.ptr<|.bd cs j):=by
    show(((mk l h g).void E).hide A).sl t=_;rw[j9];exact hx.lk
   simp only[AW.ev,hsl2,St.rd];rw[he];rfl
  show Qb (AW.ev ((vw true E ⟨⟨none,.load d (some n)<|.t t⟩,dep,A⟩<|mk l h g).hide A)<|.load d (some n)<|.t t) _;rw[ev1];refine⟨fun _=>⟨fun _ n' hn'=>(by simp[Out.names] at hn'),fun _ p hp=> ?_⟩,K.out⟩;cases hp;show es.all (C.cl E)=true;split at he
  ·cases he;rw[List.all_eq_true];intro c hc;obtain⟨x,_,rfl⟩:=List.mem_map.1 hc;rfl
  ·cases he
theorem Kb{n i j m k':Nat}{zs:List D}{cs ds es:List C}(hlt:(⟨⟨none,.store k' zs x y⟩,dep,A⟩:RO).light=false)(hE:E.contains n=true)(hx:Ev l x (.one<|.ptr<|.nm n i j))(hy:Ev l y v)(hv:v.cells=some ds)(hl:ds.length=k')(hb:LB (zZ A h) n (.vars m cs))
  (hc:(if i * m+j+ds.length≤cs.length then some (splice cs (i * m+j) ds) else none)=some es) (K:RE P E rs (mk l ((n,.vars m es)::h) g) Q):RE P E (⟨⟨none,.store k' zs x y⟩,dep,A⟩::rs) (mk l h g) Q:=by
 have hb:(mk l (zZ A h) g).hp n=some (.vars m cs):=hb;split at hc
 ·rename_i hle;cases hc;have hev:AW.ev (mk l (zZ A h) g) (.store k' zs x y)=some ⟨[],none,[(n,.vars m<|splice cs (i * m+j) ds)]⟩:=by
   simp only[AW.ev,hx.ev,hy.ev,hv,Option.bind_some,hl,if_true,St.wr,hb];rw[hl] at hle;rw[if_pos hle];rfl
  refine⟨fun _ hl'=>(by rw[hlt] at hl';cases hl'),?_⟩;have e0:vw true E ⟨⟨none,.store k' zs x y⟩,dep,A⟩ (mk l h g)=mk l h g:=by unfold vw;rw[hlt];rfl
  rw[e0];show opA P ((mk l h g).hide A) (.store k' zs x y) _;rw[Zx];show Qb (AW.ev _ _) _;rw[hev];refine⟨fun _=>⟨fun _ n' hn'=> ?_,fun hl'=>(by rw[hlt] at hl';cases hl')⟩,K.out⟩;have:n'=n:=by simpa[Out.names] using hn'
  subst this;exact hE
 ·cases hc
theorem zwB{α:Type}{f:α→List D}{sz bytes n len q:Nat}{zs:List D}{own:Bool}{cp:Option Nat}{yv:V}{xs ys:List α}{l':bg}{h':bh}{gl:bg}(hlt:(⟨⟨none,.app d sz bytes zs x y⟩,dep,A⟩:RO).light=false)(hEn:E.contains n=true)(hx:Ev l x (.one<|.sl n 0 len))(hy:Ev l y yv)(hb:LB (zZ A h) n (.data sz (xs.map f) own cp))(hl:xs.length=len)(he:El (zZ A h) sz zs own yv (ys.map f))(hq:(xs++ys).length=q)(hle:q≤2147483648)(hby:bytes≤65536)(hnn:n < 1000000)
  (h1:erL [n] l l') (h2:erH [n] h h') (h3:GK [n] gl) (K:RE P E rs (mk ((d,.one<|.sl n 0 q)::l') ((n,.data sz ((xs++ys).map f) own none)::h')<|lk gl) Q):RE P E (⟨⟨none,.app d sz bytes zs x y⟩,dep,A⟩::rs) (mk l h<|lk gl) Q:=by
 subst hl;subst hq;have hb:(mk l (zZ A h)<|lk gl).hp n=some (.data sz (xs.map f) own cp):=hb;have hev:AW.ev (mk l (zZ A h)<|lk gl) (.app d sz bytes zs x y)=some ⟨[n],some (d,.one<|.sl n 0 (xs++ys).length),[(n,.data sz ((xs++ys).map f) own none)]⟩:=by
  simp only[AW.ev,hx.ev,hy.ev,hb,he.st,Option.bind_some,List.length_map];rw[if_pos ⟨trivial,trivial,by unfold big;simp only[List.length_append] at hle;omega,hby,hnn⟩];simp
 have hst:(mk l h<|lk gl).app ⟨[n],some (d,.one<|.sl n 0 (xs++ys).length),[(n,.data sz ((xs++ys).map f) own none)]⟩=mk ((d,.one<|.sl n 0 (xs++ys).length)::l') ((n,.data sz ((xs++ys).map f) own none)::h') (lk gl):=by
  refine St.ext' (fun t=> ?_) (fun k=> ?_) ?_
  ·show(if t=d then _ else(lk l t).er [n])=_;unfold mk;simp only[AW.lk];split
   ·rfl
   ·exact(h1.lk t).symm
  ·show(if k=n then _ else(if [n].contains k then none else(lkB h k).map (Blk.er [n])))=_;unfold mk;simp only[lkB];split
   ·rfl
   ·exact(h2.lk k).symm
  ·show(fun t=>(lk gl t).er [n])=lk gl;funext t;exact h3.lk t
 refine⟨fun _ hl'=>(by rw[hlt] at hl';cases hl'),?_⟩;have e0:vw true E ⟨⟨none,.app d sz bytes zs x y⟩,dep,A⟩ (mk l h<|lk gl)=mk l h (lk gl):=by unfold vw;rw[hlt];rfl
 rw[e0];show opA P ((mk l h<|lk gl).hide A) (.app d sz bytes zs x y) _;rw[Zx];show Qb (AW.ev _ _) _;rw[hev];refine⟨fun _=>⟨fun _ n' hn'=> ?_,fun hl'=>(by rw[hlt] at hl';cases hl')⟩,?_⟩
 ·have:n'=n:=by simpa[Out.names] using hn'
  subst this;exact hEn
 ·show zeB P true E rs ((mk l h<|lk gl).app _) Q;rw[hst];exact K.out
theorem zkt{α:Type}{f:α→List D}{sz bytes m:Nat}{zs:List D}{own:Bool}{yv:V}{ys:List α}{q:Nat}(hlt:(⟨⟨none,.app d sz bytes zs x y⟩,dep,A⟩:RO).light=false)(hEn:E.contains m=true)(ho:zs.all D.flat=own)(hn:d * 64=m)(hx:Ev l x (.one .zs))(hy:Ev l y yv)(he:El (zZ A h) sz zs own yv (ys.map f))(hq:ys.length=q)(hle:q≤2147483648)(hby:bytes≤65536)(hf:NB (zZ A h) m)
  (K:RE P E rs (mk ((d,.one<|.sl m 0 q)::l) ((m,.data sz (ys.map f) own none)::h) g) Q):RE P E (⟨⟨none,.app d sz bytes zs x y⟩,dep,A⟩::rs) (mk l h g) Q:=by
 subst hn;subst hq;subst ho;have hf:(mk l (zZ A h) g).hp (d * 64)=none:=hf;have hev:AW.ev (mk l (zZ A h) g) (.app d sz bytes zs x y)=some ⟨[],some (d,.one<|.sl (d * 64) 0 ys.length),[(d * 64,.data sz (ys.map f) (zs.all D.flat) none)]⟩:=by
  simp only[AW.ev,hx.ev,hy.ev,hf,he.st,Option.bind_some,List.length_map];rw[if_pos ⟨by unfold big;omega,hby⟩]
 refine⟨fun _ hl'=>(by rw[hlt] at hl';cases hl'),?_⟩;have e0:vw true E ⟨⟨none,.app d sz bytes zs x y⟩,dep,A⟩ (mk l h g)=mk l h g:=by unfold vw;rw[hlt];rfl
 rw[e0];show opA P ((mk l h g).hide A) (.app d sz bytes zs x y) _;rw[Zx];show Qb (AW.ev _ _) _;rw[hev];refine⟨fun _=>⟨fun _ n' hn'=> ?_,fun hl'=>(by rw[hlt] at hl';cases hl')⟩,?_⟩
 ·have:n'=d * 64:=by simpa[Out.names] using hn'
  subst this;exact hEn
 ·exact K.out
end
end Go.AW
