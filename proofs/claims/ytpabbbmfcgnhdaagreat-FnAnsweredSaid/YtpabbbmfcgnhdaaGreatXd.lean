/- A call to which blocks are given, or lent to be written. Lemmas. Conditions: none. -/
import Derived.Test.YtpabbbmfcgnhdaaGreatXc
set_option linter.unusedVariables false
namespace Go.AW
variable {cx:Cx} {m:M} {s:St} {a:Act} {w:World} {o:Oper} {K:Act→World→Prop} {Q:Exit→Act→World→Prop}
def Whole(cx:Cx)(m:M)(s:St)(ns:List Nat)(b:Nat):Prop:=cx.mine b∧∃n∈ns,∃f,m.inf n=some f∧(f.blk=some b→0 < f.cap∨(∃sz cs,s.hp n=some (.vars sz cs))∨∃ds,s.hp n=some (.own ds))∧m.own b=some n
theorem Whole.mono{ns ns':List Nat}{b:Nat}(h:Whole cx m s ns b)(hs:∀n∈ns,n∈ns'):Whole cx m s ns' b:=by
 obtain⟨h1,n,h2,h3⟩:=h;exact⟨h1,n,hs n h2,h3⟩
theorem zgM(R:zt cx m s a w){c:C}{u:Value}{d:D}{ns:List Nat}(H:qE m w.heap c u)(h:cO s c d ns):d.isCell=true∧∃bs,Rd true w.heap d u bs∧bs.Nodup∧∀b∈bs,Whole cx m s ns b:=by
 obtain⟨h1,H⟩:=H;unfold cO at h;split at h
 ·obtain⟨hf,rfl,rfl⟩:=h;obtain⟨bs,hr,_⟩:=H;have:=zdg hf hr;subst this;exact⟨(by cases d<;>first|rfl|cases hf),[],zdK hf hr,List.nodup_nil,by simp⟩
 ·obtain⟨⟨sz,rfl⟩,rfl⟩:=h;obtain⟨ad,rfl⟩:=H;exact⟨rfl,[],by simp only[Rd];exact⟨ad,0,rfl,.inl (by simp)⟩,List.nodup_nil,by simp⟩
 ·rename_i n off len;obtain⟨rfl,rfl,sz,xs,cp,hk,rfl,hfl,rfl⟩:=h;obtain⟨f,hf,hcap,ad,rfl,had⟩:=H;have HN:=R.hp n;rw[hf,hk] at HN;obtain⟨hfs,HN⟩:=HN.data;refine⟨rfl,?_⟩;rcases HN with⟨hb,hc,rfl⟩|⟨b,cells,T,bs,hb,hm,ho,hh,hfit,hr,h7,h8⟩
  ·exact⟨[],by simp only[Rd];exact⟨ad,_,rfl,.inl (by simp[hc])⟩,List.nodup_nil,by simp⟩
  ·obtain⟨hn1,hn2⟩:=h7 rfl;by_cases h0:0 < f.cap
   ·obtain⟨b',hb',rfl⟩:=had h0;rw[hb] at hb';cases hb';refine⟨b::bs,?_,?_,fun c hc=> ?_⟩
    ·simp only[Rd];refine⟨_,_,rfl,.inr ⟨b,0,cells,T,(0,0),bs,by simp,hh,rfl,by omega,?_,fun _=>⟨rfl,rfl⟩,by simpa using hr⟩⟩;rw[←hfs];simpa using hfit
    ·rw[List.nodup_cons];exact⟨fun hmem=>(hn2 b hmem).2 hb,hn1⟩
    ·rcases List.mem_cons.1 hc with rfl|hc
     ·exact⟨hm,n,by simp,f,hf,fun _=> .inl h0,ho⟩
     ·have hown:=(hn2 c hc).1;rcases hfl with hfl|hfl
      ·have:=zb8 hfl hr;subst this;cases hc
      ·exact⟨R.mine_of_own hown hfl,n,by simp,f,hf,fun e=>absurd e (hn2 c hc).2,hown⟩
   ·have:xs=[]:=List.eq_nil_of_length_eq_zero (by omega);subst this;exact⟨[],by simp only[Rd];exact⟨ad,_,rfl,.inl (by simp;omega)⟩,List.nodup_nil,by simp⟩
 ·rename_i n i j;obtain⟨rfl,rfl,rfl,cs,hs,rfl⟩:=h;rcases hs with⟨hs,hf⟩|⟨hs,hlt⟩
  ·obtain⟨b,f,hr,hm,hi,_,ho⟩:=zgn R hs hf H;exact⟨rfl,[b],hr,by simp,fun c hc=>by
    simp only[List.mem_singleton] at hc;subst hc;exact⟨hm,n,by simp,f,hi,fun _=> .inr (.inl ⟨_,_,hs⟩),ho⟩⟩
  ·obtain⟨b,bs,f,hr,hnd,hi,_,hm,ho,hbs⟩:=zfi R hs H;refine⟨rfl,b::bs,hr,hnd,fun c hc=> ?_⟩;rcases List.mem_cons.1 hc with rfl|hc
   ·exact⟨hm,n,by simp,f,hi,fun _=> .inr (.inr ⟨_,hs⟩),ho⟩
   ·exact⟨R.mine_of_own (hbs c hc).1 hlt,n,by simp,f,hi,fun e=>absurd e (hbs c hc).2,(hbs c hc).1⟩
 ·exact h.elim
theorem zbG{ns ms bs cs:List Nat}(hn:(ns++ms).Nodup)(h1:bs.Nodup)(h2:cs.Nodup)(w1:∀b∈bs,Whole cx m s ns b)(w2:∀b∈cs,Whole cx m s ms b):(bs++cs).Nodup∧∀b∈bs++cs,Whole cx m s (ns++ms) b:=by
 refine⟨?_,fun b hb=> ?_⟩
 ·rw[List.nodup_append];refine⟨h1,h2,fun b hb c hc e=> ?_⟩;subst e;obtain⟨_,n,hn1,f,_,_,e1⟩:=w1 b hb;obtain⟨_,k,hk1,f',_,_,e2⟩:=w2 b hc;rw[e1] at e2;cases e2;rw[List.nodup_append] at hn;exact hn.2.2 n hn1 n hk1 rfl
 ·rw[List.mem_append] at hb;exact hb.elim (fun hb=>(w1 b hb).mono (fun n hn=>by simp[hn])) (fun hb=>(w2 b hb).mono (fun n hn=>by simp[hn]))
theorem XQ(R:zt cx m s a w):∀{cs:List C} {us:List Value} {ds:List D} {ns:List Nat},ns.Nodup→zl (qE m w.heap) cs us→cOs s cs ds ns→∃bs,RdL true w.heap ds us bs∧bs.Nodup∧∀b∈bs,Whole cx m s ns b
 |[],[],[],ns,_,_,h=>by
  have h:ns=[]:=h;subst h;exact⟨[],by simp[RdL],List.nodup_nil,by simp⟩
 |c::cs,u::us,d::ds,ns,hnd,H,h=>by
  obtain⟨x,y,rfl,h1,h2⟩:=h;have hnd':=List.nodup_append.1 hnd;obtain⟨hc,b1,r1,n1,o1⟩:=zgM R H.1 h1;obtain⟨b2,r2,n2,o2⟩:=XQ R hnd'.2.1 H.2 h2;exact⟨b1++b2,by simp only[RdL];exact⟨u,us,b1,b2,rfl,rfl,hc,r1,r2⟩,zbG hnd n1 n2 o1 o2⟩
 |[],[],_::_,_,_,_,h=>h.elim
 |_::_,_::_,[],_,_,_,h=>h.elim
 |[],_::_,_,_,_,H,_=>H.elim
 |_::_,[],_,_,_,H,_=>H.elim
theorem zkp(R:zt cx m s a w){v:V}{u:Value}{d:D}{ns:List Nat}(hnd:ns.Nodup)(H:qK m w.heap v u)(h:vO s v d ns):∃bs,Rd true w.heap d u bs∧bs.Nodup∧∀b∈bs,Whole cx m s ns b:=by
 unfold vO at h;split at h
 ·exact(zgM R H h).2
 ·obtain⟨vs,rfl,hall⟩:=H;obtain⟨bs,h1,h2⟩:=XQ R hnd hall h;exact⟨bs,by simp only[Rd];exact⟨vs,rfl,h1⟩,h2⟩
 ·exact h.elim
def xF(s:St):List V→List Ar→List Nat→List Nat→Prop
 |[],[],ns,us=>ns=[]∧us=[]
 |v::vs,a::as,ns,us=>(match a.md with
   | .b=>∃us',vD s v=some a.d∧us=KW s v++us'∧xF s vs as ns us'
   | .z=>v= .one .zs∧(∃sz,a.d= .sl sz [])∧xF s vs as ns us
   |_=>∃x y,ns=x++y∧vO s v a.d x∧xF s vs as y us)
 |_,_,_,_=>False
def zoo:C→D→bh
 | .sl n _ _,.sl sz xs=>[(n,.data sz xs true none)]
 | .ptr (.nm n _ _),.ptr cs=>[(n,if cs.all D.flat then .vars cs.length (cs.map C.d) else .own cs)]
 |_,_=>[]
def zff:List C→List D→bh
 |c::cs,d::ds=>zoo c d++zff cs ds
 |_,_=>[]
def zCH:V→D→bh
 | .one c,d=>zoo c d
 | .agg cs,.agg ds=>zff cs ds
 |_,_=>[]
def yV:List V→List Ar→bh
 |v::vs,a::as=>(match a.md with| .m d'=>zCH v d'|_=>[])++yV vs as
 |_,_=>[]
theorem Kj(R:zt cx m s a w):∀{vs:List V} {us:List Value} {as:List Ar} {ns ls:List Nat},zl (qK m w.heap) vs us→ns.Nodup→xF s vs as ns ls→
  ∃bss,kC w.heap as us bss∧(qR as bss).Nodup∧(∀b∈qR as bss,Whole cx m s ns b)∧∀b∈ZZ as bss,m.own b=none∨∃n∈ls,m.own b=some n
 |[],[],[],ns,ls,_,_,_=>⟨[],trivial,List.nodup_nil,by simp[qR],by simp[ZZ]⟩
 |v::vs,u::us,x::as,ns,ls,H,hnd,h=>by
  unfold xF at h;split at h
  ·rename_i hmd;obtain⟨ls',h1,rfl,h2⟩:=h;obtain⟨b1,hr,ho⟩:=zdH R H.1 h1;obtain⟨bss,k1,k2,k3,k4⟩:=Kj R H.2 hnd h2;have hb:x.md.owned=false:=by rw[hmd];rfl
   refine⟨b1::bss,⟨by unfold zbZ;rw[hmd];exact hr,k1⟩,?_,?_,?_⟩
   ·simp only[qR,hb,Bool.false_eq_true,if_false,List.nil_append];exact k2
   ·simp only[qR,hb,Bool.false_eq_true,if_false,List.nil_append];exact k3
   ·intro b hbm;simp only[ZZ,hb,Bool.false_eq_true,if_false,List.mem_append] at hbm;rcases hbm with hbm|hbm
    ·exact(ho b hbm).imp id fun⟨n,hn,e⟩=>⟨n,by simp[hn],e⟩
    ·exact(k4 b hbm).imp id fun⟨n,hn,e⟩=>⟨n,by simp[hn],e⟩
  ·rename_i hmd;obtain⟨rfl,⟨sz,hd⟩,h2⟩:=h;obtain⟨bss,k1,k2,k3,k4⟩:=Kj R H.2 hnd h2;have hb:x.md.owned=false:=by rw[hmd];rfl
   obtain⟨_,ad,rfl⟩:=H.1;refine⟨[]::bss,⟨by unfold zbZ;rw[hmd,hd];exact⟨by simp only[Rd];exact⟨ad,0,rfl,.inl ⟨by trivial,by trivial,fun h=>by cases h⟩⟩,ad,rfl⟩,k1⟩,?_,?_,?_⟩
   ·simp only[qR,hb,Bool.false_eq_true,if_false,List.nil_append];exact k2
   ·simp only[qR,hb,Bool.false_eq_true,if_false,List.nil_append];exact k3
   ·intro b hbm;simp only[ZZ,hb,Bool.false_eq_true,if_false,List.nil_append] at hbm;exact k4 b hbm
  ·rename_i hmd hmd2;obtain⟨p,q,rfl,h1,h2⟩:=h;have hnd':=List.nodup_append.1 hnd;obtain⟨b1,hr,hb1,ho⟩:=zkp R hnd'.1 H.1 h1;obtain⟨bss,k1,k2,k3,k4⟩:=Kj R H.2 hnd'.2.1 h2;have hb:x.md.owned=true:=by cases hx:x.md with
    |b=>exact absurd hx hmd
    |z=>exact absurd hx hmd2
    |g=>rfl
    |m _=>rfl
   obtain⟨z1,z2⟩:=zbG hnd hb1 k2 ho k3;refine⟨b1::bss,⟨by unfold zbZ;split<;>first|exact hr|(rename_i e;rw[e] at hb;cases hb),k1⟩,?_,?_,?_⟩
   ·simp only[qR,hb,if_true];exact z1
   ·simp only[qR,hb,if_true];exact z2
   ·intro b hbm;simp only[ZZ,hb,if_true,List.nil_append] at hbm;exact k4 b hbm
 |[],[],_::_,_,_,_,_,h=>h.elim
 |_::_,_::_,[],_,_,_,_,h=>h.elim
 |[],_::_,_,_,_,H,_,_=>H.elim
 |_::_,[],_,_,_,H,_,_=>H.elim
theorem zdx.lt{h:Hp}:∀{as:List Ar} {vs:List Value} {bm:List (List Nat)},zdx h as vs bm→∀b∈bm.flatten,b < h.size
 |[],[],[],_,b,hb=>by simp at hb
 |x::as,v::vs,y::bm,H,b,hb=>by
  rw[List.flatten_cons,List.mem_append] at hb;rcases hb with hb|hb
  ·have H1:=H.1;split at H1
   ·obtain⟨_,_,_,e⟩:=Rd.there _ _ _ H1 b hb;exact zH e
   ·rw[H1] at hb;cases hb
  ·exact zdx.lt H.2 b hb
 |[],[],_::_,H,_,_=>H.elim
 |[],_::_,_,H,_,_=>by cases ‹List (List Nat)›<;>exact H.elim
 |_::_,[],_,H,_,_=>by cases ‹List (List Nat)›<;>exact H.elim
 |_::_,_::_,[],H,_,_=>H.elim
def zo1(m:M)(h h':Hp)(bx:List Nat)(p:Nat×Blk):Prop:=
 (∃sz xs u len,p.2= .data sz xs true none∧qE m h (.sl p.1 0 len) u∧Rd true h' (.sl sz xs) u bx)∨
 (∃cs u,cs.all D.flat=true∧p.2= .vars cs.length (cs.map C.d)∧qE m h (.ptr<|.nm p.1 0 0) u∧Rd true h' (.ptr cs) u bx)∨
 (∃cs u,p.2= .own cs∧qE m h (.ptr<|.nm p.1 0 0) u∧Rd true h' (.ptr cs) u bx)
def ke(m:M)(h h':Hp):bh→List (List Nat)→Prop
 |[],[]=>True
 |p::ps,bx::bxs=>zo1 m h h' bx p∧ke m h h' ps bxs
 |_,_=>False
theorem ke.append{h h':Hp}:∀{ps qs:bh} {xs ys:List (List Nat)},ke m h h' ps xs→ke m h h' qs ys→ke m h h' (ps++qs) (xs++ys)
 |[],_,[],_,_,H=>H
 |_::_,_,_::_,_,H,K=>⟨H.1,ke.append H.2 K⟩
 |[],_,_::_,_,H,_=>H.elim
 |_::_,_,[],_,H,_=>H.elim
def Yl:bh→List (List Nat)→Nat→Option Nat
 |p::ps,x::xs,b=>if b∈x then some p.1 else Yl ps xs b
 |_,_,_=>none
theorem zfm:∀{ps:bh} {xs:List (List Nat)} {b:Nat},b∉xs.flatten→Yl ps xs b=none
 |[],_,_,_=>by unfold Yl;rfl
 |_::_,[],_,_=>by unfold Yl;rfl
 |p::ps,x::xs,b,hb=>by
  simp only[List.flatten_cons,List.mem_append,not_or] at hb;unfold Yl;rw[if_neg hb.1];exact zfm hb.2
theorem ze6{h h':Hp}:∀{ps:bh} {xs:List (List Nat)},ke m h h' ps xs→xs.flatten.Nodup→∀p∈ps,∃bx,zo1 m h h' bx p∧bx.Nodup∧∀b∈bx,b∈xs.flatten∧Yl ps xs b=some p.1
 |[],_,_,_,p,hp=>by cases hp
 |q::ps,x::xs,H,hn,p,hp=>by
  rw[List.flatten_cons,List.nodup_append] at hn;rcases List.mem_cons.1 hp with rfl|hp
  ·refine⟨x,H.1,hn.1,fun b hb=>⟨by simp[hb],?_⟩⟩;unfold Yl;rw[if_pos hb]
  ·obtain⟨bx,h1,h3,h2⟩:=ze6 H.2 hn.2.1 p hp;refine⟨bx,h1,h3,fun b hb=>⟨by rw[List.flatten_cons];exact List.mem_append_right _ (h2 b hb).1,?_⟩⟩;unfold Yl;rw[if_neg (fun hx=>hn.2.2 b hx b (h2 b hb).1 O)];exact(h2 b hb).2
 |_::_,[],H,_,_,_=>H.elim
theorem zgh:∀{ps:bh} {xs:List (List Nat)} {b n:Nat},Yl ps xs b=some n→b∈xs.flatten
 |[],_,_,_,h=>by unfold Yl at h;cases h
 |_::_,[],_,_,h=>by unfold Yl at h;cases h
 |p::ps,x::xs,b,n,h=>by
  unfold Yl at h;split at h
  ·rename_i hb;simp[hb]
  ·rw[List.flatten_cons];exact List.mem_append_right _ (zgh h)
theorem zeh{h h':Hp}{c:C}{u:Value}{d d':D}{ns bs:List Nat}(H:qE m h c u)(hc:cO s c d ns)(hr:Rd true h' d' u bs):∃bxs,ke m h h' (zoo c d') bxs∧bxs.flatten.Sublist bs:=by
 unfold zoo;split
 ·rename_i n off len sz xs;have h0:off=0:=hc.1;subst h0;exact⟨[bs],⟨.inl ⟨sz,xs,u,len,rfl,H,hr⟩,trivial⟩,by simp⟩
 ·rename_i n i j cs;obtain⟨rfl,rfl,_⟩:=hc;by_cases hf:cs.all D.flat=true
  ·exact⟨[bs],⟨.inr<|.inl ⟨cs,u,hf,by simp[hf],H,hr⟩,trivial⟩,by simp⟩
  ·exact⟨[bs],⟨.inr<|.inr ⟨cs,u,by simp only[if_neg hf],H,hr⟩,trivial⟩,by simp⟩
 ·exact⟨[],trivial,by simp⟩
theorem zcM{h h':Hp}:∀{cs:List C} {us:List Value} {ds ds':List D} {ns bs:List Nat},zl (qE m h) cs us→cOs s cs ds ns→RdL true h' ds' us bs→∃bxs,ke m h h' (zff cs ds') bxs∧bxs.flatten.Sublist bs
 |[],_,_,_,_,_,_,_,_=>⟨[],by unfold zff;trivial,by simp⟩
 |c::cs,[],_,_,_,_,H,_,_=>H.elim
 |c::cs,u::us,[],_,_,_,_,h,_=>h.elim
 |c::cs,u::us,d::ds,[],_,_,_,_,_=>⟨[],by unfold zff;trivial,by simp⟩
 |c::cs,u::us,d::ds,d'::ds',ns,bs,H,hc,hr=>by
  obtain⟨x,y,_,h1,h2⟩:=hc;simp only[RdL] at hr;obtain⟨u',us',b1,b2,e,rfl,_,r1,r2⟩:=hr;cases e;obtain⟨x1,w1,s1⟩:=zeh H.1 h1 r1;obtain⟨x2,w2,s2⟩:=zcM H.2 h2 r2;exact⟨x1++x2,by unfold zff;exact w1.append w2,by rw[List.flatten_append];exact s1.append s2⟩
theorem zho{h h':Hp}{v:V}{u:Value}{d d':D}{ns bs:List Nat}(H:qK m h v u)(hv:vO s v d ns)(hr:Rd true h' d' u bs):∃bxs,ke m h h' (zCH v d') bxs∧bxs.flatten.Sublist bs:=by
 unfold zCH;split
 ·exact zeh H hv hr
 ·rename_i cs ds';obtain⟨us,rfl,hall⟩:=H;simp only[Rd] at hr;obtain⟨us',e,hr⟩:=hr;cases e;cases d with
  |agg ds=>exact zcM hall hv hr
  |_=>exact hv.elim
 ·exact⟨[],trivial,by simp⟩
theorem Kw{h':Hp}:∀{vs:List V} {us:List Value} {as:List Ar} {ns ls:List Nat} {bm:List (List Nat)},zl (qK m w.heap) vs us→xF s vs as ns ls→zdx h' as us bm→∃bxs,ke m w.heap h' (yV vs as) bxs∧bxs.flatten.Sublist bm.flatten
 |[],_,_,_,_,_,_,_,_=>⟨[],by unfold yV;trivial,by simp⟩
 |v::vs,_,[],_,_,_,_,_,_=>⟨[],by unfold yV;trivial,by simp⟩
 |v::vs,[],_::_,_,_,_,H,_,_=>H.elim
 |v::vs,u::us,x::as,ns,ls,[],_,_,hm=>hm.elim
 |v::vs,u::us,x::as,ns,ls,b::bm,H,h,hm=>by
  obtain⟨hm1,hm2⟩:=hm;simp only[List.flatten_cons];unfold xF at h;unfold yV;split at h
  ·rename_i hmd;obtain⟨ls',h1,rfl,h2⟩:=h;obtain⟨x2,w2,s2⟩:=Kw H.2 h2 hm2;rw[hmd];exact⟨x2,by simpa using w2,s2.trans<|List.sublist_append_right _ _⟩
  ·rename_i hmd;obtain⟨_,_,h2⟩:=h;obtain⟨x2,w2,s2⟩:=Kw H.2 h2 hm2;rw[hmd];exact⟨x2,by simpa using w2,s2.trans<|List.sublist_append_right _ _⟩
  ·rename_i hmd hmd2;obtain⟨k,q,rfl,h1,h2⟩:=h;obtain⟨x2,w2,s2⟩:=Kw H.2 h2 hm2;split
   ·rename_i d' hd';rw[hd'] at hm1;obtain⟨x1,w1,s1⟩:=zho H.1 h1 hm1;exact⟨x1++x2,w1.append w2,by rw[List.flatten_append];exact s1.append s2⟩
   ·exact⟨x2,by simpa using w2,s2.trans<|List.sublist_append_right _ _⟩
def yX(G:List Nat)(MB:bh):List Nat:=G++MB.map fun p=>zI p.1
def zBc(s:St)(p:Nat×Blk):Prop:=
 (∃sz xs0 o cp ys o' cp',s.hp p.1=some (.data sz xs0 o cp)∧p.2= .data sz ys o' cp')∨(∃sz cs ds,s.hp p.1=some (.vars sz cs)∧p.2= .vars sz ds∧ds.length=cs.length)∨∃ds ds',s.hp p.1=some (.own ds)∧p.2= .own ds'∧ds'.length=ds.length
theorem zt.touch(R:zt cx m s a w){w':World}{G ON OB BR BM:List Nat}{MB:bh}{bxs:List (List Nat)}{ro:Option Nat}
  (h1:w'.os=w.os) (h2:w'.tape=w.tape) (h3:w'.output=w.output) (h4:w.heap.size≤w'.heap.size) (h5:∀b,b < w.heap.size→b∉OB→w'.heap[b]? =w.heap[b]?)
  (hOB:∀b∈OB,Whole cx m s ON b) (hcov:∀n∈ON,n∈G∨n∈MB.map (·.1)) (hdis:∀n∈G,n∉MB.map (·.1)) (hlt:∀n∈MB.map (·.1),n < 1000000) (hltG:∀n∈G,n < 1000000)
  (hsz:∀p∈MB,zBc s p) (hMB:ke m w.heap w'.heap MB bxs) (hsub:bxs.flatten.Sublist BM) (hnd:BM.Nodup) (hBM:∀b∈BM,w.heap.size≤b∨b∈OB) (hBX:∀b∈bxs.flatten,b < w'.heap.size)
  (hBR:∀b∈BR,(w.heap.size≤b∨b∈OB)∧b < w'.heap.size) (hap:∀b∈BR,b∉BM):
  zt cx ⟨fun k=>if (yX G MB).contains k then none else m.inf k,fun b=>if b∈BR then ro else(Yl MB bxs b).or (m.own b)⟩ ((s.er<|yX G MB).blks MB) a w'∧
  Ext (yX G MB) m w.heap ⟨fun k=>if (yX G MB).contains k then none else m.inf k,fun b=>if b∈BR then ro else(Yl MB bxs b).or (m.own b)⟩ w'.heap:=by
 have hold:∀b n,m.own b=some n→n∉ON→b∉OB:=fun b n hb hn hob=>by
  obtain⟨_,k,hk,f,_,_,e⟩:=hOB b hob;rw[hb] at e;cases e;exact hn hk
 have hnone:∀b,m.own b=none→b∉OB:=fun b hb hob=>by
  obtain⟨_,k,hk,f,_,_,e⟩:=hOB b hob;rw[hb] at e;cases e
 have hxm:∀b∈bxs.flatten,b∈BM:=fun b hb=>hsub.subset hb;have hxn:bxs.flatten.Nodup:=List.Nodup.sublist hsub hnd;have hnx:∀b,b < w.heap.size→b∉OB→Yl MB bxs b=none:=fun b hb hn=>zfm fun hx=>by
  rcases hBM b (hxm b hx) with h|h
  ·omega
  ·exact hn h
 have hnr:∀b,b < w.heap.size→b∉OB→b∉BR:=fun b hb hn hr=>by
  rcases(hBR b hr).1 with h|h
  ·omega
  ·exact hn h
 have hcont:∀n,(yX G MB).contains n=false→n∉G:=fun n hn hg=>by
  have:(yX G MB).contains n=true:=by
   rw[List.contains_iff_mem];unfold yX;simp[hg]
  rw[hn] at this;cases this
 have hsub:∀n,(yX G MB).contains (zI n)=false→n∉MB.map (·.1):=fun n hn hg=>by
  have:(yX G MB).contains (zI n)=true:=by
   rw[List.contains_iff_mem];unfold yX;simp only[List.mem_append,List.mem_map] at hg ⊢;obtain⟨p,hp,rfl⟩:=hg;exact .inr ⟨p,hp,rfl⟩
  rw[hn] at this;cases this
 have hoff:∀n,((yX G MB).contains n||(yX G MB).contains (zI n))=false→n∉ON:=fun n hn hon=>by
  simp only[Bool.or_eq_false_iff] at hn;rcases hcov n hon with h|h
  ·exact hcont n hn.1 h
  ·exact hsub n hn.2 h
 have E:Ext (yX G MB) m w.heap ⟨fun k=>if (yX G MB).contains k then none else m.inf k,fun b=>if b∈BR then ro else(Yl MB bxs b).or (m.own b)⟩ w'.heap:=by
  refine⟨fun n hn f hf=> ?_,fun b c T f hb ho=> ?_,fun b c T z n f hb hn hf ho hne=> ?_⟩
  ·show(if (yX G MB).contains n then none else m.inf n)=some f;rw[hn];simpa using hf
  ·have hlt:=zH hb;have hob:=hnone b ho;refine⟨?_,h5 b hlt hob⟩;show(if b∈BR then ro else(Yl MB bxs b).or (m.own b))=none;rw[if_neg (hnr b hlt hob),hnx b hlt hob];exact ho
  ·have hlt:=zH hb;have hob:=hold b n ho (hoff n hn);refine⟨?_,h5 b hlt hob⟩;show(if b∈BR then ro else(Yl MB bxs b).or (m.own b))=some n;rw[if_neg (hnr b hlt hob),hnx b hlt hob];exact ho
 refine⟨⟨R.size,R.defers,(fun t=> ?_),(fun n=> ?_),⟨(fun b n hb=> ?_),fun b hb hW=> ?_⟩,?_,(fun t=> ?_)⟩,E⟩
 ·rw[(Js MB _).1];exact E.ver (R.sl t)
 ·rw[xC];by_cases hmem:n∈MB.map (·.1)
  ·
   have hnlt:=hlt n hmem;have hnot:(yX G MB).contains n=false:=by
    rw[Bool.eq_false_iff];intro hc;rw[List.contains_iff_mem] at hc;unfold yX at hc;simp only[List.mem_append,List.mem_map] at hc;rcases hc with hc|⟨p,_,hc⟩
    ·exact hdis n hc hmem
    ·unfold zI at hc;omega
   obtain⟨k,hk⟩:∃k,yR MB n=some k:=by
    have key:∀(L:bh),n∈L.map (·.1)→∃k,yR L n=some k:=by
     intro L;induction L with
     |nil=>intro h;cases h
     |cons p r ih=>
      intro h;obtain⟨j,b⟩:=p;simp only[yR];cases hl:yR r n with
      |some x=>exact⟨x,rfl⟩
      |none=>
       by_cases e:n=j
       ·exact⟨b,by simp[e]⟩
       ·simp only[List.map_cons,List.mem_cons] at h;obtain⟨x,hx⟩:=ih (h.resolve_left e);rw[hl] at hx;cases hx
    exact key MB hmem
   have hin:(n,k)∈MB:=by
    have key:∀(L:bh),yR L n=some k→(n,k)∈L:=by
     intro L;induction L with
     |nil=>intro h;cases h
     |cons p r ih=>
      intro h;obtain⟨j,b⟩:=p;simp only[yR] at h;cases hl:yR r n with
      |some x=>rw[hl] at h;simp at h;subst h;exact List.mem_cons_of_mem _ (ih hl)
      |none=>
       rw[hl] at h;simp only[Option.none_or] at h;split at h
       ·rename_i e;cases h;subst e;simp
       ·cases h
    exact key MB hk
   obtain⟨bx,hwr,hbn,hbx⟩:=ze6 hMB hxn _ hin;rcases hwr with⟨sz,xs,u,len,he,hc,hr⟩|⟨cs,u,hcf,he,hc,hr⟩|⟨cs,u,he,hc,hr⟩;rotate_left
   ·
    simp only at he;subst he;rw[hk];simp only[Option.some_or];obtain⟨_,f,b,hf,hfb,rfl⟩:=hc;have hif:(if (yX G MB).contains n then none else m.inf n)=some f:=by rw[hnot];simpa using hf
    rw[hif];have HN:=R.hp n;rw[hf] at HN;rcases hsz _ hin with⟨z,xs0,o0,cp0,ys,o1,cp1,_,he'⟩|⟨z,cs0,ds,hs0,he',hlen⟩|⟨_,_,_,he',_⟩
    ·cases he'
    rotate_left
    ·cases he'
    simp only[Blk.vars.injEq] at he';obtain⟨rfl,rfl⟩:=he';rw[hs0] at HN;simp only[Rd] at hr;obtain⟨b1,off,cells1,T1,fz,bs',heq,hh1,rfl,ho1,hr1⟩:=hr;obtain⟨rfl,rfl,hsz1⟩:=ho1 trivial;simp only[Value.pointer.injEq,Option.some.injEq,Addr.mk.injEq] at heq;obtain⟨rfl,_,_⟩:=heq;unfold zT at HN ⊢;simp only[hfb] at HN ⊢;obtain⟨hm1,hm2,cells,T,hh,hfit,hfs,hall⟩:=HN;have hl0:=hall.length;have hfull:(cells1.toList.drop 0).take cs.length=cells1.toList:=by
     rw[List.drop_zero];apply List.take_of_length_le;simp;omega
    rw[hfull] at hr1;obtain⟨rfl,hall'⟩:=zce (m:=⟨fun k=>if (yX G MB).contains k then none else m.inf k,fun b=>if b∈BR then ro else(Yl MB bxs b).or (m.own b)⟩) hcf hr1;refine⟨hm1,?_,cells1,T1,hh1,?_,hfs,hall'⟩
    ·show(if b∈BR then ro else(Yl MB bxs b).or (m.own b))=some n;rw[if_neg (fun h2=>hap b h2 (hxm b (hbx b (by simp)).1)),(hbx b (by simp)).2];rfl
    ·simp only[List.length_map] at hlen;simp only[Array.length_toList] at hl0;omega
   ·
    simp only at he;subst he;rw[hk];simp only[Option.some_or];obtain⟨_,f,b,hf,hfb,rfl⟩:=hc;have hif:(if (yX G MB).contains n then none else m.inf n)=some f:=by rw[hnot];simpa using hf
    rw[hif];have HN:=R.hp n;rw[hf] at HN;rcases hsz _ hin with⟨z,xs0,o0,cp0,ys,o1,cp1,_,he'⟩|⟨_,_,_,_,he',_⟩|⟨ds0,ds1,hs0,he',hlen⟩
    ·cases he'
    ·cases he'
    simp only[Blk.own.injEq] at he';subst he';rw[hs0] at HN;simp only[Rd] at hr;obtain⟨b1,off,cells1,T1,fz,bs',heq,hh1,rfl,ho1,hr1⟩:=hr;obtain⟨rfl,rfl,hsz1⟩:=ho1 trivial;simp only[Value.pointer.injEq,Option.some.injEq,Addr.mk.injEq] at heq;obtain⟨rfl,_,_⟩:=heq;unfold zT at HN ⊢;simp only[hfb] at HN ⊢;obtain⟨hm1,hm2,cells,T,hh,hfit,hfs,bs0,hr0,_⟩:=HN;have hl0:=hr0.length;have hfull:(cells1.toList.drop 0).take cs.length=cells1.toList:=by
     rw[List.drop_zero];apply List.take_of_length_le;simp;omega
    rw[hfull] at hr1;have hown:∀c∈b::bs',(if c∈BR then ro else(Yl MB bxs c).or (m.own c))=some n:=fun c hc=>by
     rw[if_neg (fun h2=>hap c h2 (hxm c (hbx c hc).1)),(hbx c hc).2];rfl
    have hndx:(b::bs').Nodup:=hbn;rw[List.nodup_cons] at hndx;refine⟨hm1,hown b (by simp),cells1,T1,hh1,?_,by rw[hfs];exact hlen.symm,bs',hr1,hndx.2,fun c hc=>⟨hown c (by simp[hc]),fun e=> ?_⟩⟩
    ·simp only[Array.length_toList] at hl0;omega
    ·rw[hfb] at e;cases e;exact hndx.1 hc
   simp only at he;subst he;rw[hk];simp only[Option.some_or];obtain⟨_,f,hf,hcap,ad,rfl,had⟩:=hc;have hif:(if (yX G MB).contains n then none else m.inf n)=some f:=by rw[hnot];simpa using hf
   rw[hif];have HN:=R.hp n;rw[hf] at HN;obtain⟨k0,hk0⟩:=HN.some_blk;rw[hk0] at HN;simp only[Rd] at hr;obtain⟨ad',cap,heq,hr⟩:=hr;simp only[Value.slice.injEq,Nat.sub_zero] at heq;obtain⟨rfl,hlen,hcp⟩:=heq;rcases hsz _ hin with⟨sz',xs0,o0,cp0,ys,o1,cp1,hs0,he'⟩|⟨_,_,_,_,he',_⟩|⟨_,_,_,he',_⟩;rotate_left
   ·cases he'
   ·cases he'
   simp only[Blk.data.injEq] at he';obtain⟨rfl,_⟩:=he';rw[hk0] at hs0;cases hs0;obtain⟨hfs,_⟩:=HN.data;unfold zT at HN ⊢;cases hb:f.blk with
   |none=>
    simp only[hb] at HN ⊢;have hc0:=HN.1;have:xs=[]:=List.eq_nil_of_length_eq_zero (by omega);subst this;exact⟨hc0,_,true,none,rfl,hfs,by simp⟩
   |some b=>
    simp only[hb] at HN ⊢;obtain⟨hm1,hm2,cells,T,hh,hfit,_⟩:=HN;have hblt:=zH hh;by_cases h0:0 < f.cap
    ·obtain⟨b',hb',hade⟩:=had h0;rw[hb] at hb';cases hb';rcases hr with⟨_,_,hr⟩|⟨b1,off,cells1,T1,fz,bs',hade',hh1,rfl,hl1,hfit1,ho1,hr1⟩
     ·have:=hr trivial;omega
     ·rw[hade] at hade';simp only[Option.some.injEq,Addr.mk.injEq] at hade';obtain⟨rfl,hoff',_⟩:=hade';obtain⟨rfl,rfl⟩:=ho1 trivial;have hown:∀c∈b::bs',(if c∈BR then ro else(Yl MB bxs c).or (m.own c))=some n:=fun c hc=>by
       rw[if_neg (fun h2=>hap c h2 (hxm c (hbx c hc).1)),(hbx c hc).2];rfl
      have hndx:(b::bs').Nodup:=hbn;rw[List.nodup_cons] at hndx;refine⟨hm1,hown b (by simp),cells1,T1,hh1,by rw[hfs,hcp];simpa using hfit1,hfs,by simp,bs',by simpa using hr1,fun _=>⟨hndx.2,fun c hc=>⟨hown c (by simp[hc]),fun e=> ?_⟩⟩,by simp⟩;rw[hb] at e;cases e;exact hndx.1 hc
    ·have hx:xs=[]:=List.eq_nil_of_length_eq_zero (by omega);subst hx;have hbo:b∉OB:=fun hbo=>by
      obtain⟨_,k,_,f',hf',hpos,e⟩:=hOB b hbo;rw[hm2] at e;cases e;rw[hf] at hf';cases hf';exact(hpos hb).elim h0 (fun e=>e.elim (fun⟨_,_,e⟩=>by rw[hk0] at e;cases e) (fun⟨_,e⟩=>by rw[hk0] at e;cases e))
     refine⟨hm1,by rw[if_neg (hnr b hblt hbo),hnx b hblt hbo];exact hm2,cells,T,by rw[h5 b hblt hbo];exact hh,hfit,hfs,by simp,[],by simp[RdLL],by simp,by simp⟩
  ·rw[Yx hmem];simp only[Option.none_or];cases hc:(yX G MB).contains n with
   |true=>
    have e1:(s.er<|yX G MB).hp n=none:=by simp only[St.er,hc,if_true]
    rw[e1];simp only[if_true];trivial
   |false=>
    have e1:(s.er<|yX G MB).hp n=(s.hp n).map (Blk.er<|yX G MB):=by simp only[St.er,hc];simp
    rw[e1];simp only[Bool.false_eq_true,if_false];have HN:=R.hp n;cases hi:m.inf n with
    |none=>
     rw[hi] at HN;cases hb:s.hp n with
     |none=>trivial
     |some k=>rw[hb] at HN;exact HN.elim
    |some f=>
     rw[hi] at HN;cases hb:s.hp n with
     |none=>rw[hb] at HN;exact HN.elim
     |some k=>
      rw[hb] at HN;have hsk:(yX G MB).contains (zI n)=false:=by
       rw[Bool.eq_false_iff];intro hc';rw[List.contains_iff_mem] at hc';unfold yX at hc';simp only[List.mem_append,List.mem_map] at hc';rcases hc' with hc'|⟨p,hp,hc'⟩
       ·have:=hltG _ hc';unfold zI at this;omega
       ·unfold zI at hc';exact hmem (List.mem_map.2 ⟨p,hp,by omega⟩)
      have hno:n∉ON:=hoff n (by rw[hc,hsk];rfl);refine Ext.n E (by rw[hc,hsk];rfl) (fun b hfb=> ?_) hi HN;unfold zT at HN;simp only[hfb] at HN;obtain⟨_,hm2,cells,T,hh,_⟩:=HN;have hblt:=zH hh;have hbo:=hold b n hm2 hno;exact⟨by show(if b∈BR then ro else(Yl MB bxs b).or (m.own b))=some n;rw[if_neg (hnr b hblt hbo),hnx b hblt hbo];exact hm2,h5 b hblt hbo⟩
 ·have hb:(if b∈BR then ro else(Yl MB bxs b).or (m.own b))=some n:=hb;split at hb
  ·rename_i h;exact(hBR b h).2
  ·cases hx:Yl MB bxs b with
   |none=>rw[hx] at hb;have:=R.own.1 b n hb;omega
   |some k=>exact hBX b (zgh hx)
 ·show(if b∈BR then ro else(Yl MB bxs b).or (m.own b))=_;rw[if_neg,hnx b (by have:=R.fr.size;omega) (fun h=>by
   rcases(hOB b h).1 with h|h
   ·omega
   ·exact hW h)]
  ·exact R.own.2 b hb hW
  ·intro hbr;have:=R.fr.size;rcases(hBR b hbr).1 with h|h
   ·omega
   ·rcases(hOB b h).1 with h|h
    ·omega
    ·exact hW h
 ·have F:=R.fr;refine⟨h1.trans F.os,h2.trans F.tape,h3.trans F.output,by have:=F.size;omega,fun b hb hW=> ?_⟩;rw[h5 b (by have:=F.size;omega) (fun h=>by
   rcases(hOB b h).1 with h|h
   ·omega
   ·exact hW h)]
  exact F.kept b hb hW
 ·rw[(Js MB _).2];exact E.ver (R.gh t)
theorem zav(s:St)(ns:List Nat):s.erOpt ns=s.er ns:=by
 cases ns with
 |nil=>exact(St.er_nil s).symm
 |cons n ns=>rfl
def zbf(P:Program)(s:St)(d:Nat)(f:V)(vs:List V)(K:Out→Prop):Prop:=
 ∃(c:FuncId×List V) (as:List Ar) (ON ls G:List Nat) (rs:List D) (md:Bool),
  X0 f=some c∧xF s (vs++c.2) as ON ls∧ON.Nodup∧(∀n∈ls,n∉ON)∧FnS P s c.1 as rs∧
  (∀n∈ON,n∈G∨n∈(yV (vs++c.2) as).map (·.1))∧(∀n∈G,n∉(yV (vs++c.2) as).map (·.1))∧(∀n∈(yV (vs++c.2) as).map (·.1),n < 1000000)∧(∀n∈G,n < 1000000)∧
  (∀p∈yV (vs++c.2) as,zBc s p)∧
  (if md then qp ((s.er<|yX G<|yV (vs++c.2) as).blks<|yV (vs++c.2) as) ((d * 64+63)::(ZP (d * 64) rs).2.map (·.1))∧
    K ⟨yX G<|yV (vs++c.2) as,some (d,(ZP (d * 64) rs).1),yV (vs++c.2) as++(ZP (d * 64) rs).2⟩
   else K ⟨yX G<|yV (vs++c.2) as,some (d,XK rs),yV (vs++c.2) as⟩)
def Far(out:Out)(m:M)(h:Hp)(m':M)(h':Hp):Prop:=
 ∀n,out.er.contains n=false→(out.hp.map (·.1)).contains n=false→∀f,m.inf n=some f→m'.inf n=some f∧∀b,f.blk=some b→m.own b=some n→b < h.size→h'[b]? =h[b]?
theorem zch(R:zt cx m s a w){d:Nat}{f:Operand}{f':Opd}{xs:Array Operand}{xs':List Opd}{ts:Array TypeId}(ho:o.op= .call {callee:= .value f,args:=xs,argTypes:=ts})(hd:o.dst=some d)(hn:d < cx.n)(hf:zJ f=some f')(hxs:xs.toList.mapM zJ=some xs'){K':Out→Prop}
  (h:zbf cx.P s d (s.ev f') (xs'.map s.ev) K') (hK:∀out,K' out→∀m' a' w',zt cx m' (s.app out) a' w'→Far out m w.heap m' w'.heap→K a' w'):o.wp cx.P a w K Q:=by
 obtain⟨c,as,ON,ls,G,rs,md,hc,hargs,hnd,hdis,hfn,hcov,hg,hlt,hltG,hsz,h⟩:=h;obtain⟨us,hu,hus⟩:=Xb (R.opd hf) hc;have hrel:=zl.append (kT R hxs) hus;obtain⟨bss,hA,hAn,hAw,hAb⟩:=Kj R hrel hnd hargs;have hap:∀b∈qR as bss,b∉ZZ as bss:=fun b hb hb'=>by
  obtain⟨_,n,hn1,f1,_,_,e1⟩:=hAw b hb;rcases hAb b hb' with h0|⟨k,hk,e2⟩
  ·rw[h0] at e1;cases e1
  ·rw[e1] at e2;cases e2;exact hdis n hk hn1
 have hcall:=hfn.calls R hA hAn hap (fun b hb e=>by obtain⟨_,n,_,f,_,_,e1⟩:=hAw b hb;rw[e] at e1;cases e1);have hrun:(execOp a.eval o).run cx.P w= .ok (.enter c.1 (xs.toList.map a.eval++us.toList).toArray) w:=by
  simp only[execOp,ho,resolve,hu,Deferred.ofValue,Sem.run_bind,Sem.run_pure,Result.andThen_ok,invoke,Kx hfn.callable];congr 2;apply Array.toList_inj.1;simp
 unfold Oper.wp;rw[hrun];refine Calls.mono hcall fun e w' ⟨v,br,bm,he,hp⟩=> ?_;subst he;show K (a.put o.dst v) w';rw[hd];have hbr:∀b∈br.flatten,(w.heap.size≤b∨b∈qR as bss)∧b < w'.heap.size:=fun b hb=>by
  obtain⟨x,y,z,e⟩:=hp.res.there b hb;refine⟨?_,zH e⟩;rcases hp.rfrom b hb with h|h|h
  ·exact .inl h
  ·exact .inr h
  ·simp at h
 have hkeep:∀n,(yX G<|yV (xs'.map s.ev++c.2) as).contains n=false→((yV (xs'.map s.ev++c.2) as).map (·.1)).contains n=false→∀b,m.own b=some n→b < w.heap.size→w'.heap[b]? =w.heap[b]?:=fun n h1 h2 b hb hlt'=>by
  refine hp.kept b hlt' fun hob=> ?_;obtain⟨_,k,hk,f,_,_,e⟩:=hAw b hob;rw[hb] at e;cases e;rcases hcov n hk with h|h
  ·have:(yX G<|yV (xs'.map s.ev++c.2) as).contains n=true:=by
    rw[List.contains_iff_mem];unfold yX;simp[h]
   rw[h1] at this;cases this
  ·have:((yV (xs'.map s.ev++c.2) as).map (·.1)).contains n=true:=by
    rw[List.contains_iff_mem];exact h
   rw[h2] at this;cases this
 obtain⟨bxs,hw,hws⟩:=Kw (h':=w'.heap) hrel hargs hp.muts;have hbx:∀b∈bxs.flatten,b < w'.heap.size:=fun b hb=>hp.muts.lt b (hws.subset hb);cases md with
 |true=>
  simp only[if_true] at h;obtain⟨hfr,hk⟩:=h;obtain⟨R1,E1⟩:=R.touch (ro:=some (d * 64+63)) (OB:=qR as bss) (BR:=br.flatten) (BM:=bm.flatten) hp.os hp.tape hp.output hp.size hp.kept hAw hcov hg hlt hltG hsz hw hws hp.nodup hp.mfrom hbx hbr hp.apart;have hfr1:=hfr.1;obtain⟨m2,R2,hv,E2⟩:=zcW (n:=d * 64) (res:=d * 64+63) R1 hfr.2.2 (R1.noInf hfr1) hfr.2.1 hp.res (hp.nodupR O) (fun b hb=>⟨by simp only;rw[if_pos hb],by
   rcases(hbr b hb).1 with h|h
   ·exact .inl (by have:=R.fr.size;omega)
   ·exact(hAw b h).1⟩)
  refine hK _ hk m2 _ _ ?_ fun n h1 h2 f hf=> ?_
  ·have:=R2.set hn hv;unfold St.app;rw[zav,xW];exact this
  ·simp only[List.map_append] at h2;have h2':((yV (xs'.map s.ev++c.2) as).map (·.1)).contains n=false:=by
    rw[Bool.eq_false_iff] at h2 ⊢;intro h;apply h2;rw[List.contains_iff_mem] at h ⊢;exact List.mem_append_left _ h
   exact⟨E2.inf n O f<|E1.inf n h1 f hf,fun b _ hb hlt'=>hkeep n h1 h2' b hb hlt'⟩
 |false=>
  simp only[Bool.false_eq_true,if_false] at h;obtain⟨R1,E1⟩:=R.touch (ro:=none) (OB:=qR as bss) (BR:=br.flatten) (BM:=bm.flatten) hp.os hp.tape hp.output hp.size hp.kept hAw hcov hg hlt hltG hsz hw hws hp.nodup hp.mfrom hbx hbr hp.apart;have:=R1.set hn (zdy hp.res.weak (fun b hb=>by simp only;rw[if_pos hb]));have e:s.app ⟨yX G<|yV (xs'.map s.ev++c.2) as,some (d,XK rs),yV (xs'.map s.ev++c.2) as⟩=((s.er<|yX G<|yV (xs'.map s.ev++c.2) as).blks<|yV (xs'.map s.ev++c.2) as).set d (XK rs):=by
   unfold St.app;rw[zav];rfl
  rw[←e] at this;exact hK _ h _ _ _ this fun n h1 h2 f hf=>⟨E1.inf n h1 f hf,fun b _ hb hlt'=>hkeep n h1 h2 b hb hlt'⟩
theorem zeU(R:zt cx m s a w){d:Nat}{f:Operand}{f':Opd}{xs:Array Operand}{xs':List Opd}{ts:Array TypeId}(ho:o.op= .call {callee:= .value f,args:=xs,argTypes:=ts})(hd:o.dst=some d)(hn:d < cx.n)(hf:zJ f=some f')(hxs:xs.toList.mapM zJ=some xs'){K':Out→Prop}
  (h:zbf cx.P s d (s.ev f') (xs'.map s.ev) K') (hK:∀out,K' out→∀m' a' w',zt cx m' (s.app out) a' w'→K a' w'):o.wp cx.P a w K Q:=
 zch R ho hd hn hf hxs h fun out hk m' a' w' R' _=>hK out hk m' a' w' R'
theorem zcT{ops:Array Oper}{l2:List Oper}:∀{l:List Oper} {gs:List GOp} {m:M} {s:St} {a:Act} {w:World} {Q':St→Prop},l.mapM (toG cx.P cx.n ops)=some gs→zt cx m s a w→zdr cx.P gs s Q'→
  (∀s',Q' s'→∀m' a' w',zt cx m' s' a' w'→wpList cx.P ops Q l2 a' w')→wpList cx.P ops Q (l++l2) a w
 |[],gs,m,s,a,w,Q',hm,R,h,hQ=>by
  simp at hm;subst hm;exact hQ s h m a w R
 |o::l,gs,m,s,a,w,Q',hm,R,h,hQ=>by
  simp only[List.mapM_cons,Option.pure_def,Option.bind_eq_bind,obi] at hm;obtain⟨g,hg,gs',hgs,he⟩:=hm;cases he;have:=x4 (Q:=Q) (K:=wpList cx.P ops Q (l++l2)) R hg h (fun out hk m' a' w' R'=>zcT hgs R' hk hQ);show wpList cx.P ops Q (o::(l++l2)) a w;unfold wpList;split
  ·rename_i hw;rw[if_pos hw] at this;exact .inl this
  ·rename_i hw;rw[if_neg hw] at this;exact this
def RM0(P:Program)(n:Nat)(L:List RO)(s:St)(Q':St→Prop):Prop:=
 ∀(gs:List GOp),L=(gs.map fun g=>⟨g,0,[]⟩)→∀(cx:Cx) (ops:Array Oper) (l:List Oper) (m:M) (a:Act) (w:World) (Qx:Exit→Act→World→Prop),cx.P=P→cx.n=n→l.mapM (toG cx.P cx.n ops)=some gs→zt cx m s a w→
  (∀s',Q' s'→∀m' a' w',zt cx m' s' a' w'→Qx .normal a' w')→wpList cx.P ops Qx l a w
theorem zdO{α β:Type}{f:α→Option β}:∀{as:List α} {bs:List β} (k:Nat),as.mapM f=some bs→(as.take k).mapM f=some (bs.take k)∧(as.drop k).mapM f=some (bs.drop k)
 |as,bs,0,h=>by simpa using h
 |[],bs,k+1,h=>by simp at h;subst h;simp
 |a::as,bs,k+1,h=>by
  simp only[List.mapM_cons,Option.pure_def,Option.bind_eq_bind,obi] at h;obtain⟨b,hb,bs',hbs,he⟩:=h;cases he;obtain⟨h1,h2⟩:=zdO k hbs;refine⟨?_,by simpa using h2⟩;simp only[List.take_succ_cons,List.mapM_cons,Option.pure_def,Option.bind_eq_bind,hb,Option.bind_some,h1]
theorem RM0.split{P:Program}{n:Nat}{L:List RO}{s:St}{Q':St→Prop}(k:Nat)(h:∀gs:List GOp,L.take k=(gs.map fun g=>⟨g,0,[]⟩)→zdr P gs s (fun s'=>RM0 P n (L.drop k) s' Q')):RM0 P n L s Q':=fun gs hL cx ops l m a w Qx hP hn hm R hQ=>by
 obtain⟨h1,h2⟩:=zdO k hm;have:=h (gs.take k) (by rw[hL,List.map_take]);subst hP;subst hn;rw[show l=l.take k++l.drop k from (List.take_append_drop k l).symm];refine zcT h1 R this fun s' hs m' a' w' R'=> ?_;exact hs (gs.drop k) (by rw[hL,List.map_drop]) cx ops _ m' a' w' Qx O O h2 R' hQ
theorem RM0.of{P:Program}{n:Nat}{L:List RO}{s:St}{Q':St→Prop}(h:∀gs:List GOp,L=(gs.map fun g=>⟨g,0,[]⟩)→zdr P gs s Q'):RM0 P n L s Q':=fun gs hL cx ops l m a w Qx hP hn hm R hQ=>by
 subst hP;subst hn;exact zbh hm R (h gs hL) hQ
theorem RM0.call{P:Program}{n:Nat}{L:List RO}{s:St}{Q':St→Prop}{d:Nat}{f:Opd}{args:List Opd}(h:zbf P s d (s.ev f) (args.map s.ev) (fun out=>RM0 P n L (s.app out) Q')):RM0 P n (⟨⟨none,.callv d f args⟩,0,[]⟩::L) s Q':=fun gs hL cx ops l m a w Qx hP hn hm R hQ=>by
 subst hP;subst hn;cases gs with
 |nil=>cases hL
 |cons g gs=>
  simp only[List.map_cons,List.cons.injEq,RO.mk.injEq,and_true] at hL;obtain⟨rfl,hL⟩:=hL;cases l with
  |nil=>simp at hm
  |cons o l=>
   simp only[List.mapM_cons,Option.pure_def,Option.bind_eq_bind,obi] at hm;obtain⟨g',hg,gs',hgs,he⟩:=hm;cases he;obtain⟨h1,h2,_⟩:=Y4 hg;have key:∃c:Call,o.op= .call c∧Qa cx.P cx.n o c=some (.callv d f args):=by
    unfold x9 at h1;split at h1
    case h_24 c hop=>exact⟨c,hop,h1⟩
    case h_25=>cases h1
    case h_9=>
     split at h1;rotate_left
     ·cases h1
     simp only[obi,omi] at h1;obtain⟨_,_,_,_,_,_,h1⟩:=h1;cases h1
    all_goals
     rw[obi] at h1;obtain⟨d,hd,h1⟩:=h1
     repeat' (first|(rw[obi] at h1;obtain⟨_,_,h1⟩:=h1)|(rw[omi] at h1;obtain⟨_,_,h1⟩:=h1;cases h1;done)|(split at h1)|(cases h1;done))
   obtain⟨c,hop,hc⟩:=key;obtain⟨callee,xs,ts⟩:=c;have kk:∃f0,callee= .value f0∧yw cx.n o=some d∧zJ f0=some f∧xs.toList.mapM zJ=some args:=by
    unfold Qa at hc;split at hc
    case h_8 f0 hf0=>
     simp only at hf0;subst hf0;simp only[obi,omi] at hc;obtain⟨d',hd,f',hf,xs',hxs,hc⟩:=hc;cases hc;exact⟨f0,rfl,hd,hf,hxs⟩
    case h_9=>cases hc
    case h_5=>
     simp only[obi] at hc;obtain⟨_,_,_,_,_,_,_,_,_,_,_,_,hc⟩:=hc;split at hc
     ·simp only[omi] at hc;obtain⟨_,_,hc⟩:=hc;cases hc
     ·cases hc
    case h_2=>
     rw[obi] at hc;obtain⟨_,_,hc⟩:=hc;rw[obi] at hc;obtain⟨_,_,hc⟩:=hc;split at hc;rotate_left
     ·simp only[obi] at hc;obtain⟨_,_,_,_,_,_,_,_,_,_,_,_,hc⟩:=hc;split at hc
      ·simp only[obi,omi] at hc;obtain⟨_,_,_,_,hc⟩:=hc;cases hc
      ·cases hc
     simp only[obi] at hc;obtain⟨_,_,_,_,_,_,_,_,hc⟩:=hc;split at hc;rotate_left
     ·cases hc
     simp only[obi,omi] at hc;obtain⟨_,_,_,_,hc⟩:=hc;cases hc
    all_goals
     simp only[obi,omi] at hc;obtain⟨_,_,hc⟩:=hc
     repeat' (obtain⟨_,_,hc⟩:=hc)
     first|(cases hc;done)|skip
   obtain⟨f0,rfl,hdd,hf,hxs⟩:=kk;have:=zeU (Q:=Qx) (K:=wpList cx.P ops Qx l) R hop (zd hdd).1 (zd hdd).2 hf hxs h (fun out hk m' a' w' R'=>hk gs hL cx ops l m' a' w' Qx O O hgs R' hQ);unfold wpList;have hw:Region.wanted o (yielded ops a.tmps)=true:=by simp[Region.wanted,h2 rfl]
   rw[if_pos hw];exact .inl this
end Go.AW
