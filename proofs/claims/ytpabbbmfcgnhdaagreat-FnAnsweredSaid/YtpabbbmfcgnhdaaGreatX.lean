/- A function: from its body's proof to its contract, where every argument is lent. Lemmas. Conditions: none. -/
import Derived.Test.YtpabbbmfcgnhdaaGreatW
set_option linter.unusedVariables false
namespace Go.AW
def pack:List Value→Value
 |[v]=>v
 |vs=> .tuple vs.toArray
def cO(s:St):C→D→List Nat→Prop
 | .d x,d,ns=>x.flat=true∧d=x∧ns=[]
 | .zs,d,ns=>(∃sz,d= .sl sz [])∧ns=[]
 | .sl n off len,d,ns=>off=0∧ns=[n]∧∃sz xs cp,s.hp n=some (.data sz xs true cp)∧xs.length=len∧((xs.all fun e=>e.all D.flat)=true∨n < 1000000)∧d= .sl sz xs
 | .ptr (.nm n i j),d,ns=>i=0∧j=0∧ns=[n]∧∃cs,((s.hp n=some (.vars cs.length<|cs.map C.d)∧cs.all D.flat=true)∨(s.hp n=some (.own cs)∧n < 1000000))∧d= .ptr cs
 |_,_,_=>False
def cOs(s:St):List C→List D→List Nat→Prop
 |[],[],ns=>ns=[]
 |c::cs,d::ds,ns=>∃a b,ns=a++b∧cO s c d a∧cOs s cs ds b
 |_,_,_=>False
def vO(s:St):V→D→List Nat→Prop
 | .one c,d,ns=>cO s c d ns
 | .agg cs,.agg ds,ns=>cOs s cs ds ns
 |_,_,_=>False
inductive ZG where
 |tmp (t:Nat)
 |cell (t:Nat) (ag:Option Nat)
def St.rdR(s:St):ZG→Option V
 | .tmp t=>some (s.sl t)
 | .cell t (some n)=>(s.rd n<|s.sl t).map .agg
 | .cell t none=>(s.rd 1<|s.sl t).bind (kH false)
def K3(P:Program):ResultVar→Option ZG
 | .tmp t=>some (.tmp t)
 | .cell t ty=>(zfQ P ty).map (.cell t)
def zcD(s:St):List ZG→List D→List Nat→Prop
 |[],[],ns=>ns=[]
 |t::ts,r::rs,ns=>∃v a b,s.rdR t=some v∧ns=a++b∧vO s v r a∧zcD s ts rs b
 |_,_,_=>False
def Y1(ds:List D)(t:Nat):V:=match ds[t]? with
 |some d=>zcA d
 |none=> .top
def zfD(ds:List D):St:=⟨Y1 ds,fun _=>none,Y1 ds⟩
def ziJ(ts:List ZG)(rs:List D):Exit→St→Prop
 | .normal,s| .ret,s=>∃ns,zcD s ts rs ns∧ns.Nodup
 |_,_=>False
variable {cx:Cx} {m:M} {s:St} {a:Act} {w:World}
mutual
theorem zdg{o:Bool}{h:Hp}:∀{d:D} {v:Value} {bs:List Nat},d.flat=true→Rd o h d v bs→bs=[]
 | .int _ _,v,bs,_,H=>by simp only[Rd] at H;exact H.2
 | .bool _,v,bs,_,H=>by simp only[Rd] at H;exact H.2
 | .str _,v,bs,_,H=>by simp only[Rd] at H;exact H.2
 | .sl _ _,_,_,h,_=>by cases h
 | .agg _,_,_,h,_=>by cases h
 | .ptr _,_,_,h,_=>by cases h
 | .fn _ _,_,_,h,_=>by cases h
 | .pin _,v,bs,_,H=>by simp only[Rd] at H;exact H.2
 | .both _ _,_,_,h,_=>by cases h
theorem zgi{o:Bool}{h:Hp}:∀{ds:List D} {vs:List Value} {bs:List Nat},ds.all D.flat=true→RdL o h ds vs bs→bs=[]
 |[],vs,bs,_,H=>by simp only[RdL] at H;exact H.2
 |d::ds,vs,bs,hf,H=>by
  simp only[RdL] at H;obtain⟨v,vs',b1,b2,rfl,rfl,_,h1,h2⟩:=H;simp only[List.all_cons,Bool.and_eq_true] at hf;rw[zdg hf.1 h1,zgi hf.2 h2];rfl
end
theorem zb8{o:Bool}{h:Hp}{sz:Nat}:∀{xs:List (List D)} {vs:List Value} {bs:List Nat},(xs.all fun e=>e.all D.flat)=true→RdLL o h sz xs vs bs→bs=[]
 |[],vs,bs,_,H=>by simpa only[RdLL] using H
 |x::xs,vs,bs,hf,H=>by
  simp only[RdLL] at H;obtain⟨b1,b2,rfl,_,h1,h2⟩:=H;simp only[List.all_cons,Bool.and_eq_true] at hf;rw[zgi hf.1 h1,zb8 hf.2 h2];rfl
theorem zdK{h:Hp}{d:D}{v:Value}{bs:List Nat}(hf:d.flat=true)(H:Rd false h d v bs):Rd true h d v bs:=by
 cases d<;>first|(cases hf;done)|(simp only[Rd] at H ⊢;exact H)
theorem zgU{h:Hp}:∀{cs:List D} {vs:List Value},cs.all D.flat=true→zl (qE m h) (cs.map C.d) vs→RdL true h cs vs []
 |[],[],_,_=>by simp[RdL]
 |d::ds,v::vs,hf,H=>by
  simp only[List.all_cons,Bool.and_eq_true] at hf;obtain⟨⟨h1,bs,hr,_⟩,H2⟩:=H;have e1:=zdg hf.1 hr;subst e1;simp only[RdL];exact⟨v,vs,[],[],rfl,rfl,(by cases d<;>first|rfl|(have:=hf.1;cases this)),zdK hf.1 hr,zgU hf.2 H2⟩
 |[],_::_,_,H=>H.elim
 |_::_,[],_,H=>H.elim
theorem zgn(R:zt cx m s a w){n:Nat}{cs:List D}{u:Value}(hs:s.hp n=some (.vars cs.length<|cs.map C.d))(hf:cs.all D.flat=true)(H:zck m w.heap (.nm n 0 0) u):
  ∃b f,Rd true w.heap (.ptr cs) u [b]∧cx.mine b∧m.inf n=some f∧f.blk=some b∧m.own b=some n:=by
 obtain⟨f,b,hi,hb,rfl⟩:=H;have HN:=R.hp n;rw[hi,hs] at HN;unfold zT at HN;simp only[hb] at HN;obtain⟨h1,h2,cells,T,h3,h4,h5,h6⟩:=HN;have hl:=h6.length;simp only[List.length_map] at hl;refine⟨b,f,?_,h1,hi,hb,h2⟩;simp only[Rd];refine⟨b,0,cells,T,(0,0),[],by simp,h3,rfl,fun _=>⟨rfl,rfl,by simpa using hl⟩,?_⟩;have hfull:(cells.toList.drop 0).take cs.length=cells.toList:=by
  rw[List.drop_zero];apply List.take_of_length_le;omega
 rw[hfull];exact zgU hf h6
theorem zfi(R:zt cx m s a w){n:Nat}{cs:List D}{u:Value}(hs:s.hp n=some (.own cs))(H:zck m w.heap (.nm n 0 0) u):
  ∃b bs f,Rd true w.heap (.ptr cs) u (b::bs)∧(b::bs).Nodup∧m.inf n=some f∧f.blk=some b∧cx.mine b∧m.own b=some n∧∀c∈bs,m.own c=some n∧f.blk≠some c:=by
 obtain⟨f,b,hi,hb,rfl⟩:=H;have HN:=R.hp n;rw[hi,hs] at HN;unfold zT at HN;simp only[hb] at HN;obtain⟨h1,h2,cells,T,h3,h4,h5,bs,h6,h7,h8⟩:=HN;have hl:=h6.length;refine⟨b,bs,f,?_,?_,hi,hb,h1,h2,fun c hc=>⟨(h8 c hc).1,(h8 c hc).2⟩⟩
 ·simp only[Rd];refine⟨b,0,cells,T,(0,0),bs,by simp,h3,rfl,fun _=>⟨rfl,rfl,by simpa using hl⟩,?_⟩;have hfull:(cells.toList.drop 0).take cs.length=cells.toList:=by
   rw[List.drop_zero];apply List.take_of_length_le;omega
  rw[hfull];exact h6
 ·exact List.nodup_cons.2 ⟨fun hm=>(h8 b hm).2 hb,h7⟩
def xd(cx:Cx)(m:M)(ns:List Nat)(bs:List Nat):Prop:=bs.Nodup∧∀b∈bs,cx.mine b∧∃n∈ns,m.own b=some n
theorem xd.nil(ns:List Nat):xd cx m ns []:=⟨List.nodup_nil,by simp⟩
theorem xd.append{ns ms bs cs:List Nat}(hn:(ns++ms).Nodup)(h:xd cx m ns bs)(h':xd cx m ms cs):xd cx m (ns++ms) (bs++cs):=by
 refine⟨?_,fun b hb=> ?_⟩
 ·rw[List.nodup_append];refine⟨h.1,h'.1,fun b hb c hc e=> ?_⟩;subst e;obtain⟨_,n,hn1,e1⟩:=h.2 b hb;obtain⟨_,k,hk1,e2⟩:=h'.2 b hc;rw[e1] at e2;cases e2;rw[List.nodup_append] at hn;exact hn.2.2 n hn1 n hk1 rfl
 ·rw[List.mem_append] at hb;rcases hb with hb|hb
  ·obtain⟨h1,n,h2,h3⟩:=h.2 b hb;exact⟨h1,n,by simp[h2],h3⟩
  ·obtain⟨h1,n,h2,h3⟩:=h'.2 b hb;exact⟨h1,n,by simp[h2],h3⟩
theorem zt.mine_of_own(R:zt cx m s a w){b n:Nat}(h:m.own b=some n)(hn:n < 1000000):cx.mine b:=by
 unfold Cx.mine;rcases Nat.lt_or_ge b cx.w0.heap.size with hlt|hge
 ·by_cases hW:cx.W b
  ·exact .inr hW
  ·have:=R.own.2 b hlt hW;rw[h] at this;have:=cx.far b n this.symm;omega
 ·exact .inl hge
theorem zgr(R:zt cx m s a w){c:C}{u:Value}{d:D}{ns:List Nat}(H:qE m w.heap c u)(h:cO s c d ns):d.isCell=true∧∃bs,Rd true w.heap d u bs∧xd cx m ns bs:=by
 obtain⟨h1,H⟩:=H;unfold cO at h;split at h
 ·obtain⟨hf,rfl,rfl⟩:=h;obtain⟨bs,hr,_⟩:=H;have:=zdg hf hr;subst this;exact⟨(by cases d<;>first|rfl|cases hf),[],zdK hf hr,xd.nil _⟩
 ·obtain⟨⟨sz,rfl⟩,rfl⟩:=h;obtain⟨ad,rfl⟩:=H;exact⟨rfl,[],by simp only[Rd];exact⟨ad,0,rfl,.inl (by simp)⟩,xd.nil _⟩
 ·rename_i n off len;obtain⟨rfl,rfl,sz,xs,cp,hk,rfl,hfl,rfl⟩:=h;obtain⟨f,hf,hcap,ad,rfl,had⟩:=H;have HN:=R.hp n;rw[hf,hk] at HN;obtain⟨hfs,HN⟩:=HN.data;refine⟨rfl,?_⟩;rcases HN with⟨hb,hc,rfl⟩|⟨b,cells,T,bs,hb,hm,ho,hh,hfit,hr,h7,h8⟩
  ·exact⟨[],by simp only[Rd];exact⟨ad,_,rfl,.inl (by simp[hc])⟩,xd.nil _⟩
  ·obtain⟨hn1,hn2⟩:=h7 rfl;by_cases h0:0 < f.cap
   ·obtain⟨b',hb',rfl⟩:=had h0;rw[hb] at hb';cases hb';refine⟨b::bs,?_,?_,fun c hc=> ?_⟩
    ·simp only[Rd];refine⟨_,_,rfl,.inr ⟨b,0,cells,T,(0,0),bs,by simp,hh,rfl,by omega,?_,fun _=>⟨rfl,rfl⟩,by simpa using hr⟩⟩;rw[←hfs];simpa using hfit
    ·rw[List.nodup_cons];exact⟨fun hmem=>(hn2 b hmem).2 hb,hn1⟩
    ·rcases List.mem_cons.1 hc with rfl|hc
     ·exact⟨hm,n,by simp,ho⟩
     ·have hown:=(hn2 c hc).1;rcases hfl with hfl|hfl
      ·have:=zb8 hfl hr;subst this;cases hc
      ·exact⟨R.mine_of_own hown hfl,n,by simp,hown⟩
   ·have:xs=[]:=List.eq_nil_of_length_eq_zero (by omega);subst this;exact⟨[],by simp only[Rd];exact⟨ad,_,rfl,.inl (by simp;omega)⟩,xd.nil _⟩
 ·rename_i n i j;obtain⟨rfl,rfl,rfl,cs,hs,rfl⟩:=h;rcases hs with⟨hs,hf⟩|⟨hs,hlt⟩
  ·obtain⟨b,f,hr,hm,_,_,ho⟩:=zgn R hs hf H;exact⟨rfl,[b],hr,by simp,fun c hc=>by
    simp only[List.mem_singleton] at hc;subst hc;exact⟨hm,n,by simp,ho⟩⟩
  ·obtain⟨b,bs,f,hr,hnd,_,_,hm,ho,hbs⟩:=zfi R hs H;refine⟨rfl,b::bs,hr,hnd,fun c hc=> ?_⟩;rcases List.mem_cons.1 hc with rfl|hc
   ·exact⟨hm,n,by simp,ho⟩
   ·exact⟨R.mine_of_own (hbs c hc).1 hlt,n,by simp,(hbs c hc).1⟩
 ·exact h.elim
theorem zfe(R:zt cx m s a w):∀{cs:List C} {us:List Value} {ds:List D} {ns:List Nat},ns.Nodup→zl (qE m w.heap) cs us→cOs s cs ds ns→∃bs,RdL true w.heap ds us bs∧xd cx m ns bs
 |[],[],[],ns,_,_,h=>by
  have h:ns=[]:=h;subst h;exact⟨[],by simp[RdL],xd.nil _⟩
 |c::cs,u::us,d::ds,ns,hnd,H,h=>by
  obtain⟨x,y,rfl,h1,h2⟩:=h;rw[List.nodup_append] at hnd;obtain⟨hc,b1,r1,o1⟩:=zgr R H.1 h1;obtain⟨b2,r2,o2⟩:=zfe R hnd.2.1 H.2 h2;exact⟨b1++b2,by simp only[RdL];exact⟨u,us,b1,b2,rfl,rfl,hc,r1,r2⟩,o1.append (List.nodup_append.2 hnd) o2⟩
 |[],[],_::_,_,_,_,h=>h.elim
 |_::_,_::_,[],_,_,_,h=>h.elim
 |[],_::_,_,_,_,H,_=>H.elim
 |_::_,[],_,_,_,H,_=>H.elim
theorem zgu(R:zt cx m s a w){v:V}{u:Value}{d:D}{ns:List Nat}(hnd:ns.Nodup)(H:qK m w.heap v u)(h:vO s v d ns):∃bs,Rd true w.heap d u bs∧xd cx m ns bs:=by
 unfold vO at h;split at h
 ·exact(zgr R H h).2
 ·obtain⟨vs,rfl,hall⟩:=H;obtain⟨bs,h1,h2⟩:=zfe R hnd hall h;exact⟨bs,by simp only[Rd];exact⟨vs,rfl,h1⟩,h2⟩
 ·exact h.elim
def K9(tmps:Array Value):ResultVar→Sem Value
 | .tmp t=>pure (tmps.getD t undef)
 | .cell a t=>do loadVar t (←asAddr (tmps.getD a undef))
theorem zhs(fn:Func)(tmps:Array Value):results fn tmps=(do
  let vs ←fn.results.mapM (K9 tmps)
  pure (if h:vs.size=1 then vs[0] else .tuple vs)):=by
 unfold results;congr 2
theorem zbB(R:zt cx m s a w){r:ResultVar}{q:ZG}{v:V}(h:K3 cx.P r=some q)(hv:s.rdR q=some v):∃u,(K9 a.tmps r).run cx.P w= .ok u w∧qK m w.heap v u:=by
 cases r with
 |tmp t=>
  cases h;simp only[St.rdR,Option.some.injEq] at hv;subst hv;exact⟨_,by simp only[K9,Sem.run_pure],R.sl t⟩
 |cell t ty=>
  simp only[K3,omi] at h;obtain⟨ag,hag,rfl⟩:=h;have hp:=R.sl t;simp only[zfQ,obi] at hag;obtain⟨td,htd,hag⟩:=hag;cases hA:KI td with
  |true=>
   rw[hA] at hag;simp only[if_true,omi,szP] at hag;obtain⟨n,⟨i,hi,hin⟩,rfl⟩:=hag;simp only[St.rdR,omi] at hv;obtain⟨cs,hcs,rfl⟩:=hv;obtain⟨b,off,cells,T,fz,hu,hh,hl,hall⟩:=XX R hp hcs;have hlen:=hall.length;have hrun:=QJ (P:=cx.P) (off:=off) (n:=n) hh (by omega);refine⟨.agg ((cells.toList.drop off).take n).toArray,?_,⟨_,rfl,by simpa using hall⟩⟩;simp only[K9,hu,asAddr,loadVar,Sem.run_bind,Sem.run_pure,Result.andThen_ok,QB htd,hA,if_true,qt hi,hin,hrun]
  |false=>
   rw[hA] at hag;simp only[Bool.false_eq_true,if_false,Option.some.injEq] at hag;subst hag;simp only[St.rdR,obi] at hv;obtain⟨cs,hcs,hv⟩:=hv;obtain⟨b,off,cells,T,fz,hu,hh,hl,hall⟩:=XX R hp hcs
   match cs,hl with
   |[c],_=>
    simp only[kH,Bool.false_eq_true,if_false,Option.some.injEq] at hv;subst hv;obtain⟨u,hu1,hrel⟩:=hall.at (i:=0) (a:=c) rfl;refine⟨u,?_,hrel⟩;have hcell:w.cell? ⟨b,off,none⟩=some u:=by
     rw[cell_of_row w b off cells T fz hh];rw[List.getElem?_take,if_pos (by omega),List.getElem?_drop] at hu1;simpa using hu1
    simp only[K9,hu,asAddr,loadVar,Sem.run_bind,Sem.run_pure,Result.andThen_ok,QB htd,hA,Bool.false_eq_true,if_false,load,Sem.run,hcell]
theorem Xt(R:zt cx m s a w):∀{rl:List ResultVar} {ts:List ZG} {rs:List D} {ns:List Nat},rl.mapM (K3 cx.P)=some ts→ns.Nodup→zcD s ts rs ns→
  ∃us br,(rl.mapM<|K9 a.tmps).run cx.P w= .ok us w∧K7 true w.heap rs us br∧xd cx m ns br.flatten
 |[],ts,rs,ns,hm,_,h=>by
  simp at hm;subst hm;cases rs with
  |cons _ _=>exact h.elim
  |nil=>exact⟨[],[],by simp only[List.mapM_nil,Sem.run_pure],trivial,xd.nil _⟩
 |r::rl,ts,rs,ns,hm,hnd,h=>by
  simp only[List.mapM_cons,Option.pure_def,Option.bind_eq_bind,obi] at hm;obtain⟨t,ht,ts',hts,he⟩:=hm;cases he;cases rs with
  |nil=>exact h.elim
  |cons d rs=>
   obtain⟨v,x,y,hv,rfl,h1,h2⟩:=h;rw[List.nodup_append] at hnd;obtain⟨u,hu,hrel⟩:=zbB R ht hv;obtain⟨b1,r1,o1⟩:=zgu R hnd.1 hrel h1;obtain⟨us,br,hus,r2,o2⟩:=Xt R hts hnd.2.1 h2;exact⟨u::us,b1::br,by simp only[List.mapM_cons,Sem.run_bind,Sem.run_pure,hu,Result.andThen_ok,hus],⟨r1,r2⟩,by simp only[List.flatten_cons];exact o1.append (List.nodup_append.2 hnd) o2⟩
theorem Xi{P:Program}{fn:Func}{tmps:Array Value}{w:World}{us:List Value}(h:(fn.results.toList.mapM<|K9 tmps).run P w= .ok us w):(results fn tmps).run P w= .ok (pack us) w:=by
 rw[zhs,Array.mapM_eq_mapM_toList];simp only[Sem.run_bind,Sem.run_map,h,Result.andThen_ok,Sem.run_pure];unfold pack
 match us with
 |[]=>rfl
 |[v]=>rfl
 |_::_::_=>simp
theorem K7.pack{o:Bool}{h:Hp}:∀{rs:List D} {vs:List Value} {br:List (List Nat)},K7 o h rs vs br→Res o h rs (pack vs) br
 |[r],[v],[b],H=>⟨b,rfl,H.1⟩
 |[],[],[],_=>⟨#[],rfl,trivial⟩
 |r::r'::rs,v::v'::vs,b::b'::bs,H=>⟨(v::v'::vs).toArray,rfl,H⟩
 |[],_::_,_,H=>by cases ‹List (List Nat)›<;>exact H.elim
 |[],[],_::_,H=>H.elim
 |_::_,[],_,H=>H.elim
 |_::_,_::_,[],H=>H.elim
 |[_],_::_::_,_::_,H=>by have:=H.2;cases ‹List (List Nat)›<;>exact this.elim
 |[_],[_],_::_::_,H=>H.2.elim
 |_::_::_,[_],_::_,H=>H.2.elim
 |_::_::_,_::_::_,[_],H=>H.2.elim
theorem kC.length{h:Hp}:∀{as:List Ar} {vs:List Value} {bss:List (List Nat)},kC h as vs bss→vs.length=as.length∧bss.length=as.length
 |[],[],[],_=>⟨rfl,rfl⟩
 |_::as,_::vs,_::bs,H=>by have:=H.2.length;simp[this.1,this.2]
 |[],_::_,_,H=>by cases ‹List (List Nat)›<;>exact H.elim
 |[],[],_::_,H=>H.elim
 |_::_,[],_,H=>H.elim
 |_::_,_::_,[],H=>H.elim
theorem kC.at{h:Hp}:∀{ds:List D} {vs:List Value} {bss:List (List Nat)},kC h (lent ds) vs bss→∀{t:Nat} {d:D},ds[t]? =some d→∃v bs,vs[t]? =some v∧Rd false h d v bs
 |[],_,_,_,t,d,hd=>by simp at hd
 |x::ds,v::vs,b::bs,H,0,d,hd=>by simp at hd;subst hd;exact⟨v,b,rfl,H.1⟩
 |x::ds,v::vs,b::bs,H,t+1,d,hd=>by simpa using H.2.at (ds:=ds) (by simpa using hd)
 |_::_,[],_,H,_,_,_=>H.elim
 |_::_,_::_,[],H,_,_,_=>H.elim
theorem zbp{h:Hp}:∀{ds:List D} {vs:List Value},vs.length=ds.length→zdx h (lent ds) vs (ds.map fun _=>[])
 |[],[],_=>trivial
 |_::ds,_::vs,hl=>⟨rfl,zbp (by simpa using hl)⟩
 |[],_::_,hl=>by simp at hl
 |_::_,[],hl=>by simp at hl
theorem zwZ:∀(ds:List D),(ds.map fun _=>([]:List Nat)).flatten=[]
 |[]=>rfl
 |_::ds=>by simp only[List.map_cons,List.flatten_cons,List.nil_append];exact zwZ ds
theorem zkU{P:Program}{f:FuncId}{fn:Func}{code:Code}{n:Nat}{hints h':Qy}{ic:IC}{ds rs:List D}{ts:List ZG}(hcall:callable P f=true)(hf:P.funcs[f]? =some fn)(hb:fn.body=some code)
  (hn:fn.ntmps=n) (hle:ds.length≤n) (hic:qI P n code hints=some (ic,h')) (hres:fn.results.toList.mapM (K3 P)=some ts)
  (h:AW0 P n ic (ziJ ts rs) (zfD ds)):Fn P f (lent ds) true rs:=by
 refine⟨hcall,fun w vs bss HA _ _=> ?_⟩;obtain⟨hl1,hl2⟩:=HA.length;have hl1:vs.length=ds.length:=by simpa[lent] using hl1
 let cx:Cx:={P:=P,n:=n,w0:=w,W:=fun _=>False,gh:=fun t=>vs.getD t undef,own0:=fun _=>none,far:=fun _ _ h=>by cases h}
 let m0:M:={inf:=fun _=>none,own:=fun _=>none}
 let a0:Act:={tmps:=vs.toArray++Array.replicate (fn.ntmps - vs.toArray.size) undef,defers:=[]}
 have hsl:∀t v,(∀d,ds[t]? =some d→∃bs,Rd false w.heap d v bs)→qK m0 w.heap (Y1 ds t) v:=fun t v hv=>by
  unfold Y1;split
  ·rename_i d hd;obtain⟨bs,hr⟩:=hv d hd;exact(Kf hr (fun _ _=>rfl)).v
  ·trivial
 have R0:zt cx m0 (zfD ds) a0 w:=by
  refine⟨?_,rfl,(fun t=>hsl t _ fun d hd=> ?_),(fun k=>trivial),⟨(fun b k hb=>by cases hb),fun _ _ _=>rfl⟩,⟨rfl,rfl,rfl,Nat.le_refl _,fun _ _ _=>rfl⟩,(fun t=>hsl t _ fun d hd=> ?_)⟩
  ·simp only[a0,Array.size_append,Array.size_replicate,List.size_toArray,hn,cx];omega
  ·obtain⟨v,bs,hv,hr⟩:=HA.at hd;refine⟨bs,?_⟩;have hlt:t < vs.length:=(List.getElem?_eq_some_iff.1 hv).1;have:a0.tmps.getD t undef=v:=by
    rw[Array.getD_eq_getD_getElem?];simp only[a0];rw[Array.getElem?_append_left (by simpa using hlt)];simp[hv]
   rw[this];exact hr
  ·obtain⟨v,bs,hv,hr⟩:=HA.at hd;refine⟨bs,?_⟩;have:vs.getD t undef=v:=by rw[List.getD_eq_getElem?_getD,hv];rfl
   simp only[cx,this];exact hr
 refine calls_of_wp hf hb (wp_mono (h cx code hints h' a0 w O O hic ⟨m0,R0⟩) fun e a' w' ⟨s',hs,m',R'⟩=> ?_);have fin:∀ns,zcD s' ts rs ns→ns.Nodup→a'.defers=[]∧∃v,(results fn a'.tmps).run P w'= .ok v w'∧∃v' br bm,Ending.returned v= .returned v'∧zhg w w' (lent ds) vs bss true rs v' br bm:=fun ns hr hnd=>by
  obtain⟨us,br,h0,h1,h2⟩:=Xt R' hres hnd hr;have hnil:=zwZ ds;refine⟨R'.defers,_,Xi h0,_,br,ds.map fun _=>[],rfl,?_⟩;refine⟨R'.fr.os,R'.fr.tape,R'.fr.output,R'.fr.size,fun b hb _=>R'.fr.kept b hb (fun h=>h.elim),h1.pack,zbp hl1,?_,(fun _=>h2.1),(fun b _ hb=> ?_),(fun b hb=> ?_),(fun b hb=> ?_)⟩
  ·rw[hnil];exact List.nodup_nil
  ·rw[hnil] at hb;cases hb
  ·rw[hnil] at hb;cases hb
  ·obtain⟨hm,_⟩:=h2.2 b hb;rcases hm with hm|hm
   ·exact .inl hm
   ·exact hm.elim
 cases e with
 |normal=>obtain⟨ns,hr,hnd⟩:=hs;exact fin ns hr hnd
 |ret=>obtain⟨ns,hr,hnd⟩:=hs;exact fin ns hr hnd
 |_=>exact hs.elim
theorem zjm{P:Program}{f:FuncId}{fn:Func}{n:Nat}{hints h':Qy}{ic:IC}{ds rs:List D}{ts:List ZG}(hcall:callable P f=true)(hf:P.funcs[f]? =some fn)
  (hn:fn.ntmps=n) (hic:(fn.body.bind fun c=>qI P n c hints)=some (ic,h')) (hres:fn.results.toList.mapM (K3 P)=some ts) (hle:ds.length≤n)
  (h:AW0 P n ic (ziJ ts rs) (zfD ds)):Fn P f (lent ds) true rs:=by
 rw[obi] at hic;obtain⟨code,hb,hic⟩:=hic;exact zkU hcall hf hb hn hle hic hres h
end Go.AW
