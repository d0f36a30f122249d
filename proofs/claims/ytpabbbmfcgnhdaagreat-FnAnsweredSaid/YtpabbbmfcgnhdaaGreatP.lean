/- Contracts of functions on plain data, and a call by a contract. Lemmas. Conditions: none. -/
import Derived.Test.YtpabbbmfcgnhdaaGreatN
set_option linter.unusedVariables false
namespace Go.AW
inductive Md where
 |b
 |g
 |m (d':D)
 |z
def Md.owned:Md→Bool
 | .b=>false
 | .z=>false
 |_=>true
structure Ar where
 d:D
 md:Md
def zbZ(h:Hp)(a:Ar)(v:Value)(b:List Nat):Prop:=match a.md with
 | .z=>Rd false h a.d v b∧∃ad,v= .slice ad 0 0
 | .b=>Rd false h a.d v b
 |_=>Rd true h a.d v b
theorem zbZ.own{h:Hp}{a:Ar}{v:Value}{b:List Nat}(ho:a.md.owned=true)(H:zbZ h a v b):Rd true h a.d v b:=by
 obtain⟨d,md⟩:=a;cases md with
 |b=>cases ho
 |z=>cases ho
 |g=>exact H
 |m d'=>exact H
theorem zhd{h:Hp}{a:Ar}{v:Value}{b:List Nat}(ho:a.md.owned=false)(H:zbZ h a v b):Rd false h a.d v b:=by
 obtain⟨d,md⟩:=a;cases md with
 |b=>exact H
 |z=>exact H.1
 |g=>cases ho
 |m d'=>cases ho
def kC(h:Hp):List Ar→List Value→List (List Nat)→Prop
 |[],[],[]=>True
 |a::as,v::vs,b::bs=>zbZ h a v b∧kC h as vs bs
 |_,_,_=>False
def qR:List Ar→List (List Nat)→List Nat
 |a::as,b::bs=>(if a.md.owned then b else[])++qR as bs
 |_,_=>[]
def ZZ:List Ar→List (List Nat)→List Nat
 |a::as,b::bs=>(if a.md.owned then[] else b)++ZZ as bs
 |_,_=>[]
def zdx(h:Hp):List Ar→List Value→List (List Nat)→Prop
 |[],[],[]=>True
 |a::as,v::vs,b::bs=>(match a.md with| .m d'=>Rd true h d' v b|_=>b=[])∧zdx h as vs bs
 |_,_,_=>False
def K7(o:Bool)(h:Hp):List D→List Value→List (List Nat)→Prop
 |[],[],[]=>True
 |r::rs,v::vs,b::bs=>Rd o h r v b∧K7 o h rs vs bs
 |_,_,_=>False
def Res(o:Bool)(h:Hp)(rs:List D)(v:Value)(bs:List (List Nat)):Prop:=
 match rs with
 |[r]=>∃b,bs=[b]∧Rd o h r v b
 |rs=>∃vs,v= .tuple vs∧K7 o h rs vs.toList bs
structure zhg(w w':World)(as:List Ar)(vs:List Value)(bss:List (List Nat))(o:Bool)(rs:List D)(v:Value)(br bm:List (List Nat)):Prop where
 os:w'.os=w.os
 tape:w'.tape=w.tape
 output:w'.output=w.output
 size:w.heap.size≤w'.heap.size
 kept:∀b,b < w.heap.size→b∉qR as bss→w'.heap[b]? =w.heap[b]?
 res:Res o w'.heap rs v br
 muts:zdx w'.heap as vs bm
 nodup:bm.flatten.Nodup
 nodupR:o=true→br.flatten.Nodup
 apart:∀b∈br.flatten,b∉bm.flatten
 mfrom:∀b∈bm.flatten,w.heap.size≤b∨b∈qR as bss
 rfrom:∀b∈br.flatten,w.heap.size≤b∨b∈qR as bss∨(o=false∧b∈ZZ as bss)
def callable(P:Program)(f:FuncId):Bool:=match P.funcs[f]? with
 |some fn=>fn.body.isSome&&fn.name != "runtime.NumGoroutine"
 |none=>false
def Fn(P:Program)(f:FuncId)(as:List Ar)(o:Bool)(rs:List D):Prop:=
 callable P f=true∧∀(w:World) (vs:List Value) (bss:List (List Nat)),kC w.heap as vs bss→(qR as bss).Nodup→(∀b∈qR as bss,b∉ZZ as bss)→
  Calls P f vs.toArray w (fun e w'=>∃v br bm,e= .returned v∧zhg w w' as vs bss o rs v br bm)
theorem Kx{P:Program}{f:FuncId}(h:callable P f=true)(args:Array Value)(w:World):(callFunc f args).run P w= .ok (.enter f args) w:=by
 unfold callable at h;split at h
 ·rename_i fn hf;simp only[Bool.and_eq_true,bne_iff_ne,ne_eq] at h;have h1:(fn.name == "runtime.NumGoroutine")=false:=by simpa using h.2
  have h2:fn.body.isNone=false:=by
   cases hb:fn.body with
   |none=>rw[hb] at h;simp at h
   |some c=>rfl
  simp only[callFunc,Sem.run_bind,program,Sem.run,Result.andThen_ok,hf,h1,h2,Bool.false_eq_true,if_false];rfl
 ·cases h
def zc9:List C→Option (List D)
 |[]=>some []
 | .d x::r=>(zc9 r).map (x::·)
 |_::_=>none
def cD0(s:St):C→Option D
 | .d x=>some x
 | .zs=>some (.sl 0 [])
 | .sl n off len=>match s.hp n with
   |some (.data sz xs _ _)=>if off=0∧len=xs.length then some (.sl sz xs) else if off+len≤xs.length then some (.sl sz<|(xs.drop off).take len) else none
   |some (.vars 1 cs)=>if off=0∧len=cs.length then(zc9 cs).map fun ds=> .sl 1 (ds.map fun d=>[d]) else none
   |_=>none
 | .sub _ x=>some x
 |_=>none
def pD(s:St):Ptr→Option D
 | .bd cs 0=>some (.ptr cs)
 | .nm n 0 0=>match s.hp n with
   |some (.vars _ cs)=>(cs.mapM<|cD0 s).map .ptr
   |_=>none
 |_=>none
def cD(s:St):C→Option D
 | .ptr p=>pD s p
 | .fn f caps=>(caps.mapM<|pD s).map (.fn f)
 |c=>cD0 s c
def vD(s:St):V→Option D
 | .one c=>cD s c
 | .agg cs=>(cs.mapM<|cD0 s).map .agg
 |_=>none
def C.uses0:C→List Nat
 | .sl n _ _=>[n]
 | .sub n _=>[n]
 |_=>[]
def zds(s:St):Ptr→List Nat
 | .bd _ _=>[]
 | .nm n _ _=>n::(match s.hp n with
   |some (.vars _ cs)=>cs.flatMap C.uses0
   |_=>[])
def zjR(s:St):C→List Nat
 | .ptr p=>zds s p
 | .fn _ caps=>caps.flatMap (zds s)
 |c=>c.uses0
def KW(s:St):V→List Nat
 | .one c=>zjR s c
 | .agg cs=>cs.flatMap C.uses0
 |_=>[]
variable {cx:Cx} {m:M} {s:St} {a:Act} {w:World}
def Of(m:M)(us:List Nat)(bs:List Nat):Prop:=∀b∈bs,m.own b=none∨∃n∈us,m.own b=some n
theorem zT.data{n sz:Nat}{xs:List (List D)}{own:Bool}{cp:Option Nat}{f:NI}{h:Hp}(H:zT cx m h n (some<|.data sz xs own cp) (some f)):
  f.sz=sz∧((f.blk=none∧f.cap=0∧xs=[])∨∃b cells T bs,f.blk=some b∧cx.mine b∧m.own b=some n∧h[b]? =some (.cells cells T (0,0))∧f.cap * f.sz≤cells.size∧RdLL own h sz xs cells.toList bs∧
   (own=true→bs.Nodup∧∀c∈bs,m.own c=some n∧f.blk≠some c)∧(own=false→∀c∈bs,m.own c=none)):=by
 unfold zT at H;cases hb:f.blk with
 |none=>
  simp only[hb] at H;obtain⟨h1,z,o,c,h2,h3,_⟩:=H;simp only[Blk.data.injEq] at h2;obtain⟨rfl,rfl,_,_⟩:=h2;exact⟨h3,.inl ⟨rfl,h1,rfl⟩⟩
 |some b=>
  simp only[hb] at H;obtain⟨h1,h2,cells,T,h3,h4,h5,_,bs,h6,h7,h8⟩:=H;exact⟨h5,.inr ⟨b,cells,T,bs,rfl,h1,h2,h3,h4,h6,by rw[←hb];exact h7,h8⟩⟩
theorem zfb{h:Hp}:∀{cs:List C} {vs:List Value} {ds:List D},zl (qE m h) cs vs→zc9 cs=some ds→∃bs,RdLL false h 1 (ds.map fun d=>[d]) vs bs∧∀b∈bs,m.own b=none
 |[],[],ds,_,e=>by simp only[zc9,Option.some.injEq] at e;subst e;exact⟨[],by simp[RdLL],by simp⟩
 |[],_::_,_,H,_=>H.elim
 |_::_,[],_,H,_=>H.elim
 |c::cs,v::vs,ds,H,e=>by
  cases c with
  |d x=>
   simp only[zc9,omi] at e;obtain⟨ds',e',rfl⟩:=e;obtain⟨⟨h1,b1,hr,hb⟩,H2⟩:=H;obtain⟨b2,hr2,hb2⟩:=zfb H2 e';have hcell:x.isCell=true:=by
    cases x with
    |agg cs=>simp only[Rd] at hr;obtain⟨vs,rfl,_⟩:=hr;simp[Value.oneCell'] at h1
    |_=>rfl
   refine⟨b1++b2,?_,fun b hm=>(List.mem_append.1 hm).elim (hb b) (hb2 b)⟩;simp only[List.map_cons,RdLL,RdL];exact⟨b1,b2,rfl,rfl,⟨v,[],b1,[],by simp,by simp,hcell,hr,rfl,rfl⟩,by simpa using hr2⟩
  |_=>simp[zc9] at e
theorem Kh(R:zt cx m s a w){c:C}{v:Value}{x:D}(H:qE m w.heap c v)(h:cD0 s c=some x):∃bs,x.isCell=true∧Rd false w.heap x v bs∧Of m c.uses0 bs:=by
 have hcell:∀{x:D} {v:Value} {bs:List Nat},v.oneCell'=true→Rd false w.heap x v bs→x.isCell=true:=by
  intro x v bs h1 h2;cases x with
  |agg cs=>simp only[Rd] at h2;obtain⟨vs,rfl,_⟩:=h2;simp[Value.oneCell'] at h1
  |_=>rfl
 obtain⟨h1,H⟩:=H;unfold cD0 at h;split at h
 ·cases h;obtain⟨bs,hr,hb⟩:=H;exact⟨bs,hcell h1 hr,hr,fun b hm=> .inl (hb b hm)⟩
 ·cases h;obtain⟨ad,rfl⟩:=H;exact⟨[],rfl,by simp only[Rd];exact⟨ad,0,rfl,.inl (by simp)⟩,by simp[Of]⟩
 ·rename_i n off len;obtain⟨f,hf,hcap,ad,rfl,had⟩:=H;have HN:=R.hp n;rw[hf] at HN;split at h;rotate_left
  ·rename_i cs hk;rw[hk] at HN;split at h;rotate_left
   ·cases h
   rename_i hc;obtain⟨rfl,rfl⟩:=hc;simp only[omi] at h;obtain⟨ds,hds,rfl⟩:=h;have hlen:ds.length=cs.length:=by
    have:∀{cs:List C} {ds:List D},zc9 cs=some ds→ds.length=cs.length:=by
     intro cs;induction cs with
     |nil=>intro ds e;simp only[zc9,Option.some.injEq] at e;subst e;rfl
     |cons c cs ih=>
      intro ds e;cases c with
      |d x=>
       simp only[zc9,omi] at e;obtain⟨ds',e',rfl⟩:=e;simp[ih e']
      |_=>simp[zc9] at e
    exact this hds
   unfold zT at HN;cases hb:f.blk with
   |none=>
    simp only[hb] at HN;obtain⟨_,z,o,c,hx,_⟩:=HN;cases hx
   |some b=>
    simp only[hb] at HN;obtain⟨_,ho,cells,T,hh,hfit,hz,hall⟩:=HN;obtain⟨bs,hr,hbs⟩:=zfb hall hds;by_cases h0:cs.length=0
    ·refine⟨[],rfl,?_,by simp[Of]⟩;simp only[Rd,List.length_map];exact⟨ad,_,by rw[hlen],.inl ⟨by simp[List.eq_nil_of_length_eq_zero (show ds.length=0 by omega)],by simp⟩⟩
    ·obtain⟨b',hb',rfl⟩:=had (by omega);rw[hb] at hb';cases hb';refine⟨b::bs,rfl,?_,fun c hc=> ?_⟩
     ·simp only[Rd,List.length_map];refine⟨_,_,by rw[hlen],.inr ⟨b,0 * f.sz,cells,T,_,bs,rfl,hh,rfl,by omega,?_,by simp,by simpa using hr⟩⟩;rw[hz] at hfit ⊢;omega
     ·rcases List.mem_cons.1 hc with rfl|hc
      ·exact .inr ⟨n,by simp[C.uses0],ho⟩
      ·exact .inl (hbs c hc)
  ·cases h
  rename_i sz xs own cp hk;rw[hk] at HN;obtain⟨hfs,HN⟩:=HN.data;have key:∀ys:List (List D),ys=(xs.drop off).take len→ys.length=len→∃bs,Rd false w.heap (.sl sz ys) (.slice ad len (f.cap - off)) bs∧Of m [n] bs:=by
   intro ys hys hlen;by_cases h0:len=0
   ·refine⟨[],?_,by simp[Of]⟩;simp only[Rd];exact⟨ad,_,by rw[hlen],.inl ⟨List.eq_nil_of_length_eq_zero (by omega),by simp⟩⟩
   ·obtain⟨b',hb',rfl⟩:=had (by omega);rcases HN with⟨hb,hc,_⟩|⟨b,cells,T,bs,hb,hm,ho,hh,hfit,hr,h7,h8⟩
    ·omega
    simp only[hb,Option.some.injEq] at hb';subst hb';obtain⟨c1,c2,rfl,_,hr2⟩:=hr.split off;obtain⟨c3,c4,rfl,hr3,_⟩:=hr2.split len;rw[←hys] at hr3;have hr4:RdLL false w.heap sz ys (cells.toList.drop (off * sz)) c3:=by
     cases own
     ·exact hr3
     ·exact RdLL.weak _ _ _ _ hr3
    refine⟨b::c3,?_,fun c hc=> ?_⟩
    ·simp only[Rd];refine⟨_,_,by rw[hlen],.inr ⟨b,off * f.sz,cells,T,_,c3,rfl,hh,rfl,by omega,?_,by simp,by rwa [hfs]⟩⟩;have:off * f.sz+(f.cap - off) * f.sz=f.cap * f.sz:=by rw[←Nat.add_mul];congr 1;omega
     rw[hfs] at this hfit ⊢;omega
    ·rcases List.mem_cons.1 hc with rfl|hc
     ·exact .inr ⟨n,by simp,ho⟩
     ·cases own with
      |true=>exact .inr ⟨n,by simp,((h7 O).2 c (by simp[hc])).1⟩
      |false=>exact .inl (h8 O c (by simp[hc]))
  split at h
  ·rename_i hc;obtain⟨rfl,rfl⟩:=hc;cases h;obtain⟨bs,hr,hb⟩:=key xs (by simp) rfl;exact⟨bs,rfl,hr,hb⟩
  ·split at h<;>simp only[Option.some.injEq,reduceCtorEq] at h;rename_i hle;subst h;obtain⟨bs,hr,hb⟩:=key _ O (by simp only[List.length_take,List.length_drop];omega);exact⟨bs,rfl,hr,hb⟩
 ·cases h;obtain⟨f,hf,bs,hr,hb⟩:=H;exact⟨bs,hcell h1 hr,hr,fun b hm=>(hb b hm).1.imp id fun h=>⟨_,by simp[C.uses0],h⟩⟩
 ·cases h
theorem Of.mono{us us' bs:List Nat}(h:Of m us bs)(hu:∀n∈us,n∈us'):Of m us' bs:=fun b hb=>(h b hb).imp id fun⟨n,hn,e⟩=>⟨n,hu n hn,e⟩
theorem Of.append{us bs cs:List Nat}(h:Of m us bs)(k:Of m us cs):Of m us (bs++cs):=fun b hb=>(List.mem_append.1 hb).elim (h b) (k b)
theorem zbj(R:zt cx m s a w):∀{cs:List C} {vs:List Value} {xs:List D},zl (qE m w.heap) cs vs→cs.mapM (cD0 s)=some xs→∃bs,RdL false w.heap xs vs bs∧Of m (cs.flatMap C.uses0) bs
 |[],[],xs,_,h=>by simp at h;subst h;exact⟨[],by simp[RdL],by simp[Of]⟩
 |c::cs,v::vs,xs,H,h=>by
  simp only[List.mapM_cons,Option.pure_def,Option.bind_eq_bind,obi] at h;obtain⟨x,hx,xs',hxs,he⟩:=h;cases he;obtain⟨b1,hc,h1,o1⟩:=Kh R H.1 hx;obtain⟨b2,h2,o2⟩:=zbj R H.2 hxs;refine⟨b1++b2,?_,(o1.mono (fun n hn=>by simp[hn])).append<|o2.mono (fun n hn=> ?_)⟩
  ·simp only[RdL];exact⟨v,vs,b1,b2,rfl,rfl,hc,h1,h2⟩
  ·simp only[List.flatMap_cons,List.mem_append];exact .inr hn
 |[],_::_,_,H,_=>H.elim
 |_::_,[],_,H,_=>H.elim
theorem zgA(R:zt cx m s a w){p:Ptr}{v:Value}{x:D}(H:zck m w.heap p v)(h:pD s p=some x):∃bs,x.isCell=true∧Rd false w.heap x v bs∧Of m (zds s p) bs:=by
 unfold pD at h;split at h
 ·rename_i cs;cases h;obtain⟨b,off,cells,T,fz,bs,rfl,hh,hr,ho,hb⟩:=H;refine⟨b::bs,rfl,?_,fun c hc=> .inl ?_⟩
  ·simp only[Rd];exact⟨b,off,cells,T,fz,bs,rfl,hh,rfl,by simp,hr⟩
  ·rcases List.mem_cons.1 hc with rfl|hc
   ·exact ho
   ·exact hb c hc
 ·rename_i n;obtain⟨f,b,hf,hb,rfl⟩:=H;split at h;rotate_left
  ·cases h
  rename_i sz cs hk;simp only[omi] at h;obtain⟨xs,hxs,rfl⟩:=h;have HN:=R.hp n;rw[hf,hk] at HN;unfold zT at HN;simp only[hb] at HN;obtain⟨h1,h2,cells,T,h3,h4,h5,h6⟩:=HN;obtain⟨bs,hr,ho⟩:=zbj R h6 hxs;have hl:=hr.length;refine⟨b::bs,rfl,?_,fun c hc=> ?_⟩
  ·simp only[Rd];refine⟨b,0,cells,T,_,bs,by simp,h3,rfl,by simp,?_⟩;rw[List.drop_zero,List.take_of_length_le (by omega)];exact hr
  ·simp only[zds,hk];rcases List.mem_cons.1 hc with rfl|hc
   ·exact .inr ⟨n,by simp,h2⟩
   ·exact(ho c hc).imp id fun⟨k,hk,e⟩=>⟨k,by simp only[List.mem_cons];exact .inr hk,e⟩
 ·cases h
theorem zfq(R:zt cx m s a w):∀{cs:List Ptr} {vs:List Value} {xs:List D},zl (zck m w.heap) cs vs→cs.mapM (pD s)=some xs→∃bs,RdL false w.heap xs vs bs∧Of m (cs.flatMap<|zds s) bs
 |[],[],xs,_,h=>by simp at h;subst h;exact⟨[],by simp[RdL],by simp[Of]⟩
 |c::cs,v::vs,xs,H,h=>by
  simp only[List.mapM_cons,Option.pure_def,Option.bind_eq_bind,obi] at h;obtain⟨x,hx,xs',hxs,he⟩:=h;cases he;obtain⟨b1,hc,h1,o1⟩:=zgA R H.1 hx;obtain⟨b2,h2,o2⟩:=zfq R H.2 hxs;refine⟨b1++b2,?_,(o1.mono (fun n hn=> ?_)).append<|o2.mono (fun n hn=> ?_)⟩
  ·simp only[RdL];exact⟨v,vs,b1,b2,rfl,rfl,hc,h1,h2⟩
  ·simp only[List.flatMap_cons,List.mem_append];exact .inl hn
  ·simp only[List.flatMap_cons,List.mem_append];exact .inr hn
 |[],_::_,_,H,_=>H.elim
 |_::_,[],_,H,_=>H.elim
theorem zjT(R:zt cx m s a w){c:C}{v:Value}{x:D}(H:qE m w.heap c v)(h:cD s c=some x):∃bs,x.isCell=true∧Rd false w.heap x v bs∧Of m (zjR s c) bs:=by
 cases c with
 |ptr p=>exact zgA R H.2 h
 |fn f caps=>
  simp only[cD,omi] at h;obtain⟨xs,hxs,rfl⟩:=h;obtain⟨_,vs,rfl,hall⟩:=H;obtain⟨bs,hr,ho⟩:=zfq R hall hxs;exact⟨bs,rfl,by simp only[Rd];exact⟨vs,rfl,hr⟩,ho⟩
 |any=>simp[cD,cD0] at h
 |d x=>exact Kh R H h
 |zs=>exact Kh R H h
 |nilp=>simp[cD,cD0] at h
 |anyb=>simp[cD,cD0] at h
 |sl n off len=>exact Kh R H h
 |sub n x=>exact Kh R H h
theorem zdH(R:zt cx m s a w){c:V}{v:Value}{x:D}(H:qK m w.heap c v)(h:vD s c=some x):∃bs,Rd false w.heap x v bs∧Of m (KW s c) bs:=by
 cases c with
 |top=>simp[vD] at h
 |tup _=>simp[vD] at h
 |one c=>obtain⟨bs,_,h1,h2⟩:=zjT R H h;exact⟨bs,h1,h2⟩
 |agg cs=>
  simp only[vD,omi] at h;obtain⟨xs,hxs,rfl⟩:=h;obtain⟨vs,rfl,hall⟩:=H;obtain⟨bs,hr,ho⟩:=zbj R hall hxs;exact⟨bs,by simp only[Rd];exact⟨vs,rfl,hr⟩,ho⟩
end Go.AW
