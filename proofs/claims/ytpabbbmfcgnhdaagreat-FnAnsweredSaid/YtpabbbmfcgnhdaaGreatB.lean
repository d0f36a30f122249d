/- Abstract values and states, and what it means that a frame and a world are as an abstract state says: lemmas of an own program logic; nothing is claimed here. Conditions: none. -/
import Derived.Test.YtpabbbmfcgnhdaaGreatA
set_option linter.unusedVariables false
namespace Go.AW
inductive Ptr where
 |nm (n i j:Nat)
 |bd (cs:List D) (j:Nat)
inductive C where
 |any
 |d (x:D)
 |zs
 |nilp
 |anyb
 |sl (n off len:Nat)
 |sub (n:Nat) (x:D)
 |ptr (p:Ptr)
 |fn (f:FuncId) (caps:List Ptr)
inductive V where
 |top
 |one (c:C)
 |agg (cs:List C)
 |tup (vs:List V)
abbrev bg:=List (Nat×V)
inductive Blk where
 |data (sz:Nat) (xs:List (List D)) (own:Bool) (cap:Option Nat)
 |vars (sz:Nat) (cs:List C)
 |own (ds:List D)
abbrev bh:=List (Nat×Blk)
structure St where
 sl:Nat→V
 hp:Nat→Option Blk
 gh:Nat→V
structure NI where
 blk:Option Nat
 sz:Nat
 cap:Nat
structure M where
 inf:Nat→Option NI
 own:Nat→Option Nat
def zl{α β:Type}(R:α→β→Prop):List α→List β→Prop
 |[],[]=>True
 |a::as,b::bs=>R a b∧zl R as bs
 |_,_=>False
theorem zl.mono{α β:Type}{R S:α→β→Prop}:∀{as:List α} {bs:List β},(∀a∈as,∀b,R a b→S a b)→zl R as bs→zl S as bs
 |[],[],_,_=>trivial
 |a::as,b::bs,h,H=>⟨h a (by simp) b H.1,zl.mono (fun x hx y=>h x (by simp[hx]) y) H.2⟩
 |[],_::_,_,H=>H.elim
 |_::_,[],_,H=>H.elim
theorem zl.length{α β:Type}{R:α→β→Prop}:∀{as:List α} {bs:List β},zl R as bs→bs.length=as.length
 |[],[],_=>rfl
 |a::as,b::bs,H=>by simp[zl.length H.2]
 |[],_::_,H=>H.elim
 |_::_,[],H=>H.elim
theorem zl.map{α α' β:Type}{R:α→β→Prop}{S:α'→β→Prop}(f:α→α'):∀{as:List α} {bs:List β},(∀a∈as,∀b,R a b→S (f a) b)→zl R as bs→zl S (as.map f) bs
 |[],[],_,_=>trivial
 |a::as,b::bs,h,H=>⟨h a (by simp) b H.1,zl.map f (fun x hx y=>h x (by simp[hx]) y) H.2⟩
 |[],_::_,_,H=>H.elim
 |_::_,[],_,H=>H.elim
theorem zl.at{α β:Type}{R:α→β→Prop}:∀{as:List α} {bs:List β},zl R as bs→∀{i:Nat} {a:α},as[i]? =some a→∃b,bs[i]? =some b∧R a b
 |[],[],_,i,a,h=>by simp at h
 |a::as,b::bs,H,i,x,h=>by
  cases i with
  |zero=>simp at h;subst h;exact⟨b,by simp,H.1⟩
  |succ i=>simp at h;obtain⟨y,hy,r⟩:=zl.at H.2 h;exact⟨y,by simpa using hy,r⟩
 |[],_::_,H,_,_,_=>H.elim
 |_::_,[],H,_,_,_=>H.elim
theorem zl.append{α β:Type}{R:α→β→Prop}:∀{as as':List α} {bs bs':List β},zl R as bs→zl R as' bs'→zl R (as++as') (bs++bs')
 |[],_,[],_,_,K=>by simpa using K
 |a::as,_,b::bs,_,H,K=>⟨H.1,zl.append H.2 K⟩
 |[],_,_::_,_,H,_=>H.elim
 |_::_,_,[],_,H,_=>H.elim
theorem zl.take{α β:Type}{R:α→β→Prop}:∀{as:List α} {bs:List β} (n:Nat),zl R as bs→zl R (as.take n) (bs.take n)
 |[],[],_,_=>by simp[zl]
 |a::as,b::bs,0,H=>by simp[zl]
 |a::as,b::bs,n+1,H=>⟨H.1,zl.take n H.2⟩
 |[],_::_,_,H=>H.elim
 |_::_,[],_,H=>H.elim
theorem zl.drop{α β:Type}{R:α→β→Prop}:∀{as:List α} {bs:List β} (n:Nat),zl R as bs→zl R (as.drop n) (bs.drop n)
 |[],[],_,_=>by simp[zl]
 |a::as,b::bs,0,H=>by simpa[zl] using H
 |a::as,b::bs,n+1,H=>by simpa using zl.drop n H.2
 |[],_::_,_,H=>H.elim
 |_::_,[],_,H=>H.elim
theorem zl.set{α β:Type}{R:α→β→Prop}:∀{as:List α} {bs:List β} (n:Nat) {a:α} {b:β},R a b→zl R as bs→zl R (as.set n a) (bs.set n b)
 |[],[],_,_,_,_,_=>by simp[zl]
 |_::_,_::_,0,_,_,h,H=>⟨h,H.2⟩
 |_::_,_::_,n+1,_,_,h,H=>⟨H.1,zl.set n h H.2⟩
 |[],_::_,_,_,_,_,H=>H.elim
 |_::_,[],_,_,_,_,H=>H.elim
def zck(m:M)(h:Hp):Ptr→Value→Prop
 | .nm n i j,v=>∃f b,m.inf n=some f∧f.blk=some b∧v= .pointer (some ⟨b,i * f.sz+j,none⟩)
 | .bd cs j,v=>∃b off cells T fz bs,v= .pointer (some ⟨b,off+j,none⟩)∧h[b]? =some (.cells cells T fz)∧RdL false h cs ((cells.toList.drop off).take cs.length) bs∧
   m.own b=none∧∀c∈bs,m.own c=none
def zF4(m:M)(h:Hp):C→Value→Prop
 | .any,_=>True
 | .d x,v=>∃bs,Rd false h x v bs∧∀b∈bs,m.own b=none
 | .zs,v=>∃a,v= .slice a 0 0
 | .nilp,v=>v= .pointer none
 | .anyb,v=>∃b,v= .bool b
 | .sl n off len,v=>∃f,m.inf n=some f∧off+len≤f.cap∧∃ad,v= .slice ad len (f.cap - off)∧(off < f.cap→∃b,f.blk=some b∧ad=some ⟨b,off * f.sz,none⟩)
 | .sub n x,v=>∃f,m.inf n=some f∧∃bs,Rd false h x v bs∧∀b∈bs,(m.own b=none∨m.own b=some n)∧f.blk≠some b
 | .ptr p,v=>zck m h p v
 | .fn f caps,v=>∃vs,v= .func (.func f) #[] vs∧zl (zck m h) caps vs.toList
def qE(m:M)(h:Hp)(c:C)(v:Value):Prop:=v.oneCell'=true∧zF4 m h c v
def zcm(m:M)(h:Hp):V→Value→Prop
 | .top,_=>True
 | .one c,v=>qE m h c v
 | .agg cs,v=>∃vs,v= .agg vs∧zl (qE m h) cs vs.toList
 | .tup _,_=>False
def qK(m:M)(h:Hp):V→Value→Prop
 | .top,_=>True
 | .one c,v=>qE m h c v
 | .agg cs,v=>∃vs,v= .agg vs∧zl (qE m h) cs vs.toList
 | .tup us,v=>∃vs,v= .tuple vs∧zl (zcm m h) us vs.toList
def zhQ(m:M)(h:Hp)(n:Nat)(f:NI):Blk→List Value→Prop
 | .data sz xs o cp,cells=>f.sz=sz∧(∀c,cp=some c→f.cap=c)∧∃bs,RdLL o h sz xs cells bs∧
   (o=true→bs.Nodup∧∀b∈bs,m.own b=some n∧f.blk≠some b)∧(o=false→∀b∈bs,m.own b=none)
 | .vars sz cs,cells=>f.sz=sz∧zl (qE m h) cs cells
 | .own ds,cells=>f.sz=ds.length∧∃bs,RdL true h ds cells bs∧bs.Nodup∧∀b∈bs,m.own b=some n∧f.blk≠some b
structure Cx where
 P:Program
 n:Nat
 w0:World
 W:Nat→Prop
 gh:Nat→Value
 own0:Nat→Option Nat
 far:∀b n,own0 b=some n→n=2000000
def Cx.mine(cx:Cx)(b:Nat):Prop:=cx.w0.heap.size≤b∨cx.W b
def zT(cx:Cx)(m:M)(h:Hp)(n:Nat):Option Blk→Option NI→Prop
 |none,none=>True
 |some k,some f=>match f.blk with
   |none=>f.cap=0∧∃sz o cp,k= .data sz [] o cp∧f.sz=sz∧∀c,cp=some c→f.cap=c
   |some b=>cx.mine b∧m.own b=some n∧∃cells T,h[b]? =some (.cells cells T (0,0))∧f.cap * f.sz≤cells.size∧zhQ m h n f k cells.toList
 |_,_=>False
structure Fr(cx:Cx)(w:World):Prop where
 os:w.os=cx.w0.os
 tape:w.tape=cx.w0.tape
 output:w.output=cx.w0.output
 size:cx.w0.heap.size≤w.heap.size
 kept:∀b,b < cx.w0.heap.size→¬cx.W b→w.heap[b]? =cx.w0.heap[b]?
structure zt(cx:Cx)(m:M)(s:St)(a:Act)(w:World):Prop where
 size:a.tmps.size=cx.n
 defers:a.defers=[]
 sl:∀t,qK m w.heap (s.sl t) (a.tmps.getD t undef)
 hp:∀n,zT cx m w.heap n (s.hp n) (m.inf n)
 own:(∀b n,m.own b=some n→b < w.heap.size)∧∀b,b < cx.w0.heap.size→¬cx.W b→m.own b=cx.own0 b
 fr:Fr cx w
 gh:∀t,qK m w.heap (s.gh t)<|cx.gh t
def Rel(cx:Cx)(s:St)(a:Act)(w:World):Prop:=∃m,zt cx m s a w
def Ptr.has(ns:List Nat):Ptr→Bool
 | .nm n _ _=>ns.contains n
 | .bd _ _=>false
def zI(n:Nat):Nat:=n+1000000
def C.has(ns:List Nat):C→Bool
 | .sl n _ _=>ns.contains n
 | .sub n _=>ns.contains n||ns.contains (zI n)
 | .ptr p=>p.has ns
 | .fn _ caps=>caps.any (Ptr.has ns)
 |_=>false
def C.er(ns:List Nat)(c:C):C:=if c.has ns then .any else c
def V.er(ns:List Nat):V→V
 | .top=> .top
 | .one c=> .one (c.er ns)
 | .agg cs=> .agg (cs.map<|C.er ns)
 | .tup vs=> .tup (vs.map fun| .top=> .top| .one c=> .one (c.er ns)| .agg cs=> .agg (cs.map<|C.er ns)| .tup us=> .tup us)
def Blk.er(ns:List Nat):Blk→Blk
 | .vars sz cs=> .vars sz (cs.map<|C.er ns)
 |b=>b
def St.er(ns:List Nat)(s:St):St:=
 {sl:=fun t=>(s.sl t).er ns,hp:=fun n=>if ns.contains n then none else(s.hp n).map (Blk.er ns),gh:=fun t=>(s.gh t).er ns}
structure Ext(ns:List Nat)(m:M)(h:Hp)(m':M)(h':Hp):Prop where
 inf:∀n,ns.contains n=false→∀f,m.inf n=some f→m'.inf n=some f
 free:∀b c T f,h[b]? =some (.cells c T f)→m.own b=none→m'.own b=none∧h'[b]? =h[b]?
 hid:∀b c T z n f,h[b]? =some (.cells c T z)→(ns.contains n||ns.contains (zI n))=false→m.inf n=some f→m.own b=some n→f.blk≠some b→m'.own b=some n∧h'[b]? =h[b]?
variable {ns:List Nat} {m m':M} {h h':Hp}
theorem Ext.ptr(E:Ext ns m h m' h'){p:Ptr}{v:Value}(hp:p.has ns=false)(H:zck m h p v):zck m' h' p v:=by
 cases p with
 |nm n i j=>
  obtain⟨f,b,hf,hb,hv⟩:=H;exact⟨f,b,E.inf n hp f hf,hb,hv⟩
 |bd cs j=>
  obtain⟨b,off,cells,T,fz,bs,hv,hh,hr,ho,hbs⟩:=H;have hb:=E.free b _ _ _ hh ho;have hall:∀c∈bs,m'.own c=none∧h'[c]? =h[c]?:=fun c hc=>by
   obtain⟨x,y,z,e⟩:=RdL.there _ _ _ hr c hc;exact E.free c x y z e (hbs c hc)
  exact⟨b,off,cells,T,fz,bs,hv,hb.2.trans hh,RdL.congr _ _ _ (fun c hc=>(hall c hc).2) hr,hb.1,fun c hc=>(hall c hc).1⟩
theorem Ext.d(E:Ext ns m h m' h'){x:D}{v:Value}{bs:List Nat}{o:Bool}(hr:Rd o h x v bs)(hb:∀b∈bs,m.own b=none):Rd o h' x v bs∧∀b∈bs,m'.own b=none:=by
 have hall:∀c∈bs,m'.own c=none∧h'[c]? =h[c]?:=fun c hc=>by
  obtain⟨x,y,z,e⟩:=Rd.there _ _ _ hr c hc;exact E.free c x y z e (hb c hc)
 exact⟨Rd.congr _ _ _ (fun c hc=>(hall c hc).2) hr,fun c hc=>(hall c hc).1⟩
theorem Ext.c(E:Ext ns m h m' h'){c:C}{v:Value}(hc:c.has ns=false)(H:qE m h c v):qE m' h' c v:=by
 obtain⟨hcell,H⟩:=H;refine⟨hcell,?_⟩;cases c with
 |any=>trivial
 |d x=>
  obtain⟨bs,hr,hb⟩:=H;exact⟨bs,E.d hr hb⟩
 |zs=>exact H
 |nilp=>exact H
 |anyb=>exact H
 |sl n off len=>
  obtain⟨f,hf,hl,hm⟩:=H;exact⟨f,E.inf n hc f hf,hl,hm⟩
 |sub n x=>
  obtain⟨f,hf,bs,hr,hb⟩:=H;have hc1:ns.contains n=false:=by
   have:(ns.contains n||ns.contains (zI n))=false:=hc;simp only[Bool.or_eq_false_iff] at this;exact this.1
  have hall:∀c∈bs,(m'.own c=none∨m'.own c=some n)∧h'[c]? =h[c]?:=fun c hcm=>by
   obtain⟨x,y,z,e⟩:=Rd.there _ _ _ hr c hcm;rcases(hb c hcm).1 with h0|h0
   ·exact⟨.inl (E.free c x y z e h0).1,(E.free c x y z e h0).2⟩
   ·have:=E.hid c x y z n f e hc hf h0 (hb c hcm).2;exact⟨.inr this.1,this.2⟩
  exact⟨f,E.inf n hc1 f hf,bs,Rd.congr _ _ _ (fun c hc=>(hall c hc).2) hr,fun c hc=>⟨(hall c hc).1,(hb c hc).2⟩⟩
 |ptr p=>exact E.ptr hc H
 |fn f caps=>
  obtain⟨vs,hv,hall⟩:=H;refine⟨vs,hv,zl.mono (fun p hp v=>E.ptr ?_) hall⟩;have:caps.any (Ptr.has ns)=false:=hc;rw[List.any_eq_false] at this;simpa using this p hp
theorem Ext.cer(E:Ext ns m h m' h'){c:C}{v:Value}(H:qE m h c v):qE m' h' (c.er ns) v:=by
 unfold C.er;split
 ·exact⟨H.1,trivial⟩
 ·rename_i hc;exact E.c (by simpa using hc) H
theorem Ext.ver(E:Ext ns m h m' h'){x:V}{v:Value}(H:qK m h x v):qK m' h' (x.er ns) v:=by
 cases x with
 |top=>trivial
 |one c=>exact E.cer H
 |agg cs=>
  obtain⟨vs,hv,hall⟩:=H;exact⟨vs,hv,zl.map _ (fun c _ v=>E.cer) hall⟩
 |tup us=>
  obtain⟨vs,hv,hall⟩:=H;refine⟨vs,hv,zl.map _ (fun u _ v hu=> ?_) hall⟩;cases u with
  |top=>trivial
  |one c=>exact E.cer hu
  |agg cs=>
   obtain⟨vs,hv,hall⟩:=hu;exact⟨vs,hv,zl.map _ (fun c _ v=>E.cer) hall⟩
  |tup _=>exact hu.elim
theorem Ext.ver0(E:Ext [] m h m' h'){x:V}{v:Value}(H:qK m h x v):qK m' h' x v:=by
 have c0:∀c:C,c.has []=false:=fun c=>by
  cases c with
  |ptr p=>cases p<;>rfl
  |fn f caps=>show caps.any (Ptr.has [])=false;rw[List.any_eq_false];intro p _;cases p<;>simp[Ptr.has]
  |_=>rfl
 cases x with
 |top=>trivial
 |one c=>exact E.c (c0 c) H
 |agg cs=>
  obtain⟨vs,hv,hall⟩:=H;exact⟨vs,hv,zl.mono (fun c _ v=>E.c (c0 c)) hall⟩
 |tup us=>
  obtain⟨vs,hv,hall⟩:=H;refine⟨vs,hv,zl.mono (fun u _ v hu=> ?_) hall⟩;cases u with
  |top=>trivial
  |one c=>exact E.c (c0 c) hu
  |agg cs=>
   obtain⟨vs,hv,hall⟩:=hu;exact⟨vs,hv,zl.mono (fun c _ v=>E.c (c0 c)) hall⟩
  |tup _=>exact hu.elim
theorem QC(c:C):c.has []=false:=by
 cases c with
 |ptr p=>cases p<;>rfl
 |fn f caps=>show caps.any (Ptr.has [])=false;rw[List.any_eq_false];intro p _;cases p<;>simp[Ptr.has]
 |_=>rfl
theorem C.er_nil(c:C):c.er []=c:=by simp[C.er,QC]
theorem V.er_nil(v:V):v.er []=v:=by
 have e:C.er []=id:=funext C.er_nil;cases v with
 |top=>rfl
 |one c=>simp[V.er,C.er_nil]
 |agg cs=>simp[V.er,e]
 |tup vs=>
  simp only[V.er,V.tup.injEq];apply List.map_id'';intro v;cases v<;>simp[C.er_nil,e]
theorem Blk.er_nil(b:Blk):b.er []=b:=by
 have e:C.er []=id:=funext C.er_nil;cases b<;>simp[Blk.er,e]
theorem St.er_nil(s:St):s.er []=s:=by
 cases s with
 |mk sl hp gh=>
  simp only[St.er,V.er_nil];congr 1;funext n;cases h:hp n<;>simp[Blk.er_nil]
theorem Ext.n(E:Ext ns m h m' h'){cx:Cx}{n:Nat}{k:Blk}{f:NI}(hn:(ns.contains n||ns.contains (zI n))=false)(hroot:∀b,f.blk=some b→m'.own b=some n∧h'[b]? =h[b]?)
  (hf:m.inf n=some f) (H:zT cx m h n (some k) (some f)):zT cx m' h' n (some<|k.er ns) (some f):=by
 unfold zT at H ⊢;cases hb:f.blk with
 |none=>
  simp only[hb] at H ⊢;obtain⟨h1,sz,o,cp,rfl,h2,h3⟩:=H;exact⟨h1,sz,o,cp,rfl,h2,h3⟩
 |some b=>
  simp only[hb] at H ⊢;obtain⟨h1,h2,cells,T,h4,h3,h6⟩:=H;refine⟨h1,(hroot b hb).1,cells,T,(hroot b hb).2.trans h4,h3,?_⟩;cases k with
  |data sz xs o cp=>
   obtain⟨e1,e2,bs,hr,ho,hno⟩:=h6;have hall:∀c∈bs,h'[c]? =h[c]?∧(o=true→m'.own c=some n)∧(o=false→m'.own c=none):=fun c hc=>by
    obtain⟨x,y,z,e⟩:=RdLL.there _ _ _ _ hr c hc;cases o with
    |true=>
     have hc':=(ho O).2 c hc;have:=E.hid c x y z n f e hn hf hc'.1 hc'.2;exact⟨this.2,fun _=>this.1,(fun h=>by cases h)⟩
    |false=>
     have:=E.free c x y z e (hno O c hc);exact⟨this.2,(fun h=>by cases h),fun _=>this.1⟩
   exact⟨e1,e2,bs,RdLL.congr _ _ _ _ (fun c hc=>(hall c hc).1) hr,fun h=>⟨(ho h).1,fun c hc=>⟨(hall c hc).2.1 h,((ho h).2 c hc).2⟩⟩,fun h c hc=>(hall c hc).2.2 h⟩
  |vars sz cs=>
   obtain⟨e1,e2⟩:=h6;exact⟨e1,zl.map _ (fun c _ v=>E.cer) e2⟩
  |own ds=>
   obtain⟨e1,bs,hr,hnd,ho⟩:=h6;have hall:∀c∈bs,h'[c]? =h[c]?∧m'.own c=some n:=fun c hc=>by
    obtain⟨x,y,z,e⟩:=RdL.there _ _ _ hr c hc;have:=E.hid c x y z n f e hn hf (ho c hc).1 (ho c hc).2;exact⟨this.2,this.1⟩
   exact⟨e1,bs,RdL.congr _ _ _ (fun c hc=>(hall c hc).1) hr,hnd,fun c hc=>⟨(hall c hc).2,(ho c hc).2⟩⟩
end Go.AW
