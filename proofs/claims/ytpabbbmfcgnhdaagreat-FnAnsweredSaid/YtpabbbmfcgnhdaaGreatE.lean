/- How the meaning of an abstract state is kept when a slot is set, a block is made, a block is written: lemmas of an own program logic; nothing is claimed here. Conditions: none. -/
import Derived.Test.YtpabbbmfcgnhdaaGreatC
set_option linter.unusedVariables false
namespace Go.AW
variable {cx:Cx} {m:M} {s:St} {a:Act} {w:World}
theorem zjW{a:Act}{d t:Nat}{v:Value}(hd:d < a.tmps.size):(a.put (some d) v).tmps.getD t undef=if t=d then v else a.tmps.getD t undef:=by
 simp only[Act.put,Array.getD_eq_getD_getElem?];by_cases h:t=d
 ·subst h;simp[hd]
 ·simp[h,Array.getElem?_setIfInBounds_ne<|Ne.symm h]
theorem zt.set(R:zt cx m s a w){d:Nat}{v:V}{u:Value}(hd:d < cx.n)(hv:qK m w.heap v u):zt cx m (s.set d v) (a.put (some d) u) w where
 size:=by simpa[Act.put] using R.size
 defers:=R.defers
 sl t:=by
  rw[zjW (by rw[R.size];exact hd)];show qK m w.heap (if t=d then v else s.sl t) _;split
  ·exact hv
  ·exact R.sl t
 hp:=R.hp
 own:=R.own
 fr:=R.fr
 gh:=R.gh
theorem Fr.alloc(F:Fr cx w)(o:Obj):Fr cx (w.alloc o) where
 os:=F.os
 tape:=F.tape
 output:=F.output
 size:=by
  have:=F.size;show cx.w0.heap.size≤(w.heap.push o).size;rw[Array.size_push];omega
 kept b hb hW:=by
  rw[←F.kept b hb hW];show(w.heap.push o)[b]? =_;have:=F.size;rw[Array.getElem?_push,if_neg (by omega)]
theorem Z8{o:Obj}{b:Nat}{x:Obj}(hb:w.heap[b]? =some x):(w.alloc o).heap[b]? =w.heap[b]?:=by
 have:=zH hb;show(w.heap.push o)[b]? =_;rw[Array.getElem?_push,if_neg (by omega)]
theorem zb9{o:Obj}:(w.alloc o).heap[w.heap.size]? =some o:=by
 show(w.heap.push o)[w.heap.size]? =_;simp
theorem kY{o:Obj}:(w.alloc o).heap.size=w.heap.size+1:=by
 show(w.heap.push o).size=_;simp
def M.plus(m:M)(n:Nat)(f:NI)(b:Nat):M:={inf:=fun k=>if k=n then some f else m.inf k,own:=fun c=>if c=b then some n else m.own c}
theorem Ext.plus{h':Hp}{n:Nat}{f:NI}{b:Nat}(hn:m.inf n=none)(hb:∀x:Obj,w.heap[b]?≠some x)(hh:∀(c:Nat) (x:Obj),w.heap[c]? =some x→h'[c]? =w.heap[c]?):Ext [] m w.heap (m.plus n f b) h' where
 inf k _ g hg:=by
  show(if k=n then some f else m.inf k)=some g;rw[if_neg (by intro e;subst e;rw[hn] at hg;cases hg)];exact hg
 free c x y z hc ho:=by
  refine⟨?_,hh c _ hc⟩;show(if c=b then some n else m.own c)=none;rw[if_neg (by intro e;subst e;exact hb _ hc)];exact ho
 hid c x y z k g hc _ _ ho _:=by
  refine⟨?_,hh c _ hc⟩;show(if c=b then some n else m.own c)=some k;rw[if_neg (by intro e;subst e;exact hb _ hc)];exact ho
theorem zT.some_blk{n:Nat}{k:Option Blk}{f:NI}{h:Hp}(H:zT cx m h n k (some f)):∃b,k=some b:=by
 cases k with
 |none=>exact H.elim
 |some b=>exact⟨b,rfl⟩
theorem zT.ext{m':M}{h h':Hp}{n:Nat}{k:Option Blk}{i:Option NI}(E:Ext [] m h m' h')(hroot:∀b,m.own b=some n→∀x,h[b]? =some x→m'.own b=some n∧h'[b]? =h[b]?)(hi:m.inf n=i)
  (H:zT cx m h n k i):zT cx m' h' n k i:=by
 cases i with
 |none=>cases k<;>exact H
 |some f=>
  obtain⟨b,rfl⟩:=zT.some_blk H;have H2:=H;have:=E.n (cx:=cx) (n:=n) (k:=b) (f:=f) O (fun c hc=>by
   unfold zT at H2;simp only[hc] at H2;obtain⟨_,h2,cells,T,h4,_⟩:=H2;exact hroot c h2 _ h4) hi H
  rwa [Blk.er_nil] at this
theorem zt.new(R:zt cx m s a w){n:Nat}{k:Blk}{f:NI}{cells:Array Value}{T:TypeId}(hn:s.hp n=none)(hf:f.blk=some w.heap.size)(hl:f.cap * f.sz≤cells.size)
  (hB:zhQ (m.plus n f w.heap.size) (w.alloc<|.cells cells T).heap n f k cells.toList):
  zt cx (m.plus n f w.heap.size) (s.blk n k) a (w.alloc<|.cells cells T)∧Ext [] m w.heap (m.plus n f w.heap.size) (w.alloc<|.cells cells T).heap:=by
 have hmn:m.inf n=none:=by
  have:=R.hp n;rw[hn] at this;cases h:m.inf n with
  |none=>rfl
  |some f=>rw[h] at this;exact this.elim
 have E:Ext [] m w.heap (m.plus n f w.heap.size) (w.alloc<|.cells cells T).heap:=Ext.plus hmn (by simp) (fun c x hx=>Z8 hx);refine⟨⟨R.size,R.defers,fun t=>E.ver0 (R.sl t),fun j=> ?_,⟨fun b j hb=> ?_,fun b hb hW=> ?_⟩,R.fr.alloc _,fun t=>E.ver0 (R.gh t)⟩,E⟩
 ·by_cases hj:j=n
  ·subst hj;simp only[St.blk,M.plus,if_true];unfold zT;simp only[hf];exact⟨.inl R.fr.size,by simp,cells,T,zb9,hl,hB⟩
  ·simp only[St.blk,if_neg hj];have h2:(m.plus n f w.heap.size).inf j=m.inf j:=by simp[M.plus,hj]
   rw[h2];refine zT.ext E (fun b hb x hx=>⟨?_,Z8 hx⟩) O (R.hp j);have:=zH hx;show(if b=w.heap.size then some n else m.own b)=some j;rw[if_neg (by omega)];exact hb
 ·simp only[M.plus] at hb ⊢;split at hb
  ·rename_i e;subst e;rw[kY];omega
  ·have:=R.own.1 b j hb;rw[kY];omega
 ·have:=R.fr.size;show(if b=w.heap.size then some n else m.own b)=_;rw[if_neg (by omega)];exact R.own.2 b hb hW
theorem zt.upd(R:zt cx m s a w){n:Nat}{k:Blk}{f:NI}{b:Nat}{cells cells':Array Value}{T:TypeId}(hf:m.inf n=some f)(hb:f.blk=some b)(hh:w.heap[b]? =some (.cells cells T (0,0)))
  (hc:cells'.size=cells.size) (hB:zhQ m (w.setRow b cells').heap n f k cells'.toList):
  zt cx m (s.blk n k) a (w.setRow b cells')∧Ext [] m w.heap m (w.setRow b cells').heap:=by
 have hN:=R.hp n;rw[hf] at hN;obtain⟨k0,hk0⟩:=zT.some_blk hN;rw[hk0] at hN;unfold zT at hN;simp only[hb] at hN;obtain⟨g1,g2,cells0,T0,g4,g3,g6⟩:=hN;rw[hh] at g4;obtain⟨rfl,rfl⟩:cells=cells0∧T=T0:=by simpa using g4
 have hother:∀c,c≠b→(w.setRow b cells').heap[c]? =w.heap[c]?:=fun c hc=>by
  simp only[World.setRow,Array.getElem?_modify];rw[if_neg (Ne.symm hc)]
 have E:Ext [] m w.heap m (w.setRow b cells').heap:=by
  refine⟨fun _ _ _ h=>h,fun c x y z hc ho=>⟨ho,hother c ?_⟩,fun c x y z j g hc _ hg ho hj=>⟨ho,hother c ?_⟩⟩
  ·intro e;subst e;rw[g2] at ho;cases ho
  ·intro e;subst e;rw[g2] at ho;cases ho;rw[hf] at hg;cases hg;exact hj hb
 refine⟨⟨R.size,R.defers,fun t=>E.ver0 (R.sl t),fun j=> ?_,⟨fun c j hcj=> ?_,R.own.2⟩,?_,fun t=>E.ver0 (R.gh t)⟩,E⟩
 ·by_cases hj:j=n
  ·subst hj;simp only[St.blk,if_true,hf];unfold zT;simp only[hb];exact⟨g1,g2,cells',T,setRow_heap w b cells cells' T (0,0) hh,by omega,hB⟩
  ·simp only[St.blk,if_neg hj];refine zT.ext E (fun c hcj x hx=>⟨hcj,hother c ?_⟩) O (R.hp j);intro e;subst e;rw[g2] at hcj;cases hcj;exact hj rfl
 ·have:=R.own.1 c j hcj;simpa[World.setRow] using this
 ·have F:=R.fr;exact⟨F.os,F.tape,F.output,by simpa[World.setRow] using F.size,fun c hc hW=>by
   rw[hother c,F.kept c hc hW];intro e;subst e;rcases g1 with g1|g1
   ·omega
   ·exact hW g1⟩
theorem zt.same(R:zt cx m s a w){w':World}(h1:w'.heap=w.heap)(h2:w'.os=w.os)(h3:w'.tape=w.tape)(h4:w'.output=w.output):zt cx m s a w' where
 size:=R.size
 defers:=R.defers
 sl t:=by rw[h1];exact R.sl t
 hp n:=by rw[h1];exact R.hp n
 own:=⟨fun b n hb=>by rw[h1];exact R.own.1 b n hb,R.own.2⟩
 fr:=⟨h2.trans R.fr.os,h3.trans R.fr.tape,h4.trans R.fr.output,by rw[h1];exact R.fr.size,fun b hb hW=>by rw[h1];exact R.fr.kept b hb hW⟩
 gh t:=by rw[h1];exact R.gh t
theorem qK.cells{h:Hp}{v:V}{u:Value}{cs:List C}(hv:qK m h v u)(hc:v.cells=some cs):zl (qE m h) cs u.cells.toList:=by
 cases v with
 |one c=>
  simp only[V.cells,Option.some.injEq] at hc;subst hc;have h1:=hv.1;have:u.cells=#[u]:=by cases u<;>first|rfl|simp[Value.oneCell'] at h1
  rw[this];exact⟨hv,trivial⟩
 |agg ds=>
  simp only[V.cells,Option.some.injEq] at hc;subst hc;obtain⟨vs,rfl,hall⟩:=hv;exact hall
 |top=>simp[V.cells] at hc
 |tup _=>simp[V.cells] at hc
theorem Xz{h:Hp}:∀{xs:List D} {vs:List Value} {bs:List Nat},RdL false h xs vs bs→(∀b∈bs,m.own b=none)→zl (qE m h) (xs.map C.d) vs
 |[],_,_,H,_=>by simp only[RdL] at H;rw[H.1];trivial
 |d::ds,vs,bs,H,hb=>by
  simp only[RdL] at H;obtain⟨v,vs',b1,b2,rfl,rfl,hcell,h1,h2⟩:=H;exact⟨⟨j8 hcell h1,b1,h1,fun b hm=>hb b (by simp[hm])⟩,Xz h2 (fun b hm=>hb b (by simp[hm]))⟩
theorem Zh{o:Bool}{h:Hp}{x:D}{v:Value}{bs:List Nat}(hx:x.flat=true)(H:Rd o h x v bs):bs=[]:=by
 cases x<;>simp[D.flat] at hx<;>simp only[Rd] at H<;>exact H.2
theorem zb5{o:Bool}{h:Hp}{x:D}{v:Value}{bs:List Nat}(H:Rd o h x v bs):Rd false h x v bs:=by
 cases o
 ·exact H
 ·exact Rd.weak _ _ _ H
theorem zc0{h:Hp}{n:Nat}{f:NI}(hf:m.inf n=some f):∀{xs:List D} {vs:List Value} {bs:List Nat},RdL false h xs vs bs→
  (∀b∈bs,(m.own b=none∨m.own b=some n)∧f.blk≠some b)→zl (qE m h) (xs.map<|ldC true n) vs
 |[],vs,bs,H,_=>by simp only[RdL] at H;rw[H.1];trivial
 |d::ds,vs,bs,H,hb=>by
  simp only[RdL] at H;obtain⟨v,vs',b1,b2,rfl,rfl,hcell,h1,h2⟩:=H;refine⟨⟨j8 hcell h1,?_⟩,zc0 hf h2 (fun b hm=>hb b (by simp[hm]))⟩;unfold ldC;by_cases hx:d.flat=true
  ·simp only[hx,Bool.true_or,if_true];have:=Zh hx h1;subst this;exact⟨[],h1,by simp⟩
  ·simp only[hx,Bool.not_true,Bool.false_or,Bool.false_eq_true,if_false];exact⟨f,hf,b1,h1,fun b hm=>hb b (by simp[hm])⟩
theorem zb6{h:Hp}{n:Nat}{f:NI}{o:Bool}(hf:m.inf n=some f):∀{xs:List D} {vs:List Value} {bs:List Nat},RdL o h xs vs bs→
  (o=true→∀b∈bs,m.own b=some n∧f.blk≠some b)→(o=false→∀b∈bs,m.own b=none)→zl (qE m h) (xs.map<|ldC o n) vs
 |[],_,_,H,_,_=>by simp only[RdL] at H;rw[H.1];trivial
 |d::ds,vs,bs,H,ht,hn=>by
  simp only[RdL] at H;obtain⟨v,vs',b1,b2,rfl,rfl,hcell,h1,h2⟩:=H;refine⟨⟨j8 hcell h1,?_⟩,zb6 hf h2 (fun e b hm=>ht e b (by simp[hm])) (fun e b hm=>hn e b (by simp[hm]))⟩;unfold ldC;by_cases hx:d.flat=true
  ·rw[if_pos (by simp[hx])];have:=Zh hx h1;subst this;exact⟨[],zb5 h1,by simp⟩
  ·cases o with
   |false=>
    rw[if_pos (by simp)];exact⟨b1,h1,fun b hm=>hn O b (by simp[hm])⟩
   |true=>
    rw[if_neg (by simp[hx])];exact⟨f,hf,b1,zb5 h1,fun b hm=>⟨.inr (ht O b (by simp[hm])).1,(ht O b (by simp[hm])).2⟩⟩
end Go.AW
