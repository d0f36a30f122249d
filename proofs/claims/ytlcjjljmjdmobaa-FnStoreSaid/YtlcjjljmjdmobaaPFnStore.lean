/- Plain laws: what the plain functions answer. Conditions: each theorem's own. -/
import Derived.Test.YtlcjjljmjdmobaaMFnStore
set_option linter.unusedVariables false
set_option linter.unusedSimpArgs false
set_option maxRecDepth 100000
namespace Go.AW
theorem w64{n:Int}(h1:-9223372036854775808≤n)(h2:n < 9223372036854775808):IntKind.wrap .i64 n=n:=by
 rw[IntKind.wrap_i64];omega
theorem idx_nat{α:Type}{xs:List α}{i:Nat}(h:i < xs.length):idx xs (i:Int)=some xs[i]:=by
 unfold idx
 rw[if_pos (by omega)]
 simp[h]
theorem idx_ofNat{α:Type}(xs:List α)(i:Nat):idx xs (i:Int)=xs[i]?:=by
 unfold idx
 rw[if_pos (by omega)]
 simp
theorem iter_ex{S R:Type}{f:(S→Option R)→S→Option R}(st:Nat→S)(stop:Nat→Option (Option R))(k:Option R)(n:Nat)
  (hs:∀kb i,i < n→(∀j,j < i→stop j=none)→f kb (st i)=match stop i with|some r=>r|none=>kb (st (i+1))) (he:∀kb,(∀j,j < n→stop j=none)→f kb (st n)=k):
  ∀(m i:Nat),i≤n→(∀j,j < i→stop j=none)→n - i < m→iter f m (st i)=match ((List.range n).drop i).findSome? stop with|some r=>r|none=>k
 |0,i,_,_,h=>by omega
 |m+1,i,hi,hp,h=>by
  unfold iter
  by_cases e:i=n
  ·subst e
   rw[he _ hp]
   simp[List.drop_eq_nil_of_le]
  ·have hlt:i < n:=by omega
   rw[hs _ i hlt hp,List.drop_eq_getElem_cons (by simpa using hlt)]
   simp only[List.getElem_range,List.findSome?_cons]
   cases hq:stop i with
   |some r=>rfl
   |none=>exact iter_ex st stop k n hs he m (i+1) (by omega) (fun j hj=>by
     by_cases e':j=i
     ·subst e';exact hq
     ·exact hp j (by omega)) (by omega)
theorem iter_stopH{S R:Type}{f:(S→Option R)→S→Option R}(st:Nat→S)(stop:Nat→Option (Option R))(k:Option R)(n:Nat)(hn:n≤1152921504606846976)
  (hs:∀kb i,i < n→(∀j,j < i→stop j=none)→f kb (st i)=match stop i with|some r=>r|none=>kb (st (i+1))) (he:∀kb,(∀j,j < n→stop j=none)→f kb (st n)=k) {s0:S} (h0:s0=st 0):
  iter f FU s0=match (List.range n).findSome? stop with|some r=>r|none=>k:=by
 subst h0
 have:=iter_ex st stop k n hs he FU 0 (by omega) (fun j hj=>by omega) (by unfold FU;omega)
 simpa using this
theorem iter_stop{S R:Type}{f:(S→Option R)→S→Option R}(st:Nat→S)(stop:Nat→Option (Option R))(k:Option R)(n:Nat)(hn:n≤1152921504606846976)
  (hs:∀kb i,i < n→f kb (st i)=match stop i with|some r=>r|none=>kb (st (i+1))) (he:∀kb,f kb (st n)=k) {s0:S} (h0:s0=st 0):
  iter f FU s0=match (List.range n).findSome? stop with|some r=>r|none=>k:=
 iter_stopH st stop k n hn (fun kb i hi _=>hs kb i hi) (fun kb _=>he kb) h0
theorem iter_all{S R:Type}{f:(S→Option R)→S→Option R}(st:Nat→S)(k:Option R)(n:Nat)(hn:n≤1152921504606846976)
  (hs:∀kb i,i < n→f kb (st i)=kb (st (i+1))) (he:∀kb,f kb (st n)=k) {s0:S} (h0:s0=st 0):iter f FU s0=k:=by
 rw[iter_stop st (fun _=>none) k n hn (fun kb i hi=>hs kb i hi) he h0]
 have:(List.range n).findSome? (fun _=>(none:Option (Option R)))=none:=by
  rw[List.findSome?_eq_none_iff];intro x _;rfl
 rw[this]
theorem iter_goodH{S R:Type}{f:(S→Option R)→S→Option R}(st:Nat→S)(good:Nat→Bool)(r k:Option R)(n:Nat)(hn:n≤1152921504606846976)
  (hs:∀kb i,i < n→(∀j,j < i→good j=true)→f kb (st i)=if good i=true then kb (st (i+1)) else r) (he:∀kb,(∀j,j < n→good j=true)→f kb (st n)=k) {s0:S} (h0:s0=st 0):
  iter f FU s0=if (List.range n).all good=true then k else r:=by
 have tr:∀j,(if good j=true then(none:Option (Option R)) else some r)=none→good j=true:=fun j h=>by
  split at h
  ·assumption
  ·cases h
 rw[iter_stopH st (fun i=>if good i=true then none else some r) k n hn (fun kb i hi hp=>by rw[hs kb i hi (fun j hj=>tr j (hp j hj))];split<;>rfl) (fun kb hp=>he kb (fun j hj=>tr j (hp j hj))) h0]
 by_cases e:(List.range n).all good=true
 ·have:(List.range n).findSome? (fun i=>if good i=true then none else some r)=none:=by
   rw[List.findSome?_eq_none_iff]
   intro x hx
   rw[List.all_eq_true] at e
   simp[e x hx]
  rw[this,if_pos e]
 ·rw[if_neg e]
  cases h:(List.range n).findSome? (fun i=>if good i=true then none else some r) with
  |none=>
   exfalso
   apply e
   rw[List.all_eq_true]
   intro x hx
   rw[List.findSome?_eq_none_iff] at h
   exact tr x (h x hx)
  |some q=>
   obtain⟨x,hx,hq⟩:=List.exists_of_findSome?_eq_some h
   split at hq
   ·cases hq
   ·cases hq;rfl
theorem iter_good{S R:Type}{f:(S→Option R)→S→Option R}(st:Nat→S)(good:Nat→Bool)(r k:Option R)(n:Nat)(hn:n≤1152921504606846976)
  (hs:∀kb i,i < n→f kb (st i)=if good i=true then kb (st (i+1)) else r) (he:∀kb,f kb (st n)=k) {s0:S} (h0:s0=st 0):
  iter f FU s0=if (List.range n).all good=true then k else r:=
 iter_goodH st good r k n hn (fun kb i hi _=>hs kb i hi) (fun kb _=>he kb) h0
theorem step1(i:Nat)(n:Nat)(h:i < n)(hn:n≤1152921504606846976):IntKind.wrap .i64 ((i:Int)+1)=((i+1:Nat):Int):=by
 rw[w64 (by omega) (by omega)];omega
def idxOf{α:Type}(p:α→Bool)(xs:List α):Int:=match xs.findIdx? p with
 |some k=>(k:Int)
 |none=>-1
theorem iter_index{α:Type}(xs:List α)(p:α→Bool){f:(Int→Option Int)→Int→Option Int}(hn:xs.length≤1152921504606846976)
  (hs:∀kb (i:Nat) (hi:i < xs.length),f kb (i:Int)=if p xs[i]=true then some (i:Int) else kb ((i+1:Nat):Int)) (he:∀kb,f kb (xs.length:Int)=some (-1)):iter f FU 0=some (idxOf p xs):=by
 rw[iter_stop (s0:=(0:Int)) (fun i=>(i:Int)) (fun i:Nat=>(xs[i]?).bind fun x=>if p x=true then some (some (i:Int)) else none) (some (-1)) xs.length hn (fun kb i hi=> ?_) (fun kb=>he kb) rfl]
 ·have key:∀(ys:List α) (o:Nat),(List.range ys.length).findSome? (fun i:Nat=>(ys[i]?).bind fun x=>if p x=true then some (some ((o+i:Nat):Int)) else none)=(ys.findIdx? p).map fun k=>some ((o+k:Nat):Int):=by
   intro ys
   induction ys with
   |nil=>intro o;rfl
   |cons y ys ih=>
    intro o
    rw[List.length_cons,List.range_succ_eq_map,List.findSome?_cons,List.findSome?_map,List.findIdx?_cons]
    simp only[List.getElem?_cons_zero,Option.bind_some]
    by_cases e:p y=true
    ·simp[e]
    ·simp only[e,if_false,Function.comp_def,List.getElem?_cons_succ,Bool.false_eq_true]
     have:=ih (o+1)
     rw[show(fun i:Nat=>(ys[i]?).bind fun x=>if p x=true then some (some ((o+(i+1):Nat):Int)) else none)=fun i:Nat=>(ys[i]?).bind fun x=>if p x=true then some (some ((o+1+i:Nat):Int)) else none from by funext i;rw[show o+(i+1)=o+1+i by omega]]
     rw[this]
     cases ys.findIdx? p<;>simp;omega
  have:=key xs 0
  simp only[Nat.zero_add] at this
  rw[this]
  unfold idxOf
  cases xs.findIdx? p<;>rfl
 ·rw[hs kb i hi,List.getElem?_eq_getElem hi]
  simp only[Option.bind_some]
  by_cases e:p xs[i]=true<;>simp[e]
def sumB{α:Type}(f:α→Nat):List α→Nat
 |[]=>0
 |x::xs=>f x+sumB f xs
theorem sumB_append{α:Type}(f:α→Nat):∀(xs ys:List α),sumB f (xs++ys)=sumB f xs+sumB f ys
 |[],ys=>by simp[sumB]
 |x::xs,ys=>by simp[sumB,sumB_append f xs ys];omega
theorem sumB_step{α:Type}(f:α→Nat){xs:List α}{i:Nat}(hi:i < xs.length):sumB f (xs.take (i+1))=sumB f (xs.take i)+f xs[i]:=by
 rw[List.take_succ_eq_append_getElem hi,sumB_append]
 simp[sumB]
theorem sumB_take{α:Type}(f:α→Nat)(xs:List α)(i:Nat):sumB f (xs.take i)≤sumB f xs:=by
 have:=sumB_append f (xs.take i) (xs.drop i)
 rw[List.take_append_drop] at this
 omega
def within(z lo hi:Int):Bool:=decide (lo≤z)&&decide (z≤hi)
theorem p_l1In(z lo hi:Int):m_spec_l1In z lo hi=some (within z lo hi):=by
 unfold m_spec_l1In within;by_cases h:lo≤z<;>simp[h]
theorem p_from(z lo hi:Int):m_impl_from z lo hi=some (within z lo hi):=by
 unfold m_impl_from within;by_cases h:lo≤z<;>simp[h]
theorem p_l10Key(z:Int):m_spec_l10Key z=some (within z 0 999):=by simp[m_spec_l10Key,p_l1In]
theorem p_isKey(z:Int):m_impl_isKey z=some (within z 0 999):=by simp[m_impl_isKey,p_from]
theorem p_l1Whole(z:Int):m_spec_l1Whole z=some (within z 0 1000000000):=by simp[m_spec_l1Whole,p_l1In]
theorem p_isWhole(z:Int):m_impl_isWhole z=some (within z 0 1000000000):=by simp[m_impl_isWhole,p_from]
def rangeOk(a:TRange):Bool:=decide (0≤a.Lo)&&decide (a.Lo < a.Hi)&&decide (a.Hi≤1000)
theorem p_impl_RangeOk(a:TRange):m_impl_RangeOk a=some (rangeOk a):=by
 unfold m_impl_RangeOk rangeOk;by_cases h:0≤a.Lo<;>by_cases h':a.Lo < a.Hi<;>simp[h,h']
def goodC(cb:List Int)(c:Int×Int):Prop:=0≤c.1∧c.1≤(cb.length:Int)∧cb.length≤1048576
def Drawn{α:Type}(cb:List Int)(P:α→Prop)(m:Option (α×(Int×Int))):Prop:=∃x c,m=some (x,c)∧goodC cb c∧P x
theorem Drawn.bind{α β:Type}{cb:List Int}{P:α→Prop}{Q:β→Prop}{m:Option (α×(Int×Int))}{f:α×(Int×Int)→Option (β×(Int×Int))}(h:Drawn cb P m)(hf:∀x c,goodC cb c→P x→Drawn cb Q (f (x,c))):Drawn cb Q (m.bind f):=by
 obtain⟨x,c,rfl,hc,hp⟩:=h
 exact hf x c hc hp
theorem Drawn.some{α:Type}{cb:List Int}{P:α→Prop}{x:α}{c:Int×Int}(hc:goodC cb c)(hp:P x):Drawn cb P (some (x,c)):=⟨x,c,rfl,hc,hp⟩
theorem Drawn.mono{α:Type}{cb:List Int}{P Q:α→Prop}{m:Option (α×(Int×Int))}(h:Drawn cb P m)(hq:∀x,P x→Q x):Drawn cb Q m:=by
 obtain⟨x,c,e,hc,hp⟩:=h
 exact⟨x,c,e,hc,hq x hp⟩
theorem low_and(x y:Int)(k:Nat)(hk:(BitVec.ofInt 64 y).toNat=k)(hk':k < 9223372036854775808):0≤IntKind.wrap .i64 ((BitVec.ofInt (IntKind.bits .i64) x&&& BitVec.ofInt (IntKind.bits .i64) y).toNat:Int)∧IntKind.wrap .i64 ((BitVec.ofInt (IntKind.bits .i64) x&&& BitVec.ofInt (IntKind.bits .i64) y).toNat:Int)≤k:=by
 have h:(BitVec.ofInt (IntKind.bits .i64) x&&& BitVec.ofInt (IntKind.bits .i64) y).toNat≤k:=by
  rw[BitVec.toNat_and,←hk]
  exact Nat.and_le_right
 rw[w64 (by omega) (by omega)]
 omega
theorem low8(x:Int):0≤IntKind.wrap .i64 ((BitVec.ofInt (IntKind.bits .i64) x&&& BitVec.ofInt (IntKind.bits .i64) 255).toNat:Int)∧IntKind.wrap .i64 ((BitVec.ofInt (IntKind.bits .i64) x&&& BitVec.ofInt (IntKind.bits .i64) 255).toNat:Int)≤255:=low_and x 255 255 (by decide) (by decide)
theorem p_l1Byte{cb:List Int}{c:Int×Int}(h:goodC cb c):Drawn cb (fun x=>0≤x∧x≤255) (m_spec_l1Byte cb c):=by
 obtain⟨h1,h2,h3⟩:=h
 unfold m_spec_l1Byte
 split
 ·rename_i hlt
  obtain⟨n,hn⟩:∃n:Nat,c.1=(n:Int):=⟨c.1.toNat,by omega⟩
  rw[hn,idx_nat (show n < cb.length by omega)]
  simp only[Option.bind_some]
  refine Drawn.some ⟨?_,?_,h3⟩ (low8 _)
  ·simp only;rw[w64 (by omega) (by omega)];omega
  ·simp only;rw[w64 (by omega) (by omega)];omega
 ·exact Drawn.some ⟨h1,h2,h3⟩ (low8 _)
theorem p_l1Below{cb:List Int}{c:Int×Int}(h:goodC cb c)(n:Int):Drawn cb (fun x=>0≤x∧(0 < n→x < n)∧(n≤0→x=0)) (m_spec_l1Below cb c n):=by
 unfold m_spec_l1Below
 split
 ·exact Drawn.some h ⟨Int.le_refl _,fun h'=>by omega,fun _=>rfl⟩
 ·rename_i h0
  split
  ·refine(p_l1Byte h).bind fun x c1 hc1 hx=> ?_
   rw[if_pos (by omega)]
   exact Drawn.some hc1 ⟨Int.tmod_nonneg _ hx.1,fun _=>Int.tmod_lt_of_pos _ (by omega),fun h'=>absurd h' h0⟩
  ·refine(p_l1Byte h).bind fun x1 c1 hc1 hx1=>(p_l1Byte hc1).bind fun x2 c2 hc2 hx2=>(p_l1Byte hc2).bind fun x3 c3 hc3 hx3=>(p_l1Byte hc3).bind fun x4 c4 hc4 hx4=> ?_
   rw[if_pos (by omega)]
   simp only at hx1 hx2 hx3 hx4 ⊢
   rw[w64 (n:=x1 * 16777216) (by omega) (by omega),w64 (n:=x2 * 65536) (by omega) (by omega),w64 (n:=x3 * 256) (by omega) (by omega),w64 (n:=x1 * 16777216+x2 * 65536) (by omega) (by omega),w64 (n:=x1 * 16777216+x2 * 65536+x3 * 256) (by omega) (by omega),w64 (n:=x1 * 16777216+x2 * 65536+x3 * 256+x4) (by omega) (by omega)]
   exact Drawn.some hc4 ⟨Int.tmod_nonneg _ (by omega),fun _=>Int.tmod_lt_of_pos _ (by omega),fun h'=>absurd h' h0⟩
theorem p_l1Once{cb:List Int}{c:Int×Int}(h:goodC cb c)(n:Int):Drawn cb (fun _=>True) (m_spec_l1Once cb c n):=by
 unfold m_spec_l1Once
 exact(p_l1Below h n).bind fun x c1 hc1 _=>Drawn.some hc1 trivial
theorem p_l1PickInt{cb:List Int}{c:Int×Int}(h:goodC cb c)(xs:List Int)(hx:0 < xs.length):Drawn cb (fun x=>x∈xs) (m_spec_l1PickInt cb c xs):=by
 unfold m_spec_l1PickInt
 refine(p_l1Below h _).bind fun x c1 hc1 ⟨h1,h2,_⟩=> ?_
 obtain⟨n,rfl⟩:∃n:Nat,x=(n:Int):=⟨x.toNat,by omega⟩
 have hn:n < xs.length:=by have:=h2 (by omega);omega
 simp only[idx_nat hn,Option.bind_some]
 exact Drawn.some hc1 (List.getElem_mem hn)
def newH(cb:List Int):Nat→Int
 |0=>IntKind.wrap .i64 (97097+(cb.length:Int))
 |i+1=>IntKind.wrap .i64 ((BitVec.ofInt (IntKind.bits .i64) (IntKind.wrap .i64 ((IntKind.wrap .i64 ((IntKind.wrap .i64 (newH cb i * 131))+(IntKind.wrap .i64 ((cb[i]?).getD 0))))+7))&&& BitVec.ofInt (IntKind.bits .i64) 1073741823).toNat:Int)
theorem p_l1New(cb:List Int)(h:cb.length≤1048576):∃c,m_spec_l1New cb=some c∧goodC cb c:=by
 refine⟨(0,newH cb (min cb.length 4000)),?_,by simp[goodC];exact h⟩
 unfold m_spec_l1New
 refine iter_all (fun i=>(newH cb i,(i:Int))) _ (min cb.length 4000) (by omega) (fun kb i hi=> ?_) (fun kb=> ?_) rfl
 ·have hi':i < cb.length:=by omega
  unfold spec_l1New_b4
  simp only
  rw[if_pos (by omega),if_pos (by omega),idx_nat hi',step1 i _ hi' (by omega)]
  simp only[Option.bind_some,newH,List.getElem?_eq_getElem hi',Option.getD_some]
 ·unfold spec_l1New_b4 spec_l1New_j2
  simp only
  split
  ·rw[if_neg (by omega)]
  ·rfl
theorem p_l1Size(cb:List Int)(h:cb.length≤1048576)(a:Int)(ha:2≤a):∃n,m_spec_l1Size cb a=some n∧2≤n∧n≤a:=by
 have h1:0≤Int.tdiv (cb.length:Int) 20:=Int.tdiv_nonneg (by omega) (by decide)
 have h2:Int.tdiv (cb.length:Int) 20≤(cb.length:Int):=by
  rw[Int.tdiv_eq_ediv_of_nonneg (by omega)];omega
 unfold m_spec_l1Size
 rw[w64 (n:=Int.tdiv (cb.length:Int) 20) (by omega) (by omega),w64 (by omega) (by omega)]
 split
 ·exact⟨_,rfl,by omega,by omega⟩
 ·exact⟨_,rfl,by omega,by omega⟩
theorem iter_inv{S R:Type}{f:(S→Option R)→S→Option R}(I:Nat→S→Prop)(n:Nat)(hn:n≤1152921504606846976){s0:S}(h0:I 0 s0)(Post:Option R→Prop)
  (hs:∀i,i < n→∀s,I i s→∀kb,∃s',I (i+1) s'∧f kb s=kb s') (he:∀s,I n s→∀kb,Post (f kb s)):Post (iter f FU s0):=by
 have key:∀(d i m:Nat) (s:S),i+d=n→d < m→I i s→Post (iter f m s):=by
  intro d
  induction d with
  |zero=>
   intro i m s e hm hi
   have:i=n:=by omega
   subst this
   cases m with
   |zero=>omega
   |succ m=>exact he s hi _
  |succ d ih=>
   intro i m s e hm hi
   cases m with
   |zero=>omega
   |succ m=>
    obtain⟨s',h1,h2⟩:=hs i (by omega) s hi (iter f m)
    show Post (f (iter f m) s)
    rw[h2]
    exact ih (i+1) m s' (by omega) (by omega) h1
 exact key n 0 FU s0 (by omega) (by unfold FU;omega) h0
def delY{α:Type}(xs:List α)(p:α→Bool)(k0:Nat):Nat→List α×Nat
 |0=>(xs,k0)
 |n+1=>match xs[k0+1+n]? with
  |some x=>if p x then delY xs p k0 n else((delY xs p k0 n).1.set (delY xs p k0 n).2 x,(delY xs p k0 n).2+1)
  |none=>delY xs p k0 n
theorem delY_spec{α:Type}(xs:List α)(p:α→Bool)(k0:Nat)(hk:k0 < xs.length)(h0:(xs.take (k0+1)).filter (fun x=>!p x)=xs.take k0):∀n,k0+1+n≤xs.length→
  (delY xs p k0 n).1.length=xs.length∧(delY xs p k0 n).2 < k0+1+n∧(delY xs p k0 n).1.take (delY xs p k0 n).2=(xs.take (k0+1+n)).filter (fun x=>!p x)∧∀m,k0+1+n≤m→(delY xs p k0 n).1[m]? =xs[m]?
 |0,h=>by
  refine⟨rfl,by simp[delY],?_,fun m _=>rfl⟩
  simp only[delY,Nat.add_zero]
  rw[h0]
 |n+1,h=>by
  obtain⟨h1,h2,h3,h4⟩:=delY_spec xs p k0 hk h0 n (by omega)
  have hlt:k0+1+n < xs.length:=by omega
  simp only[delY,List.getElem?_eq_getElem hlt]
  have ht:(xs.take (k0+1+(n+1))).filter (fun x=>!p x)=(xs.take (k0+1+n)).filter (fun x=>!p x)++(if p xs[k0+1+n]=true then[] else[xs[k0+1+n]]):=by
   rw[show k0+1+(n+1)=(k0+1+n)+1 by omega,List.take_succ_eq_append_getElem hlt,List.filter_append]
   congr 1
   by_cases c:p xs[k0+1+n]=true<;>simp[c]
  by_cases c:p xs[k0+1+n]=true
  ·simp only[c,if_true]
   refine⟨h1,by omega,by rw[ht,c];simpa using h3,fun m hm=>h4 m (by omega)⟩
  ·simp only[c,Bool.false_eq_true,if_false]
   refine⟨by simpa using h1,by omega,?_,fun m hm=> ?_⟩
   ·rw[ht,←h3]
    rw[if_neg c,List.take_succ_eq_append_getElem (by rw[List.length_set,h1];omega),List.take_set_of_le (Nat.le_refl _)]
    simp
   ·rw[List.getElem?_set_ne (by omega)]
    exact h4 m (by omega)
theorem iter_del{α R:Type}{f:(List α×Int×Int→Option R)→List α×Int×Int→Option R}(xs:List α)(p:α→Bool)(k:List α→Nat→Option R)(hn:xs.length≤1048576)(k0:Nat)(hk:k0 < xs.length)(h0:(xs.take (k0+1)).filter (fun x=>!p x)=xs.take k0)
  (hs:∀kb (ys:List α) (i j:Nat) (hj:j < xs.length),i < j→ys.length=xs.length→ys[j]? =some xs[j]→f kb (ys,(i:Int),(j:Int))=if p xs[j]=true then kb (ys,(i:Int),((j+1:Nat):Int)) else kb (ys.set i xs[j],((i+1:Nat):Int),((j+1:Nat):Int)))
  (he:∀kb (ys:List α) (i:Nat),i≤xs.length→ys.length=xs.length→f kb (ys,(i:Int),(xs.length:Int))=k ys i):
  ∃ys,ys.length=xs.length∧(xs.filter fun x=>!p x).length≤xs.length∧ys.take (xs.filter fun x=>!p x).length=xs.filter (fun x=>!p x)∧iter f FU (xs,(k0:Int),((k0+1:Nat):Int))=k ys (xs.filter fun x=>!p x).length:=by
 obtain⟨h1,h2,h3,_⟩:=delY_spec xs p k0 hk h0 (xs.length - (k0+1)) (by omega)
 rw[show k0+1+(xs.length - (k0+1))=xs.length by omega,List.take_length] at h3
 rw[show k0+1+(xs.length - (k0+1))=xs.length by omega] at h2
 have hl:(delY xs p k0 (xs.length - (k0+1))).2=(xs.filter fun x=>!p x).length:=by
  rw[←h3,List.length_take,h1];omega
 refine⟨_,h1,List.length_filter_le _ _,by rw[←hl];exact h3,?_⟩
 rw[←hl]
 refine iter_all (fun n=>((delY xs p k0 n).1,((delY xs p k0 n).2:Int),((k0+1+n:Nat):Int))) _ (xs.length - (k0+1)) (by omega) (fun kb n hlt=> ?_) (fun kb=> ?_) (by simp[delY])
 ·obtain⟨g1,g2,g3,g4⟩:=delY_spec xs p k0 hk h0 n (by omega)
  have hj:k0+1+n < xs.length:=by omega
  show f kb ((delY xs p k0 n).1,((delY xs p k0 n).2:Int),((k0+1+n:Nat):Int))=kb ((delY xs p k0 (n+1)).1,((delY xs p k0 (n+1)).2:Int),((k0+1+(n+1):Nat):Int))
  rw[hs kb _ _ _ hj g2 g1 (by rw[g4 _ (Nat.le_refl _),List.getElem?_eq_getElem hj])]
  have e:delY xs p k0 (n+1)=if p xs[k0+1+n]=true then delY xs p k0 n else((delY xs p k0 n).1.set (delY xs p k0 n).2 xs[k0+1+n],(delY xs p k0 n).2+1):=by
   simp only[delY,List.getElem?_eq_getElem hj]
  rw[e]
  by_cases c:p xs[k0+1+n]=true
  ·simp only[c,if_true];rfl
  ·simp only[c,Bool.false_eq_true,if_false];rfl
 ·show f kb ((delY xs p k0 (xs.length - (k0+1))).1,((delY xs p k0 (xs.length - (k0+1))).2:Int),((k0+1+(xs.length - (k0+1)):Nat):Int))=_
  rw[show k0+1+(xs.length - (k0+1))=xs.length by omega]
  exact he kb _ _ (by omega) h1
theorem idx_none{α:Type}{p:α→Bool}{xs:List α}(e:idxOf p xs= -1):xs.filter (fun x=>!p x)=xs:=by
 unfold idxOf at e
 split at e
 ·omega
 ·rename_i h
  rw[List.findIdx?_eq_none_iff] at h
  rw[List.filter_eq_self]
  intro x hx
  simp[h x hx]
theorem idx_some'{α:Type}{p:α→Bool}{xs:List α}(e:¬idxOf p xs= -1):∃k:Nat,idxOf p xs=(k:Int)∧k < xs.length∧(xs.take (k+1)).filter (fun x=>!p x)=xs.take k:=by
 unfold idxOf at e ⊢
 split
 ·rename_i k h
  rw[List.findIdx?_eq_some_iff_getElem] at h
  obtain⟨hk,hp,hb⟩:=h
  refine⟨k,rfl,hk,?_⟩
  rw[List.take_succ_eq_append_getElem hk,List.filter_append,List.filter_eq_self.2 ?_]
  ·simp[hp]
  ·intro x hx
   obtain⟨j,hj,rfl⟩:=List.getElem_of_mem hx
   have hj':j < k:=by simp at hj;omega
   have:=hb j hj'
   simp only[List.getElem_take]
   simpa using this
 ·rename_i h
  rw[h] at e
  exact absurd rfl e
theorem take_front{α:Type}{ys:List α}{i:Nat}(zs ws:List α)(h:i≤ys.length):List.take i (List.take i ys++zs++ws)=List.take i ys:=by
 rw[List.append_assoc,List.take_append_of_le_length (by simp;omega),List.take_take,Nat.min_self]
def cellGood(xs:List TCell)(i:Nat):Bool:=match xs[i]? with
 |none=>true
 |some c=>within c.Key 0 999&&within c.Value 0 1000000000&&(i == 0||match xs[i - 1]? with|some p=>decide (p.Key < c.Key)|none=>true)
def storeGood(xs:List TCell):Bool:=decide (xs.length≤60)&&(List.range xs.length).all (cellGood xs)
theorem p_spec_StoreOk(xs:List TCell)(h:xs.length≤1048576):m_spec_StoreOk xs=some (storeGood xs):=by
 unfold m_spec_StoreOk storeGood
 split
 ·rename_i h1
  have:¬xs.length≤60:=by omega
  simp[this]
 ·rename_i h1
  have:xs.length≤60:=by omega
  rw[iter_good (s0:=(0:Int)) (fun i=>(i:Int)) (cellGood xs) (some false) (some true) xs.length (by omega) (fun kb i hi=> ?_) (fun kb=> ?_) rfl]
  ·simp only[this,decide_true,Bool.true_and];split<;>simp_all
  ·unfold spec_StoreOk_b5 spec_StoreOk_j8 cellGood
   simp only[idx_nat hi,p_l10Key,p_l1Whole,Option.bind_some,step1 i _ hi (by omega),List.getElem?_eq_getElem hi]
   rw[if_pos (by omega)]
   cases within xs[i].Key 0 999<;>simp
   cases within xs[i].Value 0 1000000000<;>simp
   by_cases h0:0 < i
   ·have h2:IntKind.wrap .i64 ((i:Int) - 1)=((i - 1:Nat):Int):=by rw[w64 (by omega) (by omega)];omega
    have h3:i - 1 < xs.length:=by omega
    have h4:¬i=0:=by omega
    simp only[h0,if_true,h2,idx_nat h3,Option.bind_some,List.getElem?_eq_getElem h3,h4,false_or]
    by_cases h5:xs[i].Key≤xs[i - 1].Key
    ·have:¬xs[i - 1].Key < xs[i].Key:=by omega
     simp[h5,this]
    ·have:xs[i - 1].Key < xs[i].Key:=by omega
     simp[h5,this]
   ·have h4:i=0:=by omega
    simp[h4]
  ·unfold spec_StoreOk_b5
   rw[if_neg (by omega)];rfl
theorem p_impl_StoreOk(xs:List TCell)(h:xs.length≤1048576):m_impl_StoreOk xs=some (storeGood xs):=by
 unfold m_impl_StoreOk storeGood
 rw[iter_good (s0:=(0:Int)) (fun i=>(i:Int)) (cellGood xs) (some false) (some (decide (xs.length≤60))) xs.length (by omega) (fun kb i hi=> ?_) (fun kb=> ?_) rfl]
 ·split<;>simp_all
 ·unfold impl_StoreOk_b4 impl_StoreOk_j9 cellGood
  simp only[idx_nat hi,p_isKey,p_isWhole,Option.bind_some,step1 i _ hi (by omega),List.getElem?_eq_getElem hi]
  rw[if_pos (by omega)]
  cases within xs[i].Key 0 999<;>simp
  cases within xs[i].Value 0 1000000000<;>simp
  by_cases h0:0 < i
  ·have h2:IntKind.wrap .i64 ((i:Int) - 1)=((i - 1:Nat):Int):=by rw[w64 (by omega) (by omega)];omega
   have h3:i - 1 < xs.length:=by omega
   have h4:¬i=0:=by omega
   simp only[h0,if_true,h2,idx_nat h3,Option.bind_some,List.getElem?_eq_getElem h3,h4,false_or]
   by_cases h5:xs[i].Key≤xs[i - 1].Key
   ·have:¬xs[i - 1].Key < xs[i].Key:=by omega
    simp[h5,this]
   ·have:xs[i - 1].Key < xs[i].Key:=by omega
    simp[h5,this]
  ·have h4:i=0:=by omega
   simp[h4]
 ·unfold impl_StoreOk_b4 impl_StoreOk_j2
  rw[if_neg (by omega)]
  have:((xs.length:Int)≤60)↔xs.length≤60:=by omega
  simp[this]
def inB(lo hi:Int)(c:TCell):Bool:=within c.Key lo (IntKind.wrap .i64 (hi - 1))
theorem p_Range_has(a:TRange)(z:Int):m_impl_Range_has a z=some (within z a.Lo (IntKind.wrap .i64 (a.Hi - 1))):=by
 unfold m_impl_Range_has;simp[p_from]
theorem p_Index_Cell__within_1(xs:List TCell)(c0:TRange)(c1:Bool)(p:TCell→Bool)(hp:∀v,m_impl_within_1 v c0 c1=some (p v))(h:xs.length≤1048576):m_slices_IndexFunc_Cell__within_1 xs c0 c1=some (idxOf p xs):=by
 unfold m_slices_IndexFunc_Cell__within_1
 refine iter_index xs p (by omega) (fun kb i hi=> ?_) (fun kb=> ?_)
 ·unfold slices_IndexFunc_Cell__within_1_b6
  simp only[idx_nat hi,Option.bind_some,hp,step1 i _ hi (by omega)]
  rw[if_pos (by omega)]
 ·unfold slices_IndexFunc_Cell__within_1_b6
  rw[if_neg (by omega)];rfl
theorem p_Del_Cell__within_1(xs:List TCell)(c0:TRange)(c1:Bool)(p:TCell→Bool)(hp:∀v,m_impl_within_1 v c0 c1=some (p v))(h:xs.length≤1048576):m_slices_DeleteFunc_Cell__within_1 xs c0 c1=some (xs.filter fun x=>!p x):=by
 unfold m_slices_DeleteFunc_Cell__within_1
 simp only[p_Index_Cell__within_1 xs c0 c1 p hp h,Option.bind_some]
 split
 ·rename_i e;rw[idx_none e]
 ·rename_i e
  obtain⟨k0,e1,hk,h0⟩:=idx_some' e
  rw[e1,step1 k0 _ hk (by omega)]
  obtain⟨ys,g1,g2,g3,g4⟩:=iter_del (f:=slices_DeleteFunc_Cell__within_1_b12 c0 c1 slices_DeleteFunc_Cell__within_1_j7) xs p (fun ys i=>some (ys.take i)) h k0 hk h0 (fun kb ys i j hj hij hl hx=>by
   unfold slices_DeleteFunc_Cell__within_1_b12
   have hi:i < ys.length:=by omega
   simp only[idx_ofNat,hx,hp,Option.bind_some,step1 j _ hj (by omega),step1 i _ hi (by omega),Int.toNat_natCast,List.getElem?_eq_getElem hi]
   rw[if_pos (by omega)]) (fun kb ys i hi hl=>by
   unfold slices_DeleteFunc_Cell__within_1_b12 slices_DeleteFunc_Cell__within_1_j7
   simp only[Int.toNat_natCast]
   rw[if_neg (by omega),if_pos ⟨by omega,by omega,by omega⟩,if_pos (by omega),if_pos ⟨by omega,by omega,by omega⟩,take_front _ _ (by omega)])
  rw[g4,g3]
theorem p_Clone_Cell(xs:List TCell)(h:xs.length≤1048576):m_slices_Clone_Cell xs=some xs:=by
 unfold m_slices_Clone_Cell slices_Clone_Cell_j2
 split<;>first|(simp;done)|(simp;omega)
def scanned(xs:List TCell)(a:TRange)(b:Bool):List TCell:=if storeGood xs&&rangeOk a then xs.filter (fun c=>inB a.Lo a.Hi c == b) else[]
theorem scanned_len(xs:List TCell)(a:TRange)(b:Bool):(scanned xs a b).length≤xs.length:=by
 unfold scanned
 split
 ·exact List.length_filter_le _ _
 ·simp
theorem p_within(xs:List TCell)(a:TRange)(b:Bool)(h:xs.length≤1048576):m_impl_within xs a b=some (scanned xs a b):=by
 unfold m_impl_within scanned impl_within_j4
 simp only[p_impl_StoreOk _ h,p_impl_RangeOk,Option.bind_some,p_Clone_Cell _ h,p_Del_Cell__within_1 xs a b (fun c=>(inB a.Lo a.Hi c != b)) (fun v=>by simp[m_impl_within_1,p_Range_has,inB]) h]
 cases storeGood xs<;>cases rangeOk a<;>simp<;>exact List.filter_congr fun x _=>by cases inB a.Lo a.Hi x<;>cases b<;>rfl
theorem p_l11DrawStore{cb:List Int}{c:Int×Int}(h:goodC cb c)(most:Int)(h0:0≤most)(hm:most≤60):Drawn cb (fun xs:List TCell=>xs.length≤60) (m_spec_l11DrawStore cb c most):=by
 have loop:∀(n:Nat) (c:Int×Int),n≤60→goodC cb c→Drawn cb (fun xs:List TCell=>xs.length≤60) (spec_l11DrawStore_j6 cb ((n:Int),c.1,c.2)):=by
  intro n c hn hc
  unfold spec_l11DrawStore_j6
  refine(p_l1Below hc 4).bind fun at0 c1 hc1 _=> ?_
  refine iter_inv (fun(i:Nat) (s:List TCell×Int×Int×Int×Int)=>s.1.length=i∧s.2.2.1=(i:Int)∧goodC cb s.2.2.2) n (by omega) ⟨rfl,rfl,hc1⟩ (Drawn cb (fun xs:List TCell=>xs.length≤60)) (fun i hi s ⟨h1,h2,h3⟩ kb=> ?_) (fun s ⟨h1,h2,h3⟩ kb=> ?_)
  ·unfold spec_l11DrawStore_b12
   simp only[h2]
   rw[if_pos (by omega)]
   obtain⟨k,c2,e2,hc2,_⟩:=p_l1Below h3 99
   obtain⟨g,c3,e3,hc3,_⟩:=p_l1Below hc2 3
   simp only[e2,e3,Option.bind_some,step1 i _ hi (by omega)]
   rw[if_pos (by simp;omega)]
   exact⟨_,⟨by simp;omega,rfl,hc3⟩,rfl⟩
  ·unfold spec_l11DrawStore_b12 spec_l11DrawStore_j10
   simp only[h2]
   rw[if_neg (by omega)]
   exact Drawn.some h3 (by omega)
 unfold m_spec_l11DrawStore
 rw[w64 (by omega) (by omega)]
 refine(p_l1Below h _).bind fun n c1 hc1 ⟨n1,n2,_⟩=>(p_l1Once hc1 20).bind fun b c2 hc2 _=> ?_
 have n2:=n2 (by omega)
 obtain⟨k,rfl⟩:∃k:Nat,n=(k:Int):=⟨n.toNat,by omega⟩
 split
 ·exact loop 60 c2 (by omega) hc2
 ·exact loop k c2 (by omega) hc2
theorem p_l11DrawAny{cb:List Int}{c:Int×Int}(h:goodC cb c)(most:Int)(h0:0≤most)(hm:most≤60):Drawn cb (fun xs:List TCell=>xs.length≤61) (m_spec_l11DrawAny cb c most):=by
 unfold m_spec_l11DrawAny
 refine(p_l11DrawStore h most h0 hm).bind fun xs c1 hc1 hl=>(p_l1Below hc1 25).bind fun z c2 hc2 _=> ?_
 split
 ·refine(p_l1PickInt hc2 _ (by simp)).bind fun v c3 hc3 _=> ?_
  rw[if_pos (by simp;omega)]
  exact Drawn.some hc3 (by simp;omega)
 ·split
  ·refine(p_l1PickInt hc2 _ (by simp)).bind fun v c3 hc3 _=> ?_
   rw[if_pos (by simp;omega)]
   exact Drawn.some hc3 (by simp;omega)
  ·exact Drawn.some hc2 (by simp only;omega)
def asc(xs:List TCell):Prop:=∀i j (hi:i < xs.length) (hj:j < xs.length),i < j→xs[i].Key < xs[j].Key
theorem storeGood_le{xs:List TCell}(h:storeGood xs=true):xs.length≤60:=by
 unfold storeGood at h;simp at h;exact h.1
theorem storeGood_at{xs:List TCell}(h:storeGood xs=true){i:Nat}(hi:i < xs.length):cellGood xs i=true:=by
 unfold storeGood at h
 simp only[Bool.and_eq_true,List.all_eq_true] at h
 exact h.2 i (List.mem_range.2 hi)
theorem storeGood_key{xs:List TCell}(h:storeGood xs=true){i:Nat}(hi:i < xs.length):0≤xs[i].Key∧xs[i].Key≤999∧0≤xs[i].Value∧xs[i].Value≤1000000000:=by
 have:=storeGood_at h hi
 unfold cellGood within at this
 rw[List.getElem?_eq_getElem hi] at this
 simp only[Bool.and_eq_true,decide_eq_true_eq] at this
 exact⟨this.1.1.1,this.1.1.2,this.1.2.1,this.1.2.2⟩
theorem storeGood_asc{xs:List TCell}(h:storeGood xs=true):asc xs:=by
 have step:∀i (hi:i+1 < xs.length),xs[i].Key < xs[i+1].Key:=by
  intro i hi
  have:=storeGood_at h hi
  unfold cellGood at this
  rw[List.getElem?_eq_getElem hi] at this
  simp only[Bool.and_eq_true,Nat.add_sub_cancel,List.getElem?_eq_getElem (show i < xs.length by omega)] at this
  simpa using this.2
 intro i j hi hj hlt
 induction j with
 |zero=>omega
 |succ j ih=>
  by_cases e:i=j
  ·subst e;exact step i hj
  ·have:=ih (by omega) (by omega)
   have:=step j hj
   omega
theorem mid{a b:Nat}(h:a < b)(hb:b≤1048576):IntKind.wrap .i64 (Int.fdiv (IntKind.wrap .u64 (IntKind.wrap .i64 ((a:Int)+(b:Int)))) (2 ^ (min (Int.toNat 1) (IntKind.bits .u64))))=(((a+b) / 2:Nat):Int):=by
 rw[w64 (n:=(a:Int)+b) (by omega) (by omega)]
 have h1:IntKind.wrap .u64 ((a:Int)+b)=(a:Int)+b:=by
  unfold IntKind.wrap
  simp only[IntKind.bits,IntKind.signed]
  simp
  omega
 rw[h1]
 have h2:(min (Int.toNat 1) (IntKind.bits .u64))=1:=by decide
 rw[h2]
 have h3:((a:Int)+b).fdiv (2 ^ 1)=(((a+b) / 2:Nat):Int):=by
  rw[Int.fdiv_eq_ediv_of_nonneg _ (by decide)]
  omega
 rw[h3]
 exact w64 (by omega) (by omega)
theorem p_bsearch(xs:List TCell)(k:Int)(hs:asc xs)(hl:xs.length≤1048576)(hk:∀i (hi:i < xs.length),-1000000000000≤xs[i].Key∧xs[i].Key≤1000000000000)(h1:-9000000000000000000≤k)(h2:k≤9000000000000000000):
  ∃p:Nat,p≤xs.length∧(∀i (hi:i < xs.length),i < p↔xs[i].Key < k)∧m_impl_cellFor xs k=some ((p:Int),decide ((xs[p]?).map (·.Key)=some k)):=by
 have hc:∀i (hi:i < xs.length),m_impl_cellFor_1 xs[i] k=some (xs[i].Key - k):=fun i hi=>by
  unfold m_impl_cellFor_1
  have:=hk i hi
  rw[w64 (by omega) (by omega)]
 have loop:∀(m lo hi:Nat),lo≤hi→hi≤xs.length→hi - lo < m→(∀i (h:i < xs.length),i < lo→xs[i].Key < k)→(∀i (h:i < xs.length),hi≤i→¬xs[i].Key < k)→
   ∃p:Nat,p≤xs.length∧(∀i (hi:i < xs.length),i < p↔xs[i].Key < k)∧
    iter (slices_BinarySearchFunc_Cell_int__cellFor_1_b10 xs k (slices_BinarySearchFunc_Cell_int__cellFor_1_j3 xs k)) m ((lo:Int),(hi:Int))=slices_BinarySearchFunc_Cell_int__cellFor_1_j3 xs k (p:Int):=by
  intro m
  induction m with
  |zero=>intro lo hi _ _ h;omega
  |succ m ih=>
   intro lo hi hle hhi hm hlow hhigh
   unfold iter
   unfold slices_BinarySearchFunc_Cell_int__cellFor_1_b10
   by_cases e:lo=hi
   ·subst e
    refine⟨lo,hhi,fun i h=>⟨hlow i h,fun hlt=> ?_⟩,?_⟩
    ·apply Classical.byContradiction
     intro hn
     exact hhigh i h (by omega) hlt
    ·rw[if_neg (by simp)]
   ·have hlt:lo < hi:=by omega
    rw[if_pos (by simp;omega)]
    simp only[mid hlt (show hi≤1048576 by omega)]
    have hmid:(lo+hi) / 2 < xs.length:=by omega
    rw[idx_nat hmid]
    simp only[Option.bind_some,hc _ hmid]
    by_cases hv:xs[(lo+hi) / 2].Key - k < 0
    ·rw[if_pos hv,step1 ((lo+hi) / 2) (xs.length) hmid (by omega)]
     refine ih ((lo+hi) / 2+1) hi (by omega) hhi (by omega) (fun i h hi'=> ?_) hhigh
     by_cases e2:i=(lo+hi) / 2
     ·subst e2;omega
     ·have:=hs i ((lo+hi) / 2) h hmid (by omega);omega
    ·rw[if_neg hv]
     refine ih lo ((lo+hi) / 2) (by omega) (by omega) (by omega) hlow (fun i h hi'=> ?_)
     by_cases e2:i=(lo+hi) / 2
     ·subst e2;omega
     ·have:=hs ((lo+hi) / 2) i hmid h (by omega);omega
 obtain⟨p,hp,hiff,hit⟩:=loop FU 0 xs.length (by omega) (by omega) (by unfold FU;omega) (fun i h h0=>by omega) (fun i h h0=>by omega)
 refine⟨p,hp,hiff,?_⟩
 unfold m_impl_cellFor m_slices_BinarySearchFunc_Cell_int__cellFor_1
 have hit:iter (slices_BinarySearchFunc_Cell_int__cellFor_1_b10 xs k (slices_BinarySearchFunc_Cell_int__cellFor_1_j3 xs k)) FU (0,(xs.length:Int))=_:=hit
 rw[hit]
 unfold slices_BinarySearchFunc_Cell_int__cellFor_1_j3
 by_cases e:p < xs.length
 ·rw[if_pos (by omega),idx_nat e]
  simp only[Option.bind_some,hc p e,List.getElem?_eq_getElem e,Option.map_some]
  congr 2
  rw[decide_eq_decide]
  simp
  omega
 ·rw[if_neg (by omega),List.getElem?_eq_none (by omega)]
  simp
theorem range_findSome{α β:Type}:∀(xs:List α) (g:α→Option β),(List.range xs.length).findSome? (fun i=>(xs[i]?).bind g)= xs.findSome? g
 |[],_=>rfl
 |x::xs,g=>by
  rw[List.length_cons,List.range_succ_eq_map,List.findSome?_cons,List.findSome?_cons,List.findSome?_map]
  simp only[List.getElem?_cons_zero,Option.bind_some]
  cases g x with
  |some y=>rfl
  |none=>
   simp only[Function.comp_def,List.getElem?_cons_succ]
   exact range_findSome xs g
def valueAt(xs:List TCell)(k:Int):Int:=match xs.find? fun c=>decide (c.Key=k) with
 |some c=>c.Value
 |none=>-1
theorem p_l11Get(xs:List TCell)(k:Int)(hl:xs.length≤1048576):m_spec_l11Get xs k=some (valueAt xs k):=by
 unfold m_spec_l11Get
 rw[iter_stop (s0:=(0:Int)) (fun i=>(i:Int)) (fun i:Nat=>match xs[i]? with|some c=>if c.Key=k then some (some c.Value) else none|none=>none) (some (-1)) xs.length (by omega) (fun kb i hi=> ?_) (fun kb=> ?_) rfl]
 ·have:∀ys:List TCell,ys.findSome? (fun c=>if c.Key=k then some (some c.Value) else none)=(ys.find? fun c=>decide (c.Key=k)).map fun c=>some c.Value:=by
   intro ys
   induction ys with
   |nil=>rfl
   |cons y ys ih=>
    simp only[List.findSome?_cons,List.find?_cons]
    by_cases e:y.Key=k
    ·simp[e]
    ·simp[e,ih]
  have h2:(List.range xs.length).findSome? (fun i:Nat=>match xs[i]? with|some c=>if c.Key=k then some (some c.Value) else none|none=>none)= xs.findSome? (fun c=>if c.Key=k then some (some c.Value) else none):=by
   have key:∀(g:TCell→Option (Option Int)),(List.range xs.length).findSome? (fun i:Nat=>match xs[i]? with|some c=>g c|none=>none)= xs.findSome? g:=fun g=>by
    have e:(fun i:Nat=>match xs[i]? with|some c=>g c|none=>none)=fun i=>(xs[i]?).bind g:=by funext i;cases xs[i]?<;>rfl
    rw[e]
    exact range_findSome xs g
   exact key _
  rw[h2,this]
  unfold valueAt
  cases xs.find? fun c=>decide (c.Key=k)<;>rfl
 ·unfold spec_l11Get_b5
  simp only[idx_nat hi,Option.bind_some,step1 i _ hi (by omega),List.getElem?_eq_getElem hi]
  rw[if_pos (by omega)]
  by_cases e:xs[i].Key=k<;>simp[e]
 ·unfold spec_l11Get_b5
  rw[if_neg (by omega)];rfl
theorem valueAt_spec{xs:List TCell}{k:Int}(hs:asc xs){p:Nat}(hp:p≤xs.length)(hiff:∀i (hi:i < xs.length),i < p↔xs[i].Key < k):
  valueAt xs k=match xs[p]? with|some c=>if c.Key=k then c.Value else -1|none=>-1:=by
 unfold valueAt
 by_cases e:∃h:p < xs.length,xs[p].Key=k
 ·obtain⟨h,e⟩:=e
  have:xs.find? (fun c=>decide (c.Key=k))=some xs[p]:=by
   rw[List.find?_eq_some_iff_getElem]
   refine⟨by simp[e],p,h,rfl,fun j hj=> ?_⟩
   have:=(hiff j (by omega)).1 hj
   simp;omega
  rw[this,List.getElem?_eq_getElem h]
  simp[e]
 ·have:xs.find? (fun c=>decide (c.Key=k))=none:=by
   rw[List.find?_eq_none]
   intro x hx
   obtain⟨i,hi,rfl⟩:=List.mem_iff_getElem.1 hx
   simp only[decide_eq_true_eq]
   intro hk
   apply e
   have h1:=hiff i hi
   by_cases e1:p < xs.length
   ·refine⟨e1,?_⟩
    have h2:=hiff p e1
    by_cases e2:i=p
    ·subst e2;exact hk
    ·have:¬i < p:=by omega
     have h3:=hs p i e1 hi (by omega)
     omega
   ·omega
  rw[this]
  by_cases e1:p < xs.length
  ·rw[List.getElem?_eq_getElem e1]
   have:¬xs[p].Key=k:=fun h=>e ⟨e1,h⟩
   simp[this]
  ·rw[List.getElem?_eq_none (by omega)]
theorem p_valueOf(xs:List TCell)(k:Int)(hg:storeGood xs=true)(h1:-9000000000000000000≤k)(h2:k≤9000000000000000000):m_impl_valueOf xs k=some (valueAt xs k):=by
 have hs:=storeGood_asc hg
 have hl:=storeGood_le hg
 obtain⟨p,hp,hiff,hb⟩:=p_bsearch xs k hs (by omega) (fun i hi=>by have:=storeGood_key hg hi;omega) h1 h2
 unfold m_impl_valueOf
 rw[hb,valueAt_spec hs hp hiff]
 simp only[Option.bind_some,decide_eq_true_eq]
 by_cases e:p < xs.length
 ·rw[List.getElem?_eq_getElem e]
  simp only[Option.map_some,Option.some.injEq,idx_nat e,Option.bind_some]
  split<;>rfl
 ·rw[List.getElem?_eq_none (by omega)]
  simp
theorem p_isAnswer(z:Int):m_impl_isAnswer z=some (within z (-1) 1000000000):=by simp[m_impl_isAnswer,p_from]
def writeGood(xs:List TCell)(i:Nat):Bool:=match xs[i]? with
 |none=>true
 |some c=>within c.Key 0 999&&within c.Value (-1) 1000000000&&(i == 0||match xs[i - 1]? with|some p=>decide (p.Key < c.Key)|none=>true)
def writesGood(xs:List TCell):Bool:=decide (xs.length≤60)&&(List.range xs.length).all (writeGood xs)
theorem p_spec_WritesOk(xs:List TCell)(h:xs.length≤1048576):m_spec_WritesOk xs=some (writesGood xs):=by
 unfold m_spec_WritesOk writesGood
 split
 ·rename_i h1
  have:¬xs.length≤60:=by omega
  simp[this]
 ·rename_i h1
  have:xs.length≤60:=by omega
  rw[iter_good (s0:=(0:Int)) (fun i=>(i:Int)) (writeGood xs) (some false) (some true) xs.length (by omega) (fun kb i hi=> ?_) (fun kb=> ?_) rfl]
  ·simp only[this,decide_true,Bool.true_and];split<;>simp_all
  ·unfold spec_WritesOk_b5 spec_WritesOk_j8 writeGood
   simp only[idx_nat hi,p_l10Key,p_l1In,Option.bind_some,step1 i _ hi (by omega),List.getElem?_eq_getElem hi]
   rw[if_pos (by omega)]
   cases within xs[i].Key 0 999<;>simp
   cases within xs[i].Value (-1) 1000000000<;>simp
   by_cases h0:0 < i
   ·have h2:IntKind.wrap .i64 ((i:Int) - 1)=((i - 1:Nat):Int):=by rw[w64 (by omega) (by omega)];omega
    have h3:i - 1 < xs.length:=by omega
    have h4:¬i=0:=by omega
    simp only[h0,if_true,h2,idx_nat h3,Option.bind_some,List.getElem?_eq_getElem h3,h4,false_or]
    by_cases h5:xs[i].Key≤xs[i - 1].Key
    ·have:¬xs[i - 1].Key < xs[i].Key:=by omega
     simp[h5,this]
    ·have:xs[i - 1].Key < xs[i].Key:=by omega
     simp[h5,this]
   ·have h4:i=0:=by omega
    simp[h4]
  ·unfold spec_WritesOk_b5
   rw[if_neg (by omega)];rfl
theorem p_impl_WritesOk(xs:List TCell)(h:xs.length≤1048576):m_impl_WritesOk xs=some (writesGood xs):=by
 unfold m_impl_WritesOk writesGood
 rw[iter_good (s0:=(0:Int)) (fun i=>(i:Int)) (writeGood xs) (some false) (some (decide (xs.length≤60))) xs.length (by omega) (fun kb i hi=> ?_) (fun kb=> ?_) rfl]
 ·split<;>simp_all
 ·unfold impl_WritesOk_b4 impl_WritesOk_j9 writeGood
  simp only[idx_nat hi,p_isKey,p_isAnswer,Option.bind_some,step1 i _ hi (by omega),List.getElem?_eq_getElem hi]
  rw[if_pos (by omega)]
  cases within xs[i].Key 0 999<;>simp
  cases within xs[i].Value (-1) 1000000000<;>simp
  by_cases h0:0 < i
  ·have h2:IntKind.wrap .i64 ((i:Int) - 1)=((i - 1:Nat):Int):=by rw[w64 (by omega) (by omega)];omega
   have h3:i - 1 < xs.length:=by omega
   have h4:¬i=0:=by omega
   simp only[h0,if_true,h2,idx_nat h3,Option.bind_some,List.getElem?_eq_getElem h3,h4,false_or]
   by_cases h5:xs[i].Key≤xs[i - 1].Key
   ·have:¬xs[i - 1].Key < xs[i].Key:=by omega
    simp[h5,this]
   ·have:xs[i - 1].Key < xs[i].Key:=by omega
    simp[h5,this]
  ·have h4:i=0:=by omega
   simp[h4]
 ·unfold impl_WritesOk_b4 impl_WritesOk_j2
  rw[if_neg (by omega)]
  have:((xs.length:Int)≤60)↔xs.length≤60:=by omega
  simp[this]
theorem writesGood_at{xs:List TCell}(h:writesGood xs=true){i:Nat}(hi:i < xs.length):-1≤xs[i].Value∧0≤xs[i].Key∧xs[i].Key≤999:=by
 unfold writesGood at h
 simp only[Bool.and_eq_true,List.all_eq_true] at h
 have:=h.2 i (List.mem_range.2 hi)
 unfold writeGood within at this
 rw[List.getElem?_eq_getElem hi] at this
 simp only[Bool.and_eq_true,decide_eq_true_eq] at this
 exact⟨this.1.2.1,this.1.1.1,this.1.1.2⟩
theorem writesGood_le{xs:List TCell}(h:writesGood xs=true):xs.length≤60:=by
 unfold writesGood at h;simp at h;exact h.1
def l2L(k v:Int):List TCell→Bool→List TCell
 |[],put=>if put then[] else[TCell.mk k v]
 |c::cs,put=>(if (!put&&decide (k≤c.Key))=true then[TCell.mk k v] else[])++((if ¬c.Key=k then[c] else[])++l2L k v cs (put||decide (k≤c.Key)))
def putAt(k:Int)(keep:Bool):Nat→List TCell→Bool
 |0,_=>!keep
 |n+1,xs=>putAt k keep n xs||match xs[n]? with|some c=>decide (k≤c.Key)|none=>false
theorem l2L_drop(k v:Int){xs:List TCell}{i:Nat}(hi:i < xs.length)(b:Bool):l2L k v (xs.drop i) b=(if (!b&&decide (k≤xs[i].Key))=true then[TCell.mk k v] else[])++((if ¬xs[i].Key=k then[xs[i]] else[])++l2L k v (xs.drop (i+1)) (b||decide (k≤xs[i].Key))):=by
 rw[List.drop_eq_getElem_cons hi]
 rfl
theorem l2L_true(k v:Int):∀(xs:List TCell),l2L k v xs true=xs.filter (fun c=>decide (¬c.Key=k))
 |[]=>rfl
 |c::cs=>by
  simp only[l2L,Bool.not_true,Bool.false_and,Bool.false_eq_true,if_false,List.nil_append,Bool.true_or,l2L_true k v cs,List.filter_cons]
  by_cases h:c.Key=k<;>simp[h]
theorem l2L_asc(k v:Int)(xs:List TCell)(hs:asc xs):∀(n p:Nat),n≤p→p≤xs.length→p - n=p - n→(∀i (hi:i < xs.length),i < p↔xs[i].Key < k)→l2L k v (xs.drop n) false=(xs.drop n).take (p - n)++(TCell.mk k v::(xs.drop p).filter (fun c=>decide (¬c.Key=k))):=by
 intro n p hn hp _ hiff
 induction hd:p - n generalizing n with
 |zero=>
  have:n=p:=by omega
  subst this
  by_cases hl:n < xs.length
  ·have hk:¬xs[n].Key < k:=fun h=>by have:=(hiff n hl).2 h;omega
   rw[l2L_drop k v hl]
   have hk':k≤xs[n].Key:=by omega
   simp only[hk',decide_true,Bool.not_false,Bool.and_self,if_true,Bool.or_true,l2L_true]
   conv=>rhs;rw[List.drop_eq_getElem_cons hl]
   simp only[List.take_zero,List.nil_append,List.filter_cons]
   by_cases h:xs[n].Key=k<;>simp[h]
  ·rw[List.drop_eq_nil_of_le (by omega)]
   simp[l2L]
 |succ d ih=>
  have hl:n < xs.length:=by omega
  have hk:xs[n].Key < k:=(hiff n hl).1 (by omega)
  have hk':¬k≤xs[n].Key:=by omega
  have hk2:¬xs[n].Key=k:=by omega
  rw[l2L_drop k v hl]
  simp only[hk',hk2,decide_false,Bool.not_false,Bool.and_false,Bool.false_eq_true,if_false,not_false_eq_true,if_true,List.nil_append,Bool.or_self]
  rw[ih (n+1) (by omega) rfl (by omega),List.drop_eq_getElem_cons hl]
  rfl
def accP(k v:Int)(keep:Bool)(xs:List TCell):Nat→List TCell
 |0=>[]
 |i+1=>accP k v keep xs i++(match xs[i]? with|some c=>(if (!(putAt k keep i xs)&&decide (k≤c.Key))=true then[TCell.mk k v] else[])++(if ¬c.Key=k then[c] else[])|none=>[])
theorem accP_len(k v:Int)(keep:Bool)(xs:List TCell):∀i,(accP k v keep xs i).length≤2 * i
 |0=>by simp[accP]
 |i+1=>by
  have ih:=accP_len k v keep xs i
  simp only[accP,List.length_append]
  have:(match xs[i]? with|some c=>(if (!(putAt k keep i xs)&&decide (k≤c.Key))=true then[TCell.mk k v] else[])++(if ¬c.Key=k then[c] else[])|none=>[]).length≤2:=by
   cases xs[i]? with
   |none=>simp
   |some c=>simp only[List.length_append];split<;>split<;>simp
  omega
theorem accP_all(k v:Int)(keep:Bool)(xs:List TCell):∀i,i≤xs.length→l2L k v xs (!keep)=accP k v keep xs i++l2L k v (xs.drop i) (putAt k keep i xs)
 |0,_=>by simp[accP,putAt]
 |i+1,hi=>by
  have hlt:i < xs.length:=by omega
  rw[accP_all k v keep xs i (by omega),l2L_drop k v hlt]
  simp only[accP,putAt,List.getElem?_eq_getElem hlt,List.append_assoc]
theorem p_l2Cells(xs:List TCell)(k v:Int)(keep:Bool)(h:xs.length≤1048576):m_spec_l2Cells xs k v keep=some (l2L k v xs (!keep)):=by
 unfold m_spec_l2Cells
 refine iter_all (fun i=>(accP k v keep xs i,putAt k keep i xs,(i:Int))) _ xs.length (by omega) (fun kb i hi=> ?_) (fun kb=> ?_) (by simp[accP,putAt])
 ·have hl:=accP_len k v keep xs i
  unfold spec_l2Cells_b9 spec_l2Cells_j20 spec_l2Cells_j12
  simp only[idx_nat hi,Option.bind_some,step1 i _ hi (by omega),accP,putAt,List.getElem?_eq_getElem hi]
  rw[if_pos (by omega)]
  generalize putAt k keep i xs=b
  generalize accP k v keep xs i=acc at hl
  cases b<;>by_cases h1:k≤xs[i].Key<;>by_cases h2:xs[i].Key=k<;>simp[h1,h2]<;>first|omega|(rw[if_pos (by omega),if_pos (by omega)])
 ·have hl:=accP_len k v keep xs xs.length
  rw[accP_all k v keep xs xs.length (Nat.le_refl _)]
  unfold spec_l2Cells_b9 spec_l2Cells_j5
  rw[if_neg (by simp)]
  simp only[List.drop_length]
  generalize putAt k keep xs.length xs=b
  generalize accP k v keep xs xs.length=acc at hl
  cases b<;>simp[l2L]<;>omega
theorem asc_pw{xs:List TCell}:asc xs↔xs.Pairwise (fun a b=>a.Key < b.Key):=by
 rw[List.pairwise_iff_getElem]
 constructor
 ·intro h i j hi hj hij;exact h i j hi hj hij
 ·intro h i j hi hj hij;exact h i j hi hj hij
def keysIn(xs:List TCell):Prop:=∀c∈xs,-1000000000000≤c.Key∧c.Key≤1000000000000
def wrote(xs:List TCell)(w:TCell):List TCell:=l2L w.Key w.Value xs (!decide (0≤w.Value))
theorem p_put(xs:List TCell)(w:TCell)(hs:asc xs)(hk:keysIn xs)(hl:xs.length≤1000)(h1:-1000000000000≤w.Key∧w.Key≤1000000000000)(h2:-1≤w.Value):
  m_impl_put xs w.Key w.Value=some (wrote xs w)∧asc (wrote xs w)∧keysIn (wrote xs w)∧(wrote xs w).length≤xs.length+1:=by
 obtain⟨k,v⟩:=w
 simp only at h1 h2
 obtain⟨p,hp,hiff,hc⟩:=p_bsearch xs k hs (by omega) (fun i hi=>hk _ (List.getElem_mem hi)) (by omega) (by omega)
 have hpw:=asc_pw.1 hs
 have hlow:∀c∈xs.take p,c.Key < k:=fun c hc=>by
  obtain⟨i,hi,rfl⟩:=List.getElem_of_mem hc
  rw[List.getElem_take]
  exact(hiff i (by simp at hi;omega)).1 (by simp at hi;omega)
 have hhigh:∀c∈xs.drop p,k≤c.Key:=fun c hc=>by
  obtain⟨i,hi,rfl⟩:=List.getElem_of_mem hc
  rw[List.getElem_drop]
  have:=hiff (p+i) (by simp at hi;omega)
  omega
 have hgt:∀c∈(xs.drop p).filter (fun c=>decide (¬c.Key=k)),k < c.Key:=fun c hc=>by
  rw[List.mem_filter] at hc
  have:=hhigh c hc.1
  have h3:¬c.Key=k:=by simpa using hc.2
  omega
 have hsub:(xs.take p++(xs.drop p).filter (fun c=>decide (¬c.Key=k))).Sublist xs:=by
  conv=>rhs;rw[←List.take_append_drop p xs]
  exact List.Sublist.append (List.Sublist.refl _) List.filter_sublist
 have hw:wrote xs ⟨k,v⟩=if 0≤v then xs.take p++(TCell.mk k v::(xs.drop p).filter (fun c=>decide (¬c.Key=k))) else xs.take p++(xs.drop p).filter (fun c=>decide (¬c.Key=k)):=by
  unfold wrote
  by_cases h0:0≤v
  ·have:=l2L_asc k v xs hs 0 p (by omega) hp rfl hiff
   simp only[h0,decide_true,Bool.not_true,if_true]
   simpa using this
  ·simp only[h0,decide_false,Bool.not_false,if_false,l2L_true]
   conv=>lhs;rw[←List.take_append_drop p xs]
   rw[List.filter_append]
   congr 1
   rw[List.filter_eq_self]
   intro c hc
   have:=hlow c hc
   simp;omega
 have hrest:∀c,xs[p]? =some c→(if c.Key=k then(xs.drop p).filter (fun c=>decide (¬c.Key=k))=xs.drop (p+1) else(xs.drop p).filter (fun c=>decide (¬c.Key=k))=xs.drop p):=fun c hc=>by
  obtain⟨hlt,rfl⟩:=List.getElem?_eq_some_iff.1 hc
  rw[List.drop_eq_getElem_cons hlt,List.filter_cons]
  have hr:(xs.drop (p+1)).filter (fun c=>decide (¬c.Key=k))=xs.drop (p+1):=by
   rw[List.filter_eq_self]
   intro c hc
   obtain⟨i,hi,rfl⟩:=List.getElem_of_mem hc
   rw[List.getElem_drop]
   have h3:=hs p (p+1+i) hlt (by simp at hi;omega) (by omega)
   have h4:=hiff p hlt
   simp;omega
  rw[hr]
  by_cases h:xs[p].Key=k<;>simp[h]
 refine⟨?_,?_,?_,?_⟩
 ·unfold m_impl_put impl_put_j6
  simp only[hc,Option.bind_some,p_Clone_Cell xs (by omega)]
  rw[hw]
  cases hx:xs[p]? with
  |none=>
   have hpl:p=xs.length:=by have:=List.getElem?_eq_none_iff.1 hx;omega
   have hd:(xs.drop p).filter (fun c=>decide (¬c.Key=k))=[]:=by rw[List.drop_eq_nil_of_le (by omega)];rfl
   simp only[Option.map_none,reduceCtorEq,decide_false,hd]
   by_cases h0:v= -1
   ·subst h0
    simp[hpl]
   ·have h0':0≤v:=by omega
    simp only[h0,h0',if_true,if_false,Bool.false_eq_true]
    unfold m_slices_Insert_Cell
    rw[if_pos ⟨by omega,by omega,rfl,by omega⟩]
    simp[hpl]
  |some c=>
   have hr:=hrest c hx
   obtain⟨hlt,hce⟩:=List.getElem?_eq_some_iff.1 hx
   by_cases hck:c.Key=k
   ·rw[if_pos hck] at hr
    simp only[Option.map_some,hck,decide_true,hr]
    by_cases h0:v= -1
    ·subst h0
     have e1:IntKind.wrap .i64 ((p:Int)+1)=((p+1:Nat):Int):=by rw[w64 (by omega) (by omega)];omega
     simp only[if_true,e1]
     unfold m_slices_Delete_Cell
     rw[if_pos ⟨by omega,by omega,by omega,by omega⟩]
     simp
    ·have h0':0≤v:=by omega
     simp only[h0,h0',if_true,if_false,Bool.false_eq_true,idx_nat hlt,Option.bind_some,Int.toNat_natCast]
     rw[List.set_eq_take_append_cons_drop,if_pos hlt,hce,hck]
   ·rw[if_neg hck] at hr
    have hne:¬(some c.Key=some k):=fun e=>hck (Option.some.inj e)
    simp only[Option.map_some,hne,decide_false,hr]
    by_cases h0:v= -1
    ·subst h0
     simp
    ·have h0':0≤v:=by omega
     simp only[h0,h0',if_true,if_false,Bool.false_eq_true]
     unfold m_slices_Insert_Cell
     rw[if_pos ⟨by omega,by omega,rfl,by omega⟩]
     simp
 ·rw[hw,asc_pw]
  split
  ·rw[List.pairwise_append]
   refine⟨hpw.sublist (List.take_sublist _ _),?_,fun a ha b hb=> ?_⟩
   ·rw[List.pairwise_cons]
    exact⟨hgt,hpw.sublist ((List.filter_sublist).trans (List.drop_sublist _ _))⟩
   ·rcases List.mem_cons.1 hb with rfl|hb
    ·exact hlow a ha
    ·have:=hlow a ha;have:=hgt b hb;omega
  ·exact hpw.sublist hsub
 ·rw[hw]
  split
  ·intro c hc
   rcases List.mem_append.1 hc with hc|hc
   ·exact hk c (List.mem_of_mem_take hc)
   ·rcases List.mem_cons.1 hc with rfl|hc
    ·exact h1
    ·exact hk c (List.mem_of_mem_drop (List.mem_filter.1 hc).1)
  ·intro c hc
   exact hk c (hsub.subset hc)
 ·rw[hw]
  have:=hsub.length_le
  split
  ·simp only[List.length_append,List.length_cons] at this ⊢;omega
  ·omega
def wroteAll(xs ws:List TCell):List TCell:=ws.foldl wrote xs
theorem wroteAll_inv(xs:List TCell)(hs:asc xs)(hk:keysIn xs)(hl:xs.length≤60):∀(ws:List TCell),ws.length≤60→(∀w∈ws,(-1000000000000≤w.Key∧w.Key≤1000000000000)∧-1≤w.Value)→∀i,i≤ws.length→
  asc (wroteAll xs (ws.take i))∧keysIn (wroteAll xs (ws.take i))∧(wroteAll xs (ws.take i)).length≤60+i:=fun ws hw hok i hi=>by
 induction i with
 |zero=>exact⟨by simpa[wroteAll] using hs,by simpa[wroteAll] using hk,by simpa[wroteAll] using hl⟩
 |succ i ih=>
  obtain⟨g1,g2,g3⟩:=ih (by omega)
  have hlt:i < ws.length:=by omega
  obtain⟨o1,o2⟩:=hok _ (List.getElem_mem hlt)
  obtain⟨_,k1,k2,k3⟩:=p_put (wroteAll xs (ws.take i)) ws[i] g1 g2 (by omega) o1 o2
  have e:wroteAll xs (ws.take (i+1))=wrote (wroteAll xs (ws.take i)) ws[i]:=by
   unfold wroteAll
   rw[List.take_succ_eq_append_getElem hlt,List.foldl_append]
   rfl
  rw[e]
  exact⟨k1,k2,by omega⟩
theorem wroteAll_succ(xs:List TCell){ws:List TCell}{i:Nat}(hlt:i < ws.length):wroteAll xs (ws.take (i+1))=wrote (wroteAll xs (ws.take i)) ws[i]:=by
 unfold wroteAll
 rw[List.take_succ_eq_append_getElem hlt,List.foldl_append]
 rfl
def applied(xs ws:List TCell):List TCell×Bool:=if storeGood xs&&writesGood ws then(if 60 < ((wroteAll xs ws).length:Int) then([],false) else(wroteAll xs ws,true)) else([],false)
theorem apply_inv{xs ws:List TCell}(hx:storeGood xs=true)(hw:writesGood ws=true)(i:Nat)(hi:i≤ws.length):asc (wroteAll xs (ws.take i))∧keysIn (wroteAll xs (ws.take i))∧(wroteAll xs (ws.take i)).length≤60+i:=by
 refine wroteAll_inv xs (storeGood_asc hx) (fun c hc=> ?_) (storeGood_le hx) ws (writesGood_le hw) (fun w hwm=> ?_) i hi
 ·obtain⟨i,hi,rfl⟩:=List.getElem_of_mem hc
  have:=storeGood_key hx hi
  omega
 ·obtain⟨i,hi,rfl⟩:=List.getElem_of_mem hwm
  have:=writesGood_at hw hi
  omega
theorem p_spec_StoreApply(xs ws:List TCell)(h:xs.length≤1048576)(h':ws.length≤1048576):m_spec_StoreApply xs ws=some (applied xs ws):=by
 unfold m_spec_StoreApply spec_StoreApply_j3 applied
 simp only[p_spec_StoreOk _ h,p_spec_WritesOk _ h',Option.bind_some]
 cases hx:storeGood xs
 ·simp
 cases hw:writesGood ws
 ·simp
 simp only[if_true,Bool.not_true,Bool.false_eq_true,if_false,Bool.and_self]
 rw[if_pos (by omega)]
 have hlw:=writesGood_le hw
 refine iter_all (fun i=>(wroteAll xs (ws.take i),(i:Int))) _ ws.length (by omega) (fun kb i hi=> ?_) (fun kb=> ?_) (by simp[wroteAll])
 ·unfold spec_StoreApply_b10
  obtain⟨_,_,g3⟩:=apply_inv hx hw i (by omega)
  simp only[idx_nat hi,Option.bind_some,step1 i _ hi (by omega),p_l2Cells _ _ _ _ (show(wroteAll xs (ws.take i)).length≤1048576 by omega),wroteAll_succ xs hi]
  rw[if_pos (by omega)]
  rfl
 ·unfold spec_StoreApply_b10 spec_StoreApply_j7
  rw[if_neg (by omega),List.take_length]
  simp only
  split<;>rfl
theorem p_written(xs ws:List TCell)(hx:storeGood xs=true)(hw:writesGood ws=true):m_impl_written xs ws=some (wroteAll xs ws):=by
 unfold m_impl_written
 have hlw:=writesGood_le hw
 refine iter_all (fun i=>(wroteAll xs (ws.take i),(i:Int))) _ ws.length (by omega) (fun kb i hi=> ?_) (fun kb=> ?_) (by simp[wroteAll])
 ·unfold impl_written_b5
  obtain⟨g1,g2,g3⟩:=apply_inv hx hw i (by omega)
  have hv:=writesGood_at hw hi
  obtain⟨k1,_,_,_⟩:=p_put (wroteAll xs (ws.take i)) ws[i] g1 g2 (by omega) (by omega) (by omega)
  simp only[idx_nat hi,Option.bind_some,step1 i _ hi (by omega),k1,wroteAll_succ xs hi]
  rw[if_pos (by omega)]
 ·unfold impl_written_b5 impl_written_j3
  rw[if_neg (by omega),List.take_length]
theorem p_impl_StoreApply(xs ws:List TCell)(h:xs.length≤1048576)(h':ws.length≤1048576):m_impl_StoreApply xs ws=some (applied xs ws):=by
 unfold m_impl_StoreApply impl_StoreApply_j3 applied
 simp only[p_impl_StoreOk _ h,p_impl_WritesOk _ h',Option.bind_some]
 cases hx:storeGood xs
 ·simp
 cases hw:writesGood ws
 ·simp
 simp only[if_true,Bool.not_true,Bool.false_eq_true,if_false,Bool.and_self,p_Clone_Cell _ h,Option.bind_some,p_written xs ws hx hw]
 split<;>rfl
theorem p_Concat_Cell(xs:List (List TCell))(h:xs.length≤1048576)(hs:sumB List.length xs≤100000000):m_slices_Concat_Cell xs=some xs.flatten:=by
 unfold m_slices_Concat_Cell
 have hst:=fun i=>sumB_take List.length xs i
 refine iter_all (fun i=>(((sumB List.length (xs.take i):Nat):Int),(i:Int))) _ xs.length (by omega) (fun kb i hi=> ?_) (fun kb=> ?_) (by simp[sumB])
 ·unfold slices_Concat_Cell_b14
  have h1:=hst (i+1)
  have h2:=sumB_step List.length hi
  have e:IntKind.wrap .i64 (((sumB List.length (xs.take i):Nat):Int)+(xs[i].length:Int))=((sumB List.length (xs.take (i+1)):Nat):Int):=by rw[w64 (by omega) (by omega),h2];omega
  simp only[idx_nat hi,Option.bind_some,step1 i _ hi (by omega),e]
  rw[if_pos (by omega),if_neg (by omega)]
 ·unfold slices_Concat_Cell_b14 slices_Concat_Cell_j2 m_slices_Grow_Cell
  rw[if_neg (by simp)]
  have h1:=hst xs.length
  simp only
  rw[if_pos (by omega)]
  simp only[Option.bind_some]
  refine iter_all (fun i=>((xs.take i).flatten,(i:Int))) _ xs.length (by omega) (fun kb i hi=> ?_) (fun kb=> ?_) (by simp)
  ·unfold slices_Concat_Cell_b8
   have h3:=hst (i+1)
   have hf:∀ys:List (List TCell),ys.flatten.length=sumB List.length ys:=fun ys=>by
    induction ys with
    |nil=>rfl
    |cons y ys ih=>simp only[List.flatten_cons,List.length_append,sumB,ih]
   have h2:=sumB_step List.length hi
   have e:(xs.take (i+1)).flatten=(xs.take i).flatten++xs[i]:=by rw[List.take_succ_eq_append_getElem hi,List.flatten_append];simp
   simp only[idx_nat hi,Option.bind_some,step1 i _ hi (by omega)]
   rw[if_pos (by omega),if_pos (by rw[←e,hf];omega),e]
  ·unfold slices_Concat_Cell_b8 slices_Concat_Cell_j6
   rw[if_neg (by simp)]
   simp
def clash(a b:List TCell):Bool:=b.any fun c=>decide (0≤valueAt a c.Key)
def joined(a b:List TCell):List TCell×Bool:=if storeGood a&&storeGood b&&decide (a.length+b.length≤60) then(if clash a b then([],false) else(wroteAll a b,true)) else([],false)
theorem storeGood_of{xs:List TCell}(hl:xs.length≤60)(hs:asc xs)(hk:∀c∈xs,0≤c.Key∧c.Key≤999∧0≤c.Value∧c.Value≤1000000000):storeGood xs=true:=by
 unfold storeGood
 simp only[hl,decide_true,Bool.true_and,List.all_eq_true,List.mem_range]
 intro i hi
 unfold cellGood within
 rw[List.getElem?_eq_getElem hi]
 obtain⟨h1,h2,h3,h4⟩:=hk _ (List.getElem_mem hi)
 simp only[h1,h2,h3,h4,decide_true,Bool.and_self,Bool.true_and,Bool.or_eq_true,beq_iff_eq]
 by_cases h0:i=0
 ·exact .inl h0
 ·right
  rw[List.getElem?_eq_getElem (show i - 1 < xs.length by omega)]
  simp only[decide_eq_true_eq]
  exact hs (i - 1) i (by omega) hi (by omega)
theorem valueAt_has{xs:List TCell}(hg:storeGood xs=true)(k:Int):(0≤valueAt xs k↔∃c∈xs,c.Key=k):=by
 unfold valueAt
 cases h:xs.find? fun c=>decide (c.Key=k) with
 |none=>
  rw[List.find?_eq_none] at h
  simp only
  constructor
  ·intro h;omega
  ·rintro⟨c,hc,hk⟩
   exact absurd (by simpa using hk) (h c hc)
 |some c=>
  have hc:=List.mem_of_find?_eq_some h
  have hk:=List.find?_some h
  obtain⟨i,hi,rfl⟩:=List.getElem_of_mem hc
  have:=storeGood_key hg hi
  simp only
  constructor
  ·intro _;exact⟨_,hc,by simpa using hk⟩
  ·intro _;omega
theorem wrote_perm{xs:List TCell}{w:TCell}(hs:asc xs)(hk:keysIn xs)(hl:xs.length≤1000)(h1:-1000000000000≤w.Key∧w.Key≤1000000000000)(h2:0≤w.Value)(hn:∀c∈xs,c.Key≠w.Key):(wrote xs w).Perm (w::xs):=by
 obtain⟨k,v⟩:=w
 simp only at h1 h2 hn
 obtain⟨p,hp,hiff,_⟩:=p_bsearch xs k hs (by omega) (fun i hi=>hk _ (List.getElem_mem hi)) (by omega) (by omega)
 unfold wrote
 have:=l2L_asc k v xs hs 0 p (by omega) hp rfl hiff
 simp only[h2,decide_true,Bool.not_true]
 simp only[List.drop_zero,Nat.sub_zero] at this
 rw[this,List.filter_eq_self.2 (fun c hc=>by simpa using hn c (List.mem_of_mem_drop hc))]
 refine List.perm_middle.trans ?_
 rw[List.take_append_drop]
theorem wroteAll_perm{a b:List TCell}(ha:storeGood a=true)(hb:storeGood b=true)(hc:clash a b=false):∀i,i≤b.length→(wroteAll a (b.take i)).Perm (a++b.take i)
 |0,_=>by simp[wroteAll]
 |i+1,hi=>by
  have hlt:i < b.length:=by omega
  have ih:=wroteAll_perm ha hb hc i (by omega)
  have hin:∀c∈a,0≤c.Key∧c.Key≤999∧0≤c.Value∧c.Value≤1000000000:=fun c hc=>by
   obtain⟨j,hj,rfl⟩:=List.getElem_of_mem hc;exact storeGood_key ha hj
  have hbk:=fun j (hj:j < b.length)=>storeGood_key hb hj
  obtain⟨g1,g2,g3⟩:=wroteAll_inv a (storeGood_asc ha) (fun c hc=>by have:=hin c hc;omega) (storeGood_le ha) b (storeGood_le hb) (fun w hw=>by
   obtain⟨j,hj,rfl⟩:=List.getElem_of_mem hw;have:=hbk j hj;omega) i (by omega)
  have hle:=storeGood_le hb
  rw[wroteAll_succ a hlt]
  refine(wrote_perm g1 g2 (by omega) (by have:=hbk i hlt;omega) (hbk i hlt).2.2.1 (fun c hcm=> ?_)).trans ?_
  ·rcases List.mem_append.1 (ih.mem_iff.1 hcm) with h|h
   ·intro e
    unfold clash at hc
    rw[List.any_eq_false] at hc
    have:=hc _ (List.getElem_mem hlt)
    rw[decide_eq_true_eq,valueAt_has ha] at this
    exact this ⟨c,h,e⟩
   ·obtain⟨j,hj,rfl⟩:=List.getElem_of_mem h
    simp only[List.length_take] at hj
    rw[List.getElem_take]
    have:=storeGood_asc hb j i (by omega) hlt (by omega)
    omega
  ·rw[List.take_succ_eq_append_getElem hlt,←List.append_assoc]
   refine(List.Perm.cons _ ih).trans ?_
   exact(List.perm_append_singleton _ _).symm
theorem asc_perm{xs ys:List TCell}(h:xs.Perm ys)(hx:asc xs)(hy:asc ys):xs=ys:=
 List.Perm.eq_of_pairwise (le:=fun a b=>a.Key < b.Key) (fun a b _ _ h1 h2=>by omega) (asc_pw.1 hx) (asc_pw.1 hy) h
theorem p_sortC{xs:List TCell}(h:∀c∈xs,0≤c.Key∧c.Key≤1000000)(hl:xs.length≤1000000000):∃ys,m_slices_SortFunc_Cell__StoreJoin_1 xs=some ys∧ys.Perm xs:=by
 unfold m_slices_SortFunc_Cell__StoreJoin_1
 rw[dif_pos ⟨h,hl⟩]
 refine⟨_,rfl,?_⟩
 have hp:=(sortK_perm (xs.pmap (fun c hc=>(⟨(c.Key,c.Value),hc⟩:KC)) h)).map fun p:KC=>TCell.mk p.1.1 p.1.2
 rw[List.map_pmap] at hp
 have e:List.pmap (fun(c:TCell) (hc:0≤c.Key∧c.Key≤1000000)=>TCell.mk c.Key c.Value) xs h=xs:=by
  rw[List.pmap_eq_map]
  exact List.map_id _
 exact hp.trans (by rw[show _=xs from e])
theorem sortC_le{xs ys:List TCell}(h:m_slices_SortFunc_Cell__StoreJoin_1 xs=some ys)(i j:Nat)(hij:i < j)(hj:j < ys.length):ys[i].Key≤ys[j].Key:=by
 unfold m_slices_SortFunc_Cell__StoreJoin_1 at h
 split at h
 ·cases h
  simp only[List.getElem_map]
  exact sortK_le _ i j hij (by simpa using hj)
 ·cases h
theorem p_impl_StoreJoin(a b:List TCell)(h:a.length≤1048576)(h':b.length≤1048576):m_impl_StoreJoin a b=some (joined a b):=by
 unfold m_impl_StoreJoin impl_StoreJoin_j3 joined
 simp only[p_impl_StoreOk _ h,p_impl_StoreOk _ h',Option.bind_some]
 cases ha:storeGood a
 ·simp
 cases hb:storeGood b
 ·simp
 have hla:=storeGood_le ha
 have hlb:=storeGood_le hb
 rw[w64 (by omega) (by omega)]
 simp only[if_true,Bool.not_true,Bool.and_self,Bool.true_and,decide_eq_true_eq]
 by_cases hlen:a.length+b.length≤60
 rotate_left
 ·rw[if_pos (by omega),if_neg (by simpa using hlen)]
 rw[if_neg (by omega),if_pos (by simpa using hlen)]
 have hin:∀c∈a++b,0≤c.Key∧c.Key≤999∧0≤c.Value∧c.Value≤1000000000:=fun c hc=>by
  rcases List.mem_append.1 hc with hc|hc
  ·obtain⟨j,hj,rfl⟩:=List.getElem_of_mem hc;exact storeGood_key ha hj
  ·obtain⟨j,hj,rfl⟩:=List.getElem_of_mem hc;exact storeGood_key hb hj
 rw[p_Concat_Cell _ (by simp) (by simp[sumB];omega)]
 simp only[Option.bind_some,List.flatten_cons,List.flatten_nil,List.append_nil]
 obtain⟨ys,hy,hp⟩:=p_sortC (xs:=a++b) (fun c hc=>by have:=hin c hc;omega) (by simp;omega)
 have hyl:ys.length=(a++b).length:=hp.length_eq
 have hyl2:ys.length≤60:=by rw[hyl];simpa using hlen
 rw[hy]
 simp only[Option.bind_some]
 rw[if_pos hyl,p_impl_StoreOk _ (by omega)]
 simp only[Option.bind_some]
 cases hc:clash a b with
 |false=>
  have hw:=wroteAll_perm ha hb hc b.length (Nat.le_refl _)
  rw[List.take_length] at hw
  have hbk:=fun j (hj:j < b.length)=>storeGood_key hb hj
  obtain⟨g1,_,_⟩:=wroteAll_inv a (storeGood_asc ha) (fun c hc=>by have:=hin c (by simp[hc]);omega) hla b hlb (fun w hw=>by
   obtain⟨j,hj,rfl⟩:=List.getElem_of_mem hw;have:=hbk j hj;omega) b.length (Nat.le_refl _)
  rw[List.take_length] at g1
  have hpw:ys.Perm (wroteAll a b):=hp.trans hw.symm
  have hnd:(ys.map (·.Key)).Nodup:=by
   rw[(hpw.map (·.Key)).nodup_iff]
   unfold List.Nodup
   rw[List.pairwise_map]
   exact(asc_pw.1 g1).imp fun hlt=>by omega
  have hya:asc ys:=fun i j hi hj hij=>by
   have h1:=sortC_le hy i j hij hj
   have h2:ys[i].Key≠ys[j].Key:=by
    unfold List.Nodup at hnd
    rw[List.pairwise_map,List.pairwise_iff_getElem] at hnd
    exact hnd i j hi hj hij
   omega
  have e:=asc_perm hpw hya g1
  have hg:storeGood ys=true:=storeGood_of hyl2 hya (fun c hc=>hin c (hp.mem_iff.1 hc))
  rw[hg]
  simp[e]
 |true=>
  have hg:storeGood ys=false:=by
   rw[Bool.eq_false_iff]
   intro hg
   have hya:=storeGood_asc hg
   have hnd:((a++b).map (·.Key)).Nodup:=by
    rw[←(hp.map (·.Key)).nodup_iff]
    unfold List.Nodup
    rw[List.pairwise_map]
    exact(asc_pw.1 hya).imp fun hlt=>by omega
   unfold clash at hc
   rw[List.any_eq_true] at hc
   obtain⟨c,hcb,hv⟩:=hc
   rw[decide_eq_true_eq,valueAt_has ha] at hv
   obtain⟨d,hda,hk⟩:=hv
   rw[List.map_append,List.nodup_append] at hnd
   exact hnd.2.2 _ (List.mem_map.2 ⟨d,hda,rfl⟩) _ (List.mem_map.2 ⟨c,hcb,rfl⟩) hk
  simp[hg]
def newB(xs:List TCell)(w:TCell):Bool:=decide (0≤w.Value)&&decide (valueAt xs w.Key < 0)
def newCount(xs ws:List TCell):Int:=if storeGood xs&&writesGood ws then((ws.filter (newB xs)).length:Int) else -1
theorem filt_step{α:Type}{ws:List α}{p:α→Bool}{i:Nat}(hi:i < ws.length):((ws.take (i+1)).filter p).length=((ws.take i).filter p).length+if p ws[i]=true then 1 else 0:=by
 rw[List.take_succ_eq_append_getElem hi,List.filter_append,List.length_append]
 congr 1
 by_cases h:p ws[i]=true<;>simp[h]
theorem p_impl_StoreNew(xs ws:List TCell)(h:xs.length≤1048576)(h':ws.length≤1048576):m_impl_StoreNew xs ws=some (newCount xs ws):=by
 unfold m_impl_StoreNew newCount impl_StoreNew_j3
 simp only[p_impl_StoreOk _ h,p_impl_WritesOk _ h',Option.bind_some]
 cases hg:storeGood xs<;>simp
 cases hw:writesGood ws<;>simp
 rw[iter_all (s0:=((0:Int),(0:Int))) (fun i=>((((ws.take i).filter (newB xs)).length:Int),(i:Int))) (some ((ws.filter (newB xs)).length:Int)) ws.length (by omega) (fun kb i hi=> ?_) (fun kb=> ?_) (by simp)]
 ·unfold impl_StoreNew_b8 impl_StoreNew_j13
  have hle:((ws.take i).filter (newB xs)).length≤ws.length:=Nat.le_trans (List.length_filter_le _ _) (by simp;omega)
  have e:=step1 i _ hi (by omega)
  have e3:IntKind.wrap .i64 ((((ws.take i).filter (newB xs)).length:Int)+1)=((((ws.take i).filter (newB xs)).length+1:Nat):Int):=by rw[w64 (by omega) (by omega)];omega
  have hv:=writesGood_at hw hi
  simp only[idx_nat hi,Option.bind_some,p_valueOf xs _ hg (show -9000000000000000000≤ws[i].Key by omega) (by omega),e,e3]
  rw[if_pos (by omega),filt_step hi]
  unfold newB
  by_cases h0:0≤ws[i].Value
  ·have:¬ws[i].Value= -1:=by omega
   by_cases h1:valueAt xs ws[i].Key < 0<;>simp[h0,h1,this]
  ·have:ws[i].Value= -1:=by omega
   simp[this]
 ·unfold impl_StoreNew_b8 impl_StoreNew_j6
  rw[if_neg (by simp)]
  simp
theorem p_l11DrawWrites{cb:List Int}{c:Int×Int}(h:goodC cb c)(most:Int)(h0:0≤most)(hm:most≤60):Drawn cb (fun xs:List TCell=>xs.length≤61) (m_spec_l11DrawWrites cb c most):=by
 unfold m_spec_l11DrawWrites
 rw[w64 (by omega) (by omega)]
 refine(p_l1Below h _).bind fun n c1 hc1 ⟨n1,n2,_⟩=>(p_l1Below hc1 6).bind fun k c2 hc2 _=> ?_
 have n2:=n2 (by omega)
 obtain⟨m,rfl⟩:∃m:Nat,n=(m:Int):=⟨n.toNat,by omega⟩
 refine iter_inv (fun(i:Nat) (s:List TCell×Int×Int×Int×Int)=>s.1.length=i∧s.2.2.1=(i:Int)∧goodC cb s.2.2.2) m (by omega) ⟨rfl,rfl,hc2⟩ (Drawn cb (fun xs:List TCell=>xs.length≤61)) (fun i hi s ⟨h1,h2,h3⟩ kb=> ?_) (fun s ⟨h1,h2,h3⟩ kb=> ?_)
 ·unfold spec_l11DrawWrites_b20
  simp only[h2]
  rw[if_pos (by omega)]
  obtain⟨v,c3,e3,hc3,_⟩:=p_l1Below h3 99
  obtain⟨b,c4,e4,hc4,_⟩:=p_l1Once hc3 4
  obtain⟨g,c5,e5,hc5,_⟩:=p_l1Below hc4 5
  simp only[e3,e4,Option.bind_some]
  unfold spec_l11DrawWrites_j25
  split
  ·simp only[h2,e5,Option.bind_some,step1 i _ hi (by omega)]
   rw[if_pos (by simp;omega)]
   exact⟨_,⟨by simp;omega,rfl,hc5⟩,rfl⟩
  ·simp only[h2,e5,Option.bind_some,step1 i _ hi (by omega)]
   rw[if_pos (by simp;omega)]
   exact⟨_,⟨by simp;omega,rfl,hc5⟩,rfl⟩
 ·unfold spec_l11DrawWrites_b20
  simp only[h2]
  rw[if_neg (by omega)]
  unfold spec_l11DrawWrites_j8
  refine(p_l1Below h3 30).bind fun z c3 hc3 _=> ?_
  split
  ·refine(p_l1PickInt hc3 _ (by simp)).bind fun v c4 hc4 _=> ?_
   rw[if_pos (by simp;omega)]
   exact Drawn.some hc4 (by simp;omega)
  ·split
   ·refine(p_l1PickInt hc3 _ (by simp)).bind fun v c4 hc4 _=> ?_
    rw[if_pos (by simp;omega)]
    exact Drawn.some hc4 (by simp;omega)
   ·exact Drawn.some hc3 (by simp only;omega)
theorem p_DrawStoreApply(cb:List Int)(h:cb.length≤1048576):∃xs ws,m_spec_DrawStoreApply cb=some (xs,ws)∧xs.length≤61∧ws.length≤61:=by
 unfold m_spec_DrawStoreApply m_spec_l11DrawBoth
 obtain⟨c,ec,hc⟩:=p_l1New cb h
 obtain⟨n,en,n1,n2⟩:=p_l1Size cb h 20 (by omega)
 obtain⟨xs,c2,ex,hc2,hx⟩:=p_l11DrawAny hc n (by omega) (by omega)
 obtain⟨n',en',n1',n2'⟩:=p_l1Size cb h 9 (by omega)
 obtain⟨ws,c3,ew,hc3,hw⟩:=p_l11DrawWrites hc2 n' (by omega) (by omega)
 simp only[ec,en,ex,en',ew,Option.bind_some]
 exact⟨xs,ws,rfl,hx,hw⟩
theorem p_atB(a1:List Int)(h:okS (inK .u8) a1)(hl:a1.length≤1048576)(i:Nat)(hi:i≤100):∃v,m_laws_at a1 (i:Int)=some v∧0≤v∧v≤255:=by
 unfold m_laws_at
 split
 ·rename_i hlt
  have hlt':i < a1.length:=by omega
  have hb:=h.2 _ (List.getElem_mem hlt')
  have hb':0≤a1[i]∧a1[i]≤255:=by
   unfold inK IntKind.min IntKind.max at hb
   simp only[IntKind.bits,IntKind.signed] at hb
   simp at hb
   omega
  rw[idx_nat hlt',Option.bind_some,w64 (by omega) (by omega)]
  exact⟨_,rfl,hb'.1,hb'.2⟩
 ·rw[w64 (n:=(i:Int) * 7) (by omega) (by omega),w64 (by omega) (by omega)]
  refine⟨_,rfl,Int.tmod_nonneg _ (by omega),?_⟩
  have:=Int.tmod_lt_of_pos ((i:Int) * 7+(a1.length:Int)) (show(0:Int) < 256 by omega)
  omega
theorem p_sameCells(xs:List TCell)(h:xs.length≤1048576):m_laws_sameCells xs xs=some true:=by
 unfold m_laws_sameCells
 rw[if_neg (by simp)]
 refine iter_all (fun i=>(i:Int)) _ xs.length (by omega) (fun kb i hi=> ?_) (fun kb=> ?_) rfl
 ·unfold laws_sameCells_b6
  simp only[idx_nat hi,Option.bind_some,step1 i _ hi (by omega)]
  rw[if_pos (by omega)]
  simp
 ·unfold laws_sameCells_b6 laws_sameCells_j4
  rw[if_neg (by omega)]
theorem storeGood_in{xs:List TCell}(h:storeGood xs=true){c:TCell}(hc:c∈xs):0≤c.Key∧c.Key≤999∧0≤c.Value∧c.Value≤1000000000:=by
 obtain⟨j,hj,rfl⟩:=List.getElem_of_mem hc
 exact storeGood_key h hj
theorem storeGood_filter{xs:List TCell}(h:storeGood xs=true)(p:TCell→Bool):storeGood (xs.filter p)=true:=by
 have hl:=List.length_filter_le p xs
 have h60:=storeGood_le h
 exact storeGood_of (by omega) (asc_pw.2 ((asc_pw.1 (storeGood_asc h)).sublist List.filter_sublist)) fun c hc=>storeGood_in h (List.mem_filter.1 hc).1
theorem asc_one{xs:List TCell}(h:asc xs){c d:TCell}(hc:c∈xs)(hd:d∈xs)(e:c.Key=d.Key):c=d:=by
 obtain⟨i,hi,rfl⟩:=List.getElem_of_mem hc
 obtain⟨j,hj,rfl⟩:=List.getElem_of_mem hd
 by_cases h1:i < j
 ·have:=h i j hi hj h1;omega
 ·by_cases h2:j < i
  ·have:=h j i hj hi h2;omega
  ·have:i=j:=by omega
   subst this;rfl
theorem joined_parts{xs:List TCell}(h:storeGood xs=true)(p:TCell→Bool):joined (xs.filter fun c=>p c == false) (xs.filter fun c=>p c == true)=(xs,true):=by
 have hs:=storeGood_asc h
 have h60:=storeGood_le h
 have hY:=storeGood_filter h fun c=>p c == false
 have hX:=storeGood_filter h fun c=>p c == true
 have hperm:((xs.filter fun c=>p c == false)++(xs.filter fun c=>p c == true)).Perm xs:=by
  have:=List.filter_append_perm (fun c=>p c == false) xs
  have e:(xs.filter fun c=>!(p c == false))=xs.filter fun c=>p c == true:=List.filter_congr fun c _=>by cases p c<;>rfl
  rw[e] at this
  exact this
 have hlen:=hperm.length_eq
 rw[List.length_append] at hlen
 have hc:clash (xs.filter fun c=>p c == false) (xs.filter fun c=>p c == true)=false:=by
  unfold clash
  rw[List.any_eq_false]
  intro c hc
  rw[decide_eq_true_eq,valueAt_has hY]
  rintro⟨d,hd,hk⟩
  have e:=asc_one hs (List.mem_filter.1 hd).1 (List.mem_filter.1 hc).1 hk
  subst e
  have h1:=(List.mem_filter.1 hd).2
  have h2:=(List.mem_filter.1 hc).2
  rw[beq_iff_eq] at h1 h2
  rw[h1] at h2
  cases h2
 unfold joined
 rw[hY,hX,hc]
 have hl2:(xs.filter fun c=>p c == false).length+(xs.filter fun c=>p c == true).length≤60:=by omega
 simp only[hl2,decide_true,Bool.and_self,if_true,Bool.false_eq_true,if_false]
 have hw:=wroteAll_perm hY hX hc _ (Nat.le_refl _)
 rw[List.take_length] at hw
 obtain⟨g1,_,_⟩:=wroteAll_inv _ (storeGood_asc hY) (fun c hc=>by have:=storeGood_in hY hc;omega) (storeGood_le hY) _ (storeGood_le hX) (fun w hw=>by have:=storeGood_in hX hw;omega) _ (Nat.le_refl _)
 rw[List.take_length] at g1
 rw[asc_perm (hw.trans hperm) g1 hs]
theorem valueAt_cons(c:TCell)(cs:List TCell)(j:Int):valueAt (c::cs) j=if c.Key=j then c.Value else valueAt cs j:=by
 unfold valueAt
 rw[List.find?_cons]
 by_cases h:c.Key=j<;>simp[h]
theorem valueAt_filt(k j:Int):∀(xs:List TCell),valueAt (xs.filter fun c=>decide (¬c.Key=k)) j=if k=j then -1 else valueAt xs j
 |[]=>by simp[valueAt]
 |c::cs=>by
  have ih:=valueAt_filt k j cs
  rw[List.filter_cons]
  by_cases h:c.Key=k
  ·rw[if_neg (by simpa using h),ih,valueAt_cons]
   by_cases h2:k=j
   ·rw[if_pos h2,if_pos h2]
   ·rw[if_neg h2,if_neg h2,if_neg (by omega)]
  ·rw[if_pos (by simpa using h),valueAt_cons,ih,valueAt_cons]
   by_cases h2:k=j
   ·rw[if_pos h2,if_pos h2,if_neg (by omega)]
   ·rw[if_neg h2,if_neg h2]
theorem valueAt_l2L(k v j:Int):∀(xs:List TCell),valueAt (l2L k v xs false) j=if k=j then v else valueAt xs j
 |[]=>by simp[l2L,valueAt_cons]
 |c::cs=>by
  have ih:=valueAt_l2L k v j cs
  simp only[l2L,Bool.not_false,Bool.true_and,Bool.false_or]
  by_cases h1:k≤c.Key
  ·have hf:=valueAt_filt k j (c::cs)
   rw[List.filter_cons] at hf
   simp only[h1,decide_true,if_true,l2L_true,List.cons_append,List.nil_append,valueAt_cons]
   by_cases h2:k=j
   ·rw[if_pos h2,if_pos h2]
   ·rw[if_neg h2,if_neg h2]
    by_cases h3:c.Key=k
    ·rw[if_neg (by simpa using h3),List.nil_append,valueAt_filt,if_neg h2,if_neg (by omega)]
    ·rw[if_pos h3,List.cons_append,List.nil_append,valueAt_cons,valueAt_filt,if_neg h2]
  ·have h3:¬c.Key=k:=by omega
   simp only[h1,h3,decide_false,Bool.false_eq_true,if_false,not_false_eq_true,if_true,List.nil_append,List.cons_append,valueAt_cons,ih]
   by_cases h2:k=j
   ·rw[if_pos h2,if_neg (by omega),if_pos h2]
   ·rw[if_neg h2,if_neg h2]
theorem valueAt_wrote(xs:List TCell)(w:TCell)(hw:-1≤w.Value)(j:Int):valueAt (wrote xs w) j=if w.Key=j then w.Value else valueAt xs j:=by
 unfold wrote
 by_cases h:0≤w.Value
 ·simp only[h,decide_true,Bool.not_true,valueAt_l2L]
 ·simp only[h,decide_false,Bool.not_false,l2L_true,valueAt_filt]
  have:w.Value= -1:=by omega
  rw[this]
def lastW(ws:List TCell)(v k:Int):Int:=ws.foldl (fun v w=>if w.Key=k then w.Value else v) v
theorem lastW_succ{ws:List TCell}{i:Nat}(hi:i < ws.length)(v k:Int):lastW (ws.take (i+1)) v k=if ws[i].Key=k then ws[i].Value else lastW (ws.take i) v k:=by
 unfold lastW
 rw[List.take_succ_eq_append_getElem hi,List.foldl_append]
 rfl
theorem valueAt_all(xs:List TCell){ws:List TCell}(hw:writesGood ws=true)(j:Int):∀i,i≤ws.length→valueAt (wroteAll xs (ws.take i)) j=lastW (ws.take i) (valueAt xs j) j
 |0,_=>by simp[wroteAll,lastW]
 |i+1,hi=>by
  have hlt:i < ws.length:=by omega
  rw[wroteAll_succ xs hlt,lastW_succ hlt,valueAt_wrote _ _ (writesGood_at hw hlt).1,valueAt_all xs hw j i (by omega)]
theorem mem_l2L(k v:Int){c:TCell}:∀(xs:List TCell) (b:Bool),c∈l2L k v xs b→c∈xs∨(c=TCell.mk k v∧b=false)
 |[],b,h=>by cases b<;>simp[l2L] at h;exact .inr ⟨h,rfl⟩
 |d::ds,b,h=>by
  simp only[l2L,List.mem_append] at h
  rcases h with h|h|h
  ·split at h
   ·rename_i hb
    simp only[Bool.and_eq_true,Bool.not_eq_true'] at hb
    exact .inr ⟨by simpa using h,hb.1⟩
   ·simp at h
  ·split at h
   ·exact .inl (by simp at h;simp[h])
   ·simp at h
  ·rcases mem_l2L k v ds _ h with h|⟨h,hb⟩
   ·exact .inl (List.mem_cons_of_mem _ h)
   ·simp only[Bool.or_eq_false_iff] at hb
    exact .inr ⟨h,hb.1⟩
theorem mem_wrote{xs:List TCell}{w c:TCell}(h:c∈wrote xs w):c∈xs∨(c=w∧0≤w.Value):=by
 unfold wrote at h
 rcases mem_l2L _ _ _ _ h with h|⟨h,hb⟩
 ·exact .inl h
 ·exact .inr ⟨h,by simpa using hb⟩
theorem writesGood_top{xs:List TCell}(h:writesGood xs=true){i:Nat}(hi:i < xs.length):xs[i].Value≤1000000000:=by
 unfold writesGood at h
 simp only[Bool.and_eq_true,List.all_eq_true] at h
 have:=h.2 i (List.mem_range.2 hi)
 unfold writeGood within at this
 rw[List.getElem?_eq_getElem hi] at this
 simp only[Bool.and_eq_true,decide_eq_true_eq] at this
 exact this.1.2.2
theorem writesGood_asc{xs:List TCell}(h:writesGood xs=true):asc xs:=by
 have step:∀i (hi:i+1 < xs.length),xs[i].Key < xs[i+1].Key:=by
  intro i hi
  unfold writesGood at h
  simp only[Bool.and_eq_true,List.all_eq_true] at h
  have:=h.2 (i+1) (List.mem_range.2 hi)
  unfold writeGood at this
  rw[List.getElem?_eq_getElem hi] at this
  simp only[Bool.and_eq_true,Bool.or_eq_true,beq_iff_eq] at this
  have:=this.2
  rw[Nat.add_sub_cancel,List.getElem?_eq_getElem (show i < xs.length by omega)] at this
  simpa using this
 intro i j hi hj hij
 obtain⟨d,rfl⟩:∃d,j=i+1+d:=⟨j - (i+1),by omega⟩
 induction d with
 |zero=>exact step i hj
 |succ d ih=>
  have h1:=ih (by omega) (by omega)
  have h2:=step (i+1+d) (by omega)
  have e:i+1+(d+1)=i+1+d+1:=by omega
  simp only[e]
  omega
theorem wroteAll_in{xs ws:List TCell}(hx:storeGood xs=true)(hw:writesGood ws=true){c:TCell}:∀i,i≤ws.length→c∈wroteAll xs (ws.take i)→0≤c.Key∧c.Key≤999∧0≤c.Value∧c.Value≤1000000000
 |0,_,h=>storeGood_in hx (by simpa[wroteAll] using h)
 |i+1,hi,h=>by
  have hlt:i < ws.length:=by omega
  rw[wroteAll_succ xs hlt] at h
  rcases mem_wrote h with h|⟨rfl,h⟩
  ·exact wroteAll_in hx hw i (by omega) h
  ·have h1:=writesGood_at hw hlt
   have h2:=writesGood_top hw hlt
   omega
theorem l2L_len(k v:Int):∀(xs:List TCell),(l2L k v xs false).length≤xs.length+1∧((∃c∈xs,c.Key=k)→(l2L k v xs false).length≤xs.length)
 |[]=>by simp[l2L]
 |c::cs=>by
  obtain⟨i1,i2⟩:=l2L_len k v cs
  have hf:=List.length_filter_le (fun c:TCell=>decide (¬c.Key=k)) cs
  have hf2:(∃c∈cs,c.Key=k)→(cs.filter fun c:TCell=>decide (¬c.Key=k)).length < cs.length:=fun⟨d,hd,hk⟩=>List.length_filter_lt_length_iff_exists.2 ⟨d,hd,by simpa using hk⟩
  simp only[l2L,Bool.not_false,Bool.true_and,Bool.false_or,List.length_append,List.length_cons]
  by_cases h1:k≤c.Key
  ·simp only[h1,decide_true,if_true,l2L_true,List.length_cons,List.length_nil]
   by_cases h3:c.Key=k
   ·rw[if_neg (by simpa using h3)]
    simp only[List.length_nil]
    exact⟨by omega,fun _=>by omega⟩
   ·rw[if_pos h3]
    simp only[List.length_cons,List.length_nil]
    refine⟨by omega,fun⟨d,hd,hk⟩=> ?_⟩
    rcases List.mem_cons.1 hd with rfl|hd
    ·exact absurd hk h3
    ·have:=hf2 ⟨d,hd,hk⟩;omega
  ·have h3:¬c.Key=k:=by omega
   simp only[h1,h3,decide_false,Bool.false_eq_true,if_false,not_false_eq_true,if_true,List.length_cons,List.length_nil]
   refine⟨by omega,fun⟨d,hd,hk⟩=> ?_⟩
   rcases List.mem_cons.1 hd with rfl|hd
   ·exact absurd hk h3
   ·have:=i2 ⟨d,hd,hk⟩;omega
theorem has_of{xs:List TCell}{k:Int}(h:0≤valueAt xs k):∃c∈xs,c.Key=k:=by
 unfold valueAt at h
 cases e:xs.find? fun c=>decide (c.Key=k) with
 |none=>rw[e] at h;simp only at h;omega
 |some c=>exact⟨c,List.mem_of_find?_eq_some e,by simpa using List.find?_some e⟩
theorem wrote_len(xs:List TCell)(w:TCell):(wrote xs w).length≤xs.length+if newB xs w=true then 1 else 0:=by
 unfold wrote newB
 obtain⟨i1,i2⟩:=l2L_len w.Key w.Value xs
 by_cases h:0≤w.Value
 ·simp only[h,decide_true,Bool.not_true,Bool.true_and,decide_eq_true_eq]
  split
  ·exact i1
  ·exact i2 (has_of (by omega))
 ·simp only[h,decide_false,Bool.not_false,l2L_true,Bool.false_and,Bool.false_eq_true,if_false]
  exact List.length_filter_le _ _
theorem lastW_none{ws:List TCell}{k:Int}(h:∀w∈ws,¬w.Key=k)(v:Int):lastW ws v k=v:=by
 unfold lastW
 induction ws generalizing v with
 |nil=>rfl
 |cons w ws ih=>
  rw[List.foldl_cons,if_neg (h w (by simp))]
  exact ih (fun x hx=>h x (by simp[hx])) v
theorem wroteAll_len(xs:List TCell){ws:List TCell}(hw:writesGood ws=true):∀i,i≤ws.length→(wroteAll xs (ws.take i)).length≤xs.length+((ws.take i).filter (newB xs)).length
 |0,_=>by simp[wroteAll]
 |i+1,hi=>by
  have hlt:i < ws.length:=by omega
  have ih:=wroteAll_len xs hw i (by omega)
  rw[wroteAll_succ xs hlt,filt_step hlt]
  have hl:=wrote_len (wroteAll xs (ws.take i)) ws[i]
  have e:newB (wroteAll xs (ws.take i)) ws[i]=newB xs ws[i]:=by
   unfold newB
   rw[valueAt_all xs hw _ i (by omega),lastW_none (fun w hm=> ?_)]
   obtain⟨j,hj,rfl⟩:=List.getElem_of_mem hm
   rw[List.length_take] at hj
   rw[List.getElem_take]
   have:=writesGood_asc hw j i (by omega) hlt (by omega)
   omega
  rw[e] at hl
  omega
theorem p_FnStore(a1:List Int)(h:okS (inK .u8) a1):m_laws_FnStore a1=some true:=by
 unfold m_laws_FnStore m_laws_big
 simp only[Option.bind_some,decide_eq_true_eq]
 split
 ·rfl
 rename_i hbig
 have hn:a1.length≤1048576:=by omega
 obtain⟨xs,ws,ed,hx61,hw61⟩:=p_DrawStoreApply a1 hn
 obtain⟨v1,e1,b1,b1'⟩:=p_atB a1 h hn 1 (by omega)
 obtain⟨v2,e2,b2,b2'⟩:=p_atB a1 h hn 2 (by omega)
 have hx:xs.length≤1048576:=by omega
 have hw:ws.length≤1048576:=by omega
 have t1:=Int.tmod_nonneg 30 b1
 have t2:=Int.tmod_lt_of_pos v1 (show(0:Int) < 30 by omega)
 rw[show((1:Nat):Int)=1 from rfl] at e1
 rw[show((2:Nat):Int)=2 from rfl] at e2
 simp only[ed,e1,e2,Option.bind_some]
 rw[w64 (by omega) (by omega)]
 have hr:rangeOk (TRange.mk (Int.tmod v1 30) (31+v2))=true:=by
  unfold rangeOk
  simp only[Bool.and_eq_true,decide_eq_true_eq]
  omega
 generalize TRange.mk (Int.tmod v1 30) (31+v2)=a at hr
 have c1:m_impl_StoreCut xs a=some (scanned xs a false):=by simp[m_impl_StoreCut,p_within _ _ _ hx]
 have c2:m_impl_StoreScan xs a=some (scanned xs a true):=by simp[m_impl_StoreScan,p_within _ _ _ hx]
 have l1:=scanned_len xs a false
 have l2:=scanned_len xs a true
 have g1:∀ys:List TCell,ys.length≤1048576→∀k,-9000000000000000000≤k→k≤9000000000000000000→m_impl_StoreGet ys k=some (if storeGood ys=true then valueAt ys k else -1):=fun ys hl k k1 k2=>by
  simp only[m_impl_StoreGet,p_impl_StoreOk _ hl,Option.bind_some]
  split
  ·rename_i hg;rw[p_valueOf _ _ hg k1 k2];rfl
  ·rfl
 simp only[c1,c2,p_impl_StoreJoin _ _ (show(scanned xs a false).length≤1048576 by omega) (show(scanned xs a true).length≤1048576 by omega),p_spec_StoreOk _ hx,Option.bind_some]
 cases hg:storeGood xs with
 |false=>
  have z:∀b,scanned xs a b=[]:=fun b=>by unfold scanned;rw[hg];rfl
  rw[z,z]
  have:joined [] []=([],true):=by decide
  rw[this]
  simp only[p_impl_StoreOk _ hx,hg,g1 xs hx 1 (by omega) (by omega),Option.bind_some]
  simp
 |true=>
  have z:∀b,scanned xs a b=xs.filter fun c=>inB a.Lo a.Hi c == b:=fun b=>by unfold scanned;rw[hg,hr];rfl
  rw[z,z,joined_parts hg (inB a.Lo a.Hi)]
  simp only[if_true,p_sameCells _ hx,Option.bind_some]
  unfold laws_FnStore_j20
  rw[if_neg (by simp)]
  simp only[p_impl_StoreApply xs ws hx hw,p_spec_StoreApply xs ws hx hw,Option.bind_some]
  rw[if_neg (by simp)]
  have happ:applied xs ws=([],false)∨(writesGood ws=true∧(wroteAll xs ws).length≤60∧applied xs ws=(wroteAll xs ws,true)):=by
   unfold applied
   rw[hg]
   cases hwg:writesGood ws
   ·exact .inl rfl
   ·simp only[Bool.and_self,if_true]
    split
    ·exact .inl rfl
    ·exact .inr ⟨by first|trivial|rfl,by omega,rfl⟩
  rcases happ with e|⟨hwg,hle,e⟩
  ·rw[e];rfl
  rw[e]
  simp only[if_true]
  have hall:=fun j=>valueAt_all xs hwg j ws.length (Nat.le_refl _)
  simp only[List.take_length] at hall
  have hin:∀c∈wroteAll xs ws,0≤c.Key∧c.Key≤999∧0≤c.Value∧c.Value≤1000000000:=fun c hc=>wroteAll_in hg hwg ws.length (Nat.le_refl _) (by rwa [List.take_length])
  obtain⟨as1,_,_⟩:=apply_inv hg hwg ws.length (Nat.le_refl _)
  rw[List.take_length] at as1
  have hgo:=storeGood_of hle as1 hin
  have hll:=wroteAll_len xs hwg ws.length (Nat.le_refl _)
  rw[List.take_length] at hll
  have hfl:=List.length_filter_le (newB xs) ws
  generalize hO:wroteAll xs ws=out at *
  have ho:out.length≤1048576:=by omega
  refine iter_all (fun i=>(i:Int)) _ 80 (by omega) (fun kb i hi=> ?_) (fun kb=> ?_) rfl
  ·unfold laws_FnStore_b39
   rw[if_pos (by omega)]
   have sg:m_spec_StoreGet xs (i:Int)=some (valueAt xs (i:Int)):=by
    simp only[m_spec_StoreGet,p_spec_StoreOk _ hx,p_l11Get _ _ hx,hg,Option.bind_some,if_true]
   simp only[sg,Option.bind_some]
   refine iter_all (fun n=>(lastW (ws.take n) (valueAt xs (i:Int)) (i:Int),(n:Int))) _ ws.length (by omega) (fun kb2 n hn=> ?_) (fun kb2=> ?_) (by simp[lastW])
   ·unfold laws_FnStore_b51
    simp only[idx_nat hn,Option.bind_some,step1 n _ hn (by omega),lastW_succ hn]
    rw[if_pos (by omega)]
    split<;>rfl
   ·unfold laws_FnStore_b51
    rw[if_neg (by simp)]
    unfold laws_FnStore_j46 laws_FnStore_j42
    simp only[List.take_length,g1 out ho (i:Int) (by omega) (by omega),hgo,if_true,Option.bind_some,hall]
    rw[if_neg (by simp),step1 i _ hi (by omega)]
  ·unfold laws_FnStore_b39
   rw[if_neg (by omega)]
   unfold laws_FnStore_j29
   simp only[p_impl_StoreOk _ ho,hgo,p_impl_StoreNew _ _ ho hw,p_impl_StoreNew _ _ hx hw,Option.bind_some,if_true]
   unfold newCount
   rw[hgo,hg,hwg]
   simp only[Bool.and_self,if_true]
   rw[if_pos (by omega),w64 (by omega) (by omega)]
   simp only[Option.some.injEq,decide_eq_true_eq]
   omega
end Go.AW
