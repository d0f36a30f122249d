/- Plain laws: what the plain functions answer. Conditions: each theorem's own. -/
import Derived.Test.YtnpbflgkgjnljaaMFnMoves15
set_option linter.unusedVariables false
set_option linter.unusedSimpArgs false
set_option maxRecDepth 100000
namespace Go.AW
theorem w64{n:Int}(h1:-9223372036854775808≤n)(h2:n < 9223372036854775808):IntKind.wrap .i64 n=n:=by
 rw[IntKind.wrap_i64];omega
theorem idx_nat{α:Type}{xs:List α}{i:Nat}(h:i < xs.length):idx xs (i:Int)=some xs[i]:=by
 unfold idx
 rw[if_pos (by omega)]
 simp[h]
theorem idx_ofNat{α:Type}(xs:List α)(i:Nat):idx xs (i:Int)=xs[i]?:=by
 unfold idx
 rw[if_pos (by omega)]
 simp
theorem iter_ex{S R:Type}{f:(S→Option R)→S→Option R}(st:Nat→S)(stop:Nat→Option (Option R))(k:Option R)(n:Nat)
  (hs:∀kb i,i < n→(∀j,j < i→stop j=none)→f kb (st i)=match stop i with|some r=>r|none=>kb (st (i+1))) (he:∀kb,(∀j,j < n→stop j=none)→f kb (st n)=k):
  ∀(m i:Nat),i≤n→(∀j,j < i→stop j=none)→n - i < m→iter f m (st i)=match ((List.range n).drop i).findSome? stop with|some r=>r|none=>k
 |0,i,_,_,h=>by omega
 |m+1,i,hi,hp,h=>by
  unfold iter
  by_cases e:i=n
  ·subst e
   rw[he _ hp]
   simp[List.drop_eq_nil_of_le]
  ·have hlt:i < n:=by omega
   rw[hs _ i hlt hp,List.drop_eq_getElem_cons (by simpa using hlt)]
   simp only[List.getElem_range,List.findSome?_cons]
   cases hq:stop i with
   |some r=>rfl
   |none=>exact iter_ex st stop k n hs he m (i+1) (by omega) (fun j hj=>by
     by_cases e':j=i
     ·subst e';exact hq
     ·exact hp j (by omega)) (by omega)
theorem iter_stopH{S R:Type}{f:(S→Option R)→S→Option R}(st:Nat→S)(stop:Nat→Option (Option R))(k:Option R)(n:Nat)(hn:n≤1152921504606846976)
  (hs:∀kb i,i < n→(∀j,j < i→stop j=none)→f kb (st i)=match stop i with|some r=>r|none=>kb (st (i+1))) (he:∀kb,(∀j,j < n→stop j=none)→f kb (st n)=k) {s0:S} (h0:s0=st 0):
  iter f FU s0=match (List.range n).findSome? stop with|some r=>r|none=>k:=by
 subst h0
 have:=iter_ex st stop k n hs he FU 0 (by omega) (fun j hj=>by omega) (by unfold FU;omega)
 simpa using this
theorem iter_stop{S R:Type}{f:(S→Option R)→S→Option R}(st:Nat→S)(stop:Nat→Option (Option R))(k:Option R)(n:Nat)(hn:n≤1152921504606846976)
  (hs:∀kb i,i < n→f kb (st i)=match stop i with|some r=>r|none=>kb (st (i+1))) (he:∀kb,f kb (st n)=k) {s0:S} (h0:s0=st 0):
  iter f FU s0=match (List.range n).findSome? stop with|some r=>r|none=>k:=
 iter_stopH st stop k n hn (fun kb i hi _=>hs kb i hi) (fun kb _=>he kb) h0
theorem iter_all{S R:Type}{f:(S→Option R)→S→Option R}(st:Nat→S)(k:Option R)(n:Nat)(hn:n≤1152921504606846976)
  (hs:∀kb i,i < n→f kb (st i)=kb (st (i+1))) (he:∀kb,f kb (st n)=k) {s0:S} (h0:s0=st 0):iter f FU s0=k:=by
 rw[iter_stop st (fun _=>none) k n hn (fun kb i hi=>hs kb i hi) he h0]
 have:(List.range n).findSome? (fun _=>(none:Option (Option R)))=none:=by
  rw[List.findSome?_eq_none_iff];intro x _;rfl
 rw[this]
theorem iter_goodH{S R:Type}{f:(S→Option R)→S→Option R}(st:Nat→S)(good:Nat→Bool)(r k:Option R)(n:Nat)(hn:n≤1152921504606846976)
  (hs:∀kb i,i < n→(∀j,j < i→good j=true)→f kb (st i)=if good i=true then kb (st (i+1)) else r) (he:∀kb,(∀j,j < n→good j=true)→f kb (st n)=k) {s0:S} (h0:s0=st 0):
  iter f FU s0=if (List.range n).all good=true then k else r:=by
 have tr:∀j,(if good j=true then(none:Option (Option R)) else some r)=none→good j=true:=fun j h=>by
  split at h
  ·assumption
  ·cases h
 rw[iter_stopH st (fun i=>if good i=true then none else some r) k n hn (fun kb i hi hp=>by rw[hs kb i hi (fun j hj=>tr j (hp j hj))];split<;>rfl) (fun kb hp=>he kb (fun j hj=>tr j (hp j hj))) h0]
 by_cases e:(List.range n).all good=true
 ·have:(List.range n).findSome? (fun i=>if good i=true then none else some r)=none:=by
   rw[List.findSome?_eq_none_iff]
   intro x hx
   rw[List.all_eq_true] at e
   simp[e x hx]
  rw[this,if_pos e]
 ·rw[if_neg e]
  cases h:(List.range n).findSome? (fun i=>if good i=true then none else some r) with
  |none=>
   exfalso
   apply e
   rw[List.all_eq_true]
   intro x hx
   rw[List.findSome?_eq_none_iff] at h
   exact tr x (h x hx)
  |some q=>
   obtain⟨x,hx,hq⟩:=List.exists_of_findSome?_eq_some h
   split at hq
   ·cases hq
   ·cases hq;rfl
theorem iter_good{S R:Type}{f:(S→Option R)→S→Option R}(st:Nat→S)(good:Nat→Bool)(r k:Option R)(n:Nat)(hn:n≤1152921504606846976)
  (hs:∀kb i,i < n→f kb (st i)=if good i=true then kb (st (i+1)) else r) (he:∀kb,f kb (st n)=k) {s0:S} (h0:s0=st 0):
  iter f FU s0=if (List.range n).all good=true then k else r:=
 iter_goodH st good r k n hn (fun kb i hi _=>hs kb i hi) (fun kb _=>he kb) h0
theorem step1(i:Nat)(n:Nat)(h:i < n)(hn:n≤1152921504606846976):IntKind.wrap .i64 ((i:Int)+1)=((i+1:Nat):Int):=by
 rw[w64 (by omega) (by omega)];omega
def idxOf{α:Type}(p:α→Bool)(xs:List α):Int:=match xs.findIdx? p with
 |some k=>(k:Int)
 |none=>-1
theorem idxOf_nonneg{α:Type}(p:α→Bool)(xs:List α):decide (0≤idxOf p xs)=xs.any p:=by
 unfold idxOf
 cases h:xs.findIdx? p with
 |none=>
  rw[List.findIdx?_eq_none_iff] at h
  have:xs.any p=false:=by rw[List.any_eq_false];intro x hx;simp[h x hx]
  simp[this]
 |some k=>
  rw[List.findIdx?_eq_some_iff_getElem] at h
  obtain⟨hk,hp,_⟩:=h
  have:xs.any p=true:=List.any_eq_true.2 ⟨xs[k],List.getElem_mem hk,hp⟩
  simp[this]
theorem iter_index{α:Type}(xs:List α)(p:α→Bool){f:(Int→Option Int)→Int→Option Int}(hn:xs.length≤1152921504606846976)
  (hs:∀kb (i:Nat) (hi:i < xs.length),f kb (i:Int)=if p xs[i]=true then some (i:Int) else kb ((i+1:Nat):Int)) (he:∀kb,f kb (xs.length:Int)=some (-1)):iter f FU 0=some (idxOf p xs):=by
 rw[iter_stop (s0:=(0:Int)) (fun i=>(i:Int)) (fun i:Nat=>(xs[i]?).bind fun x=>if p x=true then some (some (i:Int)) else none) (some (-1)) xs.length hn (fun kb i hi=> ?_) (fun kb=>he kb) rfl]
 ·have key:∀(ys:List α) (o:Nat),(List.range ys.length).findSome? (fun i:Nat=>(ys[i]?).bind fun x=>if p x=true then some (some ((o+i:Nat):Int)) else none)=(ys.findIdx? p).map fun k=>some ((o+k:Nat):Int):=by
   intro ys
   induction ys with
   |nil=>intro o;rfl
   |cons y ys ih=>
    intro o
    rw[List.length_cons,List.range_succ_eq_map,List.findSome?_cons,List.findSome?_map,List.findIdx?_cons]
    simp only[List.getElem?_cons_zero,Option.bind_some]
    by_cases e:p y=true
    ·simp[e]
    ·simp only[e,if_false,Function.comp_def,List.getElem?_cons_succ,Bool.false_eq_true]
     have:=ih (o+1)
     rw[show(fun i:Nat=>(ys[i]?).bind fun x=>if p x=true then some (some ((o+(i+1):Nat):Int)) else none)=fun i:Nat=>(ys[i]?).bind fun x=>if p x=true then some (some ((o+1+i:Nat):Int)) else none from by funext i;rw[show o+(i+1)=o+1+i by omega]]
     rw[this]
     cases ys.findIdx? p<;>simp;omega
  have:=key xs 0
  simp only[Nat.zero_add] at this
  rw[this]
  unfold idxOf
  cases xs.findIdx? p<;>rfl
 ·rw[hs kb i hi,List.getElem?_eq_getElem hi]
  simp only[Option.bind_some]
  by_cases e:p xs[i]=true<;>simp[e]
theorem all_range{α:Type}(xs:List α)(p:α→Bool):((List.range xs.length).all fun i=>((xs[i]?).map p).getD true)=xs.all p:=by
 rw[Bool.eq_iff_iff,List.all_eq_true,List.all_eq_true]
 constructor
 ·intro H x hx
  obtain⟨i,hi,rfl⟩:=List.mem_iff_getElem.1 hx
  have:=H i (List.mem_range.2 hi)
  rw[List.getElem?_eq_getElem hi] at this
  exact this
 ·intro H i hi
  have hi:=List.mem_range.1 hi
  rw[List.getElem?_eq_getElem hi]
  exact H _ (List.getElem_mem hi)
theorem iter_every{α R:Type}(xs:List α)(p:α→Bool)(r k:Option R){f:(Int→Option R)→Int→Option R}(hn:xs.length≤1152921504606846976)
  (hs:∀kb (i:Nat) (hi:i < xs.length),f kb (i:Int)=if p xs[i]=true then kb ((i+1:Nat):Int) else r) (he:∀kb,f kb (xs.length:Int)=k):iter f FU 0=if xs.all p=true then k else r:=by
 rw[iter_good (s0:=(0:Int)) (fun i=>(i:Int)) (fun i=>((xs[i]?).map p).getD true) r k xs.length hn (fun kb i hi=> ?_) (fun kb=>he kb) rfl,all_range xs p]
 rw[hs kb i hi,List.getElem?_eq_getElem hi]
 rfl
def within(z lo hi:Int):Bool:=decide (lo≤z)&&decide (z≤hi)
theorem p_l1In(z lo hi:Int):m_spec_l1In z lo hi=some (within z lo hi):=by
 unfold m_spec_l1In within;by_cases h:lo≤z<;>simp[h]
theorem p_from(z lo hi:Int):m_impl_from z lo hi=some (within z lo hi):=by
 unfold m_impl_from within;by_cases h:lo≤z<;>simp[h]
theorem p_l10Key(z:Int):m_spec_l10Key z=some (within z 0 999):=by simp[m_spec_l10Key,p_l1In]
theorem p_isKey(z:Int):m_impl_isKey z=some (within z 0 999):=by simp[m_impl_isKey,p_from]
theorem p_l1Whole(z:Int):m_spec_l1Whole z=some (within z 0 1000000000):=by simp[m_spec_l1Whole,p_l1In]
theorem p_isWhole(z:Int):m_impl_isWhole z=some (within z 0 1000000000):=by simp[m_impl_isWhole,p_from]
def rangeOk(a:TRange):Bool:=decide (0≤a.Lo)&&decide (a.Lo < a.Hi)&&decide (a.Hi≤1000)
theorem p_spec_RangeOk(a:TRange):m_spec_RangeOk a=some (rangeOk a):=by
 unfold m_spec_RangeOk rangeOk;by_cases h:0≤a.Lo<;>by_cases h':a.Lo < a.Hi<;>simp[h,h']
theorem p_impl_RangeOk(a:TRange):m_impl_RangeOk a=some (rangeOk a):=by
 unfold m_impl_RangeOk rangeOk;by_cases h:0≤a.Lo<;>by_cases h':a.Lo < a.Hi<;>simp[h,h']
theorem p_l15Group(z:Int):m_spec_l15Group z=some (within z 0 3):=by simp[m_spec_l15Group,p_l1In]
theorem p_isGroup(z:Int):m_impl_isGroup z=some (within z 0 3):=by simp[m_impl_isGroup,p_from]
def goodC(cb:List Int)(c:Int×Int):Prop:=0≤c.1∧c.1≤(cb.length:Int)∧cb.length≤1048576
def Drawn{α:Type}(cb:List Int)(P:α→Prop)(m:Option (α×(Int×Int))):Prop:=∃x c,m=some (x,c)∧goodC cb c∧P x
theorem Drawn.bind{α β:Type}{cb:List Int}{P:α→Prop}{Q:β→Prop}{m:Option (α×(Int×Int))}{f:α×(Int×Int)→Option (β×(Int×Int))}(h:Drawn cb P m)(hf:∀x c,goodC cb c→P x→Drawn cb Q (f (x,c))):Drawn cb Q (m.bind f):=by
 obtain⟨x,c,rfl,hc,hp⟩:=h
 exact hf x c hc hp
theorem Drawn.some{α:Type}{cb:List Int}{P:α→Prop}{x:α}{c:Int×Int}(hc:goodC cb c)(hp:P x):Drawn cb P (some (x,c)):=⟨x,c,rfl,hc,hp⟩
theorem low_and(x y:Int)(k:Nat)(hk:(BitVec.ofInt 64 y).toNat=k)(hk':k < 9223372036854775808):0≤IntKind.wrap .i64 ((BitVec.ofInt (IntKind.bits .i64) x&&& BitVec.ofInt (IntKind.bits .i64) y).toNat:Int)∧IntKind.wrap .i64 ((BitVec.ofInt (IntKind.bits .i64) x&&& BitVec.ofInt (IntKind.bits .i64) y).toNat:Int)≤k:=by
 have h:(BitVec.ofInt (IntKind.bits .i64) x&&& BitVec.ofInt (IntKind.bits .i64) y).toNat≤k:=by
  rw[BitVec.toNat_and,←hk]
  exact Nat.and_le_right
 rw[w64 (by omega) (by omega)]
 omega
theorem low8(x:Int):0≤IntKind.wrap .i64 ((BitVec.ofInt (IntKind.bits .i64) x&&& BitVec.ofInt (IntKind.bits .i64) 255).toNat:Int)∧IntKind.wrap .i64 ((BitVec.ofInt (IntKind.bits .i64) x&&& BitVec.ofInt (IntKind.bits .i64) 255).toNat:Int)≤255:=low_and x 255 255 (by decide) (by decide)
theorem p_l1Byte{cb:List Int}{c:Int×Int}(h:goodC cb c):Drawn cb (fun x=>0≤x∧x≤255) (m_spec_l1Byte cb c):=by
 obtain⟨h1,h2,h3⟩:=h
 unfold m_spec_l1Byte
 split
 ·rename_i hlt
  obtain⟨n,hn⟩:∃n:Nat,c.1=(n:Int):=⟨c.1.toNat,by omega⟩
  rw[hn,idx_nat (show n < cb.length by omega)]
  simp only[Option.bind_some]
  refine Drawn.some ⟨?_,?_,h3⟩ (low8 _)
  ·simp only;rw[w64 (by omega) (by omega)];omega
  ·simp only;rw[w64 (by omega) (by omega)];omega
 ·exact Drawn.some ⟨h1,h2,h3⟩ (low8 _)
theorem p_l1Below{cb:List Int}{c:Int×Int}(h:goodC cb c)(n:Int):Drawn cb (fun x=>0≤x∧(0 < n→x < n)∧(n≤0→x=0)) (m_spec_l1Below cb c n):=by
 unfold m_spec_l1Below
 split
 ·exact Drawn.some h ⟨Int.le_refl _,fun h'=>by omega,fun _=>rfl⟩
 ·rename_i h0
  split
  ·refine(p_l1Byte h).bind fun x c1 hc1 hx=> ?_
   rw[if_pos (by omega)]
   exact Drawn.some hc1 ⟨Int.tmod_nonneg _ hx.1,fun _=>Int.tmod_lt_of_pos _ (by omega),fun h'=>absurd h' h0⟩
  ·refine(p_l1Byte h).bind fun x1 c1 hc1 hx1=>(p_l1Byte hc1).bind fun x2 c2 hc2 hx2=>(p_l1Byte hc2).bind fun x3 c3 hc3 hx3=>(p_l1Byte hc3).bind fun x4 c4 hc4 hx4=> ?_
   rw[if_pos (by omega)]
   simp only at hx1 hx2 hx3 hx4 ⊢
   rw[w64 (n:=x1 * 16777216) (by omega) (by omega),w64 (n:=x2 * 65536) (by omega) (by omega),w64 (n:=x3 * 256) (by omega) (by omega),w64 (n:=x1 * 16777216+x2 * 65536) (by omega) (by omega),w64 (n:=x1 * 16777216+x2 * 65536+x3 * 256) (by omega) (by omega),w64 (n:=x1 * 16777216+x2 * 65536+x3 * 256+x4) (by omega) (by omega)]
   exact Drawn.some hc4 ⟨Int.tmod_nonneg _ (by omega),fun _=>Int.tmod_lt_of_pos _ (by omega),fun h'=>absurd h' h0⟩
theorem p_l1Once{cb:List Int}{c:Int×Int}(h:goodC cb c)(n:Int):Drawn cb (fun _=>True) (m_spec_l1Once cb c n):=by
 unfold m_spec_l1Once
 exact(p_l1Below h n).bind fun x c1 hc1 _=>Drawn.some hc1 trivial
theorem p_l1PickInt{cb:List Int}{c:Int×Int}(h:goodC cb c)(xs:List Int)(hx:0 < xs.length):Drawn cb (fun x=>x∈xs) (m_spec_l1PickInt cb c xs):=by
 unfold m_spec_l1PickInt
 refine(p_l1Below h _).bind fun x c1 hc1 ⟨h1,h2,_⟩=> ?_
 obtain⟨n,rfl⟩:∃n:Nat,x=(n:Int):=⟨x.toNat,by omega⟩
 have hn:n < xs.length:=by have:=h2 (by omega);omega
 simp only[idx_nat hn,Option.bind_some]
 exact Drawn.some hc1 (List.getElem_mem hn)
def newH(cb:List Int):Nat→Int
 |0=>IntKind.wrap .i64 (97097+(cb.length:Int))
 |i+1=>IntKind.wrap .i64 ((BitVec.ofInt (IntKind.bits .i64) (IntKind.wrap .i64 ((IntKind.wrap .i64 ((IntKind.wrap .i64 (newH cb i * 131))+(IntKind.wrap .i64 ((cb[i]?).getD 0))))+7))&&& BitVec.ofInt (IntKind.bits .i64) 1073741823).toNat:Int)
theorem p_l1New(cb:List Int)(h:cb.length≤1048576):∃c,m_spec_l1New cb=some c∧goodC cb c:=by
 refine⟨(0,newH cb (min cb.length 4000)),?_,by simp[goodC];exact h⟩
 unfold m_spec_l1New
 refine iter_all (fun i=>(newH cb i,(i:Int))) _ (min cb.length 4000) (by omega) (fun kb i hi=> ?_) (fun kb=> ?_) rfl
 ·have hi':i < cb.length:=by omega
  unfold spec_l1New_b4
  simp only
  rw[if_pos (by omega),if_pos (by omega),idx_nat hi',step1 i _ hi' (by omega)]
  simp only[Option.bind_some,newH,List.getElem?_eq_getElem hi',Option.getD_some]
 ·unfold spec_l1New_b4 spec_l1New_j2
  simp only
  split
  ·rw[if_neg (by omega)]
  ·rfl
theorem p_l1Size(cb:List Int)(h:cb.length≤1048576)(a:Int)(ha:2≤a):∃n,m_spec_l1Size cb a=some n∧2≤n∧n≤a:=by
 have h1:0≤Int.tdiv (cb.length:Int) 20:=Int.tdiv_nonneg (by omega) (by decide)
 have h2:Int.tdiv (cb.length:Int) 20≤(cb.length:Int):=by
  rw[Int.tdiv_eq_ediv_of_nonneg (by omega)];omega
 unfold m_spec_l1Size
 rw[w64 (n:=Int.tdiv (cb.length:Int) 20) (by omega) (by omega),w64 (by omega) (by omega)]
 split
 ·exact⟨_,rfl,by omega,by omega⟩
 ·exact⟨_,rfl,by omega,by omega⟩
theorem iter_inv{S R:Type}{f:(S→Option R)→S→Option R}(I:Nat→S→Prop)(n:Nat)(hn:n≤1152921504606846976){s0:S}(h0:I 0 s0)(Post:Option R→Prop)
  (hs:∀i,i < n→∀s,I i s→∀kb,∃s',I (i+1) s'∧f kb s=kb s') (he:∀s,I n s→∀kb,Post (f kb s)):Post (iter f FU s0):=by
 have key:∀(d i m:Nat) (s:S),i+d=n→d < m→I i s→Post (iter f m s):=by
  intro d
  induction d with
  |zero=>
   intro i m s e hm hi
   have:i=n:=by omega
   subst this
   cases m with
   |zero=>omega
   |succ m=>exact he s hi _
  |succ d ih=>
   intro i m s e hm hi
   cases m with
   |zero=>omega
   |succ m=>
    obtain⟨s',h1,h2⟩:=hs i (by omega) s hi (iter f m)
    show Post (f (iter f m) s)
    rw[h2]
    exact ih (i+1) m s' (by omega) (by omega) h1
 exact key n 0 FU s0 (by omega) (by unfold FU;omega) h0
theorem iter_filter{α R:Type}{f:(List α×Int→Option R)→List α×Int→Option R}(xs:List α)(q:α→Bool)(k:List α→Option R)(hn:xs.length≤1048576)
  (hs:∀kb (ys:List α) (i:Nat) (hi:i < xs.length),ys.length≤i→f kb (ys,(i:Int))=if q xs[i]=true then kb (ys++[xs[i]],((i+1:Nat):Int)) else kb (ys,((i+1:Nat):Int)))
  (he:∀kb (ys:List α),f kb (ys,(xs.length:Int))=k ys):iter f FU ([],0)=k (xs.filter q):=by
 refine iter_all (fun i=>((xs.take i).filter q,(i:Int))) _ xs.length (by omega) (fun kb i hi=> ?_) (fun kb=> ?_) (by simp)
 ·rw[hs kb _ i hi (Nat.le_trans (List.length_filter_le _ _) (by simp;omega))]
  rw[List.take_succ_eq_append_getElem hi,List.filter_append]
  by_cases h:q xs[i]=true<;>simp[h]
 ·rw[he,List.take_length]
def rowF{α:Type}(g:α→α)(xs:List α)(i:Nat):List α:=(xs.take i).map g++xs.drop i
theorem rowF_len{α:Type}(g:α→α)(xs:List α)(i:Nat):(rowF g xs i).length=xs.length:=by
 unfold rowF
 simp
 omega
theorem rowF_idx{α:Type}(g:α→α){xs:List α}{i:Nat}(h:i < xs.length):idx (rowF g xs i) (i:Int)=some xs[i]:=by
 rw[idx_ofNat]
 unfold rowF
 rw[List.getElem?_append_right (by simp;omega)]
 have e:i - ((xs.take i).map g).length=0:=by simp;omega
 rw[e]
 simp[h]
theorem rowF_set{α:Type}(g:α→α){xs:List α}{i:Nat}(h:i < xs.length):(rowF g xs i).set i (g xs[i])=rowF g xs (i+1):=by
 unfold rowF
 rw[List.set_append,if_neg (by simp;omega),List.take_succ_eq_append_getElem h,List.map_append,List.append_assoc]
 congr 1
 have e:i - ((xs.take i).map g).length=0:=by simp;omega
 rw[e,List.drop_eq_getElem_cons h]
 rfl
theorem rowF_same{α:Type}(g:α→α){xs:List α}{i:Nat}(h:i < xs.length)(hg:g xs[i]=xs[i]):rowF g xs (i+1)=rowF g xs i:=by
 rw[←rowF_set g h,hg]
 have hl:i < (rowF g xs i).length:=by rw[rowF_len];exact h
 have:=rowF_idx g h
 rw[idx_nat hl] at this
 have:=Option.some.inj this
 rw[←this]
 exact List.set_getElem_self hl
theorem rowF_zero{α:Type}(g:α→α)(xs:List α):rowF g xs 0=xs:=by simp[rowF]
theorem rowF_all{α:Type}(g:α→α)(xs:List α):rowF g xs xs.length=xs.map g:=by simp[rowF]
def cellGood(xs:List TCell)(i:Nat):Bool:=match xs[i]? with
 |none=>true
 |some c=>within c.Key 0 999&&within c.Value 0 1000000000&&(i == 0||match xs[i - 1]? with|some p=>decide (p.Key < c.Key)|none=>true)
def storeGood(xs:List TCell):Bool:=decide (xs.length≤60)&&(List.range xs.length).all (cellGood xs)
theorem p_spec_StoreOk(xs:List TCell)(h:xs.length≤1048576):m_spec_StoreOk xs=some (storeGood xs):=by
 unfold m_spec_StoreOk storeGood
 split
 ·rename_i h1
  have:¬xs.length≤60:=by omega
  simp[this]
 ·rename_i h1
  have:xs.length≤60:=by omega
  rw[iter_good (s0:=(0:Int)) (fun i=>(i:Int)) (cellGood xs) (some false) (some true) xs.length (by omega) (fun kb i hi=> ?_) (fun kb=> ?_) rfl]
  ·simp only[this,decide_true,Bool.true_and];split<;>simp_all
  ·unfold spec_StoreOk_b5 spec_StoreOk_j8 cellGood
   simp only[idx_nat hi,p_l10Key,p_l1Whole,Option.bind_some,step1 i _ hi (by omega),List.getElem?_eq_getElem hi]
   rw[if_pos (by omega)]
   cases within xs[i].Key 0 999<;>simp
   cases within xs[i].Value 0 1000000000<;>simp
   by_cases h0:0 < i
   ·have h2:IntKind.wrap .i64 ((i:Int) - 1)=((i - 1:Nat):Int):=by rw[w64 (by omega) (by omega)];omega
    have h3:i - 1 < xs.length:=by omega
    have h4:¬i=0:=by omega
    simp only[h0,if_true,h2,idx_nat h3,Option.bind_some,List.getElem?_eq_getElem h3,h4,false_or]
    by_cases h5:xs[i].Key≤xs[i - 1].Key
    ·have:¬xs[i - 1].Key < xs[i].Key:=by omega
     simp[h5,this]
    ·have:xs[i - 1].Key < xs[i].Key:=by omega
     simp[h5,this]
   ·have h4:i=0:=by omega
    simp[h4]
  ·unfold spec_StoreOk_b5
   rw[if_neg (by omega)];rfl
theorem p_impl_StoreOk(xs:List TCell)(h:xs.length≤1048576):m_impl_StoreOk xs=some (storeGood xs):=by
 unfold m_impl_StoreOk storeGood
 rw[iter_good (s0:=(0:Int)) (fun i=>(i:Int)) (cellGood xs) (some false) (some (decide (xs.length≤60))) xs.length (by omega) (fun kb i hi=> ?_) (fun kb=> ?_) rfl]
 ·split<;>simp_all
 ·unfold impl_StoreOk_b4 impl_StoreOk_j9 cellGood
  simp only[idx_nat hi,p_isKey,p_isWhole,Option.bind_some,step1 i _ hi (by omega),List.getElem?_eq_getElem hi]
  rw[if_pos (by omega)]
  cases within xs[i].Key 0 999<;>simp
  cases within xs[i].Value 0 1000000000<;>simp
  by_cases h0:0 < i
  ·have h2:IntKind.wrap .i64 ((i:Int) - 1)=((i - 1:Nat):Int):=by rw[w64 (by omega) (by omega)];omega
   have h3:i - 1 < xs.length:=by omega
   have h4:¬i=0:=by omega
   simp only[h0,if_true,h2,idx_nat h3,Option.bind_some,List.getElem?_eq_getElem h3,h4,false_or]
   by_cases h5:xs[i].Key≤xs[i - 1].Key
   ·have:¬xs[i - 1].Key < xs[i].Key:=by omega
    simp[h5,this]
   ·have:xs[i - 1].Key < xs[i].Key:=by omega
    simp[h5,this]
  ·have h4:i=0:=by omega
   simp[h4]
 ·unfold impl_StoreOk_b4 impl_StoreOk_j2
  rw[if_neg (by omega)]
  have:((xs.length:Int)≤60)↔xs.length≤60:=by omega
  simp[this]
def hiAt(xs:List TPart):Nat→Int
 |0=>0
 |i+1=>match xs[i]? with
  |some p=>p.Hi
  |none=>0
theorem hiAt_succ{xs:List TPart}{i:Nat}(h:i < xs.length):hiAt xs (i+1)=xs[i].Hi:=by
 simp only[hiAt,List.getElem?_eq_getElem h]
def partGood(xs:List TPart)(i:Nat):Bool:=match xs[i]? with
 |some p=>decide (p.Lo=hiAt xs i)&&decide (p.Lo < p.Hi)&&within p.Owner 0 3
 |none=>true
def partsGood(xs:List TPart):Bool:=within xs.length 1 16&&decide (hiAt xs xs.length=1000)&&(List.range xs.length).all (partGood xs)
theorem p_impl_PartsOk(xs:List TPart)(h:xs.length≤1048576):m_impl_PartsOk xs=some (partsGood xs):=by
 unfold m_impl_PartsOk
 rw[iter_good (s0:=((0:Int),(0:Int))) (fun i=>(hiAt xs i,(i:Int))) (partGood xs) (some false) (some (within xs.length 1 16&&decide (hiAt xs xs.length=1000))) xs.length (by omega) (fun kb i hi=> ?_) (fun kb=> ?_) rfl]
 ·unfold partsGood
  split<;>simp_all
 ·unfold impl_PartsOk_b7 impl_PartsOk_j12 partGood
  simp only[idx_nat hi,p_isGroup,Option.bind_some,step1 i _ hi (by omega),List.getElem?_eq_getElem hi,hiAt_succ hi]
  rw[if_pos (by omega)]
  by_cases h1:xs[i].Lo=hiAt xs i<;>simp[h1]
  by_cases h2:hiAt xs i < xs[i].Hi
  ·rw[if_neg (by omega)]
   cases within xs[i].Owner 0 3<;>simp[h2]
  ·rw[if_pos (by omega)]
   simp[h2]
 ·unfold impl_PartsOk_b7 impl_PartsOk_j2
  rw[if_neg (by omega)]
  simp only[p_from,Option.bind_some]
  cases within (xs.length:Int) 1 16<;>simp
theorem parts_mono{xs:List TPart}(H:∀i,i < xs.length→partGood xs i=true):∀i j,i≤j→j≤xs.length→hiAt xs i≤hiAt xs j
  | i, 0, h1, h2 => by have : i = 0 := by omega
                       subst this;omega
  |i,j+1,h1,h2=>by
    by_cases e:i=j+1
    · subst e;omega
    · have h3 := parts_mono H i j (by omega) (by omega)
      have h4:=H j (by omega)
      unfold partGood at h4
      simp only[List.getElem?_eq_getElem (show j < xs.length by omega),Bool.and_eq_true,decide_eq_true_eq] at h4
      rw[hiAt_succ (show j < xs.length by omega)]
      omega
def partGood'(xs:List TPart)(i:Nat):Bool:=match xs[i]? with
 |some p=>decide (p.Lo < p.Hi)&&decide (0≤p.Lo)&&decide (p.Hi≤1000)&&within p.Owner 0 3&&(i == 0||decide (hiAt xs i=p.Lo))
 |none=>true
theorem partsGood_at{xs:List TPart}(H:partsGood xs=true){i:Nat}(hi:i < xs.length):0≤xs[i].Lo∧xs[i].Lo < xs[i].Hi∧xs[i].Hi≤1000∧within xs[i].Owner 0 3=true∧xs[i].Lo=hiAt xs i:=by
 unfold partsGood at H
 simp only[Bool.and_eq_true,decide_eq_true_eq,List.all_eq_true,List.mem_range] at H
 obtain⟨⟨H1,H2⟩,H3⟩:=H
 have m1:=parts_mono H3 0 i (by omega) (by omega)
 have m2:=parts_mono H3 (i+1) xs.length (by omega) (by omega)
 have h:=H3 i hi
 unfold partGood at h
 simp only[List.getElem?_eq_getElem hi,Bool.and_eq_true,decide_eq_true_eq] at h
 rw[hiAt_succ hi] at m2
 rw[show hiAt xs 0=0 from rfl] at m1
 exact⟨by omega,h.1.2,by omega,h.2,h.1.1⟩
theorem parts_same(xs:List TPart)(h0:0 < xs.length)(h1:xs[0].Lo=0)(h2:hiAt xs xs.length=1000)(h3:within xs.length 1 16=true):
  (List.range xs.length).all (partGood' xs)=partsGood xs:=by
 rw[Bool.eq_iff_iff]
 constructor
 ·intro H
  unfold partsGood
  simp only[Bool.and_eq_true,decide_eq_true_eq,List.all_eq_true,List.mem_range] at H ⊢
  refine⟨⟨h3,h2⟩,fun i hi=> ?_⟩
  have h:=H i hi
  unfold partGood' at h
  unfold partGood
  simp only[List.getElem?_eq_getElem hi,Bool.and_eq_true,Bool.or_eq_true,beq_iff_eq,decide_eq_true_eq] at h ⊢
  refine⟨⟨?_,h.1.1.1.1⟩,h.1.2⟩
  rcases h.2 with e|e
  ·subst e;exact h1
  ·exact e.symm
 ·intro H
  simp only[List.all_eq_true,List.mem_range]
  intro i hi
  obtain⟨a1,a2,a3,a4,a5⟩:=partsGood_at H hi
  unfold partGood'
  simp only[List.getElem?_eq_getElem hi,Bool.and_eq_true,Bool.or_eq_true,beq_iff_eq,decide_eq_true_eq]
  exact⟨⟨⟨⟨a2,a1⟩,a3⟩,a4⟩,.inr a5.symm⟩
theorem p_spec_PartsOk(xs:List TPart)(h:xs.length≤1048576):m_spec_PartsOk xs=some (partsGood xs):=by
 unfold m_spec_PartsOk
 simp only[p_l1In,Option.bind_some]
 cases h3:within (xs.length:Int) 1 16 with
 |false=>simp[spec_PartsOk_j2,partsGood,h3]
 |true=>
  have h0:0 < xs.length:=by unfold within at h3;simp at h3;omega
  have hi0:idx xs 0=some xs[0]:=idx_nat (i:=0) h0
  have hw:IntKind.wrap .i64 ((xs.length:Int) - 1)=((xs.length - 1:Nat):Int):=by rw[w64 (by omega) (by omega)];omega
  have hiN:idx xs (IntKind.wrap .i64 ((xs.length:Int) - 1))=some xs[xs.length - 1]:=by rw[hw];exact idx_nat (by omega)
  have hN:hiAt xs xs.length=xs[xs.length - 1].Hi:=by
   obtain⟨n,hn⟩:∃n,xs.length=n+1:=⟨xs.length - 1,by omega⟩
   have e:hiAt xs (n+1)=xs[n].Hi:=hiAt_succ (by omega)
   simp only[hn,Nat.add_sub_cancel] at e ⊢
   exact e
  simp only[hi0,hiN,Option.bind_some,if_true]
  by_cases h1:xs[0].Lo=0
  ·rw[if_neg (by simpa using h1)]
   by_cases h2:xs[xs.length - 1].Hi=1000
   ·simp only[h2,not_true,decide_false,spec_PartsOk_j2,Bool.false_eq_true,if_false]
    rw[iter_good (s0:=(0:Int)) (fun i=>(i:Int)) (partGood' xs) (some false) (some true) xs.length (by omega) (fun kb i hi=> ?_) (fun kb=> ?_) rfl,parts_same xs h0 h1 (by rw[hN];exact h2) h3]
    ·cases partsGood xs<;>simp
    ·unfold spec_PartsOk_b7 spec_PartsOk_j12 partGood'
     simp only[idx_nat hi,p_l1In,Option.bind_some,step1 i _ hi (by omega),List.getElem?_eq_getElem hi]
     rw[if_pos (by omega)]
     by_cases c1:xs[i].Lo < xs[i].Hi
     ·rw[if_neg (by omega)]
      by_cases c2:0≤xs[i].Lo
      ·rw[if_neg (by omega)]
       by_cases c3:xs[i].Hi≤1000
       ·rw[if_neg (by omega)]
        cases within xs[i].Owner 0 3<;>simp[c1,c2,c3]
        cases i with
        |zero=>simp
        |succ j=>
         have hj:j < xs.length:=by omega
         have hwj:IntKind.wrap .i64 (((j+1:Nat):Int) - 1)=(j:Int):=by rw[w64 (by omega) (by omega)];omega
         have hpos:(0:Int) < ((j+1:Nat):Int):=by omega
         simp only[hiAt_succ hj,Int.natCast_add,Int.natCast_one]
         rw[show IntKind.wrap .i64 ((j:Int)+1 - 1)=(j:Int) from by rw[w64 (by omega) (by omega)];omega,idx_nat hj]
         simp only[Option.bind_some]
         rw[if_pos (by omega)]
         by_cases c4:xs[j].Hi=xs[j+1].Lo<;>simp[c4]
       ·rw[if_pos (by omega)];simp[c3]
      ·rw[if_pos (by omega)];simp[c2]
     ·rw[if_pos (by omega)];simp[c1]
    ·unfold spec_PartsOk_b7
     rw[if_neg (by omega)];rfl
   ·simp[h2,spec_PartsOk_j2,partsGood,hN]
  ·rw[if_pos (by simpa using h1)]
   have:partGood xs 0=false:=by unfold partGood;simp[List.getElem?_eq_getElem h0,hiAt,h1]
   have:(List.range xs.length).all (partGood xs)=false:=by
    rw[List.all_eq_false];exact⟨0,List.mem_range.2 h0,by simp[this]⟩
   simp[spec_PartsOk_j2,partsGood,this]
def inB(lo hi:Int)(c:TCell):Bool:=within c.Key lo (IntKind.wrap .i64 (hi - 1))
theorem p_l15In(xs:List TCell)(m:TMove)(h:xs.length≤1048576):m_spec_l15In xs m=some (xs.all (inB m.Lo m.Hi)):=by
 unfold m_spec_l15In
 rw[iter_every xs (inB m.Lo m.Hi) (some false) (some true) (by omega) (fun kb i hi=> ?_) (fun kb=> ?_)]
 ·cases xs.all (inB m.Lo m.Hi)<;>simp
 ·unfold spec_l15In_b5
  simp only[idx_nat hi,p_l1In,Option.bind_some,step1 i _ hi (by omega)]
  rw[if_pos (by omega)]
  rfl
 ·unfold spec_l15In_b5
  rw[if_neg (by omega)];rfl
theorem p_Range_has(a:TRange)(z:Int):m_impl_Range_has a z=some (within z a.Lo (IntKind.wrap .i64 (a.Hi - 1))):=by
 unfold m_impl_Range_has;simp[p_from]
theorem p_cellsIn_1(c:TCell)(a:TRange):m_impl_cellsIn_1 c a=some (!inB a.Lo a.Hi c):=by
 unfold m_impl_cellsIn_1;simp[p_Range_has,inB]
theorem p_Contains_cellsIn(xs:List TCell)(a:TRange)(h:xs.length≤1048576):m_slices_ContainsFunc_Cell__cellsIn_1 xs a=some (xs.any fun c=>!inB a.Lo a.Hi c):=by
 unfold m_slices_ContainsFunc_Cell__cellsIn_1 m_slices_IndexFunc_Cell__cellsIn_1
 rw[iter_index xs (fun c=>!inB a.Lo a.Hi c) (by omega) (fun kb i hi=> ?_) (fun kb=> ?_)]
 ·simp[idxOf_nonneg]
 ·unfold slices_IndexFunc_Cell__cellsIn_1_b5
  simp only[idx_nat hi,p_cellsIn_1,Option.bind_some,step1 i _ hi (by omega)]
  rw[if_pos (by omega)]
 ·unfold slices_IndexFunc_Cell__cellsIn_1_b5
  rw[if_neg (by omega)];rfl
theorem p_cellsIn(xs:List TCell)(a:TRange)(h:xs.length≤1048576):m_impl_cellsIn xs a=some (storeGood xs&&xs.all (inB a.Lo a.Hi)):=by
 unfold m_impl_cellsIn
 simp only[p_impl_StoreOk _ h,p_Contains_cellsIn _ _ h,Option.bind_some]
 cases storeGood xs<;>simp
 rw[List.any_eq_not_all_not];simp
theorem p_AtlasOk(a:TAtlas)(h1:a.Parts.length≤1048576)(h2:a.Move.Cells.length≤1048576):∃r,m_spec_AtlasOk a=some r∧m_impl_AtlasOk a=some r∧(r=true→partsGood a.Parts=true):=by
 unfold m_spec_AtlasOk m_impl_AtlasOk m_impl_moveOk
 simp only[spec_AtlasOk_j2,spec_AtlasOk_j10,impl_moveOk_j2,m_impl_Move_keys,p_l1In,p_from,p_spec_PartsOk _ h1,p_impl_PartsOk _ h1,p_spec_StoreOk _ h2,p_spec_RangeOk,p_impl_RangeOk,p_l15Group,p_isGroup,p_l15In _ _ h2,p_cellsIn _ _ h2,Option.bind_some]
 generalize within a.Epoch 0 1000000=w1
 generalize partsGood a.Parts=w2
 generalize within a.Move.No 0 300000=w3
 generalize within a.Move.Stage 0 4=w4
 generalize rangeOk ⟨a.Move.Lo,a.Move.Hi⟩=w5
 generalize within a.Move.From 0 3=w6
 generalize within a.Move.To 0 3=w7
 generalize a.Move.Cells.all (inB a.Move.Lo a.Move.Hi)=w9
 have hs:a.Move.Cells.length=0→storeGood a.Move.Cells=true:=fun h=>by
  rw[List.eq_nil_of_length_eq_zero h];rfl
 generalize storeGood a.Move.Cells=w8 at hs
 cases w1<;>simp
 cases w2<;>simp
 cases w3<;>simp
 cases w4<;>simp
 by_cases g0:a.Move.Stage=0
 ·simp only[g0,if_true]
  cases w8<;>simp at hs ⊢
  ·by_cases g1:a.Move.Lo=0<;>simp[g1]
   by_cases g2:a.Move.Hi=0<;>simp[g2]
   by_cases g3:a.Move.From=0<;>simp[g3]
   by_cases g4:a.Move.To=0<;>simp[g4]
   exact hs
  ·by_cases g1:a.Move.Lo=0<;>simp[g1]
   by_cases g2:a.Move.Hi=0<;>simp[g2]
   by_cases g3:a.Move.From=0<;>simp[g3]
   by_cases g4:a.Move.To=0<;>simp[g4]
   exact(Classical.em _).symm
 ·simp only[g0,if_false]
  by_cases g1:a.Move.No < 1
  ·have:¬1≤a.Move.No:=by omega
   cases w8<;>simp[g1,this]
  ·have:1≤a.Move.No:=by omega
   simp only[g1,this,if_true,if_false]
   by_cases g2:a.Move.From=a.Move.To<;>by_cases g3:a.Move.Stage=2<;>cases w5<;>cases w6<;>cases w7<;>cases w8<;>cases w9<;>simp[g2,g3]
   exact(Classical.em _).symm
theorem p_Clone_Part(xs:List TPart)(h:xs.length≤1048576):m_slices_Clone_Part xs=some xs:=by
 unfold m_slices_Clone_Part slices_Clone_Part_j2
 split<;>first|(simp;done)|(simp;omega)
theorem p_Clone_Cell(xs:List TCell)(h:xs.length≤1048576):m_slices_Clone_Cell xs=some xs:=by
 unfold m_slices_Clone_Cell slices_Clone_Cell_j2
 split<;>first|(simp;done)|(simp;omega)
def scanned(xs:List TCell)(a:TRange)(b:Bool):List TCell:=if storeGood xs&&rangeOk a then xs.filter (fun c=>inB a.Lo a.Hi c == b) else[]
theorem scanned_len(xs:List TCell)(a:TRange)(b:Bool):(scanned xs a b).length≤xs.length:=by
 unfold scanned
 split
 ·exact List.length_filter_le _ _
 ·simp
theorem p_l11Scan(xs:List TCell)(a:TRange)(b:Bool)(h:xs.length≤1048576):m_spec_l11Scan xs a b=some (scanned xs a b):=by
 unfold m_spec_l11Scan scanned
 by_cases hg:storeGood xs=true
 ·by_cases hr:rangeOk a=true
  ·rw[iter_filter xs (fun c=>inB a.Lo a.Hi c == b) (fun ys=>some ys) h (fun kb ys i hi hy=> ?_) (fun kb ys=> ?_)]
   ·simp[hg,hr]
   ·unfold spec_l11Scan_b6
    simp only[p_spec_StoreOk _ h,p_spec_RangeOk,hg,hr,idx_nat hi,Option.bind_some,p_l1In,step1 i _ hi (by omega),if_true]
    rw[if_pos (by omega)]
    by_cases c:(inB a.Lo a.Hi xs[i] == b)=true
    ·rw[if_pos c,if_pos (by unfold inB at c;exact c),if_pos (by simp;omega)]
    ·rw[if_neg c,if_neg (by unfold inB at c;exact c)]
   ·unfold spec_l11Scan_b6 spec_l11Scan_j4
    rw[if_neg (by omega)]
  ·unfold FU iter spec_l11Scan_b6 spec_l11Scan_j4
   simp[p_spec_StoreOk _ h,p_spec_RangeOk,hg,hr]
 ·unfold FU iter spec_l11Scan_b6 spec_l11Scan_j4
  simp[p_spec_StoreOk _ h,hg]
theorem p_l11DrawStore{cb:List Int}{c:Int×Int}(h:goodC cb c)(most:Int)(h0:0≤most)(hm:most≤60):Drawn cb (fun xs:List TCell=>xs.length≤60) (m_spec_l11DrawStore cb c most):=by
 have loop:∀(n:Nat) (c:Int×Int),n≤60→goodC cb c→Drawn cb (fun xs:List TCell=>xs.length≤60) (spec_l11DrawStore_j6 cb ((n:Int),c.1,c.2)):=by
  intro n c hn hc
  unfold spec_l11DrawStore_j6
  refine(p_l1Below hc 4).bind fun at0 c1 hc1 _=> ?_
  refine iter_inv (fun(i:Nat) (s:List TCell×Int×Int×Int×Int)=>s.1.length=i∧s.2.2.1=(i:Int)∧goodC cb s.2.2.2) n (by omega) ⟨rfl,rfl,hc1⟩ (Drawn cb (fun xs:List TCell=>xs.length≤60)) (fun i hi s ⟨h1,h2,h3⟩ kb=> ?_) (fun s ⟨h1,h2,h3⟩ kb=> ?_)
  ·unfold spec_l11DrawStore_b12
   simp only[h2]
   rw[if_pos (by omega)]
   obtain⟨k,c2,e2,hc2,_⟩:=p_l1Below h3 99
   obtain⟨g,c3,e3,hc3,_⟩:=p_l1Below hc2 3
   simp only[e2,e3,Option.bind_some,step1 i _ hi (by omega)]
   rw[if_pos (by simp;omega)]
   exact⟨_,⟨by simp;omega,rfl,hc3⟩,rfl⟩
  ·unfold spec_l11DrawStore_b12 spec_l11DrawStore_j10
   simp only[h2]
   rw[if_neg (by omega)]
   exact Drawn.some h3 (by omega)
 unfold m_spec_l11DrawStore
 rw[w64 (by omega) (by omega)]
 refine(p_l1Below h _).bind fun n c1 hc1 ⟨n1,n2,_⟩=>(p_l1Once hc1 20).bind fun b c2 hc2 _=> ?_
 have n2:=n2 (by omega)
 obtain⟨k,rfl⟩:∃k:Nat,n=(k:Int):=⟨n.toNat,by omega⟩
 split
 ·exact loop 60 c2 (by omega) hc2
 ·exact loop k c2 (by omega) hc2
theorem p_l11DrawAny{cb:List Int}{c:Int×Int}(h:goodC cb c)(most:Int)(h0:0≤most)(hm:most≤60):Drawn cb (fun xs:List TCell=>xs.length≤61) (m_spec_l11DrawAny cb c most):=by
 unfold m_spec_l11DrawAny
 refine(p_l11DrawStore h most h0 hm).bind fun xs c1 hc1 hl=>(p_l1Below hc1 25).bind fun z c2 hc2 _=> ?_
 split
 ·refine(p_l1PickInt hc2 _ (by simp)).bind fun v c3 hc3 _=> ?_
  rw[if_pos (by simp;omega)]
  exact Drawn.some hc3 (by simp;omega)
 ·split
  ·refine(p_l1PickInt hc2 _ (by simp)).bind fun v c3 hc3 _=> ?_
   rw[if_pos (by simp;omega)]
   exact Drawn.some hc3 (by simp;omega)
  ·exact Drawn.some hc2 (by simp only;omega)
def size_Move(x:TMove):Nat:=x.Cells.length
def size_Atlas(x:TAtlas):Nat:=x.Parts.length+size_Move x.Move
theorem p_spec_MoveRank(x:TMove):∃r,m_spec_MoveRank x=some r∧m_impl_MoveRank x=some r:=by
 unfold m_impl_MoveRank m_spec_MoveRank impl_MoveRank_j2 spec_MoveRank_j2 m_spec_l1Min
 simp only[p_from,p_l1In,Option.bind_some]
 have e:(if 3 < x.Stage then(3:Int) else x.Stage)=if x.Stage < 3 then x.Stage else 3:=by split<;>split<;>omega
 rw[e]
 cases within x.No 1 300000<;>cases within x.Stage 1 4<;>simp
 split<;>simp
def partHas(k:Int)(p:TPart):Bool:=decide (p.Lo≤k)&&decide (k < p.Hi)
def partAt(xs:List TPart)(k:Int):Int:=if partsGood xs=true then idxOf (partHas k) xs else -1
theorem p_spec_PartAt(xs:List TPart)(k:Int)(h:xs.length≤1048576):m_spec_PartAt xs k=some (partAt xs k):=by
 unfold m_spec_PartAt partAt
 cases hg:partsGood xs with
 |true=>
  rw[iter_index xs (partHas k) (by omega) (fun kb i hi=> ?_) (fun kb=> ?_)]
  ·simp
  ·unfold spec_PartAt_b5 spec_PartAt_j11 partHas
   simp only[p_spec_PartsOk _ h,hg,idx_nat hi,Option.bind_some,step1 i _ hi (by omega)]
   rw[if_pos (by omega)]
   by_cases c:xs[i].Lo≤k<;>simp[c]
  ·unfold spec_PartAt_b5
   rw[if_neg (by omega)];rfl
 |false=>
  show iter _ (FU) 0=_
  rw[show FU=(FU - 1)+1 from by unfold FU;omega]
  unfold iter
  unfold spec_PartAt_b5
  simp only[p_spec_PartsOk _ h,hg,Option.bind_some]
  split<;>rfl
theorem idxOf_congr{α:Type}{p q:α→Bool}:∀{xs:List α},(∀x∈xs,p x=q x)→idxOf p xs=idxOf q xs:=by
 intro xs H
 unfold idxOf
 have:xs.findIdx? p= xs.findIdx? q:=by
  induction xs with
  |nil=>rfl
  |cons x xs ih=>
   simp only[List.findIdx?_cons,H x (by simp)]
   rw[ih (fun y hy=>H y (by simp[hy]))]
 rw[this]
theorem p_impl_partAt(xs:List TPart)(k:Int)(h:xs.length≤1048576)(hg:partsGood xs=true):m_impl_partAt xs k=some (partAt xs k):=by
 unfold m_impl_partAt m_slices_IndexFunc_Part__partAt_1 partAt
 rw[iter_index xs (fun p=>within k p.Lo (IntKind.wrap .i64 (p.Hi - 1))) (by omega) (fun kb i hi=> ?_) (fun kb=> ?_)]
 ·simp only[Option.bind_some,hg,if_true]
  congr 1
  refine idxOf_congr fun p hp=> ?_
  obtain⟨i,hi,rfl⟩:=List.mem_iff_getElem.1 hp
  obtain⟨a1,a2,a3,_⟩:=partsGood_at hg hi
  unfold within partHas
  rw[w64 (by omega) (by omega)]
  congr 1
  rw[decide_eq_decide];omega
 ·unfold slices_IndexFunc_Part__partAt_1_b5 m_impl_partAt_1
  simp only[idx_nat hi,p_from,Option.bind_some,step1 i _ hi (by omega)]
  rw[if_pos (by omega)]
 ·unfold slices_IndexFunc_Part__partAt_1_b5
  rw[if_neg (by omega)];rfl
theorem idxOf_idx{α:Type}(p:α→Bool)(xs:List α)(h:¬idxOf p xs < 0):∃x,idx xs (idxOf p xs)=some x:=by
 unfold idxOf at h ⊢
 cases hf:xs.findIdx? p with
 |none=>simp[hf] at h
 |some k=>
  rw[List.findIdx?_eq_some_iff_getElem] at hf
  obtain⟨hk,_⟩:=hf
  exact⟨_,idx_nat hk⟩
theorem atlasOk_facts(a:TAtlas)(h1:a.Parts.length≤1048576)(h2:a.Move.Cells.length≤1048576)(H:m_impl_AtlasOk a=some true):
  partsGood a.Parts=true∧within a.Epoch 0 1000000=true∧within a.Move.No 0 300000=true∧within a.Move.Stage 0 4=true∧(¬a.Move.Stage=0→rangeOk ⟨a.Move.Lo,a.Move.Hi⟩=true):=by
 unfold m_impl_AtlasOk m_impl_moveOk at H
 simp only[impl_moveOk_j2,m_impl_Move_keys,p_from,p_impl_PartsOk _ h1,p_impl_RangeOk,p_isGroup,p_cellsIn _ _ h2,Option.bind_some] at H
 generalize within a.Epoch 0 1000000=w1 at H ⊢
 generalize partsGood a.Parts=w2 at H ⊢
 generalize within a.Move.No 0 300000=w3 at H ⊢
 generalize within a.Move.Stage 0 4=w4 at H ⊢
 generalize rangeOk ⟨a.Move.Lo,a.Move.Hi⟩=w5 at H ⊢
 cases w1<;>simp at H ⊢
 cases w2<;>simp at H ⊢
 cases w3<;>simp at H ⊢
 cases w4<;>simp at H ⊢
 intro g0
 simp only[g0,if_false] at H
 by_cases g1:1≤a.Move.No
 ·cases w5
  ·simp[g1] at H
  ·rfl
 ·simp[g1] at H
def atlas0:TAtlas:=TAtlas.mk 0 [] (TMove.mk 0 0 0 0 0 0 [])
theorem p_l15Copy(a:TAtlas)(h1:a.Parts.length≤1048576)(h2:a.Move.Cells.length≤1048576):m_spec_l15Copy a=some a:=by
 unfold m_spec_l15Copy
 rw[if_pos (by omega),if_pos (by omega)]
theorem p_copyAtlas(a:TAtlas)(h1:a.Parts.length≤1048576)(h2:a.Move.Cells.length≤1048576):m_impl_copyAtlas a=some a:=by
 simp[m_impl_copyAtlas,p_Clone_Part _ h1,p_Clone_Cell _ h2]
def AtlasAns(a:TAtlas)(n:Nat)(x y:Option (TAtlas×Int)):Prop:=∃r:TAtlas×Int,x=some r∧y=some r∧size_Atlas r.1≤size_Atlas a+n
theorem AtlasAns.zero{a:TAtlas}{n:Nat}{z:Int}:AtlasAns a n (some (atlas0,z)) (some (atlas0,z)):=⟨_,rfl,rfl,by simp[size_Atlas,size_Move,atlas0]⟩
theorem AtlasAns.same{a:TAtlas}{n:Nat}{z:Int}:AtlasAns a n (some (a,z)) (some (a,z)):=⟨_,rfl,rfl,by simp⟩
theorem p_AtlasGone(a:TAtlas)(z:Int)(h:size_Atlas a≤1048576):AtlasAns a 0 (m_spec_AtlasGone a z) (m_impl_AtlasGone a z):=by
 have hh:=h
 unfold size_Atlas size_Move at hh
 have h1:a.Parts.length≤1048576:=by omega
 have h2:a.Move.Cells.length≤1048576:=by omega
 obtain⟨b,e1,e2,_⟩:=p_AtlasOk a h1 h2
 obtain⟨r,f1,f2⟩:=p_spec_MoveRank a.Move
 unfold m_spec_AtlasGone m_impl_AtlasGone spec_AtlasGone_j8 impl_AtlasGone_j8
 simp only[e1,e2,p_l15Copy a h1 h2,p_copyAtlas a h1 h2,f1,f2,Option.bind_some]
 cases b with
 |false=>exact AtlasAns.zero
 |true=>
  obtain⟨_,_,_,g,_⟩:=atlasOk_facts a h1 h2 e2
  unfold within at g
  simp only[Bool.and_eq_true,decide_eq_true_eq] at g
  simp only[if_true]
  by_cases c1:a.Move.Stage < 3
  ·rw[if_pos c1,if_pos (by omega),if_pos (by omega)]
   exact AtlasAns.same
  ·rw[if_neg c1]
   have:∀x:Option (TAtlas×Int),(if ¬a.Move.Stage=3 then(if ¬a.Move.Stage=4 then some (a,3) else x) else x)=x:=fun x=>by
    by_cases c2:a.Move.Stage=3
    ·simp[c2]
    ·have:a.Move.Stage=4:=by omega
     simp[this]
   have e:=this (if decide (¬r=z)=true then some (a,3) else some (TAtlas.mk a.Epoch a.Parts (TMove.mk a.Move.No 0 0 0 0 0 []),0))
   rw[e]
   by_cases c3:r=z
   ·simp only[c3,not_true,decide_false,Bool.false_eq_true,if_false]
    exact⟨_,rfl,rfl,by simp[size_Atlas,size_Move]⟩
   ·simp only[c3,not_false_eq_true,decide_true,if_true]
    exact AtlasAns.same
theorem p_AtlasFrozen(a:TAtlas)(z:Int)(xs:List TCell)(h:size_Atlas a≤1048576)(hx:xs.length≤1048576):AtlasAns a xs.length (m_spec_AtlasFrozen a z xs) (m_impl_AtlasFrozen a z xs):=by
 have hh:=h
 unfold size_Atlas size_Move at hh
 have h1:a.Parts.length≤1048576:=by omega
 have h2:a.Move.Cells.length≤1048576:=by omega
 obtain⟨b,e1,e2,_⟩:=p_AtlasOk a h1 h2
 obtain⟨r,f1,f2⟩:=p_spec_MoveRank a.Move
 unfold m_spec_AtlasFrozen m_impl_AtlasFrozen spec_AtlasFrozen_j9 impl_AtlasFrozen_j9 m_impl_Move_keys
 simp only[e1,e2,p_l15Copy a h1 h2,p_copyAtlas a h1 h2,f1,f2,p_spec_StoreOk _ hx,p_l15In _ _ hx,p_cellsIn _ _ hx,p_Clone_Cell _ hx,Option.bind_some]
 rw[if_pos (show xs.length≤2147483648 by omega)]
 cases b with
 |false=>exact AtlasAns.zero
 |true=>
  simp only[if_true]
  by_cases c1:a.Move.Stage=1
  ·by_cases c2:r=z
   ·cases storeGood xs<;>cases xs.all (inB a.Move.Lo a.Move.Hi)<;>simp[c1,c2]<;>first|exact AtlasAns.same|exact⟨_,rfl,rfl,by simp[size_Atlas,size_Move]<;>omega⟩
   ·simp only[c1,c2,not_true,not_false_eq_true,if_true,if_false]
    exact AtlasAns.same
  ·simp only[c1,not_false_eq_true,if_true]
   exact AtlasAns.same
theorem p_AtlasMove(a:TAtlas)(k t:Int)(h:size_Atlas a≤1048576):AtlasAns a 0 (m_spec_AtlasMove a k t) (m_impl_AtlasMove a k t):=by
 have hh:=h
 unfold size_Atlas size_Move at hh
 have h1:a.Parts.length≤1048576:=by omega
 have h2:a.Move.Cells.length≤1048576:=by omega
 obtain⟨b,e1,e2,_⟩:=p_AtlasOk a h1 h2
 unfold m_spec_AtlasMove m_impl_AtlasMove spec_AtlasMove_j12 impl_AtlasMove_j12
 simp only[e1,e2,p_l15Copy a h1 h2,p_copyAtlas a h1 h2,Option.bind_some]
 cases b with
 |false=>exact AtlasAns.zero
 |true=>
  obtain⟨hg,_,_,_,_⟩:=atlasOk_facts a h1 h2 e2
  simp only[if_true,p_spec_PartAt _ k h1,p_impl_partAt _ k h1 hg,Option.bind_some,p_l15Group,p_isGroup]
  by_cases c1:a.Move.Stage=0
  ·simp only[c1,not_true,if_false]
   by_cases c2:partAt a.Parts k < 0
   ·simp only[c2,if_true]
    exact AtlasAns.same
   ·simp only[c2,if_false]
    have hx:∃x,idx a.Parts (partAt a.Parts k)=some x:=by
     unfold partAt at c2 ⊢
     rw[if_pos hg] at c2 ⊢
     exact idxOf_idx _ _ c2
    obtain⟨x,hx⟩:=hx
    simp only[hx,Option.bind_some]
    cases within t 0 3
    ·exact AtlasAns.same
    ·by_cases c3:x.Owner=t
     ·simp only[c3,if_true]
      exact AtlasAns.same
     ·have c3':¬t=x.Owner:=fun e=>c3 e.symm
      simp only[c3,c3',if_true,if_false]
      by_cases c4:a.Move.No=300000
      ·simp only[c4,decide_true,if_true]
       exact AtlasAns.same
      ·simp only[c4,decide_false,Bool.false_eq_true,if_false]
       exact⟨_,rfl,rfl,by simp[size_Atlas,size_Move]⟩
  ·simp only[c1,not_false_eq_true,if_true]
   exact AtlasAns.same
def moved(a:TAtlas)(p:TPart):TPart:=if a.Move.Lo≤p.Lo∧p.Hi≤a.Move.Hi then TPart.mk p.Lo p.Hi a.Move.To else p
theorem p_AtlasInstalled(a:TAtlas)(z:Int)(yes:Bool)(h:size_Atlas a≤1048576):AtlasAns a 0 (m_spec_AtlasInstalled a z yes) (m_impl_AtlasInstalled a z yes):=by
 have hh:=h
 unfold size_Atlas size_Move at hh
 have h1:a.Parts.length≤1048576:=by omega
 have h2:a.Move.Cells.length≤1048576:=by omega
 obtain⟨b,e1,e2,_⟩:=p_AtlasOk a h1 h2
 obtain⟨r,f1,f2⟩:=p_spec_MoveRank a.Move
 unfold m_spec_AtlasInstalled m_impl_AtlasInstalled spec_AtlasInstalled_j9 impl_AtlasInstalled_j9
 simp only[e1,e2,p_l15Copy a h1 h2,p_copyAtlas a h1 h2,f1,f2,Option.bind_some]
 cases b with
 |false=>exact AtlasAns.zero
 |true=>
  obtain⟨hg,_,_,_,hr⟩:=atlasOk_facts a h1 h2 e2
  simp only[if_true]
  by_cases c1:a.Move.Stage=2
  ·have hr:=hr (by omega)
   have s1:iter (spec_AtlasInstalled_b15 a (spec_AtlasInstalled_j13 a)) FU (0,a.Parts)=some ((TAtlas.mk (IntKind.wrap .i64 (a.Epoch+1)) (a.Parts.map (moved a)) (TMove.mk a.Move.No 3 a.Move.Lo a.Move.Hi a.Move.From a.Move.To [])),0):=by
    refine iter_all (fun i=>((i:Int),rowF (moved a) a.Parts i)) _ a.Parts.length (by omega) (fun kb i hi=> ?_) (fun kb=> ?_) (by simp[rowF_zero])
    ·unfold spec_AtlasInstalled_b15 spec_AtlasInstalled_j18
     simp only[rowF_len,rowF_idx (moved a) hi,Option.bind_some,step1 i _ hi (by omega),Int.toNat_natCast]
     rw[if_pos (by omega)]
     by_cases d1:a.Move.Lo≤a.Parts[i].Lo
     ·by_cases d2:a.Parts[i].Hi≤a.Move.Hi
      ·have e:moved a a.Parts[i]=TPart.mk a.Parts[i].Lo a.Parts[i].Hi a.Move.To:=by unfold moved;rw[if_pos ⟨d1,d2⟩]
       simp only[d1,d2,decide_true,if_true,←e,rowF_set (moved a) hi]
      ·have e:moved a a.Parts[i]=a.Parts[i]:=by unfold moved;rw[if_neg (fun x=>d2 x.2)]
       simp only[d1,d2,decide_false,if_true,Bool.false_eq_true,if_false,rowF_same (moved a) hi e]
     ·have e:moved a a.Parts[i]=a.Parts[i]:=by unfold moved;rw[if_neg (fun x=>d1 x.1)]
      simp only[d1,Bool.false_eq_true,if_false,rowF_same (moved a) hi e]
    ·unfold spec_AtlasInstalled_b15 spec_AtlasInstalled_j13
     simp only[rowF_len]
     rw[if_neg (by omega),rowF_all]
   have s2:iter (impl_AtlasInstalled_b15 a a (impl_AtlasInstalled_j13 a)) FU (a.Parts,0)=some ((TAtlas.mk (IntKind.wrap .i64 (a.Epoch+1)) (a.Parts.map (moved a)) (TMove.mk a.Move.No 3 a.Move.Lo a.Move.Hi a.Move.From a.Move.To [])),0):=by
    refine iter_all (fun i=>(rowF (moved a) a.Parts i,(i:Int))) _ a.Parts.length (by omega) (fun kb i hi=> ?_) (fun kb=> ?_) (by simp[rowF_zero])
    ·unfold impl_AtlasInstalled_b15 m_impl_Move_keys m_impl_RangeIn
     obtain⟨q1,q2,q3,_,_⟩:=partsGood_at hg hi
     have q:rangeOk ⟨a.Parts[i].Lo,a.Parts[i].Hi⟩=true:=by unfold rangeOk;simp[q1,q2,q3]
     simp only[List.length_map,rowF_idx (moved a) hi,Option.bind_some,step1 i _ hi (by omega),Int.toNat_natCast,p_impl_RangeOk,q,hr,if_true]
     rw[if_pos (by omega)]
     by_cases d1:a.Move.Lo≤a.Parts[i].Lo
     ·by_cases d2:a.Parts[i].Hi≤a.Move.Hi
      ·have e:moved a a.Parts[i]=TPart.mk a.Parts[i].Lo a.Parts[i].Hi a.Move.To:=by unfold moved;rw[if_pos ⟨d1,d2⟩]
       simp only[d1,d2,decide_true,if_true,←e,rowF_set (moved a) hi,Option.bind_some]
      ·have e:moved a a.Parts[i]=a.Parts[i]:=by unfold moved;rw[if_neg (fun x=>d2 x.2)]
       simp only[d1,d2,decide_false,if_true,Bool.false_eq_true,if_false,rowF_same (moved a) hi e,Option.bind_some]
     ·have e:moved a a.Parts[i]=a.Parts[i]:=by unfold moved;rw[if_neg (fun x=>d1 x.1)]
      simp only[d1,Bool.false_eq_true,if_false,rowF_same (moved a) hi e,Option.bind_some]
    ·unfold impl_AtlasInstalled_b15 impl_AtlasInstalled_j13
     simp only[List.length_map]
     rw[if_neg (by omega),rowF_all]
   by_cases c2:r=z
   ·cases yes with
    |false=>
     simp only[c1,c2,not_true,if_false,Bool.false_eq_true]
     exact⟨_,rfl,rfl,by simp[size_Atlas,size_Move]⟩
    |true=>
     simp only[c1,c2,not_true,if_false,if_true]
     by_cases c3:a.Epoch=1000000
     ·simp only[c3,decide_true,if_true]
      exact AtlasAns.same
     ·simp only[c3,decide_false,Bool.false_eq_true,if_false,s1,s2]
      exact⟨_,rfl,rfl,by simp[size_Atlas,size_Move]⟩
   ·simp only[c1,c2,not_true,not_false_eq_true,if_true,if_false]
    exact AtlasAns.same
  ·simp only[c1,not_false_eq_true,if_true]
   exact AtlasAns.same
theorem p_impl_PartAt(xs:List TPart)(k:Int)(h:xs.length≤1048576):m_impl_PartAt xs k=some (partAt xs k):=by
 unfold m_impl_PartAt
 simp only[p_impl_PartsOk _ h,Option.bind_some]
 cases hg:partsGood xs with
 |true=>simp only[if_true,p_impl_partAt _ _ h hg,Option.bind_some]
 |false=>unfold partAt;simp[hg]
theorem partAt_nat(xs:List TPart)(k:Int)(h:¬partAt xs k < 0):∃n:Nat,n < xs.length∧partAt xs k=(n:Int)∧partsGood xs=true:=by
 unfold partAt at h ⊢
 cases hg:partsGood xs with
 |false=>simp[hg] at h
 |true=>
  simp only[hg,if_true] at h ⊢
  unfold idxOf at h ⊢
  cases hf:xs.findIdx? (partHas k) with
  |none=>simp[hf] at h
  |some n=>
   rw[List.findIdx?_eq_some_iff_getElem] at hf
   exact⟨n,hf.1,rfl,trivial⟩
def cutIn(xs:List TPart)(v:Nat)(k:Int):List TPart:=match xs[v]? with
 |some p=>xs.take v++([TPart.mk p.Lo k p.Owner,TPart.mk k p.Hi p.Owner]++xs.drop (v+1))
 |none=>[]
def cutF(xs:List TPart)(v:Nat)(k:Int):Nat→List TPart
 |0=>[]
 |i+1=>cutF xs v k i++match xs[i]? with
  |some p=>if i=v then[TPart.mk p.Lo k p.Owner,TPart.mk k p.Hi p.Owner] else[p]
  |none=>[]
theorem cutF_len(xs:List TPart)(v:Nat)(k:Int):∀i,(cutF xs v k i).length≤2 * i
 |0=>by simp[cutF]
 |i+1=>by
  have ih:=cutF_len xs v k i
  simp only[cutF,List.length_append]
  cases xs[i]? with
  |none=>simp;omega
  |some p=>simp only;split<;>simp<;>omega
theorem cutF_lo(xs:List TPart)(v:Nat)(k:Int):∀i,i≤v→i≤xs.length→cutF xs v k i=xs.take i
 |0,_,_=>by simp[cutF]
 |i+1,h1,h2=>by
  have hi:i < xs.length:=by omega
  rw[cutF,cutF_lo xs v k i (by omega) (by omega),List.getElem?_eq_getElem hi]
  simp only
  rw[if_neg (by omega),List.take_succ_eq_append_getElem hi]
theorem cutF_hi(xs:List TPart)(v:Nat)(k:Int)(hv:v < xs.length):∀j,v+1+j≤xs.length→cutF xs v k (v+1+j)=xs.take v++([TPart.mk xs[v].Lo k xs[v].Owner,TPart.mk k xs[v].Hi xs[v].Owner]++(xs.drop (v+1)).take j)
 |0,_=>by
  rw[Nat.add_zero,cutF,cutF_lo xs v k v (Nat.le_refl _) (by omega),List.getElem?_eq_getElem hv]
  simp
 |j+1,h=>by
  have hi:v+1+j < xs.length:=by omega
  rw[show v+1+(j+1)=(v+1+j)+1 by omega,cutF,cutF_hi xs v k hv j (by omega),List.getElem?_eq_getElem hi]
  simp only
  rw[if_neg (by omega)]
  have hd:j < (xs.drop (v+1)).length:=by simp;omega
  rw[List.take_succ_eq_append_getElem hd,List.getElem_drop]
  simp
theorem cutF_all(xs:List TPart)(v:Nat)(k:Int)(hv:v < xs.length):cutF xs v k xs.length=cutIn xs v k:=by
 have:=cutF_hi xs v k hv (xs.length - (v+1)) (by omega)
 rw[show v+1+(xs.length - (v+1))=xs.length by omega] at this
 rw[this]
 unfold cutIn
 rw[List.getElem?_eq_getElem hv]
 simp only
 rw[show(xs.drop (v+1)).take (xs.length - (v+1))=xs.drop (v+1) from List.take_of_length_le (by rw[List.length_drop];exact Nat.le_refl _)]
theorem cutIn_len(xs:List TPart)(v:Nat)(k:Int):(cutIn xs v k).length≤xs.length+1:=by
 unfold cutIn
 cases h:xs[v]? with
 |none=>simp
 |some p=>
  have:=(List.getElem?_eq_some_iff.1 h).1
  simp;omega
def splitAt(xs:List TPart)(k:Int):List TPart×Bool:=
 if partAt xs k < 0 then([],false) else
 match xs[(partAt xs k).toNat]? with
 |some p=>if p.Lo=k then([],false) else if (xs.length:Int)=16 then([],false) else(cutIn xs (partAt xs k).toNat k,true)
 |none=>([],false)
theorem p_spec_SplitAt(xs:List TPart)(k:Int)(h:xs.length≤1048576):m_spec_SplitAt xs k=some (splitAt xs k):=by
 unfold m_spec_SplitAt splitAt
 simp only[p_spec_PartAt _ _ h,Option.bind_some]
 by_cases c1:partAt xs k < 0
 ·rw[if_pos c1,if_pos c1];rfl
 ·rw[if_neg c1,if_neg c1]
  obtain⟨v,hv,e,_⟩:=partAt_nat xs k c1
  simp only[e,Int.toNat_natCast,List.getElem?_eq_getElem hv,idx_nat hv,Option.bind_some]
  by_cases c2:xs[v].Lo=k
  ·rw[if_pos c2,if_pos c2];rfl
  ·rw[if_neg c2,if_neg c2]
   by_cases c3:(xs.length:Int)=16
   ·simp only[c3,decide_true,if_true];rfl
   ·simp only[c3,decide_false,if_false]
    unfold spec_SplitAt_j5
    rw[if_neg (by simp)]
    refine iter_all (fun i=>(cutF xs v k i,(i:Int))) _ xs.length (by omega) (fun kb i hi=> ?_) (fun kb=> ?_) rfl
    ·have hl:=cutF_len xs v k i
     unfold spec_SplitAt_b10 spec_SplitAt_j15
     simp only[idx_nat hi,Option.bind_some,step1 i _ hi (by omega),cutF,List.getElem?_eq_getElem hi]
     rw[if_pos (by omega)]
     by_cases c:i=v
     ·subst c
      simp only[if_true]
      rw[if_pos (by simp;omega),if_pos (by simp;omega)]
      simp
     ·rw[if_neg (by omega),if_neg c,if_pos (by simp;omega)]
    ·unfold spec_SplitAt_b10 spec_SplitAt_j8
     rw[if_neg (by simp)]
     simp only[cutF_all xs v k hv]
theorem p_impl_SplitAt(xs:List TPart)(k:Int)(h:xs.length≤1048576):m_impl_SplitAt xs k=some (splitAt xs k):=by
 unfold m_impl_SplitAt splitAt
 simp only[p_impl_PartAt _ _ h,Option.bind_some]
 by_cases c1:partAt xs k < 0
 ·rw[if_pos c1,if_pos c1];rfl
 ·rw[if_neg c1,if_neg c1]
  obtain⟨v,hv,e,_⟩:=partAt_nat xs k c1
  simp only[e,Int.toNat_natCast,List.getElem?_eq_getElem hv,idx_nat hv,Option.bind_some]
  by_cases c2:xs[v].Lo=k
  ·rw[if_pos c2,if_pos c2];rfl
  ·rw[if_neg c2,if_neg c2]
   by_cases c3:(xs.length:Int)=16
   ·simp only[c3,decide_true,if_true];rfl
   ·simp only[c3,decide_false,if_false]
    unfold impl_SplitAt_j5 m_slices_Insert_Part
    rw[if_neg (by simp)]
    simp only[p_Clone_Part _ h,Option.bind_some,idx_nat hv,step1 v _ hv (by omega)]
    rw[if_pos ⟨by omega,by omega,rfl,by omega⟩]
    simp only[Option.bind_some,Int.toNat_natCast]
    rw[List.take_succ_eq_append_getElem hv]
    have hr:xs.take v++[xs[v]]++([TPart.mk k xs[v].Hi xs[v].Owner]++xs.drop (v+1))=xs.take v++(xs[v]::([TPart.mk k xs[v].Hi xs[v].Owner]++xs.drop (v+1))):=by rw[List.append_assoc];rfl
    have hl:(xs.take v).length=v:=by simp;omega
    have hx:idx (xs.take v++(xs[v]::([TPart.mk k xs[v].Hi xs[v].Owner]++xs.drop (v+1)))) (v:Int)=some xs[v]:=by
     have hi:v < (xs.take v++(xs[v]::([TPart.mk k xs[v].Hi xs[v].Owner]++xs.drop (v+1)))).length:=by simp;omega
     rw[idx_nat hi,List.getElem_append_right (by omega)]
     simp[hl]
    rw[hr,hx]
    simp only[Option.bind_some]
    congr 2
    rw[List.set_append_right _ _ (by omega),hl,Nat.sub_self]
    unfold cutIn
    rw[List.getElem?_eq_getElem hv]
    simp
theorem p_AtlasSplit(a:TAtlas)(k:Int)(h:size_Atlas a≤1048576):AtlasAns a 1 (m_spec_AtlasSplit a k) (m_impl_AtlasSplit a k)∧∀r,m_impl_AtlasSplit a k=some r→r.1.Parts.length≤1048576∧r.1.Move.Cells.length≤1048576:=by
 have hh:=h
 unfold size_Atlas size_Move at hh
 have h1:a.Parts.length≤1048576:=by omega
 have h2:a.Move.Cells.length≤1048576:=by omega
 obtain⟨b,e1,e2,_⟩:=p_AtlasOk a h1 h2
 unfold m_spec_AtlasSplit m_impl_AtlasSplit
 simp only[e1,e2,p_l15Copy a h1 h2,p_copyAtlas a h1 h2,Option.bind_some]
 cases b with
 |false=>exact⟨AtlasAns.zero,fun r hr=>by cases hr;simp⟩
 |true=>
  obtain⟨hg,_,_,_,_⟩:=atlasOk_facts a h1 h2 e2
  simp only[if_true,p_spec_SplitAt _ k h1,p_impl_SplitAt _ k h1,Option.bind_some]
  have hs:(splitAt a.Parts k).1.length≤a.Parts.length+1:=by
   unfold splitAt
   split
   ·simp
   ·split
    ·split
     ·simp
     ·split
      ·simp
      ·exact cutIn_len _ _ _
    ·simp
  have hp:a.Parts.length≤16:=by
   unfold partsGood within at hg
   simp only[Bool.and_eq_true,decide_eq_true_eq] at hg
   omega
  generalize splitAt a.Parts k=sp at hs
  obtain⟨ps,ok⟩:=sp
  simp only at hs
  unfold spec_AtlasSplit_j10 impl_AtlasSplit_j10
  cases ok with
  |false=>
   simp only[Bool.false_eq_true,if_false,if_true]
   exact⟨AtlasAns.same,fun r hr=>by cases hr;exact⟨h1,h2⟩⟩
  |true=>
   simp only[if_true]
   by_cases c:a.Epoch=1000000
   ·simp only[c,decide_true,if_true]
    exact⟨AtlasAns.same,fun r hr=>by cases hr;exact⟨h1,h2⟩⟩
   ·simp only[c,decide_false,Bool.false_eq_true,if_false]
    refine⟨⟨_,rfl,rfl,?_⟩,fun r hr=>by cases hr;exact⟨by simp only;omega,h2⟩⟩
    simp[size_Atlas,size_Move]
    omega
def chain:Int→List TPart→Int→Prop
 |lo,[],hi=>lo=hi
 |lo,p::ps,hi=>p.Lo=lo∧p.Lo < p.Hi∧within p.Owner 0 3=true∧chain p.Hi ps hi
def hiFrom(lo:Int)(xs:List TPart):Nat→Int
 |0=>lo
 |i+1=>match xs[i]? with
  |some p=>p.Hi
  |none=>0
theorem hiFrom_cons(lo:Int)(p:TPart)(xs:List TPart)(i:Nat):hiFrom lo (p::xs) (i+1)=hiFrom p.Hi xs i:=by
 cases i with
 |zero=>rfl
 |succ i=>simp[hiFrom]
theorem chain_iff:∀(xs:List TPart) (lo hi:Int),chain lo xs hi↔(∀i (h:i < xs.length),xs[i].Lo=hiFrom lo xs i∧xs[i].Lo < xs[i].Hi∧within xs[i].Owner 0 3=true)∧hiFrom lo xs xs.length=hi
 |[],lo,hi=>by simp[chain,hiFrom]
 |p::xs,lo,hi=>by
  simp only[chain,chain_iff xs p.Hi hi,List.length_cons,hiFrom_cons]
  constructor
  ·rintro⟨h1,h2,h3,h4,h5⟩
   refine⟨fun i hi'=> ?_,h5⟩
   cases i with
   |zero=>exact⟨h1,h2,h3⟩
   |succ i=>rw[hiFrom_cons];exact h4 i (by simpa using hi')
  ·rintro⟨h1,h5⟩
   have h0:=h1 0 (by simp)
   refine⟨h0.1,h0.2.1,h0.2.2,fun i hi'=> ?_,h5⟩
   have:=h1 (i+1) (by simp;omega)
   rw[hiFrom_cons] at this
   exact this
theorem hiAt_from(xs:List TPart)(i:Nat):hiAt xs i=hiFrom 0 xs i:=by cases i<;>rfl
theorem partsGood_iff(xs:List TPart):partsGood xs=true↔(1≤xs.length∧xs.length≤16)∧chain 0 xs 1000:=by
 rw[chain_iff]
 unfold partsGood within
 simp only[Bool.and_eq_true,decide_eq_true_eq,List.all_eq_true,List.mem_range,hiAt_from]
 constructor
 ·rintro⟨⟨⟨h1,h2⟩,h3⟩,h4⟩
  refine⟨⟨by omega,by omega⟩,fun i hi=> ?_,h3⟩
  have:=h4 i hi
  unfold partGood at this
  rw[List.getElem?_eq_getElem hi] at this
  simp only[Bool.and_eq_true,decide_eq_true_eq,hiAt_from] at this
  exact⟨this.1.1,this.1.2,by simpa[within] using this.2⟩
 ·rintro⟨⟨h1,h2⟩,h3,h4⟩
  refine⟨⟨⟨by omega,by omega⟩,h4⟩,fun i hi=> ?_⟩
  unfold partGood
  rw[List.getElem?_eq_getElem hi]
  simp only[Bool.and_eq_true,decide_eq_true_eq,hiAt_from]
  have:=h3 i hi
  exact⟨⟨this.1,this.2.1⟩,by simpa[within] using this.2.2⟩
theorem chain_append:∀(xs ys:List TPart) (lo hi:Int),chain lo (xs++ys) hi↔∃mid,chain lo xs mid∧chain mid ys hi
 |[],ys,lo,hi=>by simp[chain]
 |p::xs,ys,lo,hi=>by
  simp only[List.cons_append,chain,chain_append xs ys]
  constructor
  ·rintro⟨h1,h2,h3,mid,h4,h5⟩;exact⟨mid,⟨h1,h2,h3,h4⟩,h5⟩
  ·rintro⟨mid,⟨h1,h2,h3,h4⟩,h5⟩;exact⟨h1,h2,h3,mid,h4,h5⟩
theorem chain_le:∀(xs:List TPart) (lo hi:Int),chain lo xs hi→lo≤hi
 |[],lo,hi,h=>by simp only[chain] at h;omega
 |p::xs,lo,hi,h=>by
  obtain⟨h1,h2,_,h3⟩:=h
  have:=chain_le xs _ _ h3
  omega
def ownAt(xs:List TPart)(k:Int):Int:=match xs.find? (partHas k) with
 |some p=>p.Owner
 |none=>-1
theorem ownAt_idx(xs:List TPart)(k:Int):(if idxOf (partHas k) xs < 0 then some (-1) else(idx xs (idxOf (partHas k) xs)).bind fun v=>some v.Owner)=some (ownAt xs k):=by
 unfold idxOf ownAt
 cases hf:xs.findIdx? (partHas k) with
 |none=>
  have:xs.find? (partHas k)=none:=by
   rw[List.findIdx?_eq_none_iff] at hf
   rw[List.find?_eq_none]
   intro x hx;simp[hf x hx]
  simp[this]
 |some n=>
  rw[List.findIdx?_eq_some_iff_getElem] at hf
  obtain⟨hn,h1,h2⟩:=hf
  have:xs.find? (partHas k)=some xs[n]:=by
   rw[List.find?_eq_some_iff_getElem]
   exact⟨h1,n,hn,rfl,fun j hj=>by simpa using h2 j hj⟩
  simp only[this]
  rw[if_neg (by omega),idx_nat hn]
  rfl
theorem ownAt_append(xs ys:List TPart)(k:Int)(q:TPart→Int):ownAt (xs++ys) k=match xs.find? (partHas k) with|some p=>p.Owner|none=>ownAt ys k:=by
 unfold ownAt
 rw[List.find?_append]
 cases xs.find? (partHas k)<;>rfl
theorem ownAt_cons(p:TPart)(xs:List TPart)(k:Int):ownAt (p::xs) k=if p.Lo≤k∧k < p.Hi then p.Owner else ownAt xs k:=by
 unfold ownAt
 rw[List.find?_cons]
 by_cases h:p.Lo≤k∧k < p.Hi
 ·have:partHas k p=true:=by simp[partHas,h.1,h.2]
  rw[this,if_pos h]
 ·have:partHas k p=false:=by
   unfold partHas
   rw[Bool.eq_false_iff]
   intro h'
   simp only[Bool.and_eq_true,decide_eq_true_eq] at h'
   exact h h'
  rw[this,if_neg h]
theorem cutIn_split{xs:List TPart}{v:Nat}(hv:v < xs.length)(k:Int):xs=xs.take v++(xs[v]::xs.drop (v+1))∧cutIn xs v k=xs.take v++(TPart.mk xs[v].Lo k xs[v].Owner::TPart.mk k xs[v].Hi xs[v].Owner::xs.drop (v+1)):=by
 constructor
 ·rw[←List.drop_eq_getElem_cons hv,List.take_append_drop]
 ·unfold cutIn
  rw[List.getElem?_eq_getElem hv]
  rfl
theorem cutIn_own{xs:List TPart}{v:Nat}(hv:v < xs.length){k:Int}(h1:xs[v].Lo≤k)(h2:k≤xs[v].Hi)(z:Int):ownAt (cutIn xs v k) z=ownAt xs z:=by
 obtain⟨e1,e2⟩:=cutIn_split hv k
 rw[e2,ownAt_append _ _ _ (fun p=>p.Owner)]
 conv=>rhs;rw[e1]
 rw[ownAt_append _ _ _ (fun p=>p.Owner)]
 cases(xs.take v).find? (partHas z) with
 |some p=>rfl
 |none=>
  simp only[ownAt_cons]
  by_cases c1:xs[v].Lo≤z∧z < k
  ·rw[if_pos c1,if_pos ⟨c1.1,by omega⟩]
  ·rw[if_neg c1]
   by_cases c2:k≤z∧z < xs[v].Hi
   ·rw[if_pos c2,if_pos ⟨by omega,c2.2⟩]
   ·rw[if_neg c2,if_neg (by omega)]
theorem cutIn_chain{xs:List TPart}{v:Nat}(hv:v < xs.length){k lo hi:Int}(h1:xs[v].Lo < k)(h2:k < xs[v].Hi)(h:chain lo xs hi):chain lo (cutIn xs v k) hi:=by
 obtain⟨e1,e2⟩:=cutIn_split hv k
 rw[e1,chain_append] at h
 obtain⟨mid,h3,h4,h5,h6,h7⟩:=h
 rw[e2,chain_append]
 exact⟨mid,h3,h4,h1,h6,rfl,h2,h6,h7⟩
theorem cutIn_length{xs:List TPart}{v:Nat}(hv:v < xs.length)(k:Int):(cutIn xs v k).length=xs.length+1:=by
 obtain⟨_,e2⟩:=cutIn_split hv k
 rw[e2]
 simp
 omega
theorem splitAt_ok{xs:List TPart}{k:Int}{ps:List TPart}(h:splitAt xs k=(ps,true)):partsGood xs=true∧partsGood ps=true∧ps.length=xs.length+1∧∀z,ownAt ps z=ownAt xs z:=by
 unfold splitAt at h
 split at h
 ·cases h
 rename_i c1
 obtain⟨v,hv,e,hg⟩:=partAt_nat xs k c1
 have hk:xs[v].Lo≤k∧k < xs[v].Hi:=by
  unfold partAt at e
  rw[if_pos hg] at e
  unfold idxOf at e
  cases hf:xs.findIdx? (partHas k) with
  |none=>rw[hf] at e;simp at e
  |some n=>
   rw[hf] at e
   simp only at e
   have:n=v:=by omega
   subst this
   rw[List.findIdx?_eq_some_iff_getElem] at hf
   have:=hf.2.1
   simp only[partHas,Bool.and_eq_true,decide_eq_true_eq] at this
   exact this
 rw[e] at h
 simp only[Int.toNat_natCast,List.getElem?_eq_getElem hv] at h
 split at h
 ·cases h
 rename_i c2
 split at h
 ·cases h
 rename_i c3
 cases h
 obtain⟨⟨l1,l2⟩,hc⟩:=(partsGood_iff xs).1 hg
 refine⟨hg,(partsGood_iff _).2 ⟨?_,cutIn_chain hv (by omega) hk.2 hc⟩,cutIn_length hv k,fun z=>cutIn_own hv hk.1 (by omega) z⟩
 rw[cutIn_length hv k]
 omega
theorem chain_find:∀(xs:List TPart) (lo hi k:Int),chain lo xs hi→lo≤k→k < hi→xs.any (partHas k)=true
 |[],lo,hi,k,h,h1,h2=>by simp only[chain] at h;omega
 |p::xs,lo,hi,k,h,h1,h2=>by
  obtain⟨e1,e2,_,e3⟩:=h
  simp only[List.any_cons,Bool.or_eq_true]
  by_cases c:k < p.Hi
  ·exact .inl (by simp[partHas,c];omega)
  ·exact .inr (chain_find xs _ _ k e3 (by omega) h2)
theorem partAt_in{xs:List TPart}(hg:partsGood xs=true){k:Int}(h1:0≤k)(h2:k < 1000):∃n:Nat,n < xs.length∧partAt xs k=(n:Int):=by
 have ha:=chain_find xs 0 1000 k ((partsGood_iff xs).1 hg).2 h1 h2
 have:¬partAt xs k < 0:=by
  unfold partAt
  rw[if_pos hg]
  have:=idxOf_nonneg (partHas k) xs
  rw[ha] at this
  have:=of_decide_eq_true this
  omega
 obtain⟨n,h3,h4,_⟩:=partAt_nat xs k this
 exact⟨n,h3,h4⟩
theorem set_chain{xs:List TPart}{v:Nat}(hv:v < xs.length){lo hi o:Int}(ho:within o 0 3=true)(h:chain lo xs hi):chain lo (xs.set v (TPart.mk xs[v].Lo xs[v].Hi o)) hi:=by
 have e1:=(cutIn_split hv 0).1
 have e2:xs.set v (TPart.mk xs[v].Lo xs[v].Hi o)=xs.take v++(TPart.mk xs[v].Lo xs[v].Hi o::xs.drop (v+1)):=by
  rw[List.set_eq_take_append_cons_drop,if_pos hv]
 rw[e2,chain_append]
 rw[e1,chain_append] at h
 obtain⟨mid,h1,h2,h3,_,h4⟩:=h
 exact⟨mid,h1,h2,h3,ho,h4⟩
theorem p_GiveTo_in{xs:List TPart}(hg:partsGood xs=true){k o:Int}(h1:0≤k)(h2:k < 1000)(ho:within o 0 3=true):∃ys b,m_spec_GiveTo xs k o=some (ys,b)∧partsGood ys=true:=by
 obtain⟨⟨l1,l2⟩,hc⟩:=(partsGood_iff xs).1 hg
 obtain⟨n,hn,e⟩:=partAt_in hg h1 h2
 unfold m_spec_GiveTo spec_GiveTo_j6
 simp only[p_spec_PartAt _ _ (show xs.length≤1048576 by omega),e,p_l1In,Option.bind_some,ho,idx_nat hn,Int.toNat_natCast]
 rw[if_neg (by omega)]
 simp only[Bool.not_true,Bool.false_eq_true,if_false]
 rw[if_pos (by omega)]
 exact⟨_,_,rfl,(partsGood_iff _).2 ⟨by simp only[List.length_set];omega,set_chain hn ho hc⟩⟩
theorem within4{x:Int}(h1:0≤x)(h2:x < 4):within x 0 3=true:=by
 unfold within
 simp only[Bool.and_eq_true,decide_eq_true_eq]
 omega
theorem p_l10DrawParts{cb:List Int}{c:Int×Int}(h:goodC cb c):Drawn cb (fun xs=>partsGood xs=true) (m_spec_l10DrawParts cb c):=by
 have loop:∀(n:Nat) (o:Int) (c:Int×Int) (q:Int×(Int×Int)),n≤100→q.1=o→0≤o→o < 4→goodC cb c→Drawn cb (fun xs=>partsGood xs=true) (spec_l10DrawParts_j7 cb q ((n:Int),c.1,c.2)):=by
  intro n o c q hn hq ho1 ho2 hc
  unfold spec_l10DrawParts_j7
  refine iter_inv (fun i s=>partsGood s.1=true∧s.2.1=(i:Int)∧goodC cb s.2.2) n (by omega) ⟨?_,rfl,hc⟩ (Drawn cb (fun xs=>partsGood xs=true)) (fun i hi s ⟨h1,h2,h3⟩ kb=> ?_) (fun s ⟨h1,h2,h3⟩ kb=> ?_)
  ·rw[hq]
   have:=within4 ho1 ho2
   rw[partsGood_iff]
   exact⟨by simp,by simp[chain,this]⟩
  ·unfold spec_l10DrawParts_b11
   simp only[h2]
   rw[if_pos (by omega)]
   obtain⟨k,c1,e1,hc1,k1,k2,_⟩:=p_l1Below h3 40
   have k2:=k2 (by omega)
   simp only[e1,Option.bind_some]
   have hl:=((partsGood_iff _).1 h1).1
   rw[p_spec_SplitAt _ _ (by omega)]
   simp only[Option.bind_some]
   have rest:∀xs:List TPart,partsGood xs=true→∃s':List TPart×Int×Int×Int,(partsGood s'.1=true∧s'.2.1=((i+1:Nat):Int)∧goodC cb s'.2.2)∧spec_l10DrawParts_j18 cb (k,c1) kb s xs=kb s':=by
    intro xs hxs
    unfold spec_l10DrawParts_j18
    obtain⟨g,c2,e2,hc2,g1,g2,_⟩:=p_l1Below hc1 4
    obtain⟨ys,b,e3,hys⟩:=p_GiveTo_in hxs k1 (show k < 1000 by omega) (within4 g1 (g2 (by omega)))
    simp only[e2,e3,Option.bind_some,h2,step1 i _ hi (by omega)]
    exact⟨_,⟨hys,rfl,hc2⟩,rfl⟩
   cases hs:splitAt s.1 k with
   |mk ps ok=>
    cases ok with
    |true=>exact rest ps (splitAt_ok hs).2.1
    |false=>exact rest s.1 h1
  ·unfold spec_l10DrawParts_b11 spec_l10DrawParts_j9
   simp only[h2]
   rw[if_neg (by omega)]
   exact Drawn.some h3 h1
 unfold m_spec_l10DrawParts
 refine(p_l1Below h 4).bind fun o c1 hc1 ⟨o1,o2,_⟩=>(p_l1Below hc1 6).bind fun n c2 hc2 ⟨n1,n2,_⟩=>(p_l1Once hc2 20).bind fun b c3 hc3 _=> ?_
 have o2:=o2 (by omega)
 have n2:=n2 (by omega)
 obtain⟨k,rfl⟩:∃k:Nat,n=(k:Int):=⟨n.toNat,by omega⟩
 split
 ·exact loop 40 o c3 _ (by omega) rfl o1 o2 hc3
 ·exact loop k o c3 _ (by omega) rfl o1 o2 hc3
theorem p_l10DrawAny{cb:List Int}{c:Int×Int}(h:goodC cb c):Drawn cb (fun xs=>xs.length≤16) (m_spec_l10DrawAny cb c):=by
 unfold m_spec_l10DrawAny
 refine(p_l10DrawParts h).bind fun xs c1 hc1 hg=>(p_l1Below hc1 _).bind fun i c2 hc2 ⟨i1,i2,_⟩=>(p_l1Below hc2 25).bind fun z c3 hc3 _=> ?_
 obtain⟨⟨l1,l2⟩,_⟩:=(partsGood_iff xs).1 hg
 have i2:i < (xs.length:Int):=i2 (by show 0 < (xs.length:Int);omega)
 obtain⟨n,rfl⟩:∃n:Nat,i=(n:Int):=⟨i.toNat,by omega⟩
 have hn:n < xs.length:=by omega
 simp only[idx_nat hn,Option.bind_some,Int.toNat_natCast]
 split
 ·exact Drawn.some hc3 (by simp only[List.length_set];omega)
 ·split
  ·refine(p_l1PickInt hc3 _ (by simp)).bind fun v c4 hc4 _=> ?_
   exact Drawn.some hc4 (by simp only[List.length_set];omega)
  ·split
   ·rw[if_pos ⟨by omega,by omega,by omega⟩]
    exact Drawn.some hc3 (by simp only[List.length_take];omega)
   ·split
    ·exact Drawn.some hc3 (by simp only[List.length_set];omega)
    ·exact Drawn.some hc3 l2
theorem p_l10DrawKey{cb:List Int}{c:Int×Int}(h:goodC cb c):Drawn cb (fun x=>-1≤x∧x≤1000) (m_spec_l10DrawKey cb c):=by
 unfold m_spec_l10DrawKey
 refine(p_l1Once h 12).bind fun b c1 hc1 _=> ?_
 simp only
 split
 ·refine(p_l1PickInt hc1 _ (by simp)).bind fun v c2 hc2 hv=>Drawn.some hc2 ?_
  simp at hv
  omega
 ·refine(p_l1Below hc1 45).bind fun v c2 hc2 ⟨v1,v2,_⟩=>Drawn.some hc2 ?_
  have:=v2 (by omega)
  simp only
  omega
def atlasOk(a:TAtlas):Bool:=(m_impl_AtlasOk a).getD false
def moveOkB(m:TMove):Bool:=(m_impl_moveOk m).getD false
theorem p_atlasOk(a:TAtlas)(h1:a.Parts.length≤1048576)(h2:a.Move.Cells.length≤1048576):m_spec_AtlasOk a=some (atlasOk a)∧m_impl_AtlasOk a=some (atlasOk a)∧(atlasOk a=true→partsGood a.Parts=true):=by
 obtain⟨r,e1,e2,e3⟩:=p_AtlasOk a h1 h2
 have:atlasOk a=r:=by unfold atlasOk;rw[e2];rfl
 rw[this]
 exact⟨e1,e2,e3⟩
theorem atlasOk_eq(a:TAtlas)(h1:a.Parts.length≤1048576)(h2:a.Move.Cells.length≤1048576)(hm:∃b,m_impl_moveOk a.Move=some b):atlasOk a=(within a.Epoch 0 1000000&&partsGood a.Parts&&moveOkB a.Move):=by
 obtain⟨b,hb⟩:=hm
 unfold atlasOk moveOkB m_impl_AtlasOk
 simp only[p_from,p_impl_PartsOk _ h1,hb,Option.bind_some]
 cases within a.Epoch 0 1000000<;>cases partsGood a.Parts<;>simp
theorem moveOk_some(m:TMove)(h2:m.Cells.length≤1048576):∃b,m_impl_moveOk m=some b:=by
 obtain⟨r,_,e2,_⟩:=p_AtlasOk (TAtlas.mk 0 [TPart.mk 0 1000 0] m) (by simp) h2
 unfold m_impl_AtlasOk at e2
 have hg:partsGood [TPart.mk 0 1000 0]=true:=by decide
 have hw:within 0 0 1000000=true:=by decide
 simp only[p_from,hw,p_impl_PartsOk [TPart.mk 0 1000 0] (by simp),hg,Option.bind_some,if_true] at e2
 cases h:m_impl_moveOk m with
 |none=>rw[h] at e2;cases e2
 |some b=>exact⟨b,rfl⟩
def owner(a:TAtlas)(z:Int):Int:=if atlasOk a=true then ownAt a.Parts z else -1
theorem p_owner(a:TAtlas)(z:Int)(h1:a.Parts.length≤1048576)(h2:a.Move.Cells.length≤1048576):m_spec_AtlasOwner a z=some (owner a z)∧m_impl_AtlasOwner a z=some (owner a z):=by
 obtain⟨e1,e2,e3⟩:=p_atlasOk a h1 h2
 unfold m_spec_AtlasOwner m_impl_AtlasOwner spec_AtlasOwner_j5 owner
 simp only[p_spec_PartAt _ _ h1,e1,e2,Option.bind_some]
 cases hr:atlasOk a with
 |false=>simp
 |true=>
  have hg:=e3 hr
  simp only[p_impl_partAt _ _ h1 hg,Option.bind_some,if_true,decide_eq_true_eq]
  have:=ownAt_idx a.Parts z
  unfold partAt
  rw[if_pos hg]
  exact⟨this,this⟩
theorem AtlasAns.spec{a:TAtlas}{n:Nat}{x y:Option (TAtlas×Int)}(h:AtlasAns a n x y):∃r z,x=some (r,z)∧size_Atlas r≤size_Atlas a+n:=by
 obtain⟨⟨r,z⟩,h1,_,h2⟩:=h
 exact⟨r,z,h1,h2⟩
theorem p_NewAtlas_size(xs:List TPart)(h:xs.length≤16):∃a,m_spec_NewAtlas xs=some a∧size_Atlas a≤100:=by
 obtain⟨b,e1,_,_⟩:=p_AtlasOk (TAtlas.mk 0 xs (TMove.mk 0 0 0 0 0 0 [])) (show xs.length≤1048576 by omega) (by simp)
 unfold m_spec_NewAtlas
 rw[if_pos (by omega),e1]
 cases b with
 |true=>exact⟨_,rfl,by simp[size_Atlas,size_Move];omega⟩
 |false=>exact⟨_,rfl,by simp[size_Atlas,size_Move]⟩
theorem p_l15DrawAtlas{cb:List Int}{c:Int×Int}(h:goodC cb c)(most:Int)(h0:0≤most)(hm:most≤100):Drawn cb (fun a=>size_Atlas a≤20000) (m_spec_l15DrawAtlas cb c most):=by
 unfold m_spec_l15DrawAtlas
 rw[w64 (by omega) (by omega)]
 refine(p_l10DrawParts h).bind fun xs c1 hc1 hg=> ?_
 obtain⟨a0,ea,sa⟩:=p_NewAtlas_size xs ((partsGood_iff xs).1 hg).1.2
 simp only[ea,Option.bind_some]
 refine(p_l1Below hc1 _).bind fun n c2 hc2 ⟨n1,n2,_⟩=> ?_
 have n2:=n2 (by omega)
 obtain⟨n,rfl⟩:∃k:Nat,n=(k:Int):=⟨n.toNat,by omega⟩
 refine iter_inv (fun(i:Nat) (s:Int×Int×Int×Int×(List TPart)×Int×Int×Int×Int×Int×Int×(List TCell))=>s.1=(i:Int)∧goodC cb (s.2.1,s.2.2.1)∧
   size_Atlas (TAtlas.mk s.2.2.2.1 s.2.2.2.2.1 (TMove.mk s.2.2.2.2.2.1 s.2.2.2.2.2.2.1 s.2.2.2.2.2.2.2.1 s.2.2.2.2.2.2.2.2.1 s.2.2.2.2.2.2.2.2.2.1 s.2.2.2.2.2.2.2.2.2.2.1 s.2.2.2.2.2.2.2.2.2.2.2))≤100+150 * i) n (by omega) ⟨rfl,hc2,?_⟩
  (Drawn cb (fun a=>size_Atlas a≤20000)) (fun i hi s ⟨h1,h2,h3⟩ kb=> ?_) (fun s ⟨h1,h2,h3⟩ kb=> ?_)
 ·simpa using sa
 ·obtain⟨s1,s2,s3,s4,s5,s6,s7,s8,s9,s10,s11,s12⟩:=s
  simp only at h1 h2 h3
  subst h1
  have hs:size_Atlas (TAtlas.mk s4 s5 (TMove.mk s6 s7 s8 s9 s10 s11 s12))≤1048576 - 1000:=by omega
  generalize hA:TAtlas.mk s4 s5 (TMove.mk s6 s7 s8 s9 s10 s11 s12)=A at h3 hs
  have fin:∀(r:TAtlas) (z:Int) (c:Int×Int),goodC cb c→size_Atlas r≤size_Atlas A+150→∃s':Int×Int×Int×Int×(List TPart)×Int×Int×Int×Int×Int×Int×(List TCell),
    (s'.1=((i+1:Nat):Int)∧goodC cb (s'.2.1,s'.2.2.1)∧size_Atlas (TAtlas.mk s'.2.2.2.1 s'.2.2.2.2.1 (TMove.mk s'.2.2.2.2.2.1 s'.2.2.2.2.2.2.1 s'.2.2.2.2.2.2.2.1 s'.2.2.2.2.2.2.2.2.1 s'.2.2.2.2.2.2.2.2.2.1 s'.2.2.2.2.2.2.2.2.2.2.1 s'.2.2.2.2.2.2.2.2.2.2.2))≤100+150 * (i+1))∧
    spec_l15DrawAtlas_j17 kb ((i:Int),s2,s3,s4,s5,s6,s7,s8,s9,s10,s11,s12) (z,c.1,c.2,r.Epoch,r.Parts,r.Move.No,r.Move.Stage,r.Move.Lo,r.Move.Hi,r.Move.From,r.Move.To,r.Move.Cells)=kb s':=by
   intro r z c hc hr
   unfold spec_l15DrawAtlas_j17
   simp only[step1 i _ hi (by omega)]
   split
   ·exact⟨_,⟨rfl,hc,by simp only;show size_Atlas r≤_;omega⟩,rfl⟩
   ·exact⟨_,⟨rfl,hc,by simp only;rw[hA];omega⟩,rfl⟩
  unfold spec_l15DrawAtlas_b12
  simp only
  rw[if_pos (by omega)]
  obtain⟨rk,er,_⟩:=p_spec_MoveRank (TMove.mk s6 s7 s8 s9 s10 s11 s12)
  obtain⟨q,c3,e3,hc3,q1,q2,_⟩:=p_l1Below h2 6
  simp only[er,e3,Option.bind_some,hA]
  have two:∀b:Bool,∃s':Int×Int×Int×Int×(List TPart)×Int×Int×Int×Int×Int×Int×(List TCell),
    (s'.1=((i+1:Nat):Int)∧goodC cb (s'.2.1,s'.2.2.1)∧size_Atlas (TAtlas.mk s'.2.2.2.1 s'.2.2.2.2.1 (TMove.mk s'.2.2.2.2.2.1 s'.2.2.2.2.2.2.1 s'.2.2.2.2.2.2.2.1 s'.2.2.2.2.2.2.2.2.1 s'.2.2.2.2.2.2.2.2.2.1 s'.2.2.2.2.2.2.2.2.2.2.1 s'.2.2.2.2.2.2.2.2.2.2.2))≤100+150 * (i+1))∧
    spec_l15DrawAtlas_j27 cb (q,c3) ((i:Int),s2,s3,s4,s5,s6,s7,s8,s9,s10,s11,s12) (spec_l15DrawAtlas_j17 kb ((i:Int),s2,s3,s4,s5,s6,s7,s8,s9,s10,s11,s12)) rk b=kb s':=by
   intro b
   unfold spec_l15DrawAtlas_j27
   simp only[hA]
   split
   ·obtain⟨x1,d1,f1,g1,_⟩:=p_l1Below hc3 60
    obtain⟨x2,d2,f2,g2,_⟩:=p_l1Below g1 4
    obtain⟨r,z,f3,hr⟩:=(p_AtlasMove A x1 x2 (by omega)).spec
    simp only[f1,f2,f3,Option.bind_some]
    exact fin r z d2 g2 (by omega)
   ·split
    ·obtain⟨ys,d1,f1,g1,hy⟩:=p_l11DrawStore hc3 20 (by omega) (by omega)
     have hsc:m_spec_StoreScan ys (TRange.mk s8 s9)=some (scanned ys (TRange.mk s8 s9) true):=by
      unfold m_spec_StoreScan
      rw[p_l11Scan _ _ _ (by omega)];rfl
     have hl:=scanned_len ys (TRange.mk s8 s9) true
     obtain⟨r,z,f3,hr⟩:=(p_AtlasFrozen A rk (scanned ys (TRange.mk s8 s9) true) (by omega) (by omega)).spec
     simp only[f1,hsc,f3,Option.bind_some]
     exact fin r z d1 g1 (by omega)
    ·split
     ·obtain⟨x1,d1,f1,g1,_⟩:=p_l1Once hc3 3
      obtain⟨r,z,f3,hr⟩:=(p_AtlasInstalled A rk (!x1) (by omega)).spec
      simp only[f1,f3,Option.bind_some]
      exact fin r z d1 g1 (by omega)
     ·obtain⟨r,z,f3,hr⟩:=(p_AtlasGone A rk (by omega)).spec
      simp only[f3,Option.bind_some]
      exact fin r z c3 hc3 (by omega)
  split
  ·obtain⟨x1,d1,f1,g1,_⟩:=p_l1Below hc3 60
   obtain⟨r,z,f3,hr⟩:=(p_AtlasSplit A x1 (by omega)).1.spec
   simp only[f1,f3,Option.bind_some]
   exact fin r z d1 g1 (by omega)
  ·split
   ·exact two _
   ·exact two _
 ·unfold spec_l15DrawAtlas_b12 spec_l15DrawAtlas_j10
  simp only[h1]
  rw[if_neg (by omega)]
  exact Drawn.some h2 (by omega)
theorem p_l15DrawAny{cb:List Int}{c:Int×Int}(h:goodC cb c)(most:Int)(h0:0≤most)(hm:most≤100):Drawn cb (fun a=>size_Atlas a≤40000) (m_spec_l15DrawAny cb c most):=by
 unfold m_spec_l15DrawAny
 refine(p_l15DrawAtlas h most h0 hm).bind fun a c1 hc1 ha=>(p_l1Below hc1 30).bind fun z c2 hc2 _=> ?_
 unfold size_Atlas size_Move at ha
 split
 ·exact(p_l1PickInt hc2 _ (by simp)).bind fun v c3 hc3 _=>Drawn.some hc3 (by simp only[size_Atlas,size_Move];omega)
 split
 ·exact(p_l10DrawAny hc2).bind fun v c3 hc3 hv=>Drawn.some hc3 (by simp only[size_Atlas,size_Move];omega)
 split
 ·exact(p_l1PickInt hc2 _ (by simp)).bind fun v c3 hc3 _=>Drawn.some hc3 (by simp only[size_Atlas,size_Move];omega)
 split
 ·exact(p_l1Below hc2 7).bind fun v c3 hc3 _=>Drawn.some hc3 (by simp only[size_Atlas,size_Move];omega)
 split
 ·exact(p_l11DrawAny hc2 4 (by omega) (by omega)).bind fun v c3 hc3 hv=>Drawn.some hc3 (by simp only[size_Atlas,size_Move];omega)
 split
 ·exact(p_l1Below hc2 6).bind fun v c3 hc3 _=>Drawn.some hc3 (by simp only[size_Atlas,size_Move];omega)
 ·exact Drawn.some hc2 (by simp only[size_Atlas,size_Move];omega)
theorem moveOk_mv{n st lo hi fr to:Int}(hn:1≤n∧n≤300000)(hs:1≤st∧st≤4)(hr:rangeOk ⟨lo,hi⟩=true)(hf:within fr 0 3=true)(ht:within to 0 3=true)(hne:¬fr=to):m_impl_moveOk (TMove.mk n st lo hi fr to [])=some true:=by
 unfold m_impl_moveOk impl_moveOk_j2 m_impl_Move_keys
 have w1:within n 0 300000=true:=by unfold within;simp only[Bool.and_eq_true,decide_eq_true_eq];omega
 have w2:within st 0 4=true:=by unfold within;simp only[Bool.and_eq_true,decide_eq_true_eq];omega
 have hc:m_impl_cellsIn [] ⟨lo,hi⟩=some true:=by rw[p_cellsIn _ _ (by simp)];rfl
 simp only[p_from,w1,w2,Option.bind_some,if_true,Bool.not_true,Bool.false_eq_true,if_false,p_impl_RangeOk,hr,p_isGroup,hf,ht,hc]
 rw[if_neg (by omega),if_pos (by omega),if_pos hne]
 split<;>rfl
theorem moveOk_none{n:Int}(hn:0≤n∧n≤300000):m_impl_moveOk (TMove.mk n 0 0 0 0 0 [])=some true:=by
 unfold m_impl_moveOk impl_moveOk_j2
 have w1:within n 0 300000=true:=by unfold within;simp only[Bool.and_eq_true,decide_eq_true_eq];omega
 have w2:within 0 0 4=true:=by decide
 simp[p_from,w1,w2]
theorem rank_mv{n st:Int}(hn:1≤n∧n≤300000)(hs:1≤st∧st≤4)(lo hi fr to:Int)(cs:List TCell):m_impl_MoveRank (TMove.mk n st lo hi fr to cs)=some (3 * (n - 1)+(if 3 < st then 3 else st)):=by
 unfold m_impl_MoveRank impl_MoveRank_j2
 have w1:within n 1 300000=true:=by unfold within;simp only[Bool.and_eq_true,decide_eq_true_eq];omega
 have w2:within st 1 4=true:=by unfold within;simp only[Bool.and_eq_true,decide_eq_true_eq];omega
 simp only[p_from,w1,w2,Option.bind_some,if_true,Bool.not_true,Bool.false_eq_true,if_false]
 rw[w64 (n:=n - 1) (by omega) (by omega),w64 (n:=3 * (n - 1)) (by omega) (by omega)]
 split
 ·rw[w64 (by omega) (by omega)]
 ·rw[w64 (by omega) (by omega)]
theorem atlas_ok{e:Int}{xs:List TPart}{m:TMove}(he:0≤e∧e≤1000000)(hg:partsGood xs=true)(hm:m_impl_moveOk m=some true)(hc:m.Cells.length≤1048576):m_impl_AtlasOk (TAtlas.mk e xs m)=some true:=by
 have hl:=((partsGood_iff _).1 hg).1
 have w1:within e 0 1000000=true:=by unfold within;simp only[Bool.and_eq_true,decide_eq_true_eq];omega
 unfold m_impl_AtlasOk
 simp only[p_from,w1,p_impl_PartsOk xs (by omega),hg,hm,Option.bind_some,if_true]
theorem inst_loop(a:TAtlas)(h1:a.Parts.length≤1048576)(hg:partsGood a.Parts=true)(hr:rangeOk ⟨a.Move.Lo,a.Move.Hi⟩=true):iter (impl_AtlasInstalled_b15 a a (impl_AtlasInstalled_j13 a)) FU (a.Parts,0)=some ((TAtlas.mk (IntKind.wrap .i64 (a.Epoch+1)) (a.Parts.map (moved a)) (TMove.mk a.Move.No 3 a.Move.Lo a.Move.Hi a.Move.From a.Move.To [])),0):=by
 refine iter_all (fun i=>(rowF (moved a) a.Parts i,(i:Int))) _ a.Parts.length (by omega) (fun kb i hi=> ?_) (fun kb=> ?_) (by simp[rowF_zero])
 ·unfold impl_AtlasInstalled_b15 m_impl_Move_keys m_impl_RangeIn
  obtain⟨q1,q2,q3,_,_⟩:=partsGood_at hg hi
  have q:rangeOk ⟨a.Parts[i].Lo,a.Parts[i].Hi⟩=true:=by unfold rangeOk;simp[q1,q2,q3]
  simp only[List.length_map,rowF_idx (moved a) hi,Option.bind_some,step1 i _ hi (by omega),Int.toNat_natCast,p_impl_RangeOk,q,hr,if_true]
  rw[if_pos (by omega)]
  by_cases d1:a.Move.Lo≤a.Parts[i].Lo
  ·by_cases d2:a.Parts[i].Hi≤a.Move.Hi
   ·have e:moved a a.Parts[i]=TPart.mk a.Parts[i].Lo a.Parts[i].Hi a.Move.To:=by unfold moved;rw[if_pos ⟨d1,d2⟩]
    simp only[d1,d2,decide_true,if_true,←e,rowF_set (moved a) hi,Option.bind_some]
   ·have e:moved a a.Parts[i]=a.Parts[i]:=by unfold moved;rw[if_neg (fun x=>d2 x.2)]
    simp only[d1,d2,decide_false,if_true,Bool.false_eq_true,if_false,rowF_same (moved a) hi e,Option.bind_some]
  ·have e:moved a a.Parts[i]=a.Parts[i]:=by unfold moved;rw[if_neg (fun x=>d1 x.1)]
   simp only[d1,Bool.false_eq_true,if_false,rowF_same (moved a) hi e,Option.bind_some]
 ·unfold impl_AtlasInstalled_b15 impl_AtlasInstalled_j13
  simp only[List.length_map]
  rw[if_neg (by omega),rowF_all]
theorem moved_keys(a:TAtlas)(p:TPart):(moved a p).Lo=p.Lo∧(moved a p).Hi=p.Hi∧((moved a p).Owner=p.Owner∨(moved a p).Owner=a.Move.To):=by
 unfold moved
 split
 ·exact⟨rfl,rfl,.inr rfl⟩
 ·exact⟨rfl,rfl,.inl rfl⟩
theorem moved_chain(a:TAtlas)(ht:within a.Move.To 0 3=true):∀(xs:List TPart) (lo hi:Int),chain lo xs hi→chain lo (xs.map (moved a)) hi
 |[],lo,hi,h=>h
 |p::xs,lo,hi,h=>by
  obtain⟨h1,h2,h3,h4⟩:=h
  obtain⟨e1,e2,e3⟩:=moved_keys a p
  refine⟨by rw[e1];exact h1,by rw[e1,e2];exact h2,?_,?_⟩
  ·rcases e3 with e|e
   ·rw[e];exact h3
   ·rw[e];exact ht
  ·show chain (moved a p).Hi (xs.map (moved a)) hi
   rw[e2]
   exact moved_chain a ht xs _ _ h4
theorem moved_own(a:TAtlas)(k:Int):∀(xs:List TPart),ownAt (xs.map (moved a)) k=match xs.find? (partHas k) with|some p=>(moved a p).Owner|none=>-1
 |[]=>rfl
 |p::xs=>by
  obtain⟨e1,e2,_⟩:=moved_keys a p
  rw[List.map_cons,ownAt_cons,List.find?_cons,e1,e2]
  by_cases h:p.Lo≤k∧k < p.Hi
  ·have:partHas k p=true:=by simp[partHas,h.1,h.2]
   rw[this,if_pos h]
  ·have:partHas k p=false:=by
    unfold partHas
    rw[Bool.eq_false_iff]
    intro h'
    simp only[Bool.and_eq_true,decide_eq_true_eq] at h'
    exact h h'
   rw[this,if_neg h]
   exact moved_own a k xs
theorem partAt_find{xs:List TPart}{k:Int}{n:Nat}(hn:n < xs.length)(hg:partsGood xs=true)(e:partAt xs k=(n:Int)):xs.find? (partHas k)=some xs[n]∧xs[n].Lo≤k∧k < xs[n].Hi:=by
 unfold partAt at e
 rw[if_pos hg] at e
 unfold idxOf at e
 cases hf:xs.findIdx? (partHas k) with
 |none=>rw[hf] at e;simp at e
 |some j=>
  rw[hf] at e
  simp only at e
  have:j=n:=by omega
  subst this
  rw[List.findIdx?_eq_some_iff_getElem] at hf
  obtain⟨_,h1,h2⟩:=hf
  refine⟨?_,?_⟩
  ·rw[List.find?_eq_some_iff_getElem]
   exact⟨h1,j,hn,rfl,fun i hi=>by simpa using h2 i hi⟩
  ·simpa[partHas] using h1
theorem p_move(a:TAtlas)(k to:Int)(h1:a.Parts.length≤1048576)(h2:a.Move.Cells.length≤1048576):
  (∃r:TAtlas×Int,m_impl_AtlasMove a k to=some r∧¬r.2=0∧(r.2=1∨r.1=a))∨
  ∃(n:Nat) (hn:n < a.Parts.length),atlasOk a=true∧a.Move.Stage=0∧partAt a.Parts k=(n:Int)∧within to 0 3=true∧¬to=a.Parts[n].Owner∧¬a.Move.No=300000∧
   m_impl_AtlasMove a k to=some (TAtlas.mk a.Epoch a.Parts (TMove.mk (IntKind.wrap .i64 (a.Move.No+1)) 1 a.Parts[n].Lo a.Parts[n].Hi a.Parts[n].Owner to []),0):=by
 obtain⟨e1,e2,e3⟩:=p_atlasOk a h1 h2
 have other:∀r:TAtlas×Int,m_impl_AtlasMove a k to=some r→¬r.2=0→(r.2=1∨r.1=a)→(∃r:TAtlas×Int,m_impl_AtlasMove a k to=some r∧¬r.2=0∧(r.2=1∨r.1=a))∨
  ∃(n:Nat) (hn:n < a.Parts.length),atlasOk a=true∧a.Move.Stage=0∧partAt a.Parts k=(n:Int)∧within to 0 3=true∧¬to=a.Parts[n].Owner∧¬a.Move.No=300000∧
   m_impl_AtlasMove a k to=some (TAtlas.mk a.Epoch a.Parts (TMove.mk (IntKind.wrap .i64 (a.Move.No+1)) 1 a.Parts[n].Lo a.Parts[n].Hi a.Parts[n].Owner to []),0):=fun r x y z=> .inl ⟨r,x,y,z⟩
 rcases Bool.eq_false_or_eq_true (atlasOk a) with ho|ho
 rotate_left
 ·refine other (atlas0,1) ?_ (by simp) (.inl rfl)
  unfold m_impl_AtlasMove
  rw[e2,ho]
  rfl
 ·have hg:=e3 ho
  rw[ho] at e2
  have un:∀r,m_impl_AtlasMove a k to=some r↔(if ¬a.Move.Stage=0 then some (a,2) else(if partAt a.Parts k < 0 then some (a,3) else(if within to 0 3=true then((idx a.Parts (partAt a.Parts k)).bind fun v21=>(if to=v21.Owner then some (a,3) else impl_AtlasMove_j12 a a (partAt a.Parts k) to (decide (a.Move.No=300000)))) else some (a,3))))=some r:=fun r=>by
   unfold m_impl_AtlasMove
   rw[e2]
   simp only[Option.bind_some,if_true,p_copyAtlas a h1 h2,p_impl_partAt _ _ h1 hg,p_isGroup]
   have j3:impl_AtlasMove_j12 a a (partAt a.Parts k) to true=some (a,3):=by unfold impl_AtlasMove_j12;rfl
   rw[j3]
  by_cases c1:a.Move.Stage=0
  ·by_cases c2:partAt a.Parts k < 0
   ·exact other (a,3) ((un _).2 (by simp[c1,c2])) (by simp) (.inr rfl)
   ·obtain⟨n,hn,e,_⟩:=partAt_nat _ _ c2
    by_cases c3:within to 0 3=true
    ·by_cases c4:to=a.Parts[n].Owner
     ·refine other (a,3) ((un _).2 ?_) (by simp) (.inr rfl)
      rw[if_neg (by simpa using c1),if_neg c2,if_pos c3,e,idx_nat hn]
      simp[c4]
     ·by_cases c5:a.Move.No=300000
      ·refine other (a,3) ((un _).2 ?_) (by simp) (.inr rfl)
       rw[if_neg (by simpa using c1),if_neg c2,if_pos c3,e,idx_nat hn]
       simp only[Option.bind_some]
       rw[if_neg c4]
       unfold impl_AtlasMove_j12
       simp[c5]
      ·refine .inr ⟨n,hn,ho,c1,e,c3,c4,c5,(un _).2 ?_⟩
       rw[if_neg (by simpa using c1),if_neg c2,if_pos c3,e,idx_nat hn]
       simp only[Option.bind_some]
       rw[if_neg c4]
       unfold impl_AtlasMove_j12
       rw[if_neg (by simpa using c5),idx_nat hn]
       rfl
    ·exact other (a,3) ((un _).2 (by rw[if_neg (by simpa using c1),if_neg c2,if_neg c3])) (by simp) (.inr rfl)
  ·exact other (a,2) ((un _).2 (by rw[if_pos c1])) (by simp) (.inr rfl)
theorem p_at1(a1:List Int)(h:a1.length≤1048576):∃v,m_laws_at a1 1=some v:=by
 unfold m_laws_at
 split
 ·have:idx a1 1=some a1[1]:=idx_nat (i:=1) (show 1 < a1.length by omega)
  rw[this]
  exact⟨_,rfl⟩
 ·exact⟨_,rfl⟩
theorem way(e n lo hi fr to:Int)(xs:List TPart)(he:0≤e∧e≤1000000)(hn:1≤n∧n≤300000)(hg:partsGood xs=true)(hr:rangeOk ⟨lo,hi⟩=true)(hf:within fr 0 3=true)(ht:within to 0 3=true)(hne:¬fr=to):
  (∀z yes,m_impl_AtlasInstalled (TAtlas.mk e xs (TMove.mk n 1 lo hi fr to [])) z yes=some (TAtlas.mk e xs (TMove.mk n 1 lo hi fr to []),3))∧
  m_impl_AtlasFrozen (TAtlas.mk e xs (TMove.mk n 1 lo hi fr to [])) (3 * (n - 1)+2) []=some (TAtlas.mk e xs (TMove.mk n 1 lo hi fr to []),3)∧
  m_impl_AtlasFrozen (TAtlas.mk e xs (TMove.mk n 1 lo hi fr to [])) (3 * (n - 1)+1) []=some (TAtlas.mk e xs (TMove.mk n 2 lo hi fr to []),0)∧
  (e=1000000→m_impl_AtlasInstalled (TAtlas.mk e xs (TMove.mk n 2 lo hi fr to [])) (3 * (n - 1)+2) true=some (TAtlas.mk e xs (TMove.mk n 2 lo hi fr to []),3))∧
  (¬e=1000000→m_impl_AtlasInstalled (TAtlas.mk e xs (TMove.mk n 2 lo hi fr to [])) (3 * (n - 1)+2) true=some (TAtlas.mk (e+1) (xs.map (moved (TAtlas.mk e xs (TMove.mk n 2 lo hi fr to [])))) (TMove.mk n 3 lo hi fr to []),0))∧
  m_impl_AtlasInstalled (TAtlas.mk e xs (TMove.mk n 2 lo hi fr to [])) (3 * (n - 1)+2) false=some (TAtlas.mk e xs (TMove.mk n 4 lo hi fr to []),0):=by
 have hl:=((partsGood_iff _).1 hg).1
 have h1:xs.length≤1048576:=by omega
 have ok:∀st,1≤st→st≤4→m_impl_AtlasOk (TAtlas.mk e xs (TMove.mk n st lo hi fr to []))=some true:=fun st a b=>atlas_ok he hg (moveOk_mv hn ⟨a,b⟩ hr hf ht hne) (by simp)
 have cp:∀st,m_impl_copyAtlas (TAtlas.mk e xs (TMove.mk n st lo hi fr to []))=some (TAtlas.mk e xs (TMove.mk n st lo hi fr to [])):=fun st=>p_copyAtlas _ h1 (by simp)
 have ce:m_impl_cellsIn [] ⟨lo,hi⟩=some true:=by rw[p_cellsIn _ _ (by simp)];rfl
 have cl:m_slices_Clone_Cell []=some []:=p_Clone_Cell [] (by simp)
 refine⟨fun z yes=> ?_,?_,?_,fun c=> ?_,fun c=> ?_,?_⟩
 ·unfold m_impl_AtlasInstalled impl_AtlasInstalled_j9
  simp[ok 1 (by omega) (by omega),cp]
 ·unfold m_impl_AtlasFrozen impl_AtlasFrozen_j9
  simp only[ok 1 (by omega) (by omega),cp,Option.bind_some,if_true,rank_mv hn (st:=1) (by omega)]
  rw[if_neg (by simp),if_neg (show ¬(3:Int) < 1 by omega),if_pos (by omega)]
 ·unfold m_impl_AtlasFrozen impl_AtlasFrozen_j9 m_impl_Move_keys
  simp only[ok 1 (by omega) (by omega),cp,Option.bind_some,if_true,rank_mv hn (st:=1) (by omega),ce,cl]
  rw[if_neg (by simp),if_neg (show ¬(3:Int) < 1 by omega),if_neg (by simp)]
  rfl
 ·unfold m_impl_AtlasInstalled impl_AtlasInstalled_j9
  simp only[ok 2 (by omega) (by omega),cp,Option.bind_some,if_true,rank_mv hn (st:=2) (by omega)]
  rw[if_neg (by simp),if_neg (show ¬(3:Int) < 2 by omega),if_neg (by simp)]
  simp[c]
 ·have lp:=inst_loop (TAtlas.mk e xs (TMove.mk n 2 lo hi fr to [])) h1 hg hr
  rw[w64 (by simp only;omega) (by simp only;omega)] at lp
  unfold m_impl_AtlasInstalled impl_AtlasInstalled_j9
  simp only[ok 2 (by omega) (by omega),cp,Option.bind_some,if_true,rank_mv hn (st:=2) (by omega)]
  rw[if_neg (by simp),if_neg (show ¬(3:Int) < 2 by omega),if_neg (by simp),if_neg (by simpa using c)]
  exact lp
 ·unfold m_impl_AtlasInstalled impl_AtlasInstalled_j9
  simp only[ok 2 (by omega) (by omega),cp,Option.bind_some,if_true,rank_mv hn (st:=2) (by omega)]
  rw[if_neg (by simp),if_neg (show ¬(3:Int) < 2 by omega),if_neg (by simp)]
  rfl
theorem goes(e n st lo hi fr to:Int)(xs:List TPart)(he:0≤e∧e≤1000000)(hn:1≤n∧n≤300000)(hs:st=3∨st=4)(hg:partsGood xs=true)(hr:rangeOk ⟨lo,hi⟩=true)(hf:within fr 0 3=true)(ht:within to 0 3=true)(hne:¬fr=to):
  m_impl_AtlasGone (TAtlas.mk e xs (TMove.mk n st lo hi fr to [])) (3 * (n - 1)+3)=some (TAtlas.mk e xs (TMove.mk n 0 0 0 0 0 []),0)∧
  (∃q,m_impl_AtlasGone (TAtlas.mk e xs (TMove.mk n 0 0 0 0 0 [])) (3 * (n - 1)+3)=some (q,3))∧
  m_impl_MoveRank (TMove.mk n st lo hi fr to [])=some (3 * (n - 1)+3)∧m_impl_AtlasOk (TAtlas.mk e xs (TMove.mk n 0 0 0 0 0 []))=some true:=by
 have hl:=((partsGood_iff _).1 hg).1
 have h1:xs.length≤1048576:=by omega
 have hst:1≤st∧st≤4:=by omega
 have ok:m_impl_AtlasOk (TAtlas.mk e xs (TMove.mk n st lo hi fr to []))=some true:=atlas_ok he hg (moveOk_mv hn hst hr hf ht hne) (by simp)
 have ok0:m_impl_AtlasOk (TAtlas.mk e xs (TMove.mk n 0 0 0 0 0 []))=some true:=atlas_ok he hg (moveOk_none (by omega)) (by simp)
 have rk:m_impl_MoveRank (TMove.mk n st lo hi fr to [])=some (3 * (n - 1)+3):=by
  rw[rank_mv hn hst]
  rcases hs with rfl|rfl<;>simp
 have cp:m_impl_copyAtlas (TAtlas.mk e xs (TMove.mk n st lo hi fr to []))=some (TAtlas.mk e xs (TMove.mk n st lo hi fr to [])):=p_copyAtlas _ h1 (by simp)
 have cp0:m_impl_copyAtlas (TAtlas.mk e xs (TMove.mk n 0 0 0 0 0 []))=some (TAtlas.mk e xs (TMove.mk n 0 0 0 0 0 [])):=p_copyAtlas _ h1 (by simp)
 refine⟨?_,?_,rk,ok0⟩
 ·unfold m_impl_AtlasGone impl_AtlasGone_j8
  simp only[ok,cp,rk,Option.bind_some,if_true]
  rcases hs with rfl|rfl<;>simp
 ·unfold m_impl_AtlasGone impl_AtlasGone_j8
  simp[ok0,cp0]
theorem p_FnMoves15(a1:List Int)(h:okS (inK .u8) a1):m_laws_FnMoves15 a1=some true:=by
 unfold m_laws_FnMoves15 m_laws_big
 simp only[Option.bind_some,decide_eq_true_eq]
 split
 ·rfl
 rename_i hbig
 have hn:a1.length≤1048576:=by omega
 obtain⟨c,ec,hc⟩:=p_l1New a1 hn
 obtain⟨n,en,n1,n2⟩:=p_l1Size a1 hn 20 (by omega)
 obtain⟨a,c1,ea,hc1,hs⟩:=p_l15DrawAny hc n (by omega) (by omega)
 obtain⟨k,c2,ek,hc2,hk⟩:=p_l10DrawKey hc1
 obtain⟨t,c3,et,hc3,_⟩:=p_l1Below hc2 6
 have ed:m_spec_DrawAtlasMove a1=some (a,k,IntKind.wrap .i64 (t - 1)):=by
  unfold m_spec_DrawAtlasMove
  simp only[ec,en,ea,ek,et,Option.bind_some]
 generalize IntKind.wrap .i64 (t - 1)=to at ed
 have hs':=hs
 unfold size_Atlas size_Move at hs
 have h1:a.Parts.length≤1048576:=by omega
 have h2:a.Move.Cells.length≤1048576:=by omega
 obtain⟨v,ev⟩:=p_at1 a1 hn
 obtain⟨rm,em1,em2,_⟩:=p_AtlasMove a k to (by omega)
 simp only[ed,em1,Option.bind_some]
 rcases p_move a k to h1 h2 with⟨r,er,hr0,hr1⟩|⟨i,hi,ho,c1,hk',ht,hne,hN,er⟩
 ·rw[er] at em2
  cases em2
  simp only[er,Option.bind_some]
  rw[if_neg (by simp),if_pos hr0]
  split
  ·rfl
  ·rename_i hx
   have:=hr1.resolve_left hx
   rw[this]
   simp
 ·rw[er] at em2
  cases em2
  have hb:=atlasOk_eq a h1 h2 (moveOk_some _ h2)
  rw[ho] at hb
  have hb:(within a.Epoch 0 1000000=true∧partsGood a.Parts=true)∧moveOkB a.Move=true:=by
   have:=hb.symm
   simpa only[Bool.and_eq_true] using this
  obtain⟨o1,o2,o3⟩:=p_atlasOk a h1 h2
  rw[ho] at o2
  obtain⟨_,_,w3,_,_⟩:=atlasOk_facts a h1 h2 o2
  have he:0≤a.Epoch∧a.Epoch≤1000000:=by have:=hb.1.1;unfold within at this;simpa using this
  have hno:0≤a.Move.No∧a.Move.No≤300000:=by unfold within at w3;simpa using w3
  have hg:=hb.1.2
  obtain⟨q1,q2,q3,q4,_⟩:=partsGood_at hg hi
  have hrg:rangeOk ⟨a.Parts[i].Lo,a.Parts[i].Hi⟩=true:=by unfold rangeOk;simp[q1,q2,q3]
  have hne':¬a.Parts[i].Owner=to:=fun h=>hne h.symm
  have hnn:IntKind.wrap .i64 (a.Move.No+1)=a.Move.No+1:=w64 (by omega) (by omega)
  rw[hnn] at er
  have hn':1≤a.Move.No+1∧a.Move.No+1≤300000:=by omega
  obtain⟨y1,y2,y3,y4,y5,y6⟩:=way a.Epoch (a.Move.No+1) a.Parts[i].Lo a.Parts[i].Hi a.Parts[i].Owner to a.Parts he hn' hg hrg q4 ht hne'
  have rk1:=rank_mv hn' (st:=1) (by omega) a.Parts[i].Lo a.Parts[i].Hi a.Parts[i].Owner to []
  have rk2:=rank_mv hn' (st:=2) (by omega) a.Parts[i].Lo a.Parts[i].Hi a.Parts[i].Owner to []
  rw[if_neg (by omega)] at rk1 rk2
  have e1:IntKind.wrap .i64 (3 * (a.Move.No+1 - 1)+1+1)=3 * (a.Move.No+1 - 1)+2:=by rw[w64 (by omega) (by omega)];omega
  have e2:IntKind.wrap .i64 (3 * (a.Move.No+1 - 1)+1+2)=3 * (a.Move.No+1 - 1)+3:=by rw[w64 (by omega) (by omega)];omega
  obtain⟨fd,l1,l2⟩:=partAt_find hi hg hk'
  obtain⟨rd,d1,d2,_⟩:=p_AtlasInstalled (TAtlas.mk a.Epoch a.Parts (TMove.mk (a.Move.No+1) 2 a.Parts[i].Lo a.Parts[i].Hi a.Parts[i].Owner to [])) (3 * (a.Move.No+1 - 1)+2) (decide (Int.tmod v 2=0)) (by unfold size_Atlas size_Move;simp;omega)
  simp only[er,hnn,Option.bind_some,rk1,y1,e1,y2,y3,ev,d1,d2]
  rw[if_neg (by simp),if_neg (by simp),if_neg (by omega),if_neg (by simp),if_neg (by simp),if_neg (by simp),rk2]
  simp only[Option.bind_some]
  rw[if_neg (by simp)]
  unfold laws_FnMoves15_j29
  rw[if_neg (by simp)]
  by_cases cy:Int.tmod v 2=0
  ·simp only[cy,decide_true] at d2
   by_cases ce:a.Epoch=1000000
   ·rw[y4 ce] at d2
    cases d2
    rw[if_pos (by simp)]
    simp[ce]
   ·rw[y5 ce] at d2
    cases d2
    have hgm:partsGood (a.Parts.map (moved (TAtlas.mk a.Epoch a.Parts (TMove.mk (a.Move.No+1) 2 a.Parts[i].Lo a.Parts[i].Hi a.Parts[i].Owner to []))))=true:=by
     rw[partsGood_iff] at hg ⊢
     rw[List.length_map]
     exact⟨hg.1,moved_chain _ ht _ _ _ hg.2⟩
    obtain⟨z1,⟨q,z2⟩,z3,z4⟩:=goes (a.Epoch+1) (a.Move.No+1) 3 a.Parts[i].Lo a.Parts[i].Hi a.Parts[i].Owner to _ (by omega) hn' (.inl rfl) hgm hrg q4 ht hne'
    rw[if_neg (by simp)]
    simp only[e2,z1,z2,z3,z4,Option.bind_some,Bool.not_true]
    rw[if_neg (by simp),if_neg (by simp),if_neg (by simp),if_neg (by simp)]
    unfold laws_FnMoves15_j37
    rw[if_neg (by simp),if_pos cy]
    have hl1:(TAtlas.mk (a.Epoch+1) (a.Parts.map (moved (TAtlas.mk a.Epoch a.Parts (TMove.mk (a.Move.No+1) 2 a.Parts[i].Lo a.Parts[i].Hi a.Parts[i].Owner to [])))) (TMove.mk (a.Move.No+1) 0 0 0 0 0 [])).Parts.length≤1048576:=by simpa using h1
    rw[(p_owner _ k hl1 (by simp)).2]
    have hok:atlasOk (TAtlas.mk (a.Epoch+1) (a.Parts.map (moved (TAtlas.mk a.Epoch a.Parts (TMove.mk (a.Move.No+1) 2 a.Parts[i].Lo a.Parts[i].Hi a.Parts[i].Owner to [])))) (TMove.mk (a.Move.No+1) 0 0 0 0 0 []))=true:=by unfold atlasOk;rw[z4];rfl
    unfold owner
    rw[if_pos hok]
    simp only[moved_own,fd,Option.bind_some]
    have hm:(moved (TAtlas.mk a.Epoch a.Parts (TMove.mk (a.Move.No+1) 2 a.Parts[i].Lo a.Parts[i].Hi a.Parts[i].Owner to [])) a.Parts[i]).Owner=to:=by
     unfold moved
     rw[if_pos ⟨Int.le_refl _,Int.le_refl _⟩]
    rw[if_pos hm,w64 (by omega) (by omega)]
    simp
  ·simp only[cy,decide_false] at d2
   rw[y6] at d2
   cases d2
   obtain⟨z1,⟨q,z2⟩,z3,z4⟩:=goes a.Epoch (a.Move.No+1) 4 a.Parts[i].Lo a.Parts[i].Hi a.Parts[i].Owner to a.Parts he hn' (.inr rfl) hg hrg q4 ht hne'
   rw[if_neg (by simp)]
   simp only[e2,z1,z2,z3,z4,Option.bind_some,Bool.not_true]
   rw[if_neg (by simp),if_neg (by simp),if_neg (by simp),if_neg (by simp)]
   unfold laws_FnMoves15_j37
   rw[if_neg (by simp),if_neg cy]
   rw[(p_owner _ k (show(TAtlas.mk a.Epoch a.Parts (TMove.mk (a.Move.No+1) 0 0 0 0 0 [])).Parts.length≤1048576 from h1) (by simp)).2,(p_owner a k h1 h2).1]
   have hok:atlasOk (TAtlas.mk a.Epoch a.Parts (TMove.mk (a.Move.No+1) 0 0 0 0 0 []))=true:=by unfold atlasOk;rw[z4];rfl
   unfold owner
   rw[if_pos hok,if_pos ho]
   simp
end Go.AW
