/- Plain laws: what the plain functions answer. Conditions: each theorem's own. -/
import Derived.Test.YtlcjjljmjdmobaaMStoreJoin
set_option linter.unusedVariables false
set_option linter.unusedSimpArgs false
set_option maxRecDepth 100000
namespace Go.AW
theorem w64{n:Int}(h1:-9223372036854775808≤n)(h2:n < 9223372036854775808):IntKind.wrap .i64 n=n:=by
 rw[IntKind.wrap_i64];omega
theorem idx_nat{α:Type}{xs:List α}{i:Nat}(h:i < xs.length):idx xs (i:Int)=some xs[i]:=by
 unfold idx
 rw[if_pos (by omega)]
 simp[h]
theorem idx_ofNat{α:Type}(xs:List α)(i:Nat):idx xs (i:Int)=xs[i]?:=by
 unfold idx
 rw[if_pos (by omega)]
 simp
theorem iter_ex{S R:Type}{f:(S→Option R)→S→Option R}(st:Nat→S)(stop:Nat→Option (Option R))(k:Option R)(n:Nat)
  (hs:∀kb i,i < n→(∀j,j < i→stop j=none)→f kb (st i)=match stop i with|some r=>r|none=>kb (st (i+1))) (he:∀kb,(∀j,j < n→stop j=none)→f kb (st n)=k):
  ∀(m i:Nat),i≤n→(∀j,j < i→stop j=none)→n - i < m→iter f m (st i)=match ((List.range n).drop i).findSome? stop with|some r=>r|none=>k
 |0,i,_,_,h=>by omega
 |m+1,i,hi,hp,h=>by
  unfold iter
  by_cases e:i=n
  ·subst e
   rw[he _ hp]
   simp[List.drop_eq_nil_of_le]
  ·have hlt:i < n:=by omega
   rw[hs _ i hlt hp,List.drop_eq_getElem_cons (by simpa using hlt)]
   simp only[List.getElem_range,List.findSome?_cons]
   cases hq:stop i with
   |some r=>rfl
   |none=>exact iter_ex st stop k n hs he m (i+1) (by omega) (fun j hj=>by
     by_cases e':j=i
     ·subst e';exact hq
     ·exact hp j (by omega)) (by omega)
theorem iter_stopH{S R:Type}{f:(S→Option R)→S→Option R}(st:Nat→S)(stop:Nat→Option (Option R))(k:Option R)(n:Nat)(hn:n≤1152921504606846976)
  (hs:∀kb i,i < n→(∀j,j < i→stop j=none)→f kb (st i)=match stop i with|some r=>r|none=>kb (st (i+1))) (he:∀kb,(∀j,j < n→stop j=none)→f kb (st n)=k) {s0:S} (h0:s0=st 0):
  iter f FU s0=match (List.range n).findSome? stop with|some r=>r|none=>k:=by
 subst h0
 have:=iter_ex st stop k n hs he FU 0 (by omega) (fun j hj=>by omega) (by unfold FU;omega)
 simpa using this
theorem iter_stop{S R:Type}{f:(S→Option R)→S→Option R}(st:Nat→S)(stop:Nat→Option (Option R))(k:Option R)(n:Nat)(hn:n≤1152921504606846976)
  (hs:∀kb i,i < n→f kb (st i)=match stop i with|some r=>r|none=>kb (st (i+1))) (he:∀kb,f kb (st n)=k) {s0:S} (h0:s0=st 0):
  iter f FU s0=match (List.range n).findSome? stop with|some r=>r|none=>k:=
 iter_stopH st stop k n hn (fun kb i hi _=>hs kb i hi) (fun kb _=>he kb) h0
theorem iter_all{S R:Type}{f:(S→Option R)→S→Option R}(st:Nat→S)(k:Option R)(n:Nat)(hn:n≤1152921504606846976)
  (hs:∀kb i,i < n→f kb (st i)=kb (st (i+1))) (he:∀kb,f kb (st n)=k) {s0:S} (h0:s0=st 0):iter f FU s0=k:=by
 rw[iter_stop st (fun _=>none) k n hn (fun kb i hi=>hs kb i hi) he h0]
 have:(List.range n).findSome? (fun _=>(none:Option (Option R)))=none:=by
  rw[List.findSome?_eq_none_iff];intro x _;rfl
 rw[this]
theorem iter_goodH{S R:Type}{f:(S→Option R)→S→Option R}(st:Nat→S)(good:Nat→Bool)(r k:Option R)(n:Nat)(hn:n≤1152921504606846976)
  (hs:∀kb i,i < n→(∀j,j < i→good j=true)→f kb (st i)=if good i=true then kb (st (i+1)) else r) (he:∀kb,(∀j,j < n→good j=true)→f kb (st n)=k) {s0:S} (h0:s0=st 0):
  iter f FU s0=if (List.range n).all good=true then k else r:=by
 have tr:∀j,(if good j=true then(none:Option (Option R)) else some r)=none→good j=true:=fun j h=>by
  split at h
  ·assumption
  ·cases h
 rw[iter_stopH st (fun i=>if good i=true then none else some r) k n hn (fun kb i hi hp=>by rw[hs kb i hi (fun j hj=>tr j (hp j hj))];split<;>rfl) (fun kb hp=>he kb (fun j hj=>tr j (hp j hj))) h0]
 by_cases e:(List.range n).all good=true
 ·have:(List.range n).findSome? (fun i=>if good i=true then none else some r)=none:=by
   rw[List.findSome?_eq_none_iff]
   intro x hx
   rw[List.all_eq_true] at e
   simp[e x hx]
  rw[this,if_pos e]
 ·rw[if_neg e]
  cases h:(List.range n).findSome? (fun i=>if good i=true then none else some r) with
  |none=>
   exfalso
   apply e
   rw[List.all_eq_true]
   intro x hx
   rw[List.findSome?_eq_none_iff] at h
   exact tr x (h x hx)
  |some q=>
   obtain⟨x,hx,hq⟩:=List.exists_of_findSome?_eq_some h
   split at hq
   ·cases hq
   ·cases hq;rfl
theorem iter_good{S R:Type}{f:(S→Option R)→S→Option R}(st:Nat→S)(good:Nat→Bool)(r k:Option R)(n:Nat)(hn:n≤1152921504606846976)
  (hs:∀kb i,i < n→f kb (st i)=if good i=true then kb (st (i+1)) else r) (he:∀kb,f kb (st n)=k) {s0:S} (h0:s0=st 0):
  iter f FU s0=if (List.range n).all good=true then k else r:=
 iter_goodH st good r k n hn (fun kb i hi _=>hs kb i hi) (fun kb _=>he kb) h0
theorem iter_copy{α R:Type}{f:(List α×Int→Option R)→List α×Int→Option R}(xs:List α)(z:α)(k:List α→Option R)(hn:xs.length≤2147483648)
  (hs:∀kb (ys:List α) (i:Nat) (hi:i < xs.length),ys.length=xs.length→f kb (ys,(i:Int))=kb (ys.set i xs[i],((i+1:Nat):Int)))
  (he:∀kb (ys:List α),f kb (ys,(xs.length:Int))=k ys):iter f FU (List.replicate xs.length z,0)=k xs:=by
 refine iter_all (fun i=>(xs.take i++List.replicate (xs.length - i) z,(i:Int))) _ xs.length (by omega) (fun kb i hi=> ?_) (fun kb=> ?_) (by simp)
 ·rw[hs kb _ i hi (by simp;omega)]
  congr 2
  have:xs.length - i=(xs.length - (i+1))+1:=by omega
  have hk:min i xs.length=i:=by omega
  show _=(List.take (i+1) xs++_)
  rw[this,List.replicate_succ,List.set_append_right _ _ (by simp;omega),show List.take (i+1) xs=List.take i xs++[xs[i]] from List.take_succ_eq_append_getElem hi]
  simp only[List.length_take,hk,Nat.sub_self,List.set_cons_zero]
  rw[List.append_assoc]
  rfl
 ·rw[he]
  simp
theorem all_range_eq{α:Type}[DecidableEq α]{xs ys:List α}(h:xs.length=ys.length):(List.range xs.length).all (fun i=>decide (xs[i]? =ys[i]?))=decide (xs=ys):=by
 by_cases e:xs=ys
 ·subst e;simp
 ·rw[decide_eq_false e,List.all_eq_false]
  apply Classical.byContradiction
  intro hc
  apply e
  apply List.ext_getElem?
  intro i
  by_cases hi:i < xs.length
  ·apply Classical.byContradiction
   intro hne
   exact hc ⟨i,List.mem_range.2 hi,by simpa using hne⟩
  ·rw[List.getElem?_eq_none (by omega),List.getElem?_eq_none (by omega)]
theorem step1(i:Nat)(n:Nat)(h:i < n)(hn:n≤1152921504606846976):IntKind.wrap .i64 ((i:Int)+1)=((i+1:Nat):Int):=by
 rw[w64 (by omega) (by omega)];omega
theorem all_range{α:Type}(xs:List α)(p:α→Bool):((List.range xs.length).all fun i=>((xs[i]?).map p).getD true)=xs.all p:=by
 rw[Bool.eq_iff_iff,List.all_eq_true,List.all_eq_true]
 constructor
 ·intro H x hx
  obtain⟨i,hi,rfl⟩:=List.mem_iff_getElem.1 hx
  have:=H i (List.mem_range.2 hi)
  rw[List.getElem?_eq_getElem hi] at this
  exact this
 ·intro H i hi
  have hi:=List.mem_range.1 hi
  rw[List.getElem?_eq_getElem hi]
  exact H _ (List.getElem_mem hi)
def sumB{α:Type}(f:α→Nat):List α→Nat
 |[]=>0
 |x::xs=>f x+sumB f xs
theorem sumB_append{α:Type}(f:α→Nat):∀(xs ys:List α),sumB f (xs++ys)=sumB f xs+sumB f ys
 |[],ys=>by simp[sumB]
 |x::xs,ys=>by simp[sumB,sumB_append f xs ys];omega
theorem sumB_step{α:Type}(f:α→Nat){xs:List α}{i:Nat}(hi:i < xs.length):sumB f (xs.take (i+1))=sumB f (xs.take i)+f xs[i]:=by
 rw[List.take_succ_eq_append_getElem hi,sumB_append]
 simp[sumB]
theorem sumB_take{α:Type}(f:α→Nat)(xs:List α)(i:Nat):sumB f (xs.take i)≤sumB f xs:=by
 have:=sumB_append f (xs.take i) (xs.drop i)
 rw[List.take_append_drop] at this
 omega
def within(z lo hi:Int):Bool:=decide (lo≤z)&&decide (z≤hi)
theorem p_l1In(z lo hi:Int):m_spec_l1In z lo hi=some (within z lo hi):=by
 unfold m_spec_l1In within;by_cases h:lo≤z<;>simp[h]
theorem p_from(z lo hi:Int):m_impl_from z lo hi=some (within z lo hi):=by
 unfold m_impl_from within;by_cases h:lo≤z<;>simp[h]
theorem p_l10Key(z:Int):m_spec_l10Key z=some (within z 0 999):=by simp[m_spec_l10Key,p_l1In]
theorem p_isKey(z:Int):m_impl_isKey z=some (within z 0 999):=by simp[m_impl_isKey,p_from]
theorem p_l1Whole(z:Int):m_spec_l1Whole z=some (within z 0 1000000000):=by simp[m_spec_l1Whole,p_l1In]
theorem p_isWhole(z:Int):m_impl_isWhole z=some (within z 0 1000000000):=by simp[m_impl_isWhole,p_from]
def cellGood(xs:List TCell)(i:Nat):Bool:=match xs[i]? with
 |none=>true
 |some c=>within c.Key 0 999&&within c.Value 0 1000000000&&(i == 0||match xs[i - 1]? with|some p=>decide (p.Key < c.Key)|none=>true)
def storeGood(xs:List TCell):Bool:=decide (xs.length≤60)&&(List.range xs.length).all (cellGood xs)
theorem p_spec_StoreOk(xs:List TCell)(h:xs.length≤1048576):m_spec_StoreOk xs=some (storeGood xs):=by
 unfold m_spec_StoreOk storeGood
 split
 ·rename_i h1
  have:¬xs.length≤60:=by omega
  simp[this]
 ·rename_i h1
  have:xs.length≤60:=by omega
  rw[iter_good (s0:=(0:Int)) (fun i=>(i:Int)) (cellGood xs) (some false) (some true) xs.length (by omega) (fun kb i hi=> ?_) (fun kb=> ?_) rfl]
  ·simp only[this,decide_true,Bool.true_and];split<;>simp_all
  ·unfold spec_StoreOk_b5 spec_StoreOk_j8 cellGood
   simp only[idx_nat hi,p_l10Key,p_l1Whole,Option.bind_some,step1 i _ hi (by omega),List.getElem?_eq_getElem hi]
   rw[if_pos (by omega)]
   cases within xs[i].Key 0 999<;>simp
   cases within xs[i].Value 0 1000000000<;>simp
   by_cases h0:0 < i
   ·have h2:IntKind.wrap .i64 ((i:Int) - 1)=((i - 1:Nat):Int):=by rw[w64 (by omega) (by omega)];omega
    have h3:i - 1 < xs.length:=by omega
    have h4:¬i=0:=by omega
    simp only[h0,if_true,h2,idx_nat h3,Option.bind_some,List.getElem?_eq_getElem h3,h4,false_or]
    by_cases h5:xs[i].Key≤xs[i - 1].Key
    ·have:¬xs[i - 1].Key < xs[i].Key:=by omega
     simp[h5,this]
    ·have:xs[i - 1].Key < xs[i].Key:=by omega
     simp[h5,this]
   ·have h4:i=0:=by omega
    simp[h4]
  ·unfold spec_StoreOk_b5
   rw[if_neg (by omega)];rfl
theorem p_impl_StoreOk(xs:List TCell)(h:xs.length≤1048576):m_impl_StoreOk xs=some (storeGood xs):=by
 unfold m_impl_StoreOk storeGood
 rw[iter_good (s0:=(0:Int)) (fun i=>(i:Int)) (cellGood xs) (some false) (some (decide (xs.length≤60))) xs.length (by omega) (fun kb i hi=> ?_) (fun kb=> ?_) rfl]
 ·split<;>simp_all
 ·unfold impl_StoreOk_b4 impl_StoreOk_j9 cellGood
  simp only[idx_nat hi,p_isKey,p_isWhole,Option.bind_some,step1 i _ hi (by omega),List.getElem?_eq_getElem hi]
  rw[if_pos (by omega)]
  cases within xs[i].Key 0 999<;>simp
  cases within xs[i].Value 0 1000000000<;>simp
  by_cases h0:0 < i
  ·have h2:IntKind.wrap .i64 ((i:Int) - 1)=((i - 1:Nat):Int):=by rw[w64 (by omega) (by omega)];omega
   have h3:i - 1 < xs.length:=by omega
   have h4:¬i=0:=by omega
   simp only[h0,if_true,h2,idx_nat h3,Option.bind_some,List.getElem?_eq_getElem h3,h4,false_or]
   by_cases h5:xs[i].Key≤xs[i - 1].Key
   ·have:¬xs[i - 1].Key < xs[i].Key:=by omega
    simp[h5,this]
   ·have:xs[i - 1].Key < xs[i].Key:=by omega
    simp[h5,this]
  ·have h4:i=0:=by omega
   simp[h4]
 ·unfold impl_StoreOk_b4 impl_StoreOk_j2
  rw[if_neg (by omega)]
  have:((xs.length:Int)≤60)↔xs.length≤60:=by omega
  simp[this]
def asc(xs:List TCell):Prop:=∀i j (hi:i < xs.length) (hj:j < xs.length),i < j→xs[i].Key < xs[j].Key
theorem storeGood_le{xs:List TCell}(h:storeGood xs=true):xs.length≤60:=by
 unfold storeGood at h;simp at h;exact h.1
theorem storeGood_at{xs:List TCell}(h:storeGood xs=true){i:Nat}(hi:i < xs.length):cellGood xs i=true:=by
 unfold storeGood at h
 simp only[Bool.and_eq_true,List.all_eq_true] at h
 exact h.2 i (List.mem_range.2 hi)
theorem storeGood_key{xs:List TCell}(h:storeGood xs=true){i:Nat}(hi:i < xs.length):0≤xs[i].Key∧xs[i].Key≤999∧0≤xs[i].Value∧xs[i].Value≤1000000000:=by
 have:=storeGood_at h hi
 unfold cellGood within at this
 rw[List.getElem?_eq_getElem hi] at this
 simp only[Bool.and_eq_true,decide_eq_true_eq] at this
 exact⟨this.1.1.1,this.1.1.2,this.1.2.1,this.1.2.2⟩
theorem storeGood_asc{xs:List TCell}(h:storeGood xs=true):asc xs:=by
 have step:∀i (hi:i+1 < xs.length),xs[i].Key < xs[i+1].Key:=by
  intro i hi
  have:=storeGood_at h hi
  unfold cellGood at this
  rw[List.getElem?_eq_getElem hi] at this
  simp only[Bool.and_eq_true,Nat.add_sub_cancel,List.getElem?_eq_getElem (show i < xs.length by omega)] at this
  simpa using this.2
 intro i j hi hj hlt
 induction j with
 |zero=>omega
 |succ j ih=>
  by_cases e:i=j
  ·subst e;exact step i hj
  ·have:=ih (by omega) (by omega)
   have:=step j hj
   omega
theorem mid{a b:Nat}(h:a < b)(hb:b≤1048576):IntKind.wrap .i64 (Int.fdiv (IntKind.wrap .u64 (IntKind.wrap .i64 ((a:Int)+(b:Int)))) (2 ^ (min (Int.toNat 1) (IntKind.bits .u64))))=(((a+b) / 2:Nat):Int):=by
 rw[w64 (n:=(a:Int)+b) (by omega) (by omega)]
 have h1:IntKind.wrap .u64 ((a:Int)+b)=(a:Int)+b:=by
  unfold IntKind.wrap
  simp only[IntKind.bits,IntKind.signed]
  simp
  omega
 rw[h1]
 have h2:(min (Int.toNat 1) (IntKind.bits .u64))=1:=by decide
 rw[h2]
 have h3:((a:Int)+b).fdiv (2 ^ 1)=(((a+b) / 2:Nat):Int):=by
  rw[Int.fdiv_eq_ediv_of_nonneg _ (by decide)]
  omega
 rw[h3]
 exact w64 (by omega) (by omega)
theorem p_bsearch(xs:List TCell)(k:Int)(hs:asc xs)(hl:xs.length≤1048576)(hk:∀i (hi:i < xs.length),-1000000000000≤xs[i].Key∧xs[i].Key≤1000000000000)(h1:-9000000000000000000≤k)(h2:k≤9000000000000000000):
  ∃p:Nat,p≤xs.length∧(∀i (hi:i < xs.length),i < p↔xs[i].Key < k)∧m_impl_cellFor xs k=some ((p:Int),decide ((xs[p]?).map (·.Key)=some k)):=by
 have hc:∀i (hi:i < xs.length),m_impl_cellFor_1 xs[i] k=some (xs[i].Key - k):=fun i hi=>by
  unfold m_impl_cellFor_1
  have:=hk i hi
  rw[w64 (by omega) (by omega)]
 have loop:∀(m lo hi:Nat),lo≤hi→hi≤xs.length→hi - lo < m→(∀i (h:i < xs.length),i < lo→xs[i].Key < k)→(∀i (h:i < xs.length),hi≤i→¬xs[i].Key < k)→
   ∃p:Nat,p≤xs.length∧(∀i (hi:i < xs.length),i < p↔xs[i].Key < k)∧
    iter (slices_BinarySearchFunc_Cell_int__cellFor_1_b10 xs k (slices_BinarySearchFunc_Cell_int__cellFor_1_j3 xs k)) m ((lo:Int),(hi:Int))=slices_BinarySearchFunc_Cell_int__cellFor_1_j3 xs k (p:Int):=by
  intro m
  induction m with
  |zero=>intro lo hi _ _ h;omega
  |succ m ih=>
   intro lo hi hle hhi hm hlow hhigh
   unfold iter
   unfold slices_BinarySearchFunc_Cell_int__cellFor_1_b10
   by_cases e:lo=hi
   ·subst e
    refine⟨lo,hhi,fun i h=>⟨hlow i h,fun hlt=> ?_⟩,?_⟩
    ·apply Classical.byContradiction
     intro hn
     exact hhigh i h (by omega) hlt
    ·rw[if_neg (by simp)]
   ·have hlt:lo < hi:=by omega
    rw[if_pos (by simp;omega)]
    simp only[mid hlt (show hi≤1048576 by omega)]
    have hmid:(lo+hi) / 2 < xs.length:=by omega
    rw[idx_nat hmid]
    simp only[Option.bind_some,hc _ hmid]
    by_cases hv:xs[(lo+hi) / 2].Key - k < 0
    ·rw[if_pos hv,step1 ((lo+hi) / 2) (xs.length) hmid (by omega)]
     refine ih ((lo+hi) / 2+1) hi (by omega) hhi (by omega) (fun i h hi'=> ?_) hhigh
     by_cases e2:i=(lo+hi) / 2
     ·subst e2;omega
     ·have:=hs i ((lo+hi) / 2) h hmid (by omega);omega
    ·rw[if_neg hv]
     refine ih lo ((lo+hi) / 2) (by omega) (by omega) (by omega) hlow (fun i h hi'=> ?_)
     by_cases e2:i=(lo+hi) / 2
     ·subst e2;omega
     ·have:=hs ((lo+hi) / 2) i hmid h (by omega);omega
 obtain⟨p,hp,hiff,hit⟩:=loop FU 0 xs.length (by omega) (by omega) (by unfold FU;omega) (fun i h h0=>by omega) (fun i h h0=>by omega)
 refine⟨p,hp,hiff,?_⟩
 unfold m_impl_cellFor m_slices_BinarySearchFunc_Cell_int__cellFor_1
 have hit:iter (slices_BinarySearchFunc_Cell_int__cellFor_1_b10 xs k (slices_BinarySearchFunc_Cell_int__cellFor_1_j3 xs k)) FU (0,(xs.length:Int))=_:=hit
 rw[hit]
 unfold slices_BinarySearchFunc_Cell_int__cellFor_1_j3
 by_cases e:p < xs.length
 ·rw[if_pos (by omega),idx_nat e]
  simp only[Option.bind_some,hc p e,List.getElem?_eq_getElem e,Option.map_some]
  congr 2
  rw[decide_eq_decide]
  simp
  omega
 ·rw[if_neg (by omega),List.getElem?_eq_none (by omega)]
  simp
theorem range_findSome{α β:Type}:∀(xs:List α) (g:α→Option β),(List.range xs.length).findSome? (fun i=>(xs[i]?).bind g)= xs.findSome? g
 |[],_=>rfl
 |x::xs,g=>by
  rw[List.length_cons,List.range_succ_eq_map,List.findSome?_cons,List.findSome?_cons,List.findSome?_map]
  simp only[List.getElem?_cons_zero,Option.bind_some]
  cases g x with
  |some y=>rfl
  |none=>
   simp only[Function.comp_def,List.getElem?_cons_succ]
   exact range_findSome xs g
def valueAt(xs:List TCell)(k:Int):Int:=match xs.find? fun c=>decide (c.Key=k) with
 |some c=>c.Value
 |none=>-1
theorem p_l11Get(xs:List TCell)(k:Int)(hl:xs.length≤1048576):m_spec_l11Get xs k=some (valueAt xs k):=by
 unfold m_spec_l11Get
 rw[iter_stop (s0:=(0:Int)) (fun i=>(i:Int)) (fun i:Nat=>match xs[i]? with|some c=>if c.Key=k then some (some c.Value) else none|none=>none) (some (-1)) xs.length (by omega) (fun kb i hi=> ?_) (fun kb=> ?_) rfl]
 ·have:∀ys:List TCell,ys.findSome? (fun c=>if c.Key=k then some (some c.Value) else none)=(ys.find? fun c=>decide (c.Key=k)).map fun c=>some c.Value:=by
   intro ys
   induction ys with
   |nil=>rfl
   |cons y ys ih=>
    simp only[List.findSome?_cons,List.find?_cons]
    by_cases e:y.Key=k
    ·simp[e]
    ·simp[e,ih]
  have h2:(List.range xs.length).findSome? (fun i:Nat=>match xs[i]? with|some c=>if c.Key=k then some (some c.Value) else none|none=>none)= xs.findSome? (fun c=>if c.Key=k then some (some c.Value) else none):=by
   have key:∀(g:TCell→Option (Option Int)),(List.range xs.length).findSome? (fun i:Nat=>match xs[i]? with|some c=>g c|none=>none)= xs.findSome? g:=fun g=>by
    have e:(fun i:Nat=>match xs[i]? with|some c=>g c|none=>none)=fun i=>(xs[i]?).bind g:=by funext i;cases xs[i]?<;>rfl
    rw[e]
    exact range_findSome xs g
   exact key _
  rw[h2,this]
  unfold valueAt
  cases xs.find? fun c=>decide (c.Key=k)<;>rfl
 ·unfold spec_l11Get_b5
  simp only[idx_nat hi,Option.bind_some,step1 i _ hi (by omega),List.getElem?_eq_getElem hi]
  rw[if_pos (by omega)]
  by_cases e:xs[i].Key=k<;>simp[e]
 ·unfold spec_l11Get_b5
  rw[if_neg (by omega)];rfl
theorem valueAt_spec{xs:List TCell}{k:Int}(hs:asc xs){p:Nat}(hp:p≤xs.length)(hiff:∀i (hi:i < xs.length),i < p↔xs[i].Key < k):
  valueAt xs k=match xs[p]? with|some c=>if c.Key=k then c.Value else -1|none=>-1:=by
 unfold valueAt
 by_cases e:∃h:p < xs.length,xs[p].Key=k
 ·obtain⟨h,e⟩:=e
  have:xs.find? (fun c=>decide (c.Key=k))=some xs[p]:=by
   rw[List.find?_eq_some_iff_getElem]
   refine⟨by simp[e],p,h,rfl,fun j hj=> ?_⟩
   have:=(hiff j (by omega)).1 hj
   simp;omega
  rw[this,List.getElem?_eq_getElem h]
  simp[e]
 ·have:xs.find? (fun c=>decide (c.Key=k))=none:=by
   rw[List.find?_eq_none]
   intro x hx
   obtain⟨i,hi,rfl⟩:=List.mem_iff_getElem.1 hx
   simp only[decide_eq_true_eq]
   intro hk
   apply e
   have h1:=hiff i hi
   by_cases e1:p < xs.length
   ·refine⟨e1,?_⟩
    have h2:=hiff p e1
    by_cases e2:i=p
    ·subst e2;exact hk
    ·have:¬i < p:=by omega
     have h3:=hs p i e1 hi (by omega)
     omega
   ·omega
  rw[this]
  by_cases e1:p < xs.length
  ·rw[List.getElem?_eq_getElem e1]
   have:¬xs[p].Key=k:=fun h=>e ⟨e1,h⟩
   simp[this]
  ·rw[List.getElem?_eq_none (by omega)]
theorem p_Clone_Cell(xs:List TCell)(h:xs.length≤1048576):m_slices_Clone_Cell xs=some xs:=by
 unfold m_slices_Clone_Cell slices_Clone_Cell_j2
 split<;>first|(simp;done)|(simp;omega)
def rowM{α:Type}(g:Nat→α)(xs:List α)(i:Nat):List α:=(List.range i).map g++xs.drop i
theorem rowM_len{α:Type}(g:Nat→α){xs:List α}{i:Nat}(h:i≤xs.length):(rowM g xs i).length=xs.length:=by
 unfold rowM
 simp
 omega
theorem rowM_idx{α:Type}(g:Nat→α){xs:List α}{i:Nat}(h:i < xs.length):idx (rowM g xs i) (i:Int)=some xs[i]:=by
 rw[idx_ofNat]
 unfold rowM
 rw[List.getElem?_append_right (by simp)]
 simp[h]
theorem rowM_set{α:Type}(g:Nat→α){xs:List α}{i:Nat}(h:i < xs.length):(rowM g xs i).set i (g i)=rowM g xs (i+1):=by
 unfold rowM
 rw[List.set_append,if_neg (by simp),List.range_succ,List.map_append,List.append_assoc]
 congr 1
 have e:i - ((List.range i).map g).length=0:=by simp
 rw[e,List.drop_eq_getElem_cons h]
 rfl
theorem rowM_zero{α:Type}(g:Nat→α)(xs:List α):rowM g xs 0=xs:=by simp[rowM]
theorem rowM_all{α:Type}(g:Nat→α)(xs:List α):rowM g xs xs.length=(List.range xs.length).map g:=by simp[rowM]
theorem idx_set_same{α:Type}{xs:List α}{i:Nat}{a:α}(h:i < xs.length):idx (xs.set i a) (i:Int)=some a:=by
 rw[idx_nat (by simpa using h)]
 simp
theorem idx_range{α:Type}(g:Nat→α){n i:Nat}(h:i < n):idx ((List.range n).map g) (i:Int)=some (g i):=by
 rw[idx_nat (by simpa using h)]
 simp
def delY{α:Type}(xs:List α)(p:α→Bool)(k0:Nat):Nat→List α×Nat
 |0=>(xs,k0)
 |n+1=>match xs[k0+1+n]? with
  |some x=>if p x then delY xs p k0 n else((delY xs p k0 n).1.set (delY xs p k0 n).2 x,(delY xs p k0 n).2+1)
  |none=>delY xs p k0 n
def l2L(k v:Int):List TCell→Bool→List TCell
 |[],put=>if put then[] else[TCell.mk k v]
 |c::cs,put=>(if (!put&&decide (k≤c.Key))=true then[TCell.mk k v] else[])++((if ¬c.Key=k then[c] else[])++l2L k v cs (put||decide (k≤c.Key)))
def putAt(k:Int)(keep:Bool):Nat→List TCell→Bool
 |0,_=>!keep
 |n+1,xs=>putAt k keep n xs||match xs[n]? with|some c=>decide (k≤c.Key)|none=>false
theorem l2L_drop(k v:Int){xs:List TCell}{i:Nat}(hi:i < xs.length)(b:Bool):l2L k v (xs.drop i) b=(if (!b&&decide (k≤xs[i].Key))=true then[TCell.mk k v] else[])++((if ¬xs[i].Key=k then[xs[i]] else[])++l2L k v (xs.drop (i+1)) (b||decide (k≤xs[i].Key))):=by
 rw[List.drop_eq_getElem_cons hi]
 rfl
theorem l2L_true(k v:Int):∀(xs:List TCell),l2L k v xs true=xs.filter (fun c=>decide (¬c.Key=k))
 |[]=>rfl
 |c::cs=>by
  simp only[l2L,Bool.not_true,Bool.false_and,Bool.false_eq_true,if_false,List.nil_append,Bool.true_or,l2L_true k v cs,List.filter_cons]
  by_cases h:c.Key=k<;>simp[h]
theorem l2L_asc(k v:Int)(xs:List TCell)(hs:asc xs):∀(n p:Nat),n≤p→p≤xs.length→p - n=p - n→(∀i (hi:i < xs.length),i < p↔xs[i].Key < k)→l2L k v (xs.drop n) false=(xs.drop n).take (p - n)++(TCell.mk k v::(xs.drop p).filter (fun c=>decide (¬c.Key=k))):=by
 intro n p hn hp _ hiff
 induction hd:p - n generalizing n with
 |zero=>
  have:n=p:=by omega
  subst this
  by_cases hl:n < xs.length
  ·have hk:¬xs[n].Key < k:=fun h=>by have:=(hiff n hl).2 h;omega
   rw[l2L_drop k v hl]
   have hk':k≤xs[n].Key:=by omega
   simp only[hk',decide_true,Bool.not_false,Bool.and_self,if_true,Bool.or_true,l2L_true]
   conv=>rhs;rw[List.drop_eq_getElem_cons hl]
   simp only[List.take_zero,List.nil_append,List.filter_cons]
   by_cases h:xs[n].Key=k<;>simp[h]
  ·rw[List.drop_eq_nil_of_le (by omega)]
   simp[l2L]
 |succ d ih=>
  have hl:n < xs.length:=by omega
  have hk:xs[n].Key < k:=(hiff n hl).1 (by omega)
  have hk':¬k≤xs[n].Key:=by omega
  have hk2:¬xs[n].Key=k:=by omega
  rw[l2L_drop k v hl]
  simp only[hk',hk2,decide_false,Bool.not_false,Bool.and_false,Bool.false_eq_true,if_false,not_false_eq_true,if_true,List.nil_append,Bool.or_self]
  rw[ih (n+1) (by omega) rfl (by omega),List.drop_eq_getElem_cons hl]
  rfl
def accP(k v:Int)(keep:Bool)(xs:List TCell):Nat→List TCell
 |0=>[]
 |i+1=>accP k v keep xs i++(match xs[i]? with|some c=>(if (!(putAt k keep i xs)&&decide (k≤c.Key))=true then[TCell.mk k v] else[])++(if ¬c.Key=k then[c] else[])|none=>[])
theorem accP_len(k v:Int)(keep:Bool)(xs:List TCell):∀i,(accP k v keep xs i).length≤2 * i
 |0=>by simp[accP]
 |i+1=>by
  have ih:=accP_len k v keep xs i
  simp only[accP,List.length_append]
  have:(match xs[i]? with|some c=>(if (!(putAt k keep i xs)&&decide (k≤c.Key))=true then[TCell.mk k v] else[])++(if ¬c.Key=k then[c] else[])|none=>[]).length≤2:=by
   cases xs[i]? with
   |none=>simp
   |some c=>simp only[List.length_append];split<;>split<;>simp
  omega
theorem accP_all(k v:Int)(keep:Bool)(xs:List TCell):∀i,i≤xs.length→l2L k v xs (!keep)=accP k v keep xs i++l2L k v (xs.drop i) (putAt k keep i xs)
 |0,_=>by simp[accP,putAt]
 |i+1,hi=>by
  have hlt:i < xs.length:=by omega
  rw[accP_all k v keep xs i (by omega),l2L_drop k v hlt]
  simp only[accP,putAt,List.getElem?_eq_getElem hlt,List.append_assoc]
theorem p_l2Cells(xs:List TCell)(k v:Int)(keep:Bool)(h:xs.length≤1048576):m_spec_l2Cells xs k v keep=some (l2L k v xs (!keep)):=by
 unfold m_spec_l2Cells
 refine iter_all (fun i=>(accP k v keep xs i,putAt k keep i xs,(i:Int))) _ xs.length (by omega) (fun kb i hi=> ?_) (fun kb=> ?_) (by simp[accP,putAt])
 ·have hl:=accP_len k v keep xs i
  unfold spec_l2Cells_b9 spec_l2Cells_j20 spec_l2Cells_j12
  simp only[idx_nat hi,Option.bind_some,step1 i _ hi (by omega),accP,putAt,List.getElem?_eq_getElem hi]
  rw[if_pos (by omega)]
  generalize putAt k keep i xs=b
  generalize accP k v keep xs i=acc at hl
  cases b<;>by_cases h1:k≤xs[i].Key<;>by_cases h2:xs[i].Key=k<;>simp[h1,h2]<;>first|omega|(rw[if_pos (by omega),if_pos (by omega)])
 ·have hl:=accP_len k v keep xs xs.length
  rw[accP_all k v keep xs xs.length (Nat.le_refl _)]
  unfold spec_l2Cells_b9 spec_l2Cells_j5
  rw[if_neg (by simp)]
  simp only[List.drop_length]
  generalize putAt k keep xs.length xs=b
  generalize accP k v keep xs xs.length=acc at hl
  cases b<;>simp[l2L]<;>omega
theorem asc_pw{xs:List TCell}:asc xs↔xs.Pairwise (fun a b=>a.Key < b.Key):=by
 rw[List.pairwise_iff_getElem]
 constructor
 ·intro h i j hi hj hij;exact h i j hi hj hij
 ·intro h i j hi hj hij;exact h i j hi hj hij
def keysIn(xs:List TCell):Prop:=∀c∈xs,-1000000000000≤c.Key∧c.Key≤1000000000000
def wrote(xs:List TCell)(w:TCell):List TCell:=l2L w.Key w.Value xs (!decide (0≤w.Value))
theorem p_put(xs:List TCell)(w:TCell)(hs:asc xs)(hk:keysIn xs)(hl:xs.length≤1000)(h1:-1000000000000≤w.Key∧w.Key≤1000000000000)(h2:-1≤w.Value):
  m_impl_put xs w.Key w.Value=some (wrote xs w)∧asc (wrote xs w)∧keysIn (wrote xs w)∧(wrote xs w).length≤xs.length+1:=by
 obtain⟨k,v⟩:=w
 simp only at h1 h2
 obtain⟨p,hp,hiff,hc⟩:=p_bsearch xs k hs (by omega) (fun i hi=>hk _ (List.getElem_mem hi)) (by omega) (by omega)
 have hpw:=asc_pw.1 hs
 have hlow:∀c∈xs.take p,c.Key < k:=fun c hc=>by
  obtain⟨i,hi,rfl⟩:=List.getElem_of_mem hc
  rw[List.getElem_take]
  exact(hiff i (by simp at hi;omega)).1 (by simp at hi;omega)
 have hhigh:∀c∈xs.drop p,k≤c.Key:=fun c hc=>by
  obtain⟨i,hi,rfl⟩:=List.getElem_of_mem hc
  rw[List.getElem_drop]
  have:=hiff (p+i) (by simp at hi;omega)
  omega
 have hgt:∀c∈(xs.drop p).filter (fun c=>decide (¬c.Key=k)),k < c.Key:=fun c hc=>by
  rw[List.mem_filter] at hc
  have:=hhigh c hc.1
  have h3:¬c.Key=k:=by simpa using hc.2
  omega
 have hsub:(xs.take p++(xs.drop p).filter (fun c=>decide (¬c.Key=k))).Sublist xs:=by
  conv=>rhs;rw[←List.take_append_drop p xs]
  exact List.Sublist.append (List.Sublist.refl _) List.filter_sublist
 have hw:wrote xs ⟨k,v⟩=if 0≤v then xs.take p++(TCell.mk k v::(xs.drop p).filter (fun c=>decide (¬c.Key=k))) else xs.take p++(xs.drop p).filter (fun c=>decide (¬c.Key=k)):=by
  unfold wrote
  by_cases h0:0≤v
  ·have:=l2L_asc k v xs hs 0 p (by omega) hp rfl hiff
   simp only[h0,decide_true,Bool.not_true,if_true]
   simpa using this
  ·simp only[h0,decide_false,Bool.not_false,if_false,l2L_true]
   conv=>lhs;rw[←List.take_append_drop p xs]
   rw[List.filter_append]
   congr 1
   rw[List.filter_eq_self]
   intro c hc
   have:=hlow c hc
   simp;omega
 have hrest:∀c,xs[p]? =some c→(if c.Key=k then(xs.drop p).filter (fun c=>decide (¬c.Key=k))=xs.drop (p+1) else(xs.drop p).filter (fun c=>decide (¬c.Key=k))=xs.drop p):=fun c hc=>by
  obtain⟨hlt,rfl⟩:=List.getElem?_eq_some_iff.1 hc
  rw[List.drop_eq_getElem_cons hlt,List.filter_cons]
  have hr:(xs.drop (p+1)).filter (fun c=>decide (¬c.Key=k))=xs.drop (p+1):=by
   rw[List.filter_eq_self]
   intro c hc
   obtain⟨i,hi,rfl⟩:=List.getElem_of_mem hc
   rw[List.getElem_drop]
   have h3:=hs p (p+1+i) hlt (by simp at hi;omega) (by omega)
   have h4:=hiff p hlt
   simp;omega
  rw[hr]
  by_cases h:xs[p].Key=k<;>simp[h]
 refine⟨?_,?_,?_,?_⟩
 ·unfold m_impl_put impl_put_j6
  simp only[hc,Option.bind_some,p_Clone_Cell xs (by omega)]
  rw[hw]
  cases hx:xs[p]? with
  |none=>
   have hpl:p=xs.length:=by have:=List.getElem?_eq_none_iff.1 hx;omega
   have hd:(xs.drop p).filter (fun c=>decide (¬c.Key=k))=[]:=by rw[List.drop_eq_nil_of_le (by omega)];rfl
   simp only[Option.map_none,reduceCtorEq,decide_false,hd]
   by_cases h0:v= -1
   ·subst h0
    simp[hpl]
   ·have h0':0≤v:=by omega
    simp only[h0,h0',if_true,if_false,Bool.false_eq_true]
    unfold m_slices_Insert_Cell
    rw[if_pos ⟨by omega,by omega,rfl,by omega⟩]
    simp[hpl]
  |some c=>
   have hr:=hrest c hx
   obtain⟨hlt,hce⟩:=List.getElem?_eq_some_iff.1 hx
   by_cases hck:c.Key=k
   ·rw[if_pos hck] at hr
    simp only[Option.map_some,hck,decide_true,hr]
    by_cases h0:v= -1
    ·subst h0
     have e1:IntKind.wrap .i64 ((p:Int)+1)=((p+1:Nat):Int):=by rw[w64 (by omega) (by omega)];omega
     simp only[if_true,e1]
     unfold m_slices_Delete_Cell
     rw[if_pos ⟨by omega,by omega,by omega,by omega⟩]
     simp
    ·have h0':0≤v:=by omega
     simp only[h0,h0',if_true,if_false,Bool.false_eq_true,idx_nat hlt,Option.bind_some,Int.toNat_natCast]
     rw[List.set_eq_take_append_cons_drop,if_pos hlt,hce,hck]
   ·rw[if_neg hck] at hr
    have hne:¬(some c.Key=some k):=fun e=>hck (Option.some.inj e)
    simp only[Option.map_some,hne,decide_false,hr]
    by_cases h0:v= -1
    ·subst h0
     simp
    ·have h0':0≤v:=by omega
     simp only[h0,h0',if_true,if_false,Bool.false_eq_true]
     unfold m_slices_Insert_Cell
     rw[if_pos ⟨by omega,by omega,rfl,by omega⟩]
     simp
 ·rw[hw,asc_pw]
  split
  ·rw[List.pairwise_append]
   refine⟨hpw.sublist (List.take_sublist _ _),?_,fun a ha b hb=> ?_⟩
   ·rw[List.pairwise_cons]
    exact⟨hgt,hpw.sublist ((List.filter_sublist).trans (List.drop_sublist _ _))⟩
   ·rcases List.mem_cons.1 hb with rfl|hb
    ·exact hlow a ha
    ·have:=hlow a ha;have:=hgt b hb;omega
  ·exact hpw.sublist hsub
 ·rw[hw]
  split
  ·intro c hc
   rcases List.mem_append.1 hc with hc|hc
   ·exact hk c (List.mem_of_mem_take hc)
   ·rcases List.mem_cons.1 hc with rfl|hc
    ·exact h1
    ·exact hk c (List.mem_of_mem_drop (List.mem_filter.1 hc).1)
  ·intro c hc
   exact hk c (hsub.subset hc)
 ·rw[hw]
  have:=hsub.length_le
  split
  ·simp only[List.length_append,List.length_cons] at this ⊢;omega
  ·omega
def wroteAll(xs ws:List TCell):List TCell:=ws.foldl wrote xs
theorem wroteAll_inv(xs:List TCell)(hs:asc xs)(hk:keysIn xs)(hl:xs.length≤60):∀(ws:List TCell),ws.length≤60→(∀w∈ws,(-1000000000000≤w.Key∧w.Key≤1000000000000)∧-1≤w.Value)→∀i,i≤ws.length→
  asc (wroteAll xs (ws.take i))∧keysIn (wroteAll xs (ws.take i))∧(wroteAll xs (ws.take i)).length≤60+i:=fun ws hw hok i hi=>by
 induction i with
 |zero=>exact⟨by simpa[wroteAll] using hs,by simpa[wroteAll] using hk,by simpa[wroteAll] using hl⟩
 |succ i ih=>
  obtain⟨g1,g2,g3⟩:=ih (by omega)
  have hlt:i < ws.length:=by omega
  obtain⟨o1,o2⟩:=hok _ (List.getElem_mem hlt)
  obtain⟨_,k1,k2,k3⟩:=p_put (wroteAll xs (ws.take i)) ws[i] g1 g2 (by omega) o1 o2
  have e:wroteAll xs (ws.take (i+1))=wrote (wroteAll xs (ws.take i)) ws[i]:=by
   unfold wroteAll
   rw[List.take_succ_eq_append_getElem hlt,List.foldl_append]
   rfl
  rw[e]
  exact⟨k1,k2,by omega⟩
theorem wroteAll_succ(xs:List TCell){ws:List TCell}{i:Nat}(hlt:i < ws.length):wroteAll xs (ws.take (i+1))=wrote (wroteAll xs (ws.take i)) ws[i]:=by
 unfold wroteAll
 rw[List.take_succ_eq_append_getElem hlt,List.foldl_append]
 rfl
theorem p_szCellS(xs:List TCell)(h:xs.length≤maxLen)(z:Int)(h1:0≤z)(h2:z≤1048576):m_laws_szCellS xs z=some (if z < xs.length then -1 else z - xs.length):=by
 unfold m_laws_szCellS
 have:IntKind.wrap .i64 (z - (xs.length:Int))=z - xs.length:=by unfold maxLen at h;exact w64 (by omega) (by omega)
 rw[this]
 split<;>split<;>first|rfl|omega
theorem p_toCellS(xs:List TCell)(h:xs.length≤1048576):m_laws_toCellS xs=some xs:=by
 unfold m_laws_toCellS
 rw[if_pos ⟨by omega,by omega⟩]
 simp only[Int.toNat_natCast]
 refine iter_copy xs _ laws_toCellS_j3 (by omega) (fun kb ys i hi hy=> ?_) (fun kb ys=> ?_)
 ·unfold laws_toCellS_b5
  simp only[idx_nat hi,idx_nat (show i < ys.length by omega),m_laws_toCell,Option.bind_some,Int.toNat_natCast,step1 i _ hi (by omega)]
  rw[if_pos (by omega)]
 ·unfold laws_toCellS_b5
  rw[if_neg (by omega)]
theorem p_eqCell(a b:TCell):m_laws_eqCell a b=some (decide (a=b)):=by
 unfold m_laws_eqCell
 cases a;cases b
 simp only[TCell.mk.injEq]
 repeat' split
 all_goals simp_all
theorem p_eqCellS(xs ys:List TCell)(h:xs.length≤1048576):m_laws_eqCellS xs ys=some (decide (xs=ys)):=by
 unfold m_laws_eqCellS
 split
 ·rename_i hl
  have:¬xs=ys:=fun e=>hl (by rw[e])
  simp[this]
 ·rename_i hl
  have hl:xs.length=ys.length:=by omega
  rw[iter_good (s0:=(0:Int)) (fun i=>(i:Int)) (fun i=>decide (xs[i]? =ys[i]?)) (some false) (some true) xs.length (by omega) (fun kb i hi=> ?_) (fun kb=> ?_) rfl,all_range_eq hl]
  ·by_cases e:xs=ys<;>simp[e]
  ·unfold laws_eqCellS_b6
   simp only[idx_nat hi,idx_nat (show i < ys.length by omega),p_eqCell,Option.bind_some,step1 i _ hi (by omega)]
   rw[if_pos (by omega),List.getElem?_eq_getElem hi,List.getElem?_eq_getElem (show i < ys.length by omega)]
   simp
  ·unfold laws_eqCellS_b6
   rw[if_neg (by omega)]
   rfl
def mk_Cell(k:Int):TCell:=⟨k,k+1⟩
def marks_Cell(k:Int)(n:Nat):List TCell:=(List.range n).map fun(i:Nat)=>mk_Cell (k+2 * (i:Int))
theorem marks_Cell_len(k:Int)(n:Nat):(marks_Cell k n).length=n:=by simp[marks_Cell]
theorem p_markCellS(xs:List TCell)(k:Int)(h:xs.length≤1048576)(hk:0≤k)(hk':k≤1000000000000):m_laws_markCellS xs k=some (k+2 * (xs.length:Int),marks_Cell k xs.length):=by
 unfold m_laws_markCellS
 refine iter_all (fun i=>(rowM (fun(i:Nat)=>mk_Cell (k+2 * (i:Int))) xs i,k+2 * (i:Int),(i:Int))) _ xs.length (by omega) (fun kb i hi=> ?_) (fun kb=> ?_) (by simp[rowM_zero])
 ·unfold laws_markCellS_b6
  have hl:=rowM_len (fun(i:Nat)=>mk_Cell (k+2 * (i:Int))) (Nat.le_of_lt hi)
  have w1:IntKind.wrap .i64 (k+2 * (i:Int)+1)=k+2 * (i:Int)+1:=w64 (by omega) (by omega)
  have w2:IntKind.wrap .i64 (k+2 * (i:Int)+1+1)=k+2 * (i:Int)+2:=by rw[w64 (by omega) (by omega)];omega
  have e:k+2 * ((i+1:Nat):Int)=k+2 * (i:Int)+2:=by omega
  have hs:=rowM_set (fun(i:Nat)=>mk_Cell (k+2 * (i:Int))) hi
  have hx:=rowM_idx (fun(i:Nat)=>mk_Cell (k+2 * (i:Int))) hi
  show _=kb (rowM (fun(i:Nat)=>mk_Cell (k+2 * (i:Int))) xs (i+1),k+2 * ((i+1:Nat):Int),((i+1:Nat):Int))
  rw[←hs,e]
  generalize rowM (fun(i:Nat)=>mk_Cell (k+2 * (i:Int))) xs i=row at hl hx
  have hii:i < row.length:=by rw[hl];exact hi
  simp only[hx,Option.bind_some,Int.toNat_natCast,idx_set_same hii,List.set_set,step1 i _ hi (by omega),w1,w2,hl,mk_Cell]
  rw[if_pos (by omega)]
 ·unfold laws_markCellS_b6 laws_markCellS_j3
  have hl:=rowM_len (fun(i:Nat)=>mk_Cell (k+2 * (i:Int))) (Nat.le_refl xs.length)
  rw[if_neg (by simp only[hl];omega),if_pos hl,rowM_all]
  rfl
theorem p_heldCellS(n:Nat)(k:Int)(h:n≤1048576)(hk:0≤k)(hk':k≤1000000000000):m_laws_heldCellS (marks_Cell k n) k=some (k+2 * (n:Int)):=by
 unfold m_laws_heldCellS
 refine iter_all (fun i=>(k+2 * (i:Int),(i:Int))) _ n (by omega) (fun kb i hi=> ?_) (fun kb=> ?_) (by simp)
 ·unfold laws_heldCellS_b5
  have w1:IntKind.wrap .i64 (k+2 * (i:Int)+1)=k+2 * (i:Int)+1:=w64 (by omega) (by omega)
  have w2:IntKind.wrap .i64 (k+2 * (i:Int)+1+1)=k+2 * (i:Int)+2:=by rw[w64 (by omega) (by omega)];omega
  have e:k+2 * ((i+1:Nat):Int)=k+2 * (i:Int)+2:=by omega
  have hx:idx (marks_Cell k n) (i:Int)=some (mk_Cell (k+2 * (i:Int))):=idx_range _ hi
  simp only[hx,Option.bind_some,step1 i _ hi (by omega),w1,w2,mk_Cell,marks_Cell_len,not_true,if_false,e]
  rw[if_pos (by omega)]
 ·unfold laws_heldCellS_b5 laws_heldCellS_j3
  rw[if_neg (by simp only[marks_Cell_len];omega)]
theorem p_Concat_Cell(xs:List (List TCell))(h:xs.length≤1048576)(hs:sumB List.length xs≤100000000):m_slices_Concat_Cell xs=some xs.flatten:=by
 unfold m_slices_Concat_Cell
 have hst:=fun i=>sumB_take List.length xs i
 refine iter_all (fun i=>(((sumB List.length (xs.take i):Nat):Int),(i:Int))) _ xs.length (by omega) (fun kb i hi=> ?_) (fun kb=> ?_) (by simp[sumB])
 ·unfold slices_Concat_Cell_b14
  have h1:=hst (i+1)
  have h2:=sumB_step List.length hi
  have e:IntKind.wrap .i64 (((sumB List.length (xs.take i):Nat):Int)+(xs[i].length:Int))=((sumB List.length (xs.take (i+1)):Nat):Int):=by rw[w64 (by omega) (by omega),h2];omega
  simp only[idx_nat hi,Option.bind_some,step1 i _ hi (by omega),e]
  rw[if_pos (by omega),if_neg (by omega)]
 ·unfold slices_Concat_Cell_b14 slices_Concat_Cell_j2 m_slices_Grow_Cell
  rw[if_neg (by simp)]
  have h1:=hst xs.length
  simp only
  rw[if_pos (by omega)]
  simp only[Option.bind_some]
  refine iter_all (fun i=>((xs.take i).flatten,(i:Int))) _ xs.length (by omega) (fun kb i hi=> ?_) (fun kb=> ?_) (by simp)
  ·unfold slices_Concat_Cell_b8
   have h3:=hst (i+1)
   have hf:∀ys:List (List TCell),ys.flatten.length=sumB List.length ys:=fun ys=>by
    induction ys with
    |nil=>rfl
    |cons y ys ih=>simp only[List.flatten_cons,List.length_append,sumB,ih]
   have h2:=sumB_step List.length hi
   have e:(xs.take (i+1)).flatten=(xs.take i).flatten++xs[i]:=by rw[List.take_succ_eq_append_getElem hi,List.flatten_append];simp
   simp only[idx_nat hi,Option.bind_some,step1 i _ hi (by omega)]
   rw[if_pos (by omega),if_pos (by rw[←e,hf];omega),e]
  ·unfold slices_Concat_Cell_b8 slices_Concat_Cell_j6
   rw[if_neg (by simp)]
   simp
def clash(a b:List TCell):Bool:=b.any fun c=>decide (0≤valueAt a c.Key)
def joined(a b:List TCell):List TCell×Bool:=if storeGood a&&storeGood b&&decide (a.length+b.length≤60) then(if clash a b then([],false) else(wroteAll a b,true)) else([],false)
theorem storeGood_of{xs:List TCell}(hl:xs.length≤60)(hs:asc xs)(hk:∀c∈xs,0≤c.Key∧c.Key≤999∧0≤c.Value∧c.Value≤1000000000):storeGood xs=true:=by
 unfold storeGood
 simp only[hl,decide_true,Bool.true_and,List.all_eq_true,List.mem_range]
 intro i hi
 unfold cellGood within
 rw[List.getElem?_eq_getElem hi]
 obtain⟨h1,h2,h3,h4⟩:=hk _ (List.getElem_mem hi)
 simp only[h1,h2,h3,h4,decide_true,Bool.and_self,Bool.true_and,Bool.or_eq_true,beq_iff_eq]
 by_cases h0:i=0
 ·exact .inl h0
 ·right
  rw[List.getElem?_eq_getElem (show i - 1 < xs.length by omega)]
  simp only[decide_eq_true_eq]
  exact hs (i - 1) i (by omega) hi (by omega)
theorem valueAt_has{xs:List TCell}(hg:storeGood xs=true)(k:Int):(0≤valueAt xs k↔∃c∈xs,c.Key=k):=by
 unfold valueAt
 cases h:xs.find? fun c=>decide (c.Key=k) with
 |none=>
  rw[List.find?_eq_none] at h
  simp only
  constructor
  ·intro h;omega
  ·rintro⟨c,hc,hk⟩
   exact absurd (by simpa using hk) (h c hc)
 |some c=>
  have hc:=List.mem_of_find?_eq_some h
  have hk:=List.find?_some h
  obtain⟨i,hi,rfl⟩:=List.getElem_of_mem hc
  have:=storeGood_key hg hi
  simp only
  constructor
  ·intro _;exact⟨_,hc,by simpa using hk⟩
  ·intro _;omega
theorem wrote_perm{xs:List TCell}{w:TCell}(hs:asc xs)(hk:keysIn xs)(hl:xs.length≤1000)(h1:-1000000000000≤w.Key∧w.Key≤1000000000000)(h2:0≤w.Value)(hn:∀c∈xs,c.Key≠w.Key):(wrote xs w).Perm (w::xs):=by
 obtain⟨k,v⟩:=w
 simp only at h1 h2 hn
 obtain⟨p,hp,hiff,_⟩:=p_bsearch xs k hs (by omega) (fun i hi=>hk _ (List.getElem_mem hi)) (by omega) (by omega)
 unfold wrote
 have:=l2L_asc k v xs hs 0 p (by omega) hp rfl hiff
 simp only[h2,decide_true,Bool.not_true]
 simp only[List.drop_zero,Nat.sub_zero] at this
 rw[this,List.filter_eq_self.2 (fun c hc=>by simpa using hn c (List.mem_of_mem_drop hc))]
 refine List.perm_middle.trans ?_
 rw[List.take_append_drop]
theorem wroteAll_perm{a b:List TCell}(ha:storeGood a=true)(hb:storeGood b=true)(hc:clash a b=false):∀i,i≤b.length→(wroteAll a (b.take i)).Perm (a++b.take i)
 |0,_=>by simp[wroteAll]
 |i+1,hi=>by
  have hlt:i < b.length:=by omega
  have ih:=wroteAll_perm ha hb hc i (by omega)
  have hin:∀c∈a,0≤c.Key∧c.Key≤999∧0≤c.Value∧c.Value≤1000000000:=fun c hc=>by
   obtain⟨j,hj,rfl⟩:=List.getElem_of_mem hc;exact storeGood_key ha hj
  have hbk:=fun j (hj:j < b.length)=>storeGood_key hb hj
  obtain⟨g1,g2,g3⟩:=wroteAll_inv a (storeGood_asc ha) (fun c hc=>by have:=hin c hc;omega) (storeGood_le ha) b (storeGood_le hb) (fun w hw=>by
   obtain⟨j,hj,rfl⟩:=List.getElem_of_mem hw;have:=hbk j hj;omega) i (by omega)
  have hle:=storeGood_le hb
  rw[wroteAll_succ a hlt]
  refine(wrote_perm g1 g2 (by omega) (by have:=hbk i hlt;omega) (hbk i hlt).2.2.1 (fun c hcm=> ?_)).trans ?_
  ·rcases List.mem_append.1 (ih.mem_iff.1 hcm) with h|h
   ·intro e
    unfold clash at hc
    rw[List.any_eq_false] at hc
    have:=hc _ (List.getElem_mem hlt)
    rw[decide_eq_true_eq,valueAt_has ha] at this
    exact this ⟨c,h,e⟩
   ·obtain⟨j,hj,rfl⟩:=List.getElem_of_mem h
    simp only[List.length_take] at hj
    rw[List.getElem_take]
    have:=storeGood_asc hb j i (by omega) hlt (by omega)
    omega
  ·rw[List.take_succ_eq_append_getElem hlt,←List.append_assoc]
   refine(List.Perm.cons _ ih).trans ?_
   exact(List.perm_append_singleton _ _).symm
theorem asc_perm{xs ys:List TCell}(h:xs.Perm ys)(hx:asc xs)(hy:asc ys):xs=ys:=
 List.Perm.eq_of_pairwise (le:=fun a b=>a.Key < b.Key) (fun a b _ _ h1 h2=>by omega) (asc_pw.1 hx) (asc_pw.1 hy) h
theorem p_spec_StoreJoin(a b:List TCell)(h:a.length≤1048576)(h':b.length≤1048576):m_spec_StoreJoin a b=some (joined a b):=by
 unfold m_spec_StoreJoin spec_StoreJoin_j3 joined
 simp only[p_spec_StoreOk _ h,p_spec_StoreOk _ h',Option.bind_some]
 cases ha:storeGood a
 ·simp
 cases hb:storeGood b
 ·simp
 have hla:=storeGood_le ha
 have hlb:=storeGood_le hb
 rw[w64 (by omega) (by omega)]
 simp only[if_true,Bool.not_true,Bool.and_self,Bool.true_and,decide_eq_true_eq]
 by_cases hlen:a.length+b.length≤60
 rotate_left
 ·rw[if_pos (by omega),if_neg (by simpa using hlen)]
 rw[if_neg (by omega),if_pos (by omega),if_pos (by simpa using hlen)]
 have hin:∀c∈a,0≤c.Key∧c.Key≤999∧0≤c.Value∧c.Value≤1000000000:=fun c hc=>by
  obtain⟨j,hj,rfl⟩:=List.getElem_of_mem hc;exact storeGood_key ha hj
 have hbk:=fun j (hj:j < b.length)=>storeGood_key hb hj
 have inv:=wroteAll_inv a (storeGood_asc ha) (fun c hc=>by have:=hin c hc;omega) hla b hlb (fun w hw=>by
   obtain⟨j,hj,rfl⟩:=List.getElem_of_mem hw;have:=hbk j hj;omega)
 rw[iter_good (s0:=(a,(0:Int))) (fun i=>(wroteAll a (b.take i),(i:Int))) (fun i=>((b[i]?).map fun c=>!decide (0≤valueAt a c.Key)).getD true) (some ([],false)) (some (wroteAll a b,true)) b.length (by omega) (fun kb i hi=> ?_) (fun kb=> ?_) (by simp[wroteAll]),all_range b fun c=>!decide (0≤valueAt a c.Key)]
 ·unfold clash
  cases hc:b.any fun c=>decide (0≤valueAt a c.Key) with
  |true=>
   have:(b.all fun c=>!decide (0≤valueAt a c.Key))=false:=by
    rw[List.all_eq_false];obtain⟨x,hx,hp⟩:=List.any_eq_true.1 hc;exact⟨x,hx,by simp only[hp];decide⟩
   simp[this]
  |false=>
   have:(b.all fun c=>!decide (0≤valueAt a c.Key))=true:=by
    rw[List.all_eq_true];intro x hx;rw[List.any_eq_false] at hc;have:=hc x hx;simp only[Bool.not_eq_true] at this;simp only[this];decide
   simp[this]
 ·obtain⟨_,_,g3⟩:=inv i (by omega)
  unfold spec_StoreJoin_b9
  simp only[idx_nat hi,Option.bind_some,step1 i _ hi (by omega),p_l11Get _ _ h,p_l2Cells _ _ _ _ (show(wroteAll a (b.take i)).length≤1048576 by omega),wroteAll_succ a hi,List.getElem?_eq_getElem hi,Option.map_some,Option.getD_some]
  rw[if_pos (by omega)]
  have hv:wrote (wroteAll a (b.take i)) b[i]=l2L b[i].Key b[i].Value (wroteAll a (b.take i)) (!true):=by
   unfold wrote
   have:=(hbk i hi).2.2.1
   simp[this]
  rw[hv]
  by_cases h0:0≤valueAt a b[i].Key
  ·simp[h0]
  ·simp[h0]
 ·unfold spec_StoreJoin_b9 spec_StoreJoin_j7
  rw[if_neg (by simp),List.take_length]
theorem p_sortC{xs:List TCell}(h:∀c∈xs,0≤c.Key∧c.Key≤1000000)(hl:xs.length≤1000000000):∃ys,m_slices_SortFunc_Cell__StoreJoin_1 xs=some ys∧ys.Perm xs:=by
 unfold m_slices_SortFunc_Cell__StoreJoin_1
 rw[dif_pos ⟨h,hl⟩]
 refine⟨_,rfl,?_⟩
 have hp:=(sortK_perm (xs.pmap (fun c hc=>(⟨(c.Key,c.Value),hc⟩:KC)) h)).map fun p:KC=>TCell.mk p.1.1 p.1.2
 rw[List.map_pmap] at hp
 have e:List.pmap (fun(c:TCell) (hc:0≤c.Key∧c.Key≤1000000)=>TCell.mk c.Key c.Value) xs h=xs:=by
  rw[List.pmap_eq_map]
  exact List.map_id _
 exact hp.trans (by rw[show _=xs from e])
theorem sortC_le{xs ys:List TCell}(h:m_slices_SortFunc_Cell__StoreJoin_1 xs=some ys)(i j:Nat)(hij:i < j)(hj:j < ys.length):ys[i].Key≤ys[j].Key:=by
 unfold m_slices_SortFunc_Cell__StoreJoin_1 at h
 split at h
 ·cases h
  simp only[List.getElem_map]
  exact sortK_le _ i j hij (by simpa using hj)
 ·cases h
theorem p_impl_StoreJoin(a b:List TCell)(h:a.length≤1048576)(h':b.length≤1048576):m_impl_StoreJoin a b=some (joined a b):=by
 unfold m_impl_StoreJoin impl_StoreJoin_j3 joined
 simp only[p_impl_StoreOk _ h,p_impl_StoreOk _ h',Option.bind_some]
 cases ha:storeGood a
 ·simp
 cases hb:storeGood b
 ·simp
 have hla:=storeGood_le ha
 have hlb:=storeGood_le hb
 rw[w64 (by omega) (by omega)]
 simp only[if_true,Bool.not_true,Bool.and_self,Bool.true_and,decide_eq_true_eq]
 by_cases hlen:a.length+b.length≤60
 rotate_left
 ·rw[if_pos (by omega),if_neg (by simpa using hlen)]
 rw[if_neg (by omega),if_pos (by simpa using hlen)]
 have hin:∀c∈a++b,0≤c.Key∧c.Key≤999∧0≤c.Value∧c.Value≤1000000000:=fun c hc=>by
  rcases List.mem_append.1 hc with hc|hc
  ·obtain⟨j,hj,rfl⟩:=List.getElem_of_mem hc;exact storeGood_key ha hj
  ·obtain⟨j,hj,rfl⟩:=List.getElem_of_mem hc;exact storeGood_key hb hj
 rw[p_Concat_Cell _ (by simp) (by simp[sumB];omega)]
 simp only[Option.bind_some,List.flatten_cons,List.flatten_nil,List.append_nil]
 obtain⟨ys,hy,hp⟩:=p_sortC (xs:=a++b) (fun c hc=>by have:=hin c hc;omega) (by simp;omega)
 have hyl:ys.length=(a++b).length:=hp.length_eq
 have hyl2:ys.length≤60:=by rw[hyl];simpa using hlen
 rw[hy]
 simp only[Option.bind_some]
 rw[if_pos hyl,p_impl_StoreOk _ (by omega)]
 simp only[Option.bind_some]
 cases hc:clash a b with
 |false=>
  have hw:=wroteAll_perm ha hb hc b.length (Nat.le_refl _)
  rw[List.take_length] at hw
  have hbk:=fun j (hj:j < b.length)=>storeGood_key hb hj
  obtain⟨g1,_,_⟩:=wroteAll_inv a (storeGood_asc ha) (fun c hc=>by have:=hin c (by simp[hc]);omega) hla b hlb (fun w hw=>by
   obtain⟨j,hj,rfl⟩:=List.getElem_of_mem hw;have:=hbk j hj;omega) b.length (Nat.le_refl _)
  rw[List.take_length] at g1
  have hpw:ys.Perm (wroteAll a b):=hp.trans hw.symm
  have hnd:(ys.map (·.Key)).Nodup:=by
   rw[(hpw.map (·.Key)).nodup_iff]
   unfold List.Nodup
   rw[List.pairwise_map]
   exact(asc_pw.1 g1).imp fun hlt=>by omega
  have hya:asc ys:=fun i j hi hj hij=>by
   have h1:=sortC_le hy i j hij hj
   have h2:ys[i].Key≠ys[j].Key:=by
    unfold List.Nodup at hnd
    rw[List.pairwise_map,List.pairwise_iff_getElem] at hnd
    exact hnd i j hi hj hij
   omega
  have e:=asc_perm hpw hya g1
  have hg:storeGood ys=true:=storeGood_of hyl2 hya (fun c hc=>hin c (hp.mem_iff.1 hc))
  rw[hg]
  simp[e]
 |true=>
  have hg:storeGood ys=false:=by
   rw[Bool.eq_false_iff]
   intro hg
   have hya:=storeGood_asc hg
   have hnd:((a++b).map (·.Key)).Nodup:=by
    rw[←(hp.map (·.Key)).nodup_iff]
    unfold List.Nodup
    rw[List.pairwise_map]
    exact(asc_pw.1 hya).imp fun hlt=>by omega
   unfold clash at hc
   rw[List.any_eq_true] at hc
   obtain⟨c,hcb,hv⟩:=hc
   rw[decide_eq_true_eq,valueAt_has ha] at hv
   obtain⟨d,hda,hk⟩:=hv
   rw[List.map_append,List.nodup_append] at hnd
   exact hnd.2.2 _ (List.mem_map.2 ⟨d,hda,rfl⟩) _ (List.mem_map.2 ⟨c,hcb,rfl⟩) hk
  simp[hg]
theorem joined_len(a b:List TCell):(joined a b).1.length≤120:=by
 unfold joined
 split
 ·rename_i h
  simp only[Bool.and_eq_true,decide_eq_true_eq] at h
  split
  ·simp
  ·have hb:=storeGood_le h.1.2
   have hin:∀c∈a,0≤c.Key∧c.Key≤999∧0≤c.Value∧c.Value≤1000000000:=fun c hc=>by
    obtain⟨j,hj,rfl⟩:=List.getElem_of_mem hc;exact storeGood_key h.1.1 hj
   have hbk:=fun j (hj:j < b.length)=>storeGood_key h.1.2 hj
   obtain⟨_,_,g⟩:=wroteAll_inv a (storeGood_asc h.1.1) (fun c hc=>by have:=hin c hc;omega) (storeGood_le h.1.1) b hb (fun w hw=>by
    obtain⟨j,hj,rfl⟩:=List.getElem_of_mem hw;have:=hbk j hj;omega) b.length (Nat.le_refl _)
   rw[List.take_length] at g
   simp only;omega
 ·simp
theorem p_FnExactStoreJoin(a1 a2:List TCell)(h:okS ok_TCell a1)(h2:okS ok_TCell a2):m_laws_FnExactStoreJoin a1 a2=some true:=by
 unfold m_laws_FnExactStoreJoin
 rw[p_szCellS a1 h.1 _ (by omega) (by omega)]
 simp only[Option.bind_some]
 split
 ·rfl
 ·rename_i h1
  have hl:a1.length≤1048576:=by omega
  rw[if_neg (by omega),p_szCellS a2 h2.1 _ (by omega) (by omega)]
  simp only[Option.bind_some]
  split
  ·rfl
  ·have hl2:a2.length≤1048576:=by omega
   have e1:=p_spec_StoreJoin a1 a2 hl hl2
   have e2:=p_impl_StoreJoin a1 a2 hl hl2
   have hr0:=joined_len a1 a2
   generalize joined a1 a2=r at e1 e2 hr0
   have hr:r.1.length≤1048576:=by omega
   have k1:=p_markCellS a1 1 hl (by omega) (by omega)
   have k2:=p_markCellS a2 (1+2 * (a1.length:Int)) hl2 (by omega) (by omega)
   have k3:=p_markCellS r.1 1 hr (by omega) (by omega)
   have k4:=p_heldCellS r.1.length 1 hr (by omega) (by omega)
   have q1:¬(1+2 * (a1.length:Int)+2 * (a2.length:Int) < 0):=by omega
   have q2:¬(1+2 * (r.1.length:Int) < 0):=by omega
   simp[p_toCellS _ hl,p_toCellS _ hl2,e1,e2,p_eqCellS _ _ hr,p_eqCellS _ _ hl,p_eqCellS _ _ hl2,k1,k2,k3,k4,marks_Cell_len,q1,q2,laws_FnExactStoreJoin_j21,laws_FnExactStoreJoin_j40,laws_FnExactStoreJoin_j56]
end Go.AW
