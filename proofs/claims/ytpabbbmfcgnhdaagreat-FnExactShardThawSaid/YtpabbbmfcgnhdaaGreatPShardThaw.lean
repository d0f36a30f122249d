/- Plain laws: what the plain functions answer. Conditions: each theorem's own. -/
import Derived.Test.YtpabbbmfcgnhdaaGreatMShardThaw
set_option linter.unusedVariables false
set_option linter.unusedSimpArgs false
set_option maxRecDepth 100000
namespace Go.AW
theorem w64{n:Int}(h1:-9223372036854775808≤n)(h2:n < 9223372036854775808):IntKind.wrap .i64 n=n:=by
 rw[IntKind.wrap_i64];omega
theorem zO{α:Type}{xs:List α}{i:Nat}(h:i < xs.length):idx xs (i:Int)=some xs[i]:=by
 unfold idx
 rw[if_pos (by omega)]
 simp[h]
theorem zjB{α:Type}(xs:List α)(i:Nat):idx xs (i:Int)=xs[i]?:=by
 unfold idx
 rw[if_pos (by omega)]
 simp
theorem ziU{S R:Type}{f:(S→Option R)→S→Option R}(st:Nat→S)(stop:Nat→Option (Option R))(k:Option R)(n:Nat)
  (hs:∀kb i,i < n→(∀j,j < i→stop j=none)→f kb (st i)=match stop i with|some r=>r|none=>kb (st (i+1))) (he:∀kb,(∀j,j < n→stop j=none)→f kb (st n)=k):
  ∀(m i:Nat),i≤n→(∀j,j < i→stop j=none)→n - i < m→iter f m (st i)=match ((List.range n).drop i).findSome? stop with|some r=>r|none=>k
 |0,i,_,_,h=>by omega
 |m+1,i,hi,hp,h=>by
  unfold iter
  by_cases e:i=n
  ·subst e
   rw[he _ hp]
   simp[List.drop_eq_nil_of_le]
  ·have hlt:i < n:=by omega
   rw[hs _ i hlt hp,List.drop_eq_getElem_cons (by simpa using hlt)]
   simp only[List.getElem_range,List.findSome?_cons]
   cases hq:stop i with
   |some r=>rfl
   |none=>exact ziU st stop k n hs he m (i+1) (by omega) (fun j hj=>by
     by_cases e':j=i
     ·subst e';exact hq
     ·exact hp j (by omega)) (by omega)
theorem zeg{S R:Type}{f:(S→Option R)→S→Option R}(st:Nat→S)(stop:Nat→Option (Option R))(k:Option R)(n:Nat)(hn:n≤1152921504606846976)
  (hs:∀kb i,i < n→(∀j,j < i→stop j=none)→f kb (st i)=match stop i with|some r=>r|none=>kb (st (i+1))) (he:∀kb,(∀j,j < n→stop j=none)→f kb (st n)=k) {s0:S} (h0:s0=st 0):
  iter f FU s0=match (List.range n).findSome? stop with|some r=>r|none=>k:=by
 subst h0
 have:=ziU st stop k n hs he FU 0 (by omega) (fun j hj=>by omega) (by unfold FU;omega)
 simpa using this
theorem zbo{S R:Type}{f:(S→Option R)→S→Option R}(st:Nat→S)(stop:Nat→Option (Option R))(k:Option R)(n:Nat)(hn:n≤1152921504606846976)
  (hs:∀kb i,i < n→f kb (st i)=match stop i with|some r=>r|none=>kb (st (i+1))) (he:∀kb,f kb (st n)=k) {s0:S} (h0:s0=st 0):
  iter f FU s0=match (List.range n).findSome? stop with|some r=>r|none=>k:=
 zeg st stop k n hn (fun kb i hi _=>hs kb i hi) (fun kb _=>he kb) h0
theorem qR{S R:Type}{f:(S→Option R)→S→Option R}(st:Nat→S)(k:Option R)(n:Nat)(hn:n≤1152921504606846976)
  (hs:∀kb i,i < n→f kb (st i)=kb (st (i+1))) (he:∀kb,f kb (st n)=k) {s0:S} (h0:s0=st 0):iter f FU s0=k:=by
 rw[zbo st (fun _=>none) k n hn (fun kb i hi=>hs kb i hi) he h0]
 have:(List.range n).findSome? (fun _=>(none:Option (Option R)))=none:=by
  rw[List.findSome?_eq_none_iff];intro x _;rfl
 rw[this]
theorem zbR{S R:Type}{f:(S→Option R)→S→Option R}(st:Nat→S)(good:Nat→Bool)(r k:Option R)(n:Nat)(hn:n≤1152921504606846976)
  (hs:∀kb i,i < n→(∀j,j < i→good j=true)→f kb (st i)=if good i=true then kb (st (i+1)) else r) (he:∀kb,(∀j,j < n→good j=true)→f kb (st n)=k) {s0:S} (h0:s0=st 0):
  iter f FU s0=if (List.range n).all good=true then k else r:=by
 have tr:∀j,(if good j=true then(none:Option (Option R)) else some r)=none→good j=true:=fun j h=>by
  split at h
  ·assumption
  ·cases h
 rw[zeg st (fun i=>if good i=true then none else some r) k n hn (fun kb i hi hp=>by rw[hs kb i hi (fun j hj=>tr j (hp j hj))];split<;>rfl) (fun kb hp=>he kb (fun j hj=>tr j (hp j hj))) h0]
 by_cases e:(List.range n).all good=true
 ·have:(List.range n).findSome? (fun i=>if good i=true then none else some r)=none:=by
   rw[List.findSome?_eq_none_iff]
   intro x hx
   rw[List.all_eq_true] at e
   simp[e x hx]
  rw[this,if_pos e]
 ·rw[if_neg e]
  cases h:(List.range n).findSome? (fun i=>if good i=true then none else some r) with
  |none=>
   exfalso
   apply e
   rw[List.all_eq_true]
   intro x hx
   rw[List.findSome?_eq_none_iff] at h
   exact tr x (h x hx)
  |some q=>
   obtain⟨x,hx,hq⟩:=List.exists_of_findSome?_eq_some h
   split at hq
   ·cases hq
   ·cases hq;rfl
theorem jD{S R:Type}{f:(S→Option R)→S→Option R}(st:Nat→S)(good:Nat→Bool)(r k:Option R)(n:Nat)(hn:n≤1152921504606846976)
  (hs:∀kb i,i < n→f kb (st i)=if good i=true then kb (st (i+1)) else r) (he:∀kb,f kb (st n)=k) {s0:S} (h0:s0=st 0):
  iter f FU s0=if (List.range n).all good=true then k else r:=
 zbR st good r k n hn (fun kb i hi _=>hs kb i hi) (fun kb _=>he kb) h0
theorem XZ{α R:Type}{f:(List α×Int→Option R)→List α×Int→Option R}(xs:List α)(z:α)(k:List α→Option R)(hn:xs.length≤2147483648)
  (hs:∀kb (ys:List α) (i:Nat) (hi:i < xs.length),ys.length=xs.length→f kb (ys,(i:Int))=kb (ys.set i xs[i],((i+1:Nat):Int)))
  (he:∀kb (ys:List α),f kb (ys,(xs.length:Int))=k ys):iter f FU (List.replicate xs.length z,0)=k xs:=by
 refine qR (fun i=>(xs.take i++List.replicate (xs.length - i) z,(i:Int))) _ xs.length (by omega) (fun kb i hi=> ?_) (fun kb=> ?_) (by simp)
 ·rw[hs kb _ i hi (by simp;omega)]
  congr 2
  have:xs.length - i=(xs.length - (i+1))+1:=by omega
  have hk:min i xs.length=i:=by omega
  show _=(List.take (i+1) xs++_)
  rw[this,List.replicate_succ,List.set_append_right _ _ (by simp;omega),show List.take (i+1) xs=List.take i xs++[xs[i]] from List.take_succ_eq_append_getElem hi]
  simp only[List.length_take,hk,Nat.sub_self,List.set_cons_zero]
  rw[List.append_assoc]
  rfl
 ·rw[he]
  simp
theorem YG{α:Type}[DecidableEq α]{xs ys:List α}(h:xs.length=ys.length):(List.range xs.length).all (fun i=>decide (xs[i]? =ys[i]?))=decide (xs=ys):=by
 by_cases e:xs=ys
 ·subst e;simp
 ·rw[decide_eq_false e,List.all_eq_false]
  apply Classical.byContradiction
  intro hc
  apply e
  apply List.ext_getElem?
  intro i
  by_cases hi:i < xs.length
  ·apply Classical.byContradiction
   intro hne
   exact hc ⟨i,List.mem_range.2 hi,by simpa using hne⟩
  ·rw[List.getElem?_eq_none (by omega),List.getElem?_eq_none (by omega)]
theorem ql(i:Nat)(n:Nat)(h:i < n)(hn:n≤1152921504606846976):IntKind.wrap .i64 ((i:Int)+1)=((i+1:Nat):Int):=by
 rw[w64 (by omega) (by omega)];omega
def ziW{α:Type}(p:α→Bool)(xs:List α):Int:=match xs.findIdx? p with
 |some k=>(k:Int)
 |none=>-1
theorem ZK{α:Type}(p:α→Bool)(xs:List α):decide (0≤ziW p xs)=xs.any p:=by
 unfold ziW
 cases h:xs.findIdx? p with
 |none=>
  rw[List.findIdx?_eq_none_iff] at h
  have:xs.any p=false:=by rw[List.any_eq_false];intro x hx;simp[h x hx]
  simp[this]
 |some k=>
  rw[List.findIdx?_eq_some_iff_getElem] at h
  obtain⟨hk,hp,_⟩:=h
  have:xs.any p=true:=List.any_eq_true.2 ⟨xs[k],List.getElem_mem hk,hp⟩
  simp[this]
theorem JA{α:Type}(xs:List α)(p:α→Bool){f:(Int→Option Int)→Int→Option Int}(hn:xs.length≤1152921504606846976)
  (hs:∀kb (i:Nat) (hi:i < xs.length),f kb (i:Int)=if p xs[i]=true then some (i:Int) else kb ((i+1:Nat):Int)) (he:∀kb,f kb (xs.length:Int)=some (-1)):iter f FU 0=some (ziW p xs):=by
 rw[zbo (s0:=(0:Int)) (fun i=>(i:Int)) (fun i:Nat=>(xs[i]?).bind fun x=>if p x=true then some (some (i:Int)) else none) (some (-1)) xs.length hn (fun kb i hi=> ?_) (fun kb=>he kb) rfl]
 ·have key:∀(ys:List α) (o:Nat),(List.range ys.length).findSome? (fun i:Nat=>(ys[i]?).bind fun x=>if p x=true then some (some ((o+i:Nat):Int)) else none)=(ys.findIdx? p).map fun k=>some ((o+k:Nat):Int):=by
   intro ys
   induction ys with
   |nil=>intro o;rfl
   |cons y ys ih=>
    intro o
    rw[List.length_cons,List.range_succ_eq_map,List.findSome?_cons,List.findSome?_map,List.findIdx?_cons]
    simp only[List.getElem?_cons_zero,Option.bind_some]
    by_cases e:p y=true
    ·simp[e]
    ·simp only[e,if_false,Function.comp_def,List.getElem?_cons_succ,Bool.false_eq_true]
     have:=ih (o+1)
     rw[show(fun i:Nat=>(ys[i]?).bind fun x=>if p x=true then some (some ((o+(i+1):Nat):Int)) else none)=fun i:Nat=>(ys[i]?).bind fun x=>if p x=true then some (some ((o+1+i:Nat):Int)) else none from by funext i;rw[show o+(i+1)=o+1+i by omega]]
     rw[this]
     cases ys.findIdx? p<;>simp;omega
  have:=key xs 0
  simp only[Nat.zero_add] at this
  rw[this]
  unfold ziW
  cases xs.findIdx? p<;>rfl
 ·rw[hs kb i hi,List.getElem?_eq_getElem hi]
  simp only[Option.bind_some]
  by_cases e:p xs[i]=true<;>simp[e]
theorem zf0{α:Type}(xs:List α)(p:α→Bool):((List.range xs.length).all fun i=>((xs[i]?).map p).getD true)=xs.all p:=by
 rw[Bool.eq_iff_iff,List.all_eq_true,List.all_eq_true]
 constructor
 ·intro H x hx
  obtain⟨i,hi,rfl⟩:=List.mem_iff_getElem.1 hx
  have:=H i (List.mem_range.2 hi)
  rw[List.getElem?_eq_getElem hi] at this
  exact this
 ·intro H i hi
  have hi:=List.mem_range.1 hi
  rw[List.getElem?_eq_getElem hi]
  exact H _ (List.getElem_mem hi)
theorem zet{α R:Type}(xs:List α)(p:α→Bool)(r k:Option R){f:(Int→Option R)→Int→Option R}(hn:xs.length≤1152921504606846976)
  (hs:∀kb (i:Nat) (hi:i < xs.length),f kb (i:Int)=if p xs[i]=true then r else kb ((i+1:Nat):Int)) (he:∀kb,f kb (xs.length:Int)=k):iter f FU 0=if xs.any p=true then r else k:=by
 rw[jD (s0:=(0:Int)) (fun i=>(i:Int)) (fun i=>((xs[i]?).map fun x=>!p x).getD true) r k xs.length hn (fun kb i hi=> ?_) (fun kb=>he kb) rfl,zf0 xs fun x=>!p x]
 ·cases h:xs.any p with
  |true=>
   have:(xs.all fun x=>!p x)=false:=by
    rw[List.all_eq_false];obtain⟨x,hx,hp⟩:=List.any_eq_true.1 h;exact⟨x,hx,by simp[hp]⟩
   simp[this]
  |false=>
   have:(xs.all fun x=>!p x)=true:=by
    rw[List.all_eq_true];intro x hx;rw[List.any_eq_false] at h;simp[h x hx]
   simp[this]
 ·rw[hs kb i hi,List.getElem?_eq_getElem hi]
  cases h:p xs[i]<;>simp[h]
theorem Xd{α R:Type}(xs:List α)(p:α→Bool)(r k:Option R){f:(Int→Option R)→Int→Option R}(hn:xs.length≤1152921504606846976)
  (hs:∀kb (i:Nat) (hi:i < xs.length),f kb (i:Int)=if p xs[i]=true then kb ((i+1:Nat):Int) else r) (he:∀kb,f kb (xs.length:Int)=k):iter f FU 0=if xs.all p=true then k else r:=by
 rw[jD (s0:=(0:Int)) (fun i=>(i:Int)) (fun i=>((xs[i]?).map p).getD true) r k xs.length hn (fun kb i hi=> ?_) (fun kb=>he kb) rfl,zf0 xs p]
 rw[hs kb i hi,List.getElem?_eq_getElem hi]
 rfl
def j4{α:Type}(f:α→Nat):List α→Nat
 |[]=>0
 |x::xs=>f x+j4 f xs
theorem zaY{α:Type}(f:α→Nat):∀(xs ys:List α),j4 f (xs++ys)=j4 f xs+j4 f ys
 |[],ys=>by simp[j4]
 |x::xs,ys=>by simp[j4,zaY f xs ys];omega
theorem Xe{α:Type}(f:α→Nat){xs:List α}{i:Nat}(hi:i < xs.length):j4 f (xs.take (i+1))=j4 f (xs.take i)+f xs[i]:=by
 rw[List.take_succ_eq_append_getElem hi,zaY]
 simp[j4]
theorem kU{α:Type}(f:α→Nat)(xs:List α)(i:Nat):j4 f (xs.take i)≤j4 f xs:=by
 have:=zaY f (xs.take i) (xs.drop i)
 rw[List.take_append_drop] at this
 omega
theorem zkT{α:Type}(f:α→Nat){xs:List α}{i:Nat}(hi:i < xs.length):f xs[i]≤j4 f xs:=by
 have h1:=Xe f hi
 have h2:=kU f xs (i+1)
 omega
def qA(z lo hi:Int):Bool:=decide (lo≤z)&&decide (z≤hi)
theorem zda(z lo hi:Int):yy z lo hi=some (qA z lo hi):=by
 unfold yy qA;by_cases h:lo≤z<;>simp[h]
theorem zaA(z lo hi:Int):yh z lo hi=some (qA z lo hi):=by
 unfold yh qA;by_cases h:lo≤z<;>simp[h]
theorem zht(z:Int):Q9 z=some (qA z 0 999):=by simp[Q9,zda]
theorem ziP(z:Int):YT z=some (qA z 0 999):=by simp[YT,zaA]
theorem zjc(z:Int):JO z=some (qA z 0 1000000000):=by simp[JO,zda]
theorem zjU(z:Int):JR z=some (qA z 0 1000000000):=by simp[JR,zaA]
theorem zgw(z:Int):QE z=some (qA z 1 60):=by simp[QE,zda]
theorem zkR(z:Int):xR z=some (qA z 1 60):=by simp[xR,zaA]
def z8(a:ze):Bool:=decide (0≤a.Lo)&&decide (a.Lo < a.Hi)&&decide (a.Hi≤1000)
theorem Zq(a:ze):qJ a=some (z8 a):=by
 unfold qJ z8;by_cases h:0≤a.Lo<;>by_cases h':a.Lo < a.Hi<;>simp[h,h']
theorem Ju(a:ze):ye a=some (z8 a):=by
 unfold ye z8;by_cases h:0≤a.Lo<;>by_cases h':a.Lo < a.Hi<;>simp[h,h']
theorem zjz(z:Int):JP z=some (qA z 0 3):=by simp[JP,zaA]
theorem zeu(xs:List ze)(h:xs.length≤maxLen)(z:Int)(h1:0≤z)(h2:z≤1048576):Zv xs z=some (if z < xs.length then -1 else z - xs.length):=by
 unfold Zv
 have:IntKind.wrap .i64 (z - (xs.length:Int))=z - xs.length:=by unfold maxLen at h;exact w64 (by omega) (by omega)
 rw[this]
 split<;>split<;>first|rfl|omega
theorem zeX(xs:List ze)(h:xs.length≤1048576):Zw xs=some xs:=by
 unfold Zw
 rw[if_pos ⟨by omega,by omega⟩]
 simp only[Int.toNat_natCast]
 refine XZ xs _ Yy (by omega) (fun kb ys i hi hy=> ?_) (fun kb ys=> ?_)
 ·unfold YB
  simp only[zO hi,zO (show i < ys.length by omega),yB,Option.bind_some,Int.toNat_natCast,ql i _ hi (by omega)]
  rw[if_pos (by omega)]
 ·unfold YB
  rw[if_neg (by omega)]
theorem zjN(a b:ze):JV a b=some (decide (a=b)):=by
 unfold JV
 cases a;cases b
 simp only[ze.mk.injEq]
 repeat' split
 all_goals simp_all
theorem zeD(xs ys:List ze)(h:xs.length≤1048576):Zx xs ys=some (decide (xs=ys)):=by
 unfold Zx
 split
 ·rename_i hl
  have:¬xs=ys:=fun e=>hl (by rw[e])
  simp[this]
 ·rename_i hl
  have hl:xs.length=ys.length:=by omega
  rw[jD (s0:=(0:Int)) (fun i=>(i:Int)) (fun i=>decide (xs[i]? =ys[i]?)) (some false) (some true) xs.length (by omega) (fun kb i hi=> ?_) (fun kb=> ?_) rfl,YG hl]
  ·by_cases e:xs=ys<;>simp[e]
  ·unfold YQ
   simp only[zO hi,zO (show i < ys.length by omega),zjN,Option.bind_some,ql i _ hi (by omega)]
   rw[if_pos (by omega),List.getElem?_eq_getElem hi,List.getElem?_eq_getElem (show i < ys.length by omega)]
   simp
  ·unfold YQ
   rw[if_neg (by omega)]
   rfl
def zbu(xs:List ze)(i:Nat):Bool:=match xs[i]? with
 |none=>true
 |some c=>z8 c&&(i == 0||match xs[i - 1]? with|some p=>decide (p.Hi≤c.Lo)|none=>true)
def qb(xs:List ze):Bool:=decide (xs.length≤16)&&(List.range xs.length).all (zbu xs)
theorem xt(xs:List ze)(h:xs.length≤1048576):yk xs=some (qb xs):=by
 unfold yk qb
 split
 ·rename_i h1
  have:¬xs.length≤16:=by omega
  simp[this]
 ·rename_i h1
  have:xs.length≤16:=by omega
  rw[jD (s0:=(0:Int)) (fun i=>(i:Int)) (zbu xs) (some false) (some true) xs.length (by omega) (fun kb i hi=> ?_) (fun kb=> ?_) rfl]
  ·simp only[this,decide_true,Bool.true_and];split<;>simp_all
  ·unfold YR y7 zbu
   simp only[zO hi,Zq,Option.bind_some,ql i _ hi (by omega),List.getElem?_eq_getElem hi]
   rw[if_pos (by omega)]
   cases z8 xs[i]<;>simp
   by_cases h0:0 < i
   ·have h2:IntKind.wrap .i64 ((i:Int) - 1)=((i - 1:Nat):Int):=by rw[w64 (by omega) (by omega)];omega
    have h3:i - 1 < xs.length:=by omega
    have h4:¬i=0:=by omega
    simp only[h0,if_true,h2,zO h3,Option.bind_some,List.getElem?_eq_getElem h3,h4,false_or]
    by_cases h5:xs[i].Lo < xs[i - 1].Hi
    ·have:¬xs[i - 1].Hi≤xs[i].Lo:=by omega
     simp[h5,this]
    ·have:xs[i - 1].Hi≤xs[i].Lo:=by omega
     simp[h5,this]
   ·have h4:i=0:=by omega
    simp[h4]
  ·unfold YR
   rw[if_neg (by omega)];rfl
theorem XD(xs:List ze)(h:xs.length≤1048576):yQ xs=some (qb xs):=by
 unfold yQ qb
 rw[jD (s0:=(0:Int)) (fun i=>(i:Int)) (zbu xs) (some false) (some (decide (xs.length≤16))) xs.length (by omega) (fun kb i hi=> ?_) (fun kb=> ?_) rfl]
 ·split<;>simp_all
 ·unfold YA y5 zbu
  simp only[zO hi,Ju,Option.bind_some,ql i _ hi (by omega),List.getElem?_eq_getElem hi]
  rw[if_pos (by omega)]
  cases z8 xs[i]<;>simp
  by_cases h0:0 < i
  ·have h2:IntKind.wrap .i64 ((i:Int) - 1)=((i - 1:Nat):Int):=by rw[w64 (by omega) (by omega)];omega
   have h3:i - 1 < xs.length:=by omega
   have h4:¬i=0:=by omega
   simp only[h0,if_true,h2,zO h3,Option.bind_some,List.getElem?_eq_getElem h3,h4,false_or]
   by_cases h5:xs[i].Lo < xs[i - 1].Hi
   ·have:¬xs[i - 1].Hi≤xs[i].Lo:=by omega
    simp[h5,this]
   ·have:xs[i - 1].Hi≤xs[i].Lo:=by omega
    simp[h5,this]
  ·have h4:i=0:=by omega
   simp[h4]
 ·unfold YA Yz
  rw[if_neg (by omega)]
  have:((xs.length:Int)≤16)↔xs.length≤16:=by omega
  simp[this]
theorem Q5{xs:List ze}(h:qb xs=true){i:Nat}(hi:i < xs.length):z8 xs[i]=true:=by
 unfold qb at h
 simp only[Bool.and_eq_true,List.all_eq_true] at h
 have:=h.2 i (List.mem_range.2 hi)
 unfold zbu at this
 rw[List.getElem?_eq_getElem hi] at this
 simp only[Bool.and_eq_true] at this
 exact this.1
theorem Xk{xs:List ze}(h:qb xs=true):xs.length≤16:=by
 unfold qb at h;simp at h;exact h.1
def XA(xs:List ze)(z:Int):Int:=xs.foldl (fun at_ b=>if b.Lo≤at_∧at_ < b.Hi then b.Hi else at_) z
def y0(xs:List ze)(a:ze):Bool:=decide (a.Hi≤XA xs a.Lo)
theorem zdC{xs:List ze}{i:Nat}(hi:i < xs.length)(z:Int):XA (xs.take (i+1)) z=if xs[i].Lo≤XA (xs.take i) z∧XA (xs.take i) z < xs[i].Hi then xs[i].Hi else XA (xs.take i) z:=by
 unfold XA
 rw[List.take_succ_eq_append_getElem hi,List.foldl_append]
 rfl
theorem zbr(xs:List ze)(a:ze)(h:xs.length≤1048576):yx xs a=some (y0 xs a):=by
 unfold yx y0
 refine qR (fun i=>(XA (xs.take i) a.Lo,(i:Int))) _ xs.length (by omega) (fun kb i hi=> ?_) (fun kb=> ?_) (by simp[XA])
 ·unfold xB Z8
  simp only[zO hi,Option.bind_some,ql i _ hi (by omega),zdC hi]
  rw[if_pos (by omega)]
  generalize XA (xs.take i) a.Lo=z
  by_cases c1:xs[i].Lo≤z<;>by_cases c2:z < xs[i].Hi<;>simp[c1,c2]
 ·unfold xB xl
  rw[if_neg (by simp)]
  simp
theorem XU(xs:List ze)(a:ze)(h:xs.length≤1048576):jt xs a=some (qb xs&&z8 a&&y0 xs a):=by
 have J:j0 xs a false=some (y0 xs a):=by
  unfold j0 y0
  rw[if_neg (by simp)]
  refine qR (fun i=>(XA (xs.take i) a.Lo,(i:Int))) _ xs.length (by omega) (fun kb i hi=> ?_) (fun kb=> ?_) (by simp[XA])
  ·unfold QI yV
   simp only[zO hi,Option.bind_some,ql i _ hi (by omega),zdC hi]
   rw[if_pos (by omega)]
   generalize XA (xs.take i) a.Lo=z
   by_cases c1:xs[i].Lo≤z<;>by_cases c2:z < xs[i].Hi<;>simp[c1,c2]
  ·unfold QI Qz
   rw[if_neg (by simp)]
   simp
 have J2:j0 xs a true=some false:=rfl
 unfold jt
 simp only[xt _ h,Zq,Option.bind_some]
 cases qb xs<;>cases z8 a<;>simp[J,J2]
def zg9(xs:List Int)(i:Nat):Bool:=match xs[i]? with
 |none=>true
 |some c=>qA c 1 60&&(i == 0||match xs[i - 1]? with|some p=>decide (p < c)|none=>true)
def jC(xs:List Int):Bool:=(List.range xs.length).all (zg9 xs)
theorem zhw(xs:List Int)(h:xs.length≤1048576):Q4 xs=some (jC xs):=by
 unfold Q4 jC
 rw[jD (s0:=(0:Int)) (fun i=>(i:Int)) (zg9 xs) (some false) (some true) xs.length (by omega) (fun kb i hi=> ?_) (fun kb=> ?_) rfl]
 ·split<;>simp_all
 ·unfold ks Z1 zg9
  simp only[zO hi,zgw,Option.bind_some,ql i _ hi (by omega),List.getElem?_eq_getElem hi]
  rw[if_pos (by omega)]
  cases qA xs[i] 1 60<;>simp
  by_cases h0:0 < i
  ·have h2:IntKind.wrap .i64 ((i:Int) - 1)=((i - 1:Nat):Int):=by rw[w64 (by omega) (by omega)];omega
   have h3:i - 1 < xs.length:=by omega
   have h4:¬i=0:=by omega
   simp only[h0,if_true,h2,zO h3,Option.bind_some,List.getElem?_eq_getElem h3,h4,false_or]
   by_cases h5:xs[i]≤xs[i - 1]
   ·have:¬xs[i - 1] < xs[i]:=by omega
    simp[h5,this]
   ·have:xs[i - 1] < xs[i]:=by omega
    simp[h5,this]
  ·have h4:i=0:=by omega
   simp[h4]
 ·unfold ks
  rw[if_neg (by omega)];rfl
theorem zaJ(xs:List Int)(h:xs.length≤1048576):yp xs=some (jC xs):=by
 unfold yp jC
 rw[jD (s0:=(0:Int)) (fun i=>(i:Int)) (zg9 xs) (some false) (some true) xs.length (by omega) (fun kb i hi=> ?_) (fun kb=> ?_) rfl]
 ·split<;>simp_all
 ·unfold Ji yI zg9
  simp only[zO hi,zkR,Option.bind_some,ql i _ hi (by omega),List.getElem?_eq_getElem hi]
  rw[if_pos (by omega)]
  cases qA xs[i] 1 60<;>simp
  by_cases h0:0 < i
  ·have h2:IntKind.wrap .i64 ((i:Int) - 1)=((i - 1:Nat):Int):=by rw[w64 (by omega) (by omega)];omega
   have h3:i - 1 < xs.length:=by omega
   have h4:¬i=0:=by omega
   simp only[h0,if_true,h2,zO h3,Option.bind_some,List.getElem?_eq_getElem h3,h4,false_or]
   by_cases h5:xs[i]≤xs[i - 1]
   ·have:¬xs[i - 1] < xs[i]:=by omega
    simp[h5,this]
   ·have:xs[i - 1] < xs[i]:=by omega
    simp[h5,this]
  ·have h4:i=0:=by omega
   simp[h4]
 ·unfold Ji
  rw[if_neg (by omega)];rfl
theorem zb5{xs:List Int}(h:jC xs=true){i:Nat}(hi:i < xs.length):(1≤xs[i]∧xs[i]≤60)∧(0 < i→xs[i - 1]'(by omega) < xs[i]):=by
 unfold jC at h
 simp only[List.all_eq_true] at h
 have:=h i (List.mem_range.2 hi)
 unfold zg9 qA at this
 rw[List.getElem?_eq_getElem hi] at this
 simp only[Bool.and_eq_true,decide_eq_true_eq,Bool.or_eq_true,beq_iff_eq] at this
 refine⟨this.1,fun h0=> ?_⟩
 rcases this.2 with e|e
 ·omega
 ·rw[List.getElem?_eq_getElem (show i - 1 < xs.length by omega)] at e
  simpa using e
theorem zb9{xs:List Int}(h:jC xs=true):∀{i j:Nat} (hj:j < xs.length) (hij:i < j),xs[i]'(by omega) < xs[j]
 |i,j+1,hj,hij=>by
  have h1:=(zb5 h hj).2 (by omega)
  simp only[Nat.add_sub_cancel] at h1
  by_cases e:i=j
  ·subst e;exact h1
  ·have:=zb9 h (i:=i) (j:=j) (by omega) (by omega)
   omega
theorem ze4{xs:List Int}(h:jC xs=true):∀{j:Nat} (hj:j < xs.length),(j:Int)+1≤xs[j]
 |0,hj=>by have:=(zb5 h hj).1.1;omega
 |j+1,hj=>by
  have h1:=ze4 h (j:=j) (by omega)
  have h2:=zb9 h hj (i:=j) (by omega)
  omega
theorem zbO{xs:List Int}(h:jC xs=true):xs.length≤60:=by
 by_cases e:xs.length=0
 ·omega
 ·have h1:=ze4 h (j:=xs.length - 1) (by omega)
  have h2:=(zb5 h (i:=xs.length - 1) (by omega)).1.2
  omega
theorem KI{xs:List Int}(h:jC xs=true):xs.Nodup:=by
 refine List.pairwise_iff_getElem.2 fun i j hi hj hij=> ?_
 have:=zb9 h hj hij
 omega
theorem zg2(xs:List Int):(Go.Lib.compact xs).length=xs.length↔∀i (h:i+1 < xs.length),xs[i+1]≠xs[i]:=by
 unfold Go.Lib.compact Go.Lib.compactUpTo
 rw[List.length_map]
 have:(List.filter (Go.Lib.keeps xs.toArray) (List.range xs.length)).length=xs.length↔∀i∈List.range xs.length,Go.Lib.keeps xs.toArray i=true:=by
  have:=List.length_filter_eq_length_iff (l:=List.range xs.length) (p:=Go.Lib.keeps xs.toArray)
  rw[List.length_range] at this
  exact this
 rw[this]
 constructor
 ·intro H i hi
  have:=H (i+1) (List.mem_range.2 hi)
  unfold Go.Lib.keeps at this
  intro e
  have h1:xs.toArray[i+1]! =xs[i+1]:=by rw[getElem!_pos _ _ (by simpa using hi)];simp
  have h2:xs.toArray[i]! =xs[i]:=by rw[getElem!_pos _ _ (by simp;omega)];simp
  simp[h1,h2,e] at this
 ·intro H i hi
  have hi:=List.mem_range.1 hi
  unfold Go.Lib.keeps
  cases i with
  |zero=>simp
  |succ i=>
   have h1:xs.toArray[i+1]! =xs[i+1]:=by rw[getElem!_pos _ _ (by simpa using hi)];simp
   have h2:xs.toArray[i]! =xs[i]:=by rw[getElem!_pos _ _ (by simp;omega)];simp
   have:=H i hi
   simp[h1,h2,this]
theorem zgJ{xs:List Int}(hs:xs.Pairwise (·≤·)):(∀i (h:i+1 < xs.length),xs[i+1]≠xs[i])↔xs.Nodup:=by
 constructor
 ·intro H
  have lt:∀{i j:Nat} (hj:j < xs.length) (hij:i < j),xs[i]'(by omega) < xs[j]:=by
   intro i j
   induction j with
   |zero=>intro _ h;omega
   |succ j ih=>
    intro hj hij
    have h1:=H j hj
    have h2:=List.pairwise_iff_getElem.1 hs j (j+1) (by omega) hj (by omega)
    by_cases e:i=j
    ·subst e;omega
    ·have:=ih (by omega) (by omega);omega
  refine List.pairwise_iff_getElem.2 fun i j hi hj hij=> ?_
  have:=lt hj hij
  omega
 ·intro H i hi e
  exact List.pairwise_iff_getElem.1 H i (i+1) (by omega) hi (by omega) e.symm
theorem zhY(zs:List Int):(zaP zs).Perm zs:=List.mergeSort_perm zs _
theorem zgi(zs:List Int):(zaP zs).Pairwise (·≤·):=by
 have:=List.pairwise_mergeSort (le:=fun x y:Int=>decide (x≤y)) (by intro a b c h1 h2;simp at *;omega) (by intro a b;simp;omega) zs
 exact this.imp fun h=>by simpa using h
theorem zgh(zs:List Int):(Go.Lib.compact (zaP zs)).length=zs.length↔zs.Nodup:=by
 rw[←X0 zs,zg2,zgJ (zgi zs)]
 exact(zhY zs).nodup_iff
def kB{α:Type}(g:Nat→α)(xs:List α)(i:Nat):List α:=(List.range i).map g++xs.drop i
theorem QS{α:Type}(g:Nat→α){xs:List α}{i:Nat}(h:i≤xs.length):(kB g xs i).length=xs.length:=by
 unfold kB
 simp
 omega
theorem KV{α:Type}(g:Nat→α){xs:List α}{i:Nat}(h:i < xs.length):idx (kB g xs i) (i:Int)=some xs[i]:=by
 rw[zjB]
 unfold kB
 rw[List.getElem?_append_right (by simp)]
 simp[h]
theorem KQ{α:Type}(g:Nat→α){xs:List α}{i:Nat}(h:i < xs.length):(kB g xs i).set i (g i)=kB g xs (i+1):=by
 unfold kB
 rw[List.set_append,if_neg (by simp),List.range_succ,List.map_append,List.append_assoc]
 congr 1
 have e:i - ((List.range i).map g).length=0:=by simp
 rw[e,List.drop_eq_getElem_cons h]
 rfl
theorem XY{α:Type}(g:Nat→α)(xs:List α):kB g xs 0=xs:=by simp[kB]
theorem K0{α:Type}(g:Nat→α)(xs:List α):kB g xs xs.length=(List.range xs.length).map g:=by simp[kB]
theorem Yn{α:Type}{xs:List α}{i:Nat}{a:α}(h:i < xs.length):idx (xs.set i a) (i:Int)=some a:=by
 rw[zO (by simpa using h)]
 simp
theorem X1{α:Type}(g:Nat→α){n i:Nat}(h:i < n):idx ((List.range n).map g) (i:Int)=some (g i):=by
 rw[zO (by simpa using h)]
 simp
def zkf{α:Type}(xs:List α)(p:α→Bool)(k0:Nat):Nat→List α×Nat
 |0=>(xs,k0)
 |n+1=>match xs[k0+1+n]? with
  |some x=>if p x then zkf xs p k0 n else((zkf xs p k0 n).1.set (zkf xs p k0 n).2 x,(zkf xs p k0 n).2+1)
  |none=>zkf xs p k0 n
def x9(xs:List zu)(i:Nat):Bool:=match xs[i]? with
 |none=>true
 |some c=>qA c.Key 0 999&&qA c.Value 0 1000000000&&(i == 0||match xs[i - 1]? with|some p=>decide (p.Key < c.Key)|none=>true)
def qY(xs:List zu):Bool:=decide (xs.length≤60)&&(List.range xs.length).all (x9 xs)
theorem zbc(xs:List zu)(h:xs.length≤1048576):Qj xs=some (qY xs):=by
 unfold Qj qY
 split
 ·rename_i h1
  have:¬xs.length≤60:=by omega
  simp[this]
 ·rename_i h1
  have:xs.length≤60:=by omega
  rw[jD (s0:=(0:Int)) (fun i=>(i:Int)) (x9 xs) (some false) (some true) xs.length (by omega) (fun kb i hi=> ?_) (fun kb=> ?_) rfl]
  ·simp only[this,decide_true,Bool.true_and];split<;>simp_all
  ·unfold xj yK x9
   simp only[zO hi,zht,zjc,Option.bind_some,ql i _ hi (by omega),List.getElem?_eq_getElem hi]
   rw[if_pos (by omega)]
   cases qA xs[i].Key 0 999<;>simp
   cases qA xs[i].Value 0 1000000000<;>simp
   by_cases h0:0 < i
   ·have h2:IntKind.wrap .i64 ((i:Int) - 1)=((i - 1:Nat):Int):=by rw[w64 (by omega) (by omega)];omega
    have h3:i - 1 < xs.length:=by omega
    have h4:¬i=0:=by omega
    simp only[h0,if_true,h2,zO h3,Option.bind_some,List.getElem?_eq_getElem h3,h4,false_or]
    by_cases h5:xs[i].Key≤xs[i - 1].Key
    ·have:¬xs[i - 1].Key < xs[i].Key:=by omega
     simp[h5,this]
    ·have:xs[i - 1].Key < xs[i].Key:=by omega
     simp[h5,this]
   ·have h4:i=0:=by omega
    simp[h4]
  ·unfold xj
   rw[if_neg (by omega)];rfl
theorem zbj(xs:List zu)(h:xs.length≤1048576):Qo xs=some (qY xs):=by
 unfold Qo qY
 rw[jD (s0:=(0:Int)) (fun i=>(i:Int)) (x9 xs) (some false) (some (decide (xs.length≤60))) xs.length (by omega) (fun kb i hi=> ?_) (fun kb=> ?_) rfl]
 ·split<;>simp_all
 ·unfold xE yM x9
  simp only[zO hi,ziP,zjU,Option.bind_some,ql i _ hi (by omega),List.getElem?_eq_getElem hi]
  rw[if_pos (by omega)]
  cases qA xs[i].Key 0 999<;>simp
  cases qA xs[i].Value 0 1000000000<;>simp
  by_cases h0:0 < i
  ·have h2:IntKind.wrap .i64 ((i:Int) - 1)=((i - 1:Nat):Int):=by rw[w64 (by omega) (by omega)];omega
   have h3:i - 1 < xs.length:=by omega
   have h4:¬i=0:=by omega
   simp only[h0,if_true,h2,zO h3,Option.bind_some,List.getElem?_eq_getElem h3,h4,false_or]
   by_cases h5:xs[i].Key≤xs[i - 1].Key
   ·have:¬xs[i - 1].Key < xs[i].Key:=by omega
    simp[h5,this]
   ·have:xs[i - 1].Key < xs[i].Key:=by omega
    simp[h5,this]
  ·have h4:i=0:=by omega
   simp[h4]
 ·unfold xE xz
  rw[if_neg (by omega)]
  have:((xs.length:Int)≤60)↔xs.length≤60:=by omega
  simp[this]
def asc(xs:List zu):Prop:=∀i j (hi:i < xs.length) (hj:j < xs.length),i < j→xs[i].Key < xs[j].Key
theorem zcJ{xs:List zu}(h:qY xs=true):xs.length≤60:=by
 unfold qY at h;simp at h;exact h.1
theorem zcp{xs:List zu}(h:qY xs=true){i:Nat}(hi:i < xs.length):x9 xs i=true:=by
 unfold qY at h
 simp only[Bool.and_eq_true,List.all_eq_true] at h
 exact h.2 i (List.mem_range.2 hi)
theorem zfG{xs:List zu}(h:qY xs=true){i:Nat}(hi:i < xs.length):0≤xs[i].Key∧xs[i].Key≤999∧0≤xs[i].Value∧xs[i].Value≤1000000000:=by
 have:=zcp h hi
 unfold x9 qA at this
 rw[List.getElem?_eq_getElem hi] at this
 simp only[Bool.and_eq_true,decide_eq_true_eq] at this
 exact⟨this.1.1.1,this.1.1.2,this.1.2.1,this.1.2.2⟩
theorem zfF{xs:List zu}(h:qY xs=true):asc xs:=by
 have step:∀i (hi:i+1 < xs.length),xs[i].Key < xs[i+1].Key:=by
  intro i hi
  have:=zcp h hi
  unfold x9 at this
  rw[List.getElem?_eq_getElem hi] at this
  simp only[Bool.and_eq_true,Nat.add_sub_cancel,List.getElem?_eq_getElem (show i < xs.length by omega)] at this
  simpa using this.2
 intro i j hi hj hlt
 induction j with
 |zero=>omega
 |succ j ih=>
  by_cases e:i=j
  ·subst e;exact step i hj
  ·have:=ih (by omega) (by omega)
   have:=step j hj
   omega
theorem mid{a b:Nat}(h:a < b)(hb:b≤1048576):IntKind.wrap .i64 (Int.fdiv (IntKind.wrap .u64 (IntKind.wrap .i64 ((a:Int)+(b:Int)))) (2 ^ (min (Int.toNat 1) (IntKind.bits .u64))))=(((a+b) / 2:Nat):Int):=by
 rw[w64 (n:=(a:Int)+b) (by omega) (by omega)]
 have h1:IntKind.wrap .u64 ((a:Int)+b)=(a:Int)+b:=by
  unfold IntKind.wrap
  simp only[IntKind.bits,IntKind.signed]
  simp
  omega
 rw[h1]
 have h2:(min (Int.toNat 1) (IntKind.bits .u64))=1:=by decide
 rw[h2]
 have h3:((a:Int)+b).fdiv (2 ^ 1)=(((a+b) / 2:Nat):Int):=by
  rw[Int.fdiv_eq_ediv_of_nonneg _ (by decide)]
  omega
 rw[h3]
 exact w64 (by omega) (by omega)
theorem zjM(xs:List zu)(k:Int)(hs:asc xs)(hl:xs.length≤1048576)(hk:∀i (hi:i < xs.length),-1000000000000≤xs[i].Key∧xs[i].Key≤1000000000000)(h1:-9000000000000000000≤k)(h2:k≤9000000000000000000):
  ∃p:Nat,p≤xs.length∧(∀i (hi:i < xs.length),i < p↔xs[i].Key < k)∧JC xs k=some ((p:Int),decide ((xs[p]?).map (·.Key)=some k)):=by
 have hc:∀i (hi:i < xs.length),Zj xs[i] k=some (xs[i].Key - k):=fun i hi=>by
  unfold Zj
  have:=hk i hi
  rw[w64 (by omega) (by omega)]
 have loop:∀(m lo hi:Nat),lo≤hi→hi≤xs.length→hi - lo < m→(∀i (h:i < xs.length),i < lo→xs[i].Key < k)→(∀i (h:i < xs.length),hi≤i→¬xs[i].Key < k)→
   ∃p:Nat,p≤xs.length∧(∀i (hi:i < xs.length),i < p↔xs[i].Key < k)∧
    iter (zZ xs k (zV xs k)) m ((lo:Int),(hi:Int))=zV xs k (p:Int):=by
  intro m
  induction m with
  |zero=>intro lo hi _ _ h;omega
  |succ m ih=>
   intro lo hi hle hhi hm hlow hhigh
   unfold iter
   unfold zZ
   by_cases e:lo=hi
   ·subst e
    refine⟨lo,hhi,fun i h=>⟨hlow i h,fun hlt=> ?_⟩,?_⟩
    ·apply Classical.byContradiction
     intro hn
     exact hhigh i h (by omega) hlt
    ·rw[if_neg (by simp)]
   ·have hlt:lo < hi:=by omega
    rw[if_pos (by simp;omega)]
    simp only[mid hlt (show hi≤1048576 by omega)]
    have hmid:(lo+hi) / 2 < xs.length:=by omega
    rw[zO hmid]
    simp only[Option.bind_some,hc _ hmid]
    by_cases hv:xs[(lo+hi) / 2].Key - k < 0
    ·rw[if_pos hv,ql ((lo+hi) / 2) (xs.length) hmid (by omega)]
     refine ih ((lo+hi) / 2+1) hi (by omega) hhi (by omega) (fun i h hi'=> ?_) hhigh
     by_cases e2:i=(lo+hi) / 2
     ·subst e2;omega
     ·have:=hs i ((lo+hi) / 2) h hmid (by omega);omega
    ·rw[if_neg hv]
     refine ih lo ((lo+hi) / 2) (by omega) (by omega) (by omega) hlow (fun i h hi'=> ?_)
     by_cases e2:i=(lo+hi) / 2
     ·subst e2;omega
     ·have:=hs ((lo+hi) / 2) i hmid h (by omega);omega
 obtain⟨p,hp,hiff,hit⟩:=loop FU 0 xs.length (by omega) (by omega) (by unfold FU;omega) (fun i h h0=>by omega) (fun i h h0=>by omega)
 refine⟨p,hp,hiff,?_⟩
 unfold JC qt
 have hit:iter (zZ xs k (zV xs k)) FU (0,(xs.length:Int))=_:=hit
 rw[hit]
 unfold zV
 by_cases e:p < xs.length
 ·rw[if_pos (by omega),zO e]
  simp only[Option.bind_some,hc p e,List.getElem?_eq_getElem e,Option.map_some]
  congr 2
  rw[decide_eq_decide]
  simp
  omega
 ·rw[if_neg (by omega),List.getElem?_eq_none (by omega)]
  simp
theorem za1{α β:Type}:∀(xs:List α) (g:α→Option β),(List.range xs.length).findSome? (fun i=>(xs[i]?).bind g)= xs.findSome? g
 |[],_=>rfl
 |x::xs,g=>by
  rw[List.length_cons,List.range_succ_eq_map,List.findSome?_cons,List.findSome?_cons,List.findSome?_map]
  simp only[List.getElem?_cons_zero,Option.bind_some]
  cases g x with
  |some y=>rfl
  |none=>
   simp only[Function.comp_def,List.getElem?_cons_succ]
   exact za1 xs g
def Ky(xs:List zu)(k:Int):Int:=match xs.find? fun c=>decide (c.Key=k) with
 |some c=>c.Value
 |none=>-1
theorem zkm(xs:List zu)(k:Int)(hl:xs.length≤1048576):Y2 xs k=some (Ky xs k):=by
 unfold Y2
 rw[zbo (s0:=(0:Int)) (fun i=>(i:Int)) (fun i:Nat=>match xs[i]? with|some c=>if c.Key=k then some (some c.Value) else none|none=>none) (some (-1)) xs.length (by omega) (fun kb i hi=> ?_) (fun kb=> ?_) rfl]
 ·have:∀ys:List zu,ys.findSome? (fun c=>if c.Key=k then some (some c.Value) else none)=(ys.find? fun c=>decide (c.Key=k)).map fun c=>some c.Value:=by
   intro ys
   induction ys with
   |nil=>rfl
   |cons y ys ih=>
    simp only[List.findSome?_cons,List.find?_cons]
    by_cases e:y.Key=k
    ·simp[e]
    ·simp[e,ih]
  have h2:(List.range xs.length).findSome? (fun i:Nat=>match xs[i]? with|some c=>if c.Key=k then some (some c.Value) else none|none=>none)= xs.findSome? (fun c=>if c.Key=k then some (some c.Value) else none):=by
   have key:∀(g:zu→Option (Option Int)),(List.range xs.length).findSome? (fun i:Nat=>match xs[i]? with|some c=>g c|none=>none)= xs.findSome? g:=fun g=>by
    have e:(fun i:Nat=>match xs[i]? with|some c=>g c|none=>none)=fun i=>(xs[i]?).bind g:=by funext i;cases xs[i]?<;>rfl
    rw[e]
    exact za1 xs g
   exact key _
  rw[h2,this]
  unfold Ky
  cases xs.find? fun c=>decide (c.Key=k)<;>rfl
 ·unfold kE
  simp only[zO hi,Option.bind_some,ql i _ hi (by omega),List.getElem?_eq_getElem hi]
  rw[if_pos (by omega)]
  by_cases e:xs[i].Key=k<;>simp[e]
 ·unfold kE
  rw[if_neg (by omega)];rfl
theorem zgm{xs:List zu}{k:Int}(hs:asc xs){p:Nat}(hp:p≤xs.length)(hiff:∀i (hi:i < xs.length),i < p↔xs[i].Key < k):
  Ky xs k=match xs[p]? with|some c=>if c.Key=k then c.Value else -1|none=>-1:=by
 unfold Ky
 by_cases e:∃h:p < xs.length,xs[p].Key=k
 ·obtain⟨h,e⟩:=e
  have:xs.find? (fun c=>decide (c.Key=k))=some xs[p]:=by
   rw[List.find?_eq_some_iff_getElem]
   refine⟨by simp[e],p,h,rfl,fun j hj=> ?_⟩
   have:=(hiff j (by omega)).1 hj
   simp;omega
  rw[this,List.getElem?_eq_getElem h]
  simp[e]
 ·have:xs.find? (fun c=>decide (c.Key=k))=none:=by
   rw[List.find?_eq_none]
   intro x hx
   obtain⟨i,hi,rfl⟩:=List.mem_iff_getElem.1 hx
   simp only[decide_eq_true_eq]
   intro hk
   apply e
   have h1:=hiff i hi
   by_cases e1:p < xs.length
   ·refine⟨e1,?_⟩
    have h2:=hiff p e1
    by_cases e2:i=p
    ·subst e2;exact hk
    ·have:¬i < p:=by omega
     have h3:=hs p i e1 hi (by omega)
     omega
   ·omega
  rw[this]
  by_cases e1:p < xs.length
  ·rw[List.getElem?_eq_getElem e1]
   have:¬xs[p].Key=k:=fun h=>e ⟨e1,h⟩
   simp[this]
  ·rw[List.getElem?_eq_none (by omega)]
theorem zji(xs:List zu)(k:Int)(hg:qY xs=true)(h1:-9000000000000000000≤k)(h2:k≤9000000000000000000):JN xs k=some (Ky xs k):=by
 have hs:=zfF hg
 have hl:=zcJ hg
 obtain⟨p,hp,hiff,hb⟩:=zjM xs k hs (by omega) (fun i hi=>by have:=zfG hg hi;omega) h1 h2
 unfold JN
 rw[hb,zgm hs hp hiff]
 simp only[Option.bind_some,decide_eq_true_eq]
 by_cases e:p < xs.length
 ·rw[List.getElem?_eq_getElem e]
  simp only[Option.map_some,Option.some.injEq,zO e,Option.bind_some]
  split<;>rfl
 ·rw[List.getElem?_eq_none (by omega)]
  simp
theorem zgx(xs:List zu)(h:xs.length≤1048576):yW xs=some xs:=by
 unfold yW j6
 split<;>first|(simp;done)|(simp;omega)
theorem zgy(xs:List zK)(h:xs.length≤1048576):yT xs=some xs:=by
 unfold yT j7
 split<;>first|(simp;done)|(simp;omega)
theorem zaN(xs:List Int)(h:xs.length≤1048576):j3 xs=some xs:=by
 unfold j3 yf
 split<;>first|(simp;done)|(simp;omega)
theorem zbE(xs:List ze)(h:xs.length≤1048576):j8 xs=some xs:=by
 unfold j8 jR
 split<;>first|(simp;done)|(simp;omega)
theorem zfv(xs:List zu)(h:xs.length≤1048576):yr xs=some xs:=by
 unfold yr jS
 split<;>first|(simp;done)|(simp;omega)
def iL(x:Int):List Int→Bool→List Int
 |[],put=>if put then[] else[x]
 |c::cs,put=>(if (!put&&decide (x≤c))=true then[x] else[])++((if ¬c=x then[c] else[])++iL x cs (put||decide (x≤c)))
theorem zsX(x z:Int):∀(xs:List Int) (b:Bool),z∈iL x xs b↔(b=false∧z=x)∨(z∈xs∧¬z=x)
 |[],b=>by cases b<;>simp[iL]
 |c::cs,b=>by
  simp only[iL,List.mem_append,zsX x z cs,List.mem_cons]
  by_cases h1:x≤c<;>by_cases h2:c=x<;>cases b<;>simp[h1,h2]<;>by_cases h3:z=x<;>simp[h3]<;>omega
def zrM(x:Int):Nat→List Int→Bool
 |0,_=>false
 |n+1,xs=>zrM x n xs||match xs[n]? with|some c=>decide (x≤c)|none=>false
def iP(x:Int)(xs:List Int):Nat→List Int
 |0=>[]
 |i+1=>iP x xs i++(match xs[i]? with|some c=>(if (!(zrM x i xs)&&decide (x≤c))=true then[x] else[])++(if ¬c=x then[c] else[])|none=>[])
theorem zwf(x:Int)(xs:List Int):∀i,(iP x xs i).length≤2 * i
 |0=>by simp[iP]
 |i+1=>by
  have ih:=zwf x xs i
  simp only[iP,List.length_append]
  have:(match xs[i]? with|some c=>(if (!(zrM x i xs)&&decide (x≤c))=true then[x] else[])++(if ¬c=x then[c] else[])|none=>[]).length≤2:=by
   cases xs[i]? with
   |none=>simp
   |some c=>simp only[List.length_append];split<;>split<;>simp
  omega
def XH(m:Int):Bool:=decide (m=1)||decide (m=2)
theorem zjj(m:Int):JG m=some (XH m):=by
 unfold JG XH;by_cases h:m=1<;>simp[h]
theorem zgT(m:Int):Q6 m=some (XH m):=by
 unfold Q6 XH;by_cases h:m=1<;>simp[h]
def kw(a b:ze):Bool:=decide (a.Lo < b.Hi)&&decide (b.Lo < a.Hi)
theorem ziH(a b:ze):Qt a b=some (kw a b):=by
 unfold Qt kw;by_cases h:a.Lo < b.Hi<;>simp[h]
def Jy(a b:zK):Bool:=decide (¬a.Tx=b.Tx)&&(decide (a.Mode=2)||decide (b.Mode=2))&&kw ⟨a.Lo,a.Hi⟩ ⟨b.Lo,b.Hi⟩
theorem zgA(a b:zK):kp a b=some (Jy a b):=by
 unfold kp qZ Jy
 simp only[ziH,Option.bind_some]
 by_cases h:a.Tx=b.Tx<;>by_cases h1:a.Mode=2<;>by_cases h2:b.Mode=2<;>simp[h,h1,h2]
theorem zl2(a b:Int):ke a b=some (min a b):=by
 unfold ke;split<;>congr 1<;>omega
theorem zlR(a b:Int):kg a b=some (max a b):=by
 unfold kg;split<;>congr 1<;>omega
theorem zdB(a b:ze):Zd a b=some (if z8 a&&z8 b&&z8 ⟨max a.Lo b.Lo,min a.Hi b.Hi⟩ then(⟨max a.Lo b.Lo,min a.Hi b.Hi⟩,true) else(⟨0,0⟩,false)):=by
 unfold Zd yG
 simp only[zl2,zlR,Zq,Option.bind_some]
 cases z8 a<;>cases z8 b<;>cases z8 ⟨max a.Lo b.Lo,min a.Hi b.Hi⟩<;>simp
theorem ziN{a b:ze}(ha:z8 a=true)(hb:z8 b=true):z8 ⟨max a.Lo b.Lo,min a.Hi b.Hi⟩=kw a b:=by
 unfold z8 at *
 unfold kw
 simp only[Bool.and_eq_true,decide_eq_true_eq] at ha hb
 rw[Bool.eq_iff_iff]
 simp only[Bool.and_eq_true,decide_eq_true_eq]
 omega
theorem zic(a b:zK)(ha:z8 ⟨a.Lo,a.Hi⟩=true)(hb:z8 ⟨b.Lo,b.Hi⟩=true):QR a b=some (Jy a b):=by
 unfold QR jo Jy
 simp only[zdB,Option.bind_some,ha,hb,Bool.true_and]
 have:=ziN ha hb
 simp only at this
 rw[this]
 cases kw ⟨a.Lo,a.Hi⟩ ⟨b.Lo,b.Hi⟩<;>by_cases h:a.Tx=b.Tx<;>by_cases h1:a.Mode=2<;>simp[h,h1]
def Xf(a:zK):Bool:=qA a.Tx 1 60&&z8 ⟨a.Lo,a.Hi⟩&&XH a.Mode
def Xq(xs:List zK)(i:Nat):Bool:=match xs[i]? with
 |none=>true
 |some a=>Xf a&&(xs.take i).all fun b=>!Jy a b
def qE(xs:List zK):Bool:=decide (xs.length≤40)&&(List.range xs.length).all (Xq xs)
def ziu{α:Type}(f:α→Bool):Option α→Bool
 |some b=>f b
 |none=>true
theorem zj5{α:Type}(xs:List α)(f:α→Bool)(n:Nat)(h:n≤xs.length):(xs.take n).all f=(List.range n).all fun k=>ziu f xs[k]?:=by
 rw[Bool.eq_iff_iff,List.all_eq_true,List.all_eq_true]
 constructor
 ·intro H k hk
  have hk:=List.mem_range.1 hk
  have:k < xs.length:=by omega
  rw[List.getElem?_eq_getElem this]
  show f _=true
  exact H _ (by rw[List.mem_take_iff_getElem];exact⟨k,by omega,rfl⟩)
 ·intro H x hx
  rw[List.mem_take_iff_getElem] at hx
  obtain⟨k,hk,rfl⟩:=hx
  have:=H k (List.mem_range.2 (by omega))
  rw[List.getElem?_eq_getElem (by omega)] at this
  exact this
theorem zhp{xs:List zK}{i:Nat}(h:∀k,k < i→Xq xs k=true){k:Nat}(hk:k < i)(hl:k < xs.length):z8 ⟨xs[k].Lo,xs[k].Hi⟩=true:=by
 have:=h k hk
 unfold Xq Xf at this
 rw[List.getElem?_eq_getElem hl] at this
 simp only[Bool.and_eq_true] at this
 exact this.1.1.2
theorem zeI(xs:List zK)(h:xs.length≤1048576):JH xs=some (qE xs):=by
 unfold JH qE
 split
 ·have:¬xs.length≤40:=by omega
  simp[this]
 ·have:xs.length≤40:=by omega
  rw[zbR (s0:=(0:Int)) (fun i=>(i:Int)) (Xq xs) (some false) (some true) xs.length (by omega) (fun kb i hi hp=> ?_) (fun kb _=> ?_) rfl]
  ·simp only[this,decide_true,Bool.true_and];split<;>simp_all
  ·unfold xi Zk Xq Xf
   simp only[zO hi,zgw,zjj,Zq,jo,Option.bind_some,List.getElem?_eq_getElem hi]
   rw[if_pos (by omega)]
   generalize hg:(List.take i xs).all (fun b=>!Jy xs[i] b)=g
   cases h1:qA xs[i].Tx 1 60<;>simp
   cases h2:z8 ⟨xs[i].Lo,xs[i].Hi⟩<;>simp
   cases h3:XH xs[i].Mode<;>simp
   rw[jD (s0:=(0:Int)) (fun k=>(k:Int)) (fun k=>ziu (fun b=>!Jy xs[i] b) xs[k]?) (some false) (kb ((i+1:Nat):Int)) i (by omega) (fun kb' k hk=> ?_) (fun kb'=> ?_) rfl]
   ·rw[←hg,zj5 xs _ i (by omega)]
    simp only[Int.natCast_add,Int.cast_ofNat_Int]
   ·unfold Yf
    have hkl:k < xs.length:=by omega
    simp only[zO hi,zO hkl,Option.bind_some,zic _ _ h2 (zhp hp hk hkl),ql k _ hk (by omega),List.getElem?_eq_getElem hkl,ziu]
    rw[if_pos (by omega)]
    cases Jy xs[i] xs[k]<;>simp
   ·unfold Yf yN
    rw[if_neg (by omega),ql i _ hi (by omega)]
  ·unfold xi
   rw[if_neg (by omega)];rfl
theorem zcc(xs:List zK)(a:zK)(h:xs.length≤1048576):qw xs a=some (!xs.all fun b=>!Jy a b):=by
 unfold qw jk
 have hb:∀x,Z9 x a=some (Jy a x):=fun x=>by simp[Z9,zgA]
 rw[zbo (s0:=(0:Int)) (fun i=>(i:Int)) (fun i:Nat=>match xs[i]? with|some b=>if Jy a b=true then some (some (i:Int)) else none|none=>none) (some (-1)) xs.length (by omega) (fun kb i hi=> ?_) (fun kb=> ?_) rfl]
 ·cases hf:(List.range xs.length).findSome? (fun i:Nat=>match xs[i]? with|some b=>if Jy a b=true then some (some (i:Int)) else none|none=>none) with
  |none=>
   rw[List.findSome?_eq_none_iff] at hf
   have:(xs.all fun b=>!Jy a b)=true:=by
    rw[List.all_eq_true]
    intro x hx
    obtain⟨k,hk,rfl⟩:=List.mem_iff_getElem.1 hx
    have:=hf k (List.mem_range.2 hk)
    rw[List.getElem?_eq_getElem hk] at this
    cases hc:Jy a xs[k] with
    |false=>rfl
    |true=>simp[hc] at this
   simp[this]
  |some q=>
   obtain⟨x,hx,hq⟩:=List.exists_of_findSome?_eq_some hf
   have hk:=List.mem_range.1 hx
   rw[List.getElem?_eq_getElem hk] at hq
   simp only at hq
   split at hq
   ·rename_i hc
    cases hq
    have:(xs.all fun b=>!Jy a b)=false:=by
     rw[List.all_eq_false]
     exact⟨xs[x],List.getElem_mem hk,by simp[hc]⟩
    simp[this]
   ·cases hq
 ·unfold je
  simp only[zO hi,Option.bind_some,hb,ql i _ hi (by omega),List.getElem?_eq_getElem hi]
  rw[if_pos (by omega)]
  cases Jy a xs[i]<;>simp
 ·unfold je
  rw[if_neg (by omega)];rfl
theorem zaT(xs:List zK)(h:xs.length≤1048576):Z7 xs=some (qE xs):=by
 unfold Z7 qE
 rw[jD (s0:=(0:Int)) (fun i=>(i:Int)) (Xq xs) (some false) (some (decide (xs.length≤40))) xs.length (by omega) (fun kb i hi=> ?_) (fun kb=> ?_) rfl]
 ·split<;>simp_all
 ·unfold xn yP Xq Xf
  have hc:cut xs 0 (i:Int)=some (xs.take i):=by
   unfold cut
   rw[if_pos ⟨by omega,by omega,by omega⟩]
   simp
  simp only[zO hi,zkR,zgT,Ju,qZ,Option.bind_some,List.getElem?_eq_getElem hi,hc,zcc (xs.take i) xs[i] (by simp;omega),ql i _ hi (by omega)]
  rw[if_pos (by omega)]
  generalize hg:(List.take i xs).all (fun b=>!Jy xs[i] b)=g
  cases h1:qA xs[i].Tx 1 60<;>simp
  cases h2:z8 ⟨xs[i].Lo,xs[i].Hi⟩<;>simp
  cases h3:XH xs[i].Mode<;>simp
  cases g<;>simp
 ·unfold xn xA
  rw[if_neg (by omega)]
  have:((xs.length:Int)≤40)↔xs.length≤40:=by omega
  simp[this]
def Ke(tx:Int)(a:ze)(mode:Int)(l:zK):Bool:=decide (l.Tx=tx)&&(decide (l.Mode=mode)||decide (l.Mode=2))&&decide (l.Lo≤a.Lo)&&decide (a.Hi≤l.Hi)
theorem zcu{xs:List zK}(h:qE xs=true):xs.length≤40:=by
 unfold qE at h;simp at h;exact h.1
theorem zcr{xs:List zK}(h:qE xs=true){i:Nat}(hi:i < xs.length):Xf xs[i]=true:=by
 unfold qE at h
 simp only[Bool.and_eq_true,List.all_eq_true] at h
 have:=h.2 i (List.mem_range.2 hi)
 unfold Xq at this
 rw[List.getElem?_eq_getElem hi] at this
 simp only[Bool.and_eq_true] at this
 exact this.1
theorem zew(a b:ze):JX a b=some (z8 a&&z8 b&&decide (b.Lo≤a.Lo)&&decide (a.Hi≤b.Hi)):=by
 unfold JX
 simp only[Zq,Option.bind_some]
 cases z8 a<;>cases z8 b<;>by_cases h:b.Lo≤a.Lo<;>simp[h]
theorem zig(xs:List zK)(tx:Int)(a:ze)(mode:Int)(hg:qE xs=true)(ha:z8 a=true)(hm:XH mode=true):Q0 xs tx a mode=some (xs.any (Ke tx a mode)):=by
 have hl:=zcu hg
 unfold Q0
 rw[zet xs (Ke tx a mode) (some true) (some false) (by omega) (fun kb i hi=> ?_) (fun kb=> ?_)]
 ·split<;>simp_all
 ·have hgi:=zcr hg hi
  unfold Xf XH at hgi
  unfold XH at hm
  unfold Yx yE Ke
  simp only[Bool.and_eq_true,Bool.or_eq_true,decide_eq_true_eq] at hgi hm
  simp only[zO hi,jo,zew,Option.bind_some,ql i _ hi (by omega),ha,hgi.1.2,Bool.true_and]
  rw[if_pos (by omega)]
  by_cases h1:xs[i].Tx=tx<;>by_cases h2:xs[i].Lo≤a.Lo<;>by_cases h3:a.Hi≤xs[i].Hi<;>simp[h1,h2,h3]
  have:(mode≤xs[i].Mode)↔(xs[i].Mode=mode∨xs[i].Mode=2):=by omega
  simp[this]
 ·unfold Yx
  rw[if_neg (by omega)];rfl
theorem zfs(l:zK)(tx mode:Int)(a:ze):Zp l tx mode a=some (Ke tx a mode l):=by
 unfold Zp Ke
 by_cases h1:l.Tx=tx<;>by_cases h2:l.Lo≤a.Lo<;>by_cases h3:l.Mode=mode<;>by_cases h4:l.Mode=2<;>simp[h1,h2,h3,h4]
theorem zaG(xs:List zK)(tx mode:Int)(a:ze)(h:xs.length≤1048576):qm xs tx mode a=some (xs.any (Ke tx a mode)):=by
 unfold qm qX
 rw[JA xs (Ke tx a mode) (by omega) (fun kb i hi=> ?_) (fun kb=> ?_)]
 ·simp[ZK]
 ·unfold qQ
  simp only[zO hi,zfs,Option.bind_some,ql i _ hi (by omega)]
  rw[if_pos (by omega)]
 ·unfold qQ
  rw[if_neg (by omega)];rfl
def xU(xs:List zK)(tx:Int)(a:ze)(mode:Int):Bool:=qE xs&&z8 a&&XH mode&&xs.any (Ke tx a mode)
theorem zdo(xs:List zK)(tx:Int)(a:ze)(mode:Int)(h:xs.length≤1048576):ZV xs tx a mode=some (xU xs tx a mode):=by
 unfold ZV xU
 simp only[zaT _ h,Ju,zgT,zaG _ _ _ _ h,Option.bind_some]
 cases h1:qE xs<;>cases h2:z8 a<;>cases h3:XH mode<;>simp
theorem zaZ(xs:List Int)(x:Int)(h:xs.length≤1048576):yq xs x=some (xs.contains x):=by
 unfold yq
 rw[zet xs (fun c=>decide (c=x)) (some true) (some false) (by omega) (fun kb i hi=> ?_) (fun kb=> ?_)]
 ·have e:xs.any (fun c=>decide (c=x))=xs.contains x:=by
   rw[Bool.eq_iff_iff,List.any_eq_true,List.contains_iff_mem]
   simp
  rw[e]
  cases xs.contains x<;>rfl
 ·unfold kD
  simp only[zO hi,Option.bind_some,ql i _ hi (by omega)]
  rw[if_pos (by omega)]
  by_cases e:xs[i]=x<;>simp[e]
 ·unfold kD kC
  rw[if_neg (by omega)]
theorem zfp(xs:List Int)(x:Int)(h:xs.length≤1048576):yl xs x=some (xs.contains x):=by
 unfold yl QB
 rw[JA xs (fun c=>decide (x=c)) (by omega) (fun kb i hi=> ?_) (fun kb=> ?_)]
 ·simp only[Option.bind_some,ZK]
  congr 1
  rw[Bool.eq_iff_iff,List.any_eq_true,List.contains_iff_mem]
  simp
 ·unfold ZS
  simp only[zO hi,Option.bind_some,ql i _ hi (by omega)]
  rw[if_pos (by omega)]
  by_cases e:x=xs[i]<;>simp[e]
 ·unfold ZS
  rw[if_neg (by omega)];rfl
theorem zjO{xs:List zK}(hg:qE xs=true){i:Nat}(hi:i < xs.length):z8 ⟨xs[i].Lo,xs[i].Hi⟩=true:=by
 have:=zcr hg hi
 unfold Xf at this
 simp only[Bool.and_eq_true] at this
 exact this.1.2
theorem zjm(xs:List zu)(h:xs.length≤maxLen)(z:Int)(h1:0≤z)(h2:z≤1048576):JQ xs z=some (if z < xs.length then -1 else z - xs.length):=by
 unfold JQ
 have:IntKind.wrap .i64 (z - (xs.length:Int))=z - xs.length:=by unfold maxLen at h;exact w64 (by omega) (by omega)
 rw[this]
 split<;>split<;>first|rfl|omega
theorem zi4(xs:List zu)(h:xs.length≤1048576):JW xs=some xs:=by
 unfold JW
 rw[if_pos ⟨by omega,by omega⟩]
 simp only[Int.toNat_natCast]
 refine XZ xs _ xC (by omega) (fun kb ys i hi hy=> ?_) (fun kb ys=> ?_)
 ·unfold xm
  simp only[zO hi,zO (show i < ys.length by omega),Xi,Option.bind_some,Int.toNat_natCast,ql i _ hi (by omega)]
  rw[if_pos (by omega)]
 ·unfold xm
  rw[if_neg (by omega)]
theorem zj4(a b:zu):Y6 a b=some (decide (a=b)):=by
 unfold Y6
 cases a;cases b
 simp only[zu.mk.injEq]
 repeat' split
 all_goals simp_all
theorem zjq(xs ys:List zu)(h:xs.length≤1048576):Ya xs ys=some (decide (xs=ys)):=by
 unfold Ya
 split
 ·rename_i hl
  have:¬xs=ys:=fun e=>hl (by rw[e])
  simp[this]
 ·rename_i hl
  have hl:xs.length=ys.length:=by omega
  rw[jD (s0:=(0:Int)) (fun i=>(i:Int)) (fun i=>decide (xs[i]? =ys[i]?)) (some false) (some true) xs.length (by omega) (fun kb i hi=> ?_) (fun kb=> ?_) rfl,YG hl]
  ·by_cases e:xs=ys<;>simp[e]
  ·unfold xo
   simp only[zO hi,zO (show i < ys.length by omega),zj4,Option.bind_some,ql i _ hi (by omega)]
   rw[if_pos (by omega),List.getElem?_eq_getElem hi,List.getElem?_eq_getElem (show i < ys.length by omega)]
   simp
  ·unfold xo
   rw[if_neg (by omega)]
   rfl
theorem zh0(xs:List zu)(h:xs.length≤maxLen)(z:Int)(h1:0≤z)(h2:z≤1048576):QW xs z=some (if z < xs.length then -1 else z - xs.length):=by
 unfold QW
 have:IntKind.wrap .i64 (z - (xs.length:Int))=z - xs.length:=by unfold maxLen at h;exact w64 (by omega) (by omega)
 rw[this]
 split<;>split<;>first|rfl|omega
theorem zh3(xs:List zu)(h:xs.length≤1048576):QU xs=some xs:=by
 unfold QU
 rw[if_pos ⟨by omega,by omega⟩]
 simp only[Int.toNat_natCast]
 refine XZ xs _ Yu (by omega) (fun kb ys i hi hy=> ?_) (fun kb ys=> ?_)
 ·unfold YE
  simp only[zO hi,zO (show i < ys.length by omega),xY,Option.bind_some,Int.toNat_natCast,ql i _ hi (by omega)]
  rw[if_pos (by omega)]
 ·unfold YE
  rw[if_neg (by omega)]
theorem zjv(a b:zu):JY a b=some (decide (a=b)):=by
 unfold JY
 cases a;cases b
 simp only[zu.mk.injEq]
 repeat' split
 all_goals simp_all
theorem zio(xs ys:List zu)(h:xs.length≤1048576):QP xs ys=some (decide (xs=ys)):=by
 unfold QP
 split
 ·rename_i hl
  have:¬xs=ys:=fun e=>hl (by rw[e])
  simp[this]
 ·rename_i hl
  have hl:xs.length=ys.length:=by omega
  rw[jD (s0:=(0:Int)) (fun i=>(i:Int)) (fun i=>decide (xs[i]? =ys[i]?)) (some false) (some true) xs.length (by omega) (fun kb i hi=> ?_) (fun kb=> ?_) rfl,YG hl]
  ·by_cases e:xs=ys<;>simp[e]
  ·unfold YH
   simp only[zO hi,zO (show i < ys.length by omega),zjv,Option.bind_some,ql i _ hi (by omega)]
   rw[if_pos (by omega),List.getElem?_eq_getElem hi,List.getElem?_eq_getElem (show i < ys.length by omega)]
   simp
  ·unfold YH
   rw[if_neg (by omega)]
   rfl
theorem zik(z:Int):QX z=some (qA z (-1) 1000000000):=by simp[QX,zaA]
def XX(xs:List zu)(i:Nat):Bool:=match xs[i]? with
 |none=>true
 |some c=>qA c.Key 0 999&&qA c.Value (-1) 1000000000&&(i == 0||match xs[i - 1]? with|some p=>decide (p.Key < c.Key)|none=>true)
def ju(xs:List zu):Bool:=decide (xs.length≤60)&&(List.range xs.length).all (XX xs)
theorem zav(xs:List zu)(h:xs.length≤1048576):yR xs=some (ju xs):=by
 unfold yR ju
 split
 ·rename_i h1
  have:¬xs.length≤60:=by omega
  simp[this]
 ·rename_i h1
  have:xs.length≤60:=by omega
  rw[jD (s0:=(0:Int)) (fun i=>(i:Int)) (XX xs) (some false) (some true) xs.length (by omega) (fun kb i hi=> ?_) (fun kb=> ?_) rfl]
  ·simp only[this,decide_true,Bool.true_and];split<;>simp_all
  ·unfold Yl ym XX
   simp only[zO hi,zht,zda,Option.bind_some,ql i _ hi (by omega),List.getElem?_eq_getElem hi]
   rw[if_pos (by omega)]
   cases qA xs[i].Key 0 999<;>simp
   cases qA xs[i].Value (-1) 1000000000<;>simp
   by_cases h0:0 < i
   ·have h2:IntKind.wrap .i64 ((i:Int) - 1)=((i - 1:Nat):Int):=by rw[w64 (by omega) (by omega)];omega
    have h3:i - 1 < xs.length:=by omega
    have h4:¬i=0:=by omega
    simp only[h0,if_true,h2,zO h3,Option.bind_some,List.getElem?_eq_getElem h3,h4,false_or]
    by_cases h5:xs[i].Key≤xs[i - 1].Key
    ·have:¬xs[i - 1].Key < xs[i].Key:=by omega
     simp[h5,this]
    ·have:xs[i - 1].Key < xs[i].Key:=by omega
     simp[h5,this]
   ·have h4:i=0:=by omega
    simp[h4]
  ·unfold Yl
   rw[if_neg (by omega)];rfl
theorem zan(xs:List zu)(h:xs.length≤1048576):Zu xs=some (ju xs):=by
 unfold Zu ju
 rw[jD (s0:=(0:Int)) (fun i=>(i:Int)) (XX xs) (some false) (some (decide (xs.length≤60))) xs.length (by omega) (fun kb i hi=> ?_) (fun kb=> ?_) rfl]
 ·split<;>simp_all
 ·unfold Ym yo XX
  simp only[zO hi,ziP,zik,Option.bind_some,ql i _ hi (by omega),List.getElem?_eq_getElem hi]
  rw[if_pos (by omega)]
  cases qA xs[i].Key 0 999<;>simp
  cases qA xs[i].Value (-1) 1000000000<;>simp
  by_cases h0:0 < i
  ·have h2:IntKind.wrap .i64 ((i:Int) - 1)=((i - 1:Nat):Int):=by rw[w64 (by omega) (by omega)];omega
   have h3:i - 1 < xs.length:=by omega
   have h4:¬i=0:=by omega
   simp only[h0,if_true,h2,zO h3,Option.bind_some,List.getElem?_eq_getElem h3,h4,false_or]
   by_cases h5:xs[i].Key≤xs[i - 1].Key
   ·have:¬xs[i - 1].Key < xs[i].Key:=by omega
    simp[h5,this]
   ·have:xs[i - 1].Key < xs[i].Key:=by omega
    simp[h5,this]
  ·have h4:i=0:=by omega
   simp[h4]
 ·unfold Ym YC
  rw[if_neg (by omega)]
  have:((xs.length:Int)≤60)↔xs.length≤60:=by omega
  simp[this]
theorem KE{xs:List zu}(h:ju xs=true){i:Nat}(hi:i < xs.length):-1≤xs[i].Value∧0≤xs[i].Key∧xs[i].Key≤999:=by
 unfold ju at h
 simp only[Bool.and_eq_true,List.all_eq_true] at h
 have:=h.2 i (List.mem_range.2 hi)
 unfold XX qA at this
 rw[List.getElem?_eq_getElem hi] at this
 simp only[Bool.and_eq_true,decide_eq_true_eq] at this
 exact⟨this.1.2.1,this.1.1.1,this.1.1.2⟩
theorem zfy{xs:List zu}(h:ju xs=true):xs.length≤60:=by
 unfold ju at h;simp at h;exact h.1
def zcR(xs:List zu)(w:zu):Bool:=decide (0≤w.Value)&&decide (Ky xs w.Key < 0)
def km(xs ws:List zu):Int:=if qY xs&&ju ws then((ws.filter (zcR xs)).length:Int) else -1
theorem zf9{α:Type}{ws:List α}{p:α→Bool}{i:Nat}(hi:i < ws.length):((ws.take (i+1)).filter p).length=((ws.take i).filter p).length+if p ws[i]=true then 1 else 0:=by
 rw[List.take_succ_eq_append_getElem hi,List.filter_append,List.length_append]
 congr 1
 by_cases h:p ws[i]=true<;>simp[h]
theorem zd2(xs ws:List zu)(h:xs.length≤1048576)(h':ws.length≤1048576):QT xs ws=some (km xs ws):=by
 unfold QT km Qn
 simp only[zbc _ h,zav _ h',Option.bind_some]
 cases hg:qY xs<;>simp
 cases hw:ju ws<;>simp
 rw[qR (s0:=((0:Int),(0:Int))) (fun i=>((((ws.take i).filter (zcR xs)).length:Int),(i:Int))) (some ((ws.filter (zcR xs)).length:Int)) ws.length (by omega) (fun kb i hi=> ?_) (fun kb=> ?_) (by simp)]
 ·unfold Ye Zz
  have hle:((ws.take i).filter (zcR xs)).length≤ws.length:=Nat.le_trans (List.length_filter_le _ _) (by simp;omega)
  have e:=ql i _ hi (by omega)
  have e3:IntKind.wrap .i64 ((((ws.take i).filter (zcR xs)).length:Int)+1)=((((ws.take i).filter (zcR xs)).length+1:Nat):Int):=by rw[w64 (by omega) (by omega)];omega
  simp only[zO hi,Option.bind_some,zkm _ _ h,e,e3]
  rw[if_pos (by omega),zf9 hi]
  unfold zcR
  by_cases h0:0≤ws[i].Value<;>by_cases h1:Ky xs ws[i].Key < 0<;>simp[h0,h1]
 ·unfold Ye Ys
  rw[if_neg (by simp)]
  simp
theorem zdZ(xs ws:List zu)(h:xs.length≤1048576)(h':ws.length≤1048576):QZ xs ws=some (km xs ws):=by
 unfold QZ km Z5
 simp only[zbj _ h,zan _ h',Option.bind_some]
 cases hg:qY xs<;>simp
 cases hw:ju ws<;>simp
 rw[qR (s0:=((0:Int),(0:Int))) (fun i=>((((ws.take i).filter (zcR xs)).length:Int),(i:Int))) (some ((ws.filter (zcR xs)).length:Int)) ws.length (by omega) (fun kb i hi=> ?_) (fun kb=> ?_) (by simp)]
 ·unfold YM ZF
  have hle:((ws.take i).filter (zcR xs)).length≤ws.length:=Nat.le_trans (List.length_filter_le _ _) (by simp;omega)
  have e:=ql i _ hi (by omega)
  have e3:IntKind.wrap .i64 ((((ws.take i).filter (zcR xs)).length:Int)+1)=((((ws.take i).filter (zcR xs)).length+1:Nat):Int):=by rw[w64 (by omega) (by omega)];omega
  have hv:=KE hw hi
  simp only[zO hi,Option.bind_some,zji xs _ hg (show -9000000000000000000≤ws[i].Key by omega) (by omega),e,e3]
  rw[if_pos (by omega),zf9 hi]
  unfold zcR
  by_cases h0:0≤ws[i].Value
  ·have:¬ws[i].Value= -1:=by omega
   by_cases h1:Ky xs ws[i].Key < 0<;>simp[h0,h1,this]
  ·have:ws[i].Value= -1:=by omega
   simp[this]
 ·unfold YM Yh
  rw[if_neg (by simp)]
  simp
theorem zi9(xs:List zK)(h:xs.length≤maxLen)(z:Int)(h1:0≤z)(h2:z≤1048576):Yb xs z=some (if z < xs.length then -1 else z - xs.length):=by
 unfold Yb
 have:IntKind.wrap .i64 (z - (xs.length:Int))=z - xs.length:=by unfold maxLen at h;exact w64 (by omega) (by omega)
 rw[this]
 split<;>split<;>first|rfl|omega
theorem zjx(xs:List zK)(h:xs.length≤1048576):JI xs=some xs:=by
 unfold JI
 rw[if_pos ⟨by omega,by omega⟩]
 simp only[Int.toNat_natCast]
 refine XZ xs _ xw (by omega) (fun kb ys i hi hy=> ?_) (fun kb ys=> ?_)
 ·unfold xu
  simp only[zO hi,zO (show i < ys.length by omega),Xo,Option.bind_some,Int.toNat_natCast,ql i _ hi (by omega)]
  rw[if_pos (by omega)]
 ·unfold xu
  rw[if_neg (by omega)]
theorem zkl(a b:zK):Y4 a b=some (decide (a=b)):=by
 unfold Y4
 cases a;cases b
 simp only[zK.mk.injEq]
 repeat' split
 all_goals simp_all
theorem zjT(xs ys:List zK)(h:xs.length≤1048576):JL xs ys=some (decide (xs=ys)):=by
 unfold JL
 split
 ·rename_i hl
  have:¬xs=ys:=fun e=>hl (by rw[e])
  simp[this]
 ·rename_i hl
  have hl:xs.length=ys.length:=by omega
  rw[jD (s0:=(0:Int)) (fun i=>(i:Int)) (fun i=>decide (xs[i]? =ys[i]?)) (some false) (some true) xs.length (by omega) (fun kb i hi=> ?_) (fun kb=> ?_) rfl,YG hl]
  ·by_cases e:xs=ys<;>simp[e]
  ·unfold xk
   simp only[zO hi,zO (show i < ys.length by omega),zkl,Option.bind_some,ql i _ hi (by omega)]
   rw[if_pos (by omega),List.getElem?_eq_getElem hi,List.getElem?_eq_getElem (show i < ys.length by omega)]
   simp
  ·unfold xk
   rw[if_neg (by omega)]
   rfl
def qO(x:zL):Nat:=x.Writes.length
theorem zki(x:zL)(h:Xx x)(z:Int)(h1:0≤z)(h2:z≤1048576):xf x z=some (if z < (qO x:Int) then -1 else z - (qO x:Int)):=by
 unfold Xx at h
 obtain⟨o0,o1⟩:=h
 unfold xf qO
 rw[zh0 x.Writes o1.1 _ (by omega) (by omega)]
 simp only[Option.bind_some]
 by_cases c0:z < (x.Writes.length:Int)
 ·rw[if_pos c0,if_pos (by omega)];try rw[if_pos (by omega)]
 rw[if_neg c0,if_neg (by omega)]
 try rw[if_neg (by omega)]
 try (congr 1;omega)
theorem zkC(x:zL)(h:qO x≤1048576):xb x=some x:=by simp[xb,zh3 _ (show x.Writes.length≤1048576 by unfold qO at h;omega)]
theorem zkZ(x y:zL)(h:qO x≤1048576):xe x y=some (decide (x=y)):=by
 unfold xe
 simp only[zio _ _ (show x.Writes.length≤1048576 by unfold qO at h;omega),Option.bind_some]
 cases x;cases y
 simp only[zL.mk.injEq]
 repeat' split
 all_goals simp_all
def z7(xs:(List zL)):Nat:=xs.length+j4 (fun y:zL=>qO y) xs
theorem zjJ(xs:(List zL))(h:(okS Xx) xs)(z:Int)(h1:0≤z)(h2:z≤1048576):J0 xs z=some (if z < (z7 xs:Int) then -1 else z - (z7 xs:Int)):=by
 unfold J0
 have hm:=h.1
 have hw:IntKind.wrap .i64 (z - (xs.length:Int))=z - xs.length:=by unfold maxLen at hm;exact w64 (by omega) (by omega)
 rw[hw]
 have hsz:(z7 xs:Int)=xs.length+(j4 (fun y:zL=>qO y) xs:Nat):=by unfold z7;omega
 rw[hsz]
 by_cases c:z < xs.length
 ·rw[if_pos (by omega),if_pos (by omega)]
 rw[if_neg (by omega)]
 rw[zbR (fun i=>(z - (xs.length:Int) - (j4 (fun y:zL=>qO y) (xs.take i):Nat),(i:Int))) (fun i=>decide ((j4 (fun y:zL=>qO y) (xs.take (i+1)):Int)≤z - xs.length)) (some (-1)) (some (z - (xs.length:Int) - (j4 (fun y:zL=>qO y) xs:Nat))) xs.length (by omega) (fun kb i hi hp=> ?_) (fun kb hp=> ?_) (by simp[j4])]
 ·by_cases c2:z < xs.length+(j4 (fun y:zL=>qO y) xs:Nat)
  ·rw[if_pos c2,if_neg]
   rw[Bool.not_eq_true,List.all_eq_false]
   cases hn:xs.length with
   |zero=>
    have:xs=[]:=List.eq_nil_of_length_eq_zero hn
    subst this
    simp[j4] at c2 c
    omega
   |succ n=>
    refine⟨n,by simp,?_⟩
    have:xs.take (n+1)=xs:=by rw[←hn];simp
    rw[this,decide_eq_true_eq]
    omega
  ·rw[if_neg c2,if_pos]
   ·congr 1;omega
   ·rw[List.all_eq_true]
    intro i hi
    have:=kU (fun y:zL=>qO y) xs (i+1)
    simp only[decide_eq_true_eq]
    omega
 ·have h0:(j4 (fun y:zL=>qO y) (xs.take i):Int)≤z - xs.length:=by
   cases i with
   |zero=>simp[j4];omega
   |succ j=>have:=hp j (by omega);simpa using this
  unfold xp
  simp only[zO hi,Option.bind_some,ql i _ hi (by omega)]
  rw[if_pos (by omega),zki xs[i] (h.2 _ (List.getElem_mem hi)) _ (by omega) (by omega),Xe (fun y:zL=>qO y) hi]
  simp only[Option.bind_some,Int.natCast_add]
  by_cases c3:z - (xs.length:Int) - (j4 (fun y:zL=>qO y) (xs.take i):Nat) < (qO (xs[i]):Nat)
  ·rw[if_pos c3,if_pos (by omega),if_neg (by simp;omega)]
  ·rw[if_neg c3,if_neg (by omega),if_pos (by simp;omega)]
   congr 2
   omega
 ·unfold xp xx
  rw[if_neg (by simp)]
  simp
theorem Ks{xs:(List zL)}(h:z7 xs≤1048576):xs.length≤1048576∧∀i (hi:i < xs.length),qO (xs[i])≤1048576:=by
 unfold z7 at h
 refine⟨by omega,fun i hi=> ?_⟩
 have:=zkT (fun y:zL=>qO y) hi
 omega
theorem zjg(xs:(List zL))(h:z7 xs≤1048576):J3 xs=some xs:=by
 obtain⟨hl,hs⟩:=Ks h
 unfold J3
 rw[if_pos ⟨by omega,by omega⟩]
 simp only[Int.toNat_natCast]
 refine XZ xs _ xv (by omega) (fun kb ys i hi hy=> ?_) (fun kb ys=> ?_)
 ·unfold xh
  simp only[zO hi,zO (show i < ys.length by omega),zkC _ (hs i hi),Option.bind_some,Int.toNat_natCast,ql i _ hi (by omega)]
  rw[if_pos (by omega)]
 ·unfold xh
  rw[if_neg (by omega)]
theorem zjG(xs ys:(List zL))(h:z7 xs≤1048576):J4 xs ys=some (decide (xs=ys)):=by
 obtain⟨hl,hs⟩:=Ks h
 unfold J4
 split
 ·rename_i hl
  have:¬xs=ys:=fun e=>hl (by rw[e])
  simp[this]
 ·rename_i hl
  have hl:xs.length=ys.length:=by omega
  rw[jD (s0:=(0:Int)) (fun i=>(i:Int)) (fun i=>decide (xs[i]? =ys[i]?)) (some false) (some true) xs.length (by omega) (fun kb i hi=> ?_) (fun kb=> ?_) rfl,YG hl]
  ·by_cases e:xs=ys<;>simp[e]
  ·unfold xF
   simp only[zO hi,zO (show i < ys.length by omega),zkZ _ _ (hs i hi),Option.bind_some,ql i _ hi (by omega)]
   rw[if_pos (by omega),List.getElem?_eq_getElem hi,List.getElem?_eq_getElem (show i < ys.length by omega)]
   simp
  ·unfold xF
   rw[if_neg (by omega)]
   rfl
theorem zg8(xs:List Int)(h:xs.length≤maxLen)(z:Int)(h1:0≤z)(h2:z≤1048576):Q8 xs z=some (if z < xs.length then -1 else z - xs.length):=by
 unfold Q8
 have:IntKind.wrap .i64 (z - (xs.length:Int))=z - xs.length:=by unfold maxLen at h;exact w64 (by omega) (by omega)
 rw[this]
 split<;>split<;>first|rfl|omega
theorem zhL(xs:List Int)(h:xs.length≤1048576):Q7 xs=some xs:=by
 unfold Q7
 rw[if_pos ⟨by omega,by omega⟩]
 simp only[Int.toNat_natCast]
 refine XZ xs _ ku (by omega) (fun kb ys i hi hy=> ?_) (fun kb ys=> ?_)
 ·unfold ki
  simp only[zO hi,zO (show i < ys.length by omega),Option.bind_some,Int.toNat_natCast,ql i _ hi (by omega)]
  rw[if_pos (by omega)]
 ·unfold ki
  rw[if_neg (by omega)]
theorem zhI(xs ys:List Int)(h:xs.length≤1048576):Q3 xs ys=some (decide (xs=ys)):=by
 unfold Q3
 split
 ·rename_i hl
  have:¬xs=ys:=fun e=>hl (by rw[e])
  simp[this]
 ·rename_i hl
  have hl:xs.length=ys.length:=by omega
  rw[jD (s0:=(0:Int)) (fun i=>(i:Int)) (fun i=>decide (xs[i]? =ys[i]?)) (some false) (some true) xs.length (by omega) (fun kb i hi=> ?_) (fun kb=> ?_) rfl,YG hl]
  ·by_cases e:xs=ys<;>simp[e]
  ·unfold kI
   simp only[zO hi,zO (show i < ys.length by omega),Option.bind_some,ql i _ hi (by omega)]
   rw[if_pos (by omega),List.getElem?_eq_getElem hi,List.getElem?_eq_getElem (show i < ys.length by omega)]
   simp
  ·unfold kI
   rw[if_neg (by omega)]
   rfl
def zr(x:zn):Nat:=x.Own.length+x.Frozen.length+x.Cells.length+x.Locks.length+z7 x.Helds+x.Wounded.length+x.Ended.length
theorem zi8(x:zn)(h:KR x)(z:Int)(h1:0≤z)(h2:z≤1048576):Js x z=some (if z < (zr x:Int) then -1 else z - (zr x:Int)):=by
 unfold KR at h
 obtain⟨o0,o1,o2,o3,o4,o5,o6,o7,o8⟩:=h
 unfold Js zr
 rw[zeu x.Own o1.1 _ (by omega) (by omega)]
 simp only[Option.bind_some]
 by_cases c0:z < (x.Own.length:Int)
 ·rw[if_pos c0,if_pos (by omega)];try rw[if_pos (by omega)]
 rw[if_neg c0,if_neg (by omega)]
 rw[zeu x.Frozen o2.1 _ (by omega) (by omega)]
 simp only[Option.bind_some]
 by_cases c1:z - (x.Own.length:Int) < (x.Frozen.length:Int)
 ·rw[if_pos c1,if_pos (by omega)];try rw[if_pos (by omega)]
 rw[if_neg c1,if_neg (by omega)]
 rw[zjm x.Cells o3.1 _ (by omega) (by omega)]
 simp only[Option.bind_some]
 by_cases c2:z - (x.Own.length:Int) - (x.Frozen.length:Int) < (x.Cells.length:Int)
 ·rw[if_pos c2,if_pos (by omega)];try rw[if_pos (by omega)]
 rw[if_neg c2,if_neg (by omega)]
 rw[zi9 x.Locks o4.1 _ (by omega) (by omega)]
 simp only[Option.bind_some]
 by_cases c3:z - (x.Own.length:Int) - (x.Frozen.length:Int) - (x.Cells.length:Int) < (x.Locks.length:Int)
 ·rw[if_pos c3,if_pos (by omega)];try rw[if_pos (by omega)]
 rw[if_neg c3,if_neg (by omega)]
 rw[zjJ x.Helds o5 _ (by omega) (by omega)]
 simp only[Option.bind_some]
 by_cases c4:z - (x.Own.length:Int) - (x.Frozen.length:Int) - (x.Cells.length:Int) - (x.Locks.length:Int) < (z7 x.Helds:Int)
 ·rw[if_pos c4,if_pos (by omega)];try rw[if_pos (by omega)]
 rw[if_neg c4,if_neg (by omega)]
 rw[zg8 x.Wounded o6.1 _ (by omega) (by omega)]
 simp only[Option.bind_some]
 by_cases c5:z - (x.Own.length:Int) - (x.Frozen.length:Int) - (x.Cells.length:Int) - (x.Locks.length:Int) - (z7 x.Helds:Int) < (x.Wounded.length:Int)
 ·rw[if_pos c5,if_pos (by omega)];try rw[if_pos (by omega)]
 rw[if_neg c5,if_neg (by omega)]
 rw[zg8 x.Ended o7.1 _ (by omega) (by omega)]
 simp only[Option.bind_some]
 by_cases c6:z - (x.Own.length:Int) - (x.Frozen.length:Int) - (x.Cells.length:Int) - (x.Locks.length:Int) - (z7 x.Helds:Int) - (x.Wounded.length:Int) < (x.Ended.length:Int)
 ·rw[if_pos c6,if_pos (by omega)];try rw[if_pos (by omega)]
 rw[if_neg c6,if_neg (by omega)]
 try rw[if_neg (by omega)]
 try (congr 1;omega)
theorem zjS(x:zn)(h:zr x≤1048576):yt x=some x:=by simp[yt,zeX _ (show x.Own.length≤1048576 by unfold zr at h;omega),zeX _ (show x.Frozen.length≤1048576 by unfold zr at h;omega),zi4 _ (show x.Cells.length≤1048576 by unfold zr at h;omega),zjx _ (show x.Locks.length≤1048576 by unfold zr at h;omega),zjg _ (show z7 x.Helds≤1048576 by unfold zr at h;omega),zhL _ (show x.Wounded.length≤1048576 by unfold zr at h;omega),zhL _ (show x.Ended.length≤1048576 by unfold zr at h;omega)]
theorem zfS(x y:zn)(h:zr x≤1048576):yA x y=some (decide (x=y)):=by
 unfold yA
 simp only[zeD _ _ (show x.Own.length≤1048576 by unfold zr at h;omega),zeD _ _ (show x.Frozen.length≤1048576 by unfold zr at h;omega),zjq _ _ (show x.Cells.length≤1048576 by unfold zr at h;omega),zjT _ _ (show x.Locks.length≤1048576 by unfold zr at h;omega),zjG _ _ (show z7 x.Helds≤1048576 by unfold zr at h;omega),zhI _ _ (show x.Wounded.length≤1048576 by unfold zr at h;omega),zhI _ _ (show x.Ended.length≤1048576 by unfold zr at h;omega),Option.bind_some]
 cases x;cases y
 simp only[zn.mk.injEq]
 repeat' split
 all_goals simp_all
def zax(k:Int):ze:=ze.mk k (IntKind.wrap .i64 (k+1))
theorem zgN(k:Int):Y5 k=some (zax k):=rfl
theorem zmH(k:Int):X5 k=some (zax k):=rfl
theorem zgz{k:Int}(h:0≤k∧k≤999):z8 (zax k)=true:=by
 unfold zax z8
 rw[w64 (by omega) (by omega)]
 simp
 omega
theorem ziI(xs:List zL)(h:xs.length≤1048576):Yp xs=some (xs.map (·.Tx)):=by
 unfold Yp
 refine qR (fun i=>((xs.take i).map (·.Tx),(i:Int))) _ xs.length (by omega) (fun kb i hi=> ?_) (fun kb=> ?_) (by simp)
 ·unfold Xj
  simp only[zO hi,Option.bind_some,ql i _ hi (by omega)]
  rw[if_pos (by omega),if_pos (by simp;omega),List.take_succ_eq_append_getElem hi,List.map_append]
  rfl
 ·unfold Xj Xp
  rw[if_neg (by simp)]
  simp
theorem zgI(xs:List (List Int))(h:xs.length≤1048576)(hs:j4 List.length xs≤100000000):yU xs=some xs.flatten:=by
 unfold yU
 have hst:=fun i=>kU List.length xs i
 refine qR (fun i=>(((j4 List.length (xs.take i):Nat):Int),(i:Int))) _ xs.length (by omega) (fun kb i hi=> ?_) (fun kb=> ?_) (by simp[j4])
 ·unfold Zs
  have h1:=hst (i+1)
  have h2:=Xe List.length hi
  have e:IntKind.wrap .i64 (((j4 List.length (xs.take i):Nat):Int)+(xs[i].length:Int))=((j4 List.length (xs.take (i+1)):Nat):Int):=by rw[w64 (by omega) (by omega),h2];omega
  simp only[zO hi,Option.bind_some,ql i _ hi (by omega),e]
  rw[if_pos (by omega),if_neg (by omega)]
 ·unfold Zs ZB kt
  rw[if_neg (by simp)]
  have h1:=hst xs.length
  simp only
  rw[if_pos (by omega)]
  simp only[Option.bind_some]
  refine qR (fun i=>((xs.take i).flatten,(i:Int))) _ xs.length (by omega) (fun kb i hi=> ?_) (fun kb=> ?_) (by simp)
  ·unfold ZJ
   have h3:=hst (i+1)
   have hf:∀ys:List (List Int),ys.flatten.length=j4 List.length ys:=fun ys=>by
    induction ys with
    |nil=>rfl
    |cons y ys ih=>simp only[List.flatten_cons,List.length_append,j4,ih]
   have h2:=Xe List.length hi
   have e:(xs.take (i+1)).flatten=(xs.take i).flatten++xs[i]:=by rw[List.take_succ_eq_append_getElem hi,List.flatten_append];simp
   simp only[zO hi,Option.bind_some,ql i _ hi (by omega)]
   rw[if_pos (by omega),if_pos (by rw[←e,hf];omega),e]
  ·unfold ZJ ZE
   rw[if_neg (by simp)]
   simp
def kj(xs:List zu)(hs:List zL):Int:=(hs.map fun h=>km xs h.Writes).sum
theorem zgU(xs ws:List zu):-1≤km xs ws∧km xs ws≤ws.length:=by
 unfold km
 have:=List.length_filter_le (zcR xs) ws
 split<;>omega
theorem zbm(xs:List zu):∀hs:List zL,-(hs.length:Int)≤kj xs hs∧kj xs hs≤(j4 (fun h:zL=>h.Writes.length) hs:Nat)
 |[]=>by simp[kj,j4]
 |h::hs=>by
  have:=zbm xs hs
  have h2:=zgU xs h.Writes
  unfold kj at this ⊢
  simp only[List.map_cons,List.sum_cons,j4,List.length_cons]
  omega
theorem Ko(xs:List zu){hs:List zL}{i:Nat}(hi:i < hs.length):kj xs (hs.take (i+1))=kj xs (hs.take i)+km xs hs[i].Writes:=by
 unfold kj
 rw[List.take_succ_eq_append_getElem hi,List.map_append,List.sum_append]
 simp
theorem yY(hs:List zL):z7 hs=hs.length+j4 (fun h:zL=>h.Writes.length) hs:=rfl
theorem KW{hs:List zL}(h:z7 hs≤1048576){i:Nat}(hi:i < hs.length):hs[i].Writes.length≤1048576:=by
 rw[yY] at h
 have h1:=Xe (fun h:zL=>h.Writes.length) hi
 have h2:=kU (fun h:zL=>h.Writes.length) hs (i+1)
 omega
theorem zkX(s:zn)(h:zr s≤1048576):Y0 s=some (kj s.Cells s.Helds):=by
 have hc:s.Cells.length≤1048576:=by unfold zr at h;omega
 have hh:z7 s.Helds≤1048576:=by unfold zr at h;omega
 have hh2:=hh
 rw[yY] at hh2
 unfold Y0
 refine qR (fun i=>(kj s.Cells (s.Helds.take i),(i:Int))) _ s.Helds.length (by omega) (fun kb i hi=> ?_) (fun kb=> ?_) (by simp[kj])
 ·unfold kG
  have b1:=zbm s.Cells (s.Helds.take (i+1))
  have b2:=kU (fun h:zL=>h.Writes.length) s.Helds (i+1)
  have b3:(s.Helds.take (i+1)).length≤s.Helds.length:=by simp;omega
  rw[Ko s.Cells hi] at b1
  simp only[zO hi,zd2 _ _ hc (KW hh hi),Option.bind_some,ql i _ hi (by omega),Ko s.Cells hi]
  rw[if_pos (by omega),w64 (by omega) (by omega)]
 ·unfold kG kK
  rw[if_neg (by simp)]
  simp
theorem zpb(s:zn)(h:zr s≤1048576):Xs s=some ((s.Cells.length:Int)+kj s.Cells s.Helds):=by
 have hc:s.Cells.length≤1048576:=by unfold zr at h;omega
 have hh:z7 s.Helds≤1048576:=by unfold zr at h;omega
 have hh2:=hh
 rw[yY] at hh2
 unfold Xs
 refine qR (fun i=>((s.Cells.length:Int)+kj s.Cells (s.Helds.take i),(i:Int))) _ s.Helds.length (by omega) (fun kb i hi=> ?_) (fun kb=> ?_) (by simp[kj])
 ·unfold XP
  have b1:=zbm s.Cells (s.Helds.take (i+1))
  have b2:=kU (fun h:zL=>h.Writes.length) s.Helds (i+1)
  have b3:(s.Helds.take (i+1)).length≤s.Helds.length:=by simp;omega
  rw[Ko s.Cells hi] at b1
  simp only[zO hi,zdZ _ _ hc (KW hh hi),Option.bind_some,ql i _ hi (by omega),Ko s.Cells hi]
  rw[if_pos (by omega),w64 (by omega) (by omega),Int.add_assoc]
 ·unfold XP XQ
  rw[if_neg (by simp)]
  simp
def ko(s:zn)(h:zL):Bool:=h.Writes.all fun w=>s.Locks.any (Ke h.Tx (zax w.Key) 2)
theorem zhn(w:zu)(s:zn)(h:zL)(hs:s.Locks.length≤1048576):ZZ w s h=some (!xU s.Locks h.Tx (zax w.Key) 2):=by
 unfold ZZ
 simp only[zmH,zdo _ _ _ _ hs,Option.bind_some]
theorem zcd(ws:List zu)(s:zn)(h:zL)(hs:s.Locks.length≤1048576)(hw:ws.length≤1048576):qq ws s h=some (ws.any fun w=>!xU s.Locks h.Tx (zax w.Key) 2):=by
 unfold qq jf
 rw[JA ws (fun w=>!xU s.Locks h.Tx (zax w.Key) 2) (by omega) (fun kb i hi=> ?_) (fun kb=> ?_)]
 ·simp only[Option.bind_some,ZK]
 ·unfold qW
  simp only[zO hi,zhn _ _ _ hs,Option.bind_some,ql i _ hi (by omega)]
  rw[if_pos (by omega)]
 ·unfold qW
  rw[if_neg (by omega)];rfl
theorem zkA{s:zn}{h:zL}(hg:qE s.Locks=true)(hw:ju h.Writes=true):(h.Writes.any fun w=>!xU s.Locks h.Tx (zax w.Key) 2)= !ko s h:=by
 have:∀w∈h.Writes,(!xU s.Locks h.Tx (zax w.Key) 2)= !(s.Locks.any (Ke h.Tx (zax w.Key) 2)):=fun w hm=>by
  obtain⟨i,hi,rfl⟩:=List.mem_iff_getElem.1 hm
  have hk:=(KE hw hi).2
  unfold xU
  rw[hg,zgz hk]
  rfl
 unfold ko
 rw[List.not_all_eq_any_not]
 rw[Bool.eq_iff_iff,List.any_eq_true,List.any_eq_true]
 constructor<;>rintro⟨w,hm,e⟩<;>refine⟨w,hm,?_⟩
 ·rw[←this w hm];exact e
 ·rw[this w hm];exact e
def zbC(s:zn)(h:zL):Bool:=ju h.Writes&&ko s h
theorem zi5(s:zn)(h:zr s≤1048576)(hg:qE s.Locks=true):Jx s=some (s.Helds.all (zbC s)&&jC (s.Helds.map (·.Tx))):=by
 have hl:s.Locks.length≤1048576:=by unfold zr at h;omega
 have hh:z7 s.Helds≤1048576:=by unfold zr at h;omega
 have hn:s.Helds.length≤1048576:=by rw[yY] at hh;omega
 unfold Jx
 rw[Xd s.Helds (zbC s) (some false) (some (jC (s.Helds.map (·.Tx)))) (by omega) (fun kb i hi=> ?_) (fun kb=> ?_)]
 ·cases s.Helds.all (zbC s)<;>simp
 ·unfold xI Qk zbC
  have hw:=KW hh hi
  simp only[zO hi,zan _ hw,zcd _ _ _ hl hw,Option.bind_some,ql i _ hi (by omega)]
  rw[if_pos (by omega)]
  cases hwg:ju s.Helds[i].Writes
  ·simp
  ·rw[zkA hg hwg]
   cases ko s s.Helds[i]<;>simp
 ·unfold xI xG
  rw[if_neg (by omega)]
  simp only[ziI _ hn,zaJ _ (show(s.Helds.map (·.Tx)).length≤1048576 by simpa using hn),Option.bind_some]
def YY(s:zn)(i:Nat):Bool:=match s.Helds[i]? with
 |none=>true
 |some h=>qA h.Tx 1 60&&(i == 0||match s.Helds[i - 1]? with|some p=>decide (p.Tx < h.Tx)|none=>true)&&ju h.Writes&&ko s h&&!s.Wounded.contains h.Tx&&!s.Ended.contains h.Tx
theorem zi7(s:zn)(hd:zL)(kx:Unit→Option Bool)(h:zr s≤1048576)(hw:hd.Writes.length≤1048576)(hg:qE s.Locks=true)(hwg:ju hd.Writes=true):qV hd s kx false=if ko s hd=true then(if (!s.Wounded.contains hd.Tx&&!s.Ended.contains hd.Tx)=true then kx () else some false) else some false:=by
 have hW:s.Wounded.length≤1048576:=by unfold zr at h;omega
 have hE:s.Ended.length≤1048576:=by unfold zr at h;omega
 unfold qV ko
 rw[if_neg (by simp)]
 refine Xd hd.Writes (fun w=>s.Locks.any (Ke hd.Tx (zax w.Key) 2)) (some false) _ (by omega) (fun kb i hi=> ?_) (fun kb=> ?_)
 ·unfold ZQ
  have hk:=(KE hwg hi).2
  simp only[zO hi,zgN,zig _ hd.Tx _ 2 hg (zgz hk) (by decide),Option.bind_some,ql i _ hi (by omega)]
  rw[if_pos (by omega)]
 ·unfold ZQ ZR yS
  rw[if_neg (by omega)]
  simp only[zaZ _ _ hW,zaZ _ _ hE,Option.bind_some]
  cases s.Wounded.contains hd.Tx<;>cases s.Ended.contains hd.Tx<;>simp
theorem zgr(s:zn)(h:zr s≤1048576)(hg:qE s.Locks=true):ZH s=some ((List.range s.Helds.length).all (YY s)):=by
 have hh:z7 s.Helds≤1048576:=by unfold zr at h;omega
 have hn:s.Helds.length≤1048576:=by rw[yY] at hh;omega
 unfold ZH
 rw[jD (s0:=(0:Int)) (fun i=>(i:Int)) (YY s) (some false) (some true) s.Helds.length (by omega) (fun kb i hi=> ?_) (fun kb=> ?_) rfl]
 ·split<;>simp_all
 ·have hw:=KW hh hi
  have J:∀kx,qV s.Helds[i] s kx true=some false:=fun kx=>rfl
  unfold QL YY
  simp only[zO hi,zgw,zav _ hw,Option.bind_some,List.getElem?_eq_getElem hi]
  rw[if_pos (by omega)]
  cases hwg:ju s.Helds[i].Writes
  ·cases qA s.Helds[i].Tx 1 60<;>simp[J]
   intro h0
   have h2:IntKind.wrap .i64 ((i:Int) - 1)=((i - 1:Nat):Int):=by rw[w64 (by omega) (by omega)];omega
   have h3:i - 1 < s.Helds.length:=by omega
   simp only[h2,zO h3,Option.bind_some]
  ·simp only[Bool.not_true,zi7 s s.Helds[i] _ h hw hg hwg]
   unfold qN
   rw[ql i _ hi (by omega)]
   cases qA s.Helds[i].Tx 1 60<;>simp[J]
   by_cases h0:0 < i
   ·have h2:IntKind.wrap .i64 ((i:Int) - 1)=((i - 1:Nat):Int):=by rw[w64 (by omega) (by omega)];omega
    have h3:i - 1 < s.Helds.length:=by omega
    have h4:¬i=0:=by omega
    simp only[h0,if_true,h2,zO h3,Option.bind_some,List.getElem?_eq_getElem h3,h4,false_or]
    by_cases h5:s.Helds[i].Tx≤s.Helds[i - 1].Tx
    ·have:¬s.Helds[i - 1].Tx < s.Helds[i].Tx:=by omega
     simp[h5,this]
    ·have:s.Helds[i - 1].Tx < s.Helds[i].Tx:=by omega
     simp[h5,this]
     cases ko s s.Helds[i]<;>simp
   ·have h4:i=0:=by omega
    subst h4
    simp
    cases ko s s.Helds[0]<;>simp
 ·unfold QL
  rw[if_neg (by omega)];rfl
theorem zhe(s:zn)(a:ze)(h:s.Own.length≤1048576):ZX a s=some (!y0 s.Own a):=by
 unfold ZX
 simp only[zbr _ _ h,Option.bind_some]
theorem zgW(s:zn)(a:zu)(h:s.Own.length≤1048576):Z6 a s=some (!y0 s.Own (zax a.Key)):=by
 unfold Z6
 simp only[zmH,zbr _ _ h,Option.bind_some]
theorem zhM(s:zn)(l:zK)(g:List Int)(h:s.Own.length≤1048576)(hg:g.length≤1048576):Qp l s g=some (!y0 s.Own ⟨l.Lo,l.Hi⟩||g.contains l.Tx):=by
 unfold Qp qZ
 simp only[zbr _ _ h,zfp _ _ hg,Option.bind_some]
 cases y0 s.Own ⟨l.Lo,l.Hi⟩<;>simp
theorem zco(xs:List ze)(s:zn)(h:s.Own.length≤1048576)(hx:xs.length≤1048576):qp xs s=some (xs.any fun a=>!y0 s.Own a):=by
 unfold qp jd
 rw[JA xs (fun a=>!y0 s.Own a) (by omega) (fun kb i hi=> ?_) (fun kb=> ?_)]
 ·simp only[Option.bind_some,ZK]
 ·unfold qT
  simp only[zO hi,zhe _ _ h,Option.bind_some,ql i _ hi (by omega)]
  rw[if_pos (by omega)]
 ·unfold qT
  rw[if_neg (by omega)];rfl
theorem zcT(xs:List zu)(s:zn)(h:s.Own.length≤1048576)(hx:xs.length≤1048576):qx xs s=some (xs.any fun a=>!y0 s.Own (zax a.Key)):=by
 unfold qx jl
 rw[JA xs (fun a=>!y0 s.Own (zax a.Key)) (by omega) (fun kb i hi=> ?_) (fun kb=> ?_)]
 ·simp only[Option.bind_some,ZK]
 ·unfold jc
  simp only[zO hi,zgW _ _ h,Option.bind_some,ql i _ hi (by omega)]
  rw[if_pos (by omega)]
 ·unfold jc
  rw[if_neg (by omega)];rfl
theorem zcz(xs:List zK)(s:zn)(g:List Int)(h:s.Own.length≤1048576)(hg:g.length≤1048576)(hx:xs.length≤1048576):qu xs s g=some (xs.any fun l=>!y0 s.Own ⟨l.Lo,l.Hi⟩||g.contains l.Tx):=by
 unfold qu jm
 rw[JA xs (fun l=>!y0 s.Own ⟨l.Lo,l.Hi⟩||g.contains l.Tx) (by omega) (fun kb i hi=> ?_) (fun kb=> ?_)]
 ·simp only[Option.bind_some,ZK]
 ·unfold jb
  simp only[zO hi,zhM _ _ _ h hg,Option.bind_some,ql i _ hi (by omega)]
  rw[if_pos (by omega)]
 ·unfold jb
  rw[if_neg (by omega)];rfl
def zci(s:zn):Bool:=s.Frozen.all (y0 s.Own)
def zb0(s:zn):Bool:=s.Cells.all fun c=>y0 s.Own (zax c.Key)
def XK(s:zn):Bool:=s.Locks.all fun l=>y0 s.Own ⟨l.Lo,l.Hi⟩&&(!s.Wounded.contains l.Tx&&!s.Ended.contains l.Tx)
def KG(s:zn):Bool:=s.Wounded.all fun t=>!s.Ended.contains t
def Kp(s:zn):Bool:=decide ((s.Cells.length:Int)+kj s.Cells s.Helds≤60)
def zhG(s:zn):Bool:=zci s&&zb0 s&&XK s&&KG s&&(List.range s.Helds.length).all (YY s)&&Kp s
theorem zvA(s:zn)(h:zr s≤1048576)(hg:qE s.Locks=true):ZY s ()=some ((List.range s.Helds.length).all (YY s)&&Kp s):=by
 have hc:s.Cells.length≤1048576:=by unfold zr at h;omega
 have hh:z7 s.Helds≤1048576:=by unfold zr at h;omega
 rw[yY] at hh
 have hb:=zbm s.Cells s.Helds
 unfold ZY Kp
 simp only[zgr s h hg,zkX s h,Option.bind_some]
 rw[w64 (by omega) (by omega)]
 cases(List.range s.Helds.length).all (YY s)<;>simp
theorem zoL(s:zn)(h:zr s≤1048576)(hg:qE s.Locks=true):Z2 s ()=some (KG s&&((List.range s.Helds.length).all (YY s)&&Kp s)):=by
 have hW:s.Wounded.length≤1048576:=by unfold zr at h;omega
 have hE:s.Ended.length≤1048576:=by unfold zr at h;omega
 unfold Z2 KG
 rw[Xd s.Wounded (fun t=>!s.Ended.contains t) (some false) (some ((List.range s.Helds.length).all (YY s)&&Kp s)) (by omega) (fun kb i hi=> ?_) (fun kb=> ?_)]
 ·cases s.Wounded.all _<;>simp
 ·unfold YL
  simp only[zO hi,zaZ _ _ hE,Option.bind_some,ql i _ hi (by omega)]
  rw[if_pos (by omega)]
  cases s.Ended.contains s.Wounded[i]<;>simp
 ·unfold YL
  rw[if_neg (by omega)]
  exact zvA s h hg
theorem zrE(s:zn)(h:zr s≤1048576)(hg:qE s.Locks=true)(ho:qb s.Own=true):Qa s ()=some (XK s&&(KG s&&((List.range s.Helds.length).all (YY s)&&Kp s))):=by
 have hO:s.Own.length≤1048576:=by unfold zr at h;omega
 have hL:s.Locks.length≤1048576:=by unfold zr at h;omega
 have hW:s.Wounded.length≤1048576:=by unfold zr at h;omega
 have hE:s.Ended.length≤1048576:=by unfold zr at h;omega
 unfold Qa XK
 rw[Xd s.Locks (fun l=>y0 s.Own ⟨l.Lo,l.Hi⟩&&(!s.Wounded.contains l.Tx&&!s.Ended.contains l.Tx)) (some false) (some (KG s&&((List.range s.Helds.length).all (YY s)&&Kp s))) (by omega) (fun kb i hi=> ?_) (fun kb=> ?_)]
 ·cases s.Locks.all _<;>simp
 ·unfold Yr Zi jo
  simp only[zO hi,XU _ _ hO,ho,zjO hg hi,zaZ _ _ hE,zaZ _ _ hW,Option.bind_some,ql i _ hi (by omega),Bool.true_and]
  rw[if_pos (by omega)]
  cases y0 s.Own ⟨s.Locks[i].Lo,s.Locks[i].Hi⟩<;>cases s.Wounded.contains s.Locks[i].Tx<;>cases s.Ended.contains s.Locks[i].Tx<;>simp
 ·unfold Yr
  rw[if_neg (by omega)]
  exact zoL s h hg
theorem zkn{xs:List zu}(hg:qY xs=true){i:Nat}(hi:i < xs.length):0≤xs[i].Key∧xs[i].Key≤999:=by
 unfold qY at hg
 simp only[Bool.and_eq_true,List.all_eq_true] at hg
 have:=hg.2 i (List.mem_range.2 hi)
 unfold x9 qA at this
 rw[List.getElem?_eq_getElem hi] at this
 simp only[Bool.and_eq_true,decide_eq_true_eq] at this
 exact this.1.1
theorem zAU(s:zn)(h:zr s≤1048576)(hg:qE s.Locks=true)(ho:qb s.Own=true)(hs:qY s.Cells=true):Q1 s ()=some (zb0 s&&(XK s&&(KG s&&((List.range s.Helds.length).all (YY s)&&Kp s)))):=by
 have hO:s.Own.length≤1048576:=by unfold zr at h;omega
 have hC:s.Cells.length≤1048576:=by unfold zr at h;omega
 unfold Q1 zb0
 rw[Xd s.Cells (fun c=>y0 s.Own (zax c.Key)) (some false) (some (XK s&&(KG s&&((List.range s.Helds.length).all (YY s)&&Kp s)))) (by omega) (fun kb i hi=> ?_) (fun kb=> ?_)]
 ·cases s.Cells.all _<;>simp
 ·unfold YN
  simp only[zO hi,zgN,XU _ _ hO,ho,zgz (zkn hs hi),Option.bind_some,ql i _ hi (by omega),Bool.true_and]
  rw[if_pos (by omega)]
 ·unfold YN
  rw[if_neg (by omega)]
  exact zrE s h hg ho
theorem zAT(s:zn)(h:zr s≤1048576)(hg:qE s.Locks=true)(ho:qb s.Own=true)(hf:qb s.Frozen=true)(hs:qY s.Cells=true):jz s false=some (zhG s):=by
 have hO:s.Own.length≤1048576:=by unfold zr at h;omega
 have hC:s.Frozen.length≤1048576:=by unfold zr at h;omega
 unfold jz zhG zci
 rw[if_neg (by simp)]
 rw[Xd s.Frozen (y0 s.Own) (some false) (some (zb0 s&&(XK s&&(KG s&&((List.range s.Helds.length).all (YY s)&&Kp s))))) (by omega) (fun kb i hi=> ?_) (fun kb=> ?_)]
 ·cases s.Frozen.all _<;>simp[Bool.and_assoc]
 ·unfold YI
  simp only[zO hi,XU _ _ hO,ho,Q5 hf hi,Option.bind_some,ql i _ hi (by omega),Bool.true_and]
  rw[if_pos (by omega)]
 ·unfold YI
  rw[if_neg (by omega)]
  exact zAU s h hg ho hs
def KT(s:zn):Bool:=qA s.Me 0 3&&qb s.Own&&qb s.Frozen&&qY s.Cells&&qE s.Locks&&qA s.Rank 0 1000000&&(decide (s.Helds.length≤60)&&decide (s.Wounded.length≤60)&&decide (s.Ended.length≤60)&&jC s.Wounded&&jC s.Ended)&&zhG s
theorem zdX(s:zn)(h:zr s≤1048576):Jv s=some (KT s):=by
 have hO:s.Own.length≤1048576:=by unfold zr at h;omega
 have hF:s.Frozen.length≤1048576:=by unfold zr at h;omega
 have hC:s.Cells.length≤1048576:=by unfold zr at h;omega
 have hL:s.Locks.length≤1048576:=by unfold zr at h;omega
 have hW:s.Wounded.length≤1048576:=by unfold zr at h;omega
 have hE:s.Ended.length≤1048576:=by unfold zr at h;omega
 have J2:jy s true=some false:=rfl
 have J5:jz s true=some false:=rfl
 unfold Jv KT
 simp only[zda,xt _ hO,xt _ hF,zbc _ hC,zeI _ hL,Option.bind_some]
 cases qA s.Me 0 3
 ·simp[J2]
 cases ho:qb s.Own
 ·simp[J2]
 cases hf:qb s.Frozen
 ·simp[J2]
 cases hs:qY s.Cells
 ·simp[J2]
 cases hg:qE s.Locks
 ·simp[J2]
 cases qA s.Rank 0 1000000
 ·simp[J2]
 simp only[if_true,Bool.not_true,Bool.true_and]
 unfold jy
 simp only[zhw _ hW,zhw _ hE,Option.bind_some,Bool.false_eq_true,if_false,J5]
 by_cases c1:60 < (s.Helds.length:Int)
 ·have:¬s.Helds.length≤60:=by omega
  simp[c1,this]
 by_cases c2:60 < (s.Wounded.length:Int)
 ·have:¬s.Wounded.length≤60:=by omega
  simp[c1,c2,this]
 by_cases c3:60 < (s.Ended.length:Int)
 ·have:¬s.Ended.length≤60:=by omega
  simp[c1,c2,c3,this]
 have d1:s.Helds.length≤60:=by omega
 have d2:s.Wounded.length≤60:=by omega
 have d3:s.Ended.length≤60:=by omega
 simp only[c1,c2,c3,if_false,d1,d2,d3,decide_true,Bool.true_and]
 cases jC s.Wounded<;>cases jC s.Ended<;>simp[J5,zAT s h hg ho hf hs]
def zbA(s:zn):List Int:=s.Helds.map (·.Tx)
def zdm(s:zn):Bool:=decide (zbA s++(s.Wounded++s.Ended)).Nodup
def ziY(s:zn):Bool:=qA s.Me 0 3&&qb s.Own&&qb s.Frozen&&qY s.Cells&&qE s.Locks&&(s.Helds.all (zbC s)&&jC (zbA s))&&jC s.Wounded&&jC s.Ended&&qA s.Rank 0 1000000&&(zci s&&zb0 s&&XK s&&zdm s&&Kp s)
theorem zyI(s:zn)(h:zr s≤1048576):yO s false=some (XK s&&zdm s&&Kp s):=by
 have hO:s.Own.length≤1048576:=by unfold zr at h;omega
 have hL:s.Locks.length≤1048576:=by unfold zr at h;omega
 have hWE:s.Wounded.length+s.Ended.length≤1048576:=by unfold zr at h;omega
 have hh:z7 s.Helds+s.Wounded.length+s.Ended.length≤1048576:=by unfold zr at h;omega
 rw[yY] at hh
 have hn:s.Helds.length≤1048576:=by omega
 have hfl:[s.Wounded,s.Ended].flatten=s.Wounded++s.Ended:=by simp
 unfold yO
 rw[if_neg (by simp),zgI _ (by simp) (by simp[j4];omega),hfl]
 simp only[zcz _ _ _ hO (show(s.Wounded++s.Ended).length≤1048576 by simpa using hWE) hL,ziI _ hn,Option.bind_some]
 have eL:(s.Locks.any fun l=>!y0 s.Own ⟨l.Lo,l.Hi⟩||(s.Wounded++s.Ended).contains l.Tx)= !XK s:=by
  unfold XK
  rw[List.not_all_eq_any_not]
  congr 1
  funext l
  rw[List.contains_append]
  cases y0 s.Own ⟨l.Lo,l.Hi⟩<;>cases s.Wounded.contains l.Tx<;>cases s.Ended.contains l.Tx<;>rfl
 rw[eL]
 cases XK s
 ·simp
 ·simp only[Bool.not_true,Bool.false_eq_true,if_false,Bool.true_and]
  have hlen:(List.map (fun x=>x.Tx) s.Helds++(s.Wounded++s.Ended)).length≤1048576:=by simp;omega
  rw[if_pos (by omega)]
  unfold ka JE
  rw[if_pos (by omega)]
  simp only[Option.bind_some]
  rw[if_pos (X0 _),zaN _ (by rw[X0];omega)]
  simp only[Option.bind_some]
  rw[if_pos (by rw[X0];omega)]
  simp only[Option.bind_some,zpb s h]
  have e:=zgh (List.map (fun x=>x.Tx) s.Helds++(s.Wounded++s.Ended))
  unfold zdm zbA Kp
  by_cases c:(List.map (fun x=>x.Tx) s.Helds++(s.Wounded++s.Ended)).Nodup
  ·rw[if_pos (by have:=e.2 c;omega)]
   simp[c]
  ·rw[if_neg (fun k=>c (e.1 (by omega)))]
   simp[c]
theorem zdW(s:zn)(h:zr s≤1048576):ZU s=some (ziY s):=by
 have hO:s.Own.length≤1048576:=by unfold zr at h;omega
 have hF:s.Frozen.length≤1048576:=by unfold zr at h;omega
 have hC:s.Cells.length≤1048576:=by unfold zr at h;omega
 have hL:s.Locks.length≤1048576:=by unfold zr at h;omega
 have hW:s.Wounded.length≤1048576:=by unfold zr at h;omega
 have hE:s.Ended.length≤1048576:=by unfold zr at h;omega
 have J2:qC s true=some false:=rfl
 have J5:yO s true=some false:=rfl
 have K2:qC s false=some (zci s&&zb0 s&&XK s&&zdm s&&Kp s):=by
  unfold qC zci zb0
  rw[if_neg (by simp)]
  simp only[zco _ _ hO hF,zcT _ _ hO hC,Option.bind_some]
  rw[←List.not_all_eq_any_not,←List.not_all_eq_any_not]
  cases s.Frozen.all fun a=>y0 s.Own a<;>cases s.Cells.all fun a=>y0 s.Own (zax a.Key)<;>simp[J5,zyI s h]
 unfold ZU ziY zbA
 simp only[zjz,XD _ hO,XD _ hF,zbj _ hC,zaT _ hL,Option.bind_some]
 cases qA s.Me 0 3
 ·simp[J2]
 cases ho:qb s.Own
 ·simp[J2]
 cases hf:qb s.Frozen
 ·simp[J2]
 cases hs:qY s.Cells
 ·simp[J2]
 cases hg:qE s.Locks
 ·simp[J2]
 simp only[zi5 s h hg,zaJ _ hW,zaJ _ hE,zaA,Option.bind_some,if_true,Bool.true_and]
 cases s.Helds.all (zbC s)
 ·simp[J2]
 cases jC (s.Helds.map (·.Tx))
 ·simp[J2]
 cases jC s.Wounded
 ·simp[J2]
 cases jC s.Ended
 ·simp[J2]
 cases qA s.Rank 0 1000000<;>simp[J2,K2]
theorem zdr(s:zn){i:Nat}(hi:i < s.Helds.length):YY s i=(zg9 (zbA s) i&&zbC s s.Helds[i]&&(!s.Wounded.contains s.Helds[i].Tx&&!s.Ended.contains s.Helds[i].Tx)):=by
 unfold YY zg9 zbC zbA
 simp only[List.getElem?_map,List.getElem?_eq_getElem hi,Option.map_some]
 by_cases h0:i=0
 ·subst h0
  simp[Bool.and_assoc]
 ·have h3:i - 1 < s.Helds.length:=by omega
  simp[List.getElem?_eq_getElem h3,h0,Bool.and_assoc]
theorem zi6(s:zn):(List.range s.Helds.length).all (YY s)=(s.Helds.all (zbC s)&&jC (zbA s)&&(zbA s).all fun t=>!s.Wounded.contains t&&!s.Ended.contains t):=by
 rw[Bool.eq_iff_iff]
 unfold jC
 simp only[Bool.and_eq_true,List.all_eq_true,List.mem_range]
 have hl:(zbA s).length=s.Helds.length:=by unfold zbA;simp
 constructor
 ·intro H
  have H':∀i (hi:i < s.Helds.length),_:=fun i hi=>by have:=H i hi;rw[zdr s hi] at this;simpa only[Bool.and_eq_true] using this
  refine⟨⟨fun x hx=> ?_,fun i hi=>(H' i (by omega)).1.1⟩,fun t ht=> ?_⟩
  ·obtain⟨i,hi,rfl⟩:=List.mem_iff_getElem.1 hx
   exact(H' i hi).1.2
  ·unfold zbA at ht
   obtain⟨x,hx,rfl⟩:=List.mem_map.1 ht
   obtain⟨i,hi,rfl⟩:=List.mem_iff_getElem.1 hx
   exact(H' i hi).2
 ·rintro⟨⟨h1,h2⟩,h3⟩ i hi
  rw[zdr s hi]
  simp only[Bool.and_eq_true]
  exact⟨⟨h2 i (by omega),h1 _ (List.getElem_mem hi)⟩,h3 _ (by unfold zbA;exact List.mem_map.2 ⟨_,List.getElem_mem hi,rfl⟩)⟩
theorem zkk(s:zn):KT s=ziY s:=by
 unfold KT ziY zhG
 rw[zi6]
 rw[Bool.eq_iff_iff]
 simp only[Bool.and_eq_true,decide_eq_true_eq]
 have hl:(zbA s).length=s.Helds.length:=by unfold zbA;simp
 have ap:jC (zbA s)=true→jC s.Wounded=true→jC s.Ended=true→(zdm s=true↔(KG s=true∧((zbA s).all fun t=>!s.Wounded.contains t&&!s.Ended.contains t)=true)):=by
  intro g1 g2 g3
  unfold zdm KG
  simp only[decide_eq_true_eq,List.nodup_append,List.all_eq_true,Bool.and_eq_true,Bool.not_eq_true',List.mem_append]
  have nc:∀(xs:List Int) (z:Int),xs.contains z=false↔z∉xs:=fun xs z=>by
   rw[←List.contains_iff_mem]
   cases xs.contains z<;>simp
  simp only[nc]
  constructor
  ·rintro⟨_,⟨_,_,d1⟩,d2⟩
   exact⟨fun t ht he=>d1 t ht t he rfl,fun t ht=>⟨fun hw=>d2 t ht t (.inl hw) rfl,fun he=>d2 t ht t (.inr he) rfl⟩⟩
  ·rintro⟨w,d⟩
   refine⟨KI g1,⟨KI g2,KI g3,fun a ha b hb e=>w a ha (e▸hb)⟩,fun a ha b hb e=> ?_⟩
   subst e
   rcases hb with hb|hb
   ·exact(d a ha).1 hb
   ·exact(d a ha).2 hb
 constructor
 ·rintro⟨⟨⟨⟨⟨⟨⟨a1,a2⟩,a3⟩,a4⟩,a5⟩,a6⟩,⟨⟨⟨b1,b2⟩,b3⟩,b4⟩,b5⟩,⟨⟨⟨⟨c1,c2⟩,c3⟩,c4⟩,⟨c5,c6⟩,c7⟩,c8⟩
  exact⟨⟨⟨⟨⟨⟨⟨⟨⟨a1,a2⟩,a3⟩,a4⟩,a5⟩,c5,c6⟩,b4⟩,b5⟩,a6⟩,⟨⟨⟨c1,c2⟩,c3⟩,(ap c6 b4 b5).2 ⟨c4,c7⟩⟩,c8⟩
 ·rintro⟨⟨⟨⟨⟨⟨⟨⟨⟨a1,a2⟩,a3⟩,a4⟩,a5⟩,c5,c6⟩,b4⟩,b5⟩,a6⟩,⟨⟨⟨c1,c2⟩,c3⟩,c4⟩,c8⟩
  have k:=(ap c6 b4 b5).1 c4
  exact⟨⟨⟨⟨⟨⟨⟨a1,a2⟩,a3⟩,a4⟩,a5⟩,a6⟩,⟨⟨⟨by have:=zbO c6;omega,zbO b4⟩,zbO b5⟩,b4⟩,b5⟩,⟨⟨⟨⟨c1,c2⟩,c3⟩,k.1⟩,⟨c5,c6⟩,k.2⟩,c8⟩
theorem zep(s:zn)(h:zr s≤1048576):ZU s=some (KT s):=by rw[zkk];exact zdW s h
def hb(f:Nat→Bool):List Bool:=(List.range 1001).map f
theorem zm6(f:Nat→Bool):(hb f).length=1001:=by simp[hb]
theorem zko(f:Nat→Bool){k:Nat}(h:k < 1001):idx (hb f) (k:Int)=some (f k):=by
 rw[zO (by rw[zm6];exact h)]
 simp[hb]
theorem zqo(f:Nat→Bool){k:Nat}(h:k < 1001)(v:Bool):(hb f).set k v=hb (fun j=>if j=k then v else f j):=by
 apply List.ext_getElem
 ·simp[hb]
 ·intro i h1 h2
  rw[List.getElem_set]
  simp only[hb,List.getElem_map,List.getElem_range]
  by_cases e:k=i
  ·subst e;simp
  ·rw[if_neg e,if_neg (Ne.symm e)]
theorem zcH{f g:Nat→Bool}(h:∀j,j < 1001→f j=g j):hb f=hb g:=by
 unfold hb
 apply List.map_congr_left
 intro j hj
 exact h j (List.mem_range.1 hj)
def zaD(a:ze)(k:Nat):Bool:=decide (a.Lo≤(k:Int))&&decide ((k:Int) < a.Hi)
def Qh(xs:List ze)(a:ze)(w:Bool)(k:Nat):Bool:=if zaD a k then w else xs.any fun b=>zaD b k
theorem Xc{a:ze}(h:z8 a=true):0≤a.Lo∧a.Lo < a.Hi∧a.Hi≤1000:=by
 unfold z8 at h
 simp only[Bool.and_eq_true,decide_eq_true_eq] at h
 exact⟨h.1.1,h.1.2,h.2⟩
def rI(is:Nat→Bool):Nat→List ze
 |0=>[]
 |n+1=>if is n=true then(match (rI is n).getLast? with|some r=>if r.Hi=(n:Int) then(rI is n).dropLast++[⟨r.Lo,((n+1:Nat):Int)⟩] else rI is n++[⟨(n:Int),((n+1:Nat):Int)⟩]|none=>[⟨(n:Int),((n+1:Nat):Int)⟩]) else rI is n
theorem zke(is:Nat→Bool):∀n,(rI is n).length≤n
 |0=>by simp[rI]
 |n+1=>by
  have ih:=zke is n
  unfold rI
  split
  ·split
   ·rename_i r hr
    split
    ·have:(rI is n).dropLast.length=(rI is n).length - 1:=List.length_dropLast
     simp only[List.length_append,List.length_cons,List.length_nil];omega
    ·simp only[List.length_append,List.length_cons,List.length_nil];omega
   ·simp
  ·omega
def rS(is:Nat→Bool):Nat→List ze×Int
 |0=>([],-1)
 |n+1=>if is n=true then((rS is n).1,if (rS is n).2 < 0 then(n:Int) else(rS is n).2) else if 0≤(rS is n).2 then((rS is n).1++[⟨(rS is n).2,(n:Int)⟩],-1) else((rS is n).1,(rS is n).2)
theorem zkt(is:Nat→Bool):∀n,(rS is n).1.length≤n
 |0=>by simp[rS]
 |n+1=>by
  have ih:=zkt is n
  unfold rS
  split
  ·simp only;omega
  ·split
   ·simp only[List.length_append,List.length_cons,List.length_nil];omega
   ·simp only;omega
theorem zku(is:Nat→Bool):∀n:Nat,rI is n=(rS is n).1++(if 0≤(rS is n).2 then[⟨(rS is n).2,(n:Int)⟩] else[])∧(∀r∈(rS is n).1,r.Hi < (n:Int))∧-1≤(rS is n).2
 |0=>by simp[rI,rS]
 |n+1=>by
  obtain⟨h1,h2,h3⟩:=zku is n
  generalize hS:rS is n=S at h1 h2 h3
  obtain⟨out,fr⟩:=S
  simp only at h1 h2 h3
  cases hi:is n with
  |true=>
   have e2:rS is (n+1)=(out,if fr < 0 then(n:Int) else fr):=by simp[rS,hi,hS]
   rw[e2]
   by_cases h0:0≤fr
   ·have hn:¬fr < 0:=by omega
    rw[if_pos h0] at h1
    simp only[hn,h0,if_true,if_false]
    refine⟨?_,fun r hr=>by have:=h2 r hr;omega,h3⟩
    unfold rI
    rw[if_pos hi,h1]
    simp
   ·have hn:fr < 0:=by omega
    rw[if_neg h0,List.append_nil] at h1
    simp only[hn,if_true]
    have hnn:(0:Int)≤(n:Int):=by omega
    rw[if_pos hnn]
    refine⟨?_,fun r hr=>by have:=h2 r hr;omega,by omega⟩
    unfold rI
    rw[if_pos hi,h1]
    cases hl:out.getLast? with
    |none=>
     have:out=[]:=List.getLast?_eq_none_iff.1 hl
     simp[this]
    |some r=>
     have hm:r∈out:=List.mem_of_getLast? hl
     have:=h2 r hm
     simp only
     rw[if_neg (by omega)]
  |false=>
   have hr:rI is (n+1)=rI is n:=by simp[rI,hi]
   rw[hr,h1]
   by_cases h0:0≤fr
   ·have e2:rS is (n+1)=(out++[⟨fr,(n:Int)⟩],-1):=by simp[rS,hi,hS,h0]
    rw[e2]
    simp only[h0,if_true]
    refine⟨by simp,fun r hr=> ?_,by omega⟩
    rcases List.mem_append.1 hr with hr|hr
    ·have:=h2 r hr;omega
    ·rw[List.mem_singleton] at hr;subst hr;simp only;omega
   ·have e2:rS is (n+1)=(out,fr):=by simp[rS,hi,hS,h0]
    rw[e2]
    simp only[h0,if_false]
    exact⟨by first|trivial|rfl,fun r hr=>by have:=h2 r hr;omega,h3⟩
theorem zn9(is:Nat→Bool)(n:Nat)(h:is n=false):(rS is (n+1)).1=rI is n:=by
 obtain⟨h1,_,_⟩:=zku is n
 rw[h1]
 simp only[rS,h,Bool.false_eq_true,if_false]
 split<;>simp
def kz(xs:List ze)(a:ze)(w:Bool):List ze×Bool:=if qb xs&&z8 a then(if 16 < ((rI (Qh xs a w) 1000).length:Int) then([],false) else(rI (Qh xs a w) 1000,true)) else([],false)
theorem ziJ(a:ze)(k:Nat)(h:-1000000≤a.Hi∧a.Hi≤1000000):Zb a (k:Int)=some (zaD a k):=by
 unfold Zb zaD
 rw[w64 (by omega) (by omega)]
 simp only[zaA,Option.bind_some,qA]
 congr 2
 rw[decide_eq_decide]
 omega
theorem zg0(xs:List ze)(a:ze)(w:Bool)(k:Nat)(hx:qb xs=true)(ha:z8 a=true):Z3 (k:Int) a w xs=some (Qh xs a w k):=by
 have hl:=Xk hx
 have hb:=Xc ha
 have hc:qk xs (k:Int)=some (xs.any fun b=>zaD b k):=by
  unfold qk qP
  rw[JA xs (fun b=>zaD b k) (by omega) (fun kb i hi=> ?_) (fun kb=> ?_)]
  ·simp only[Option.bind_some]
   rw[ZK]
  ·have hbi:=Xc (Q5 hx hi)
   unfold qH QC
   simp only[zO hi,Option.bind_some,ziJ xs[i] k (by omega),ql i _ hi (by omega)]
   rw[if_pos (by omega)]
  ·unfold qH
   rw[if_neg (by simp)]
   rfl
 unfold Z3 Qh
 simp only[ziJ a k (by omega),Option.bind_some,hc]
 split<;>rfl
theorem zhT(xs:List ze)(a:ze)(w:Bool)(hx:qb xs=true)(ha:z8 a=true):jw a w xs=some (rI (Qh xs a w) 1000):=by
 unfold jw
 refine qR (fun i=>(rI (Qh xs a w) i,(i:Int))) _ 1000 (by omega) (fun kb i hi=> ?_) (fun kb=> ?_) (by simp[rI])
 ·have hle:=zke (Qh xs a w) i
  unfold yb jq
  simp only[zg0 xs a w i hx ha,Option.bind_some,ql i 1000 hi (by omega)]
  rw[if_pos (by omega)]
  have hrw:rI (Qh xs a w) (i+1)=if Qh xs a w i=true then(match (rI (Qh xs a w) i).getLast? with|some r=>if r.Hi=(i:Int) then(rI (Qh xs a w) i).dropLast++[⟨r.Lo,((i+1:Nat):Int)⟩] else rI (Qh xs a w) i++[⟨(i:Int),((i+1:Nat):Int)⟩]|none=>[⟨(i:Int),((i+1:Nat):Int)⟩]) else rI (Qh xs a w) i:=rfl
  rw[hrw]
  cases hi1:Qh xs a w i with
  |false=>simp
  |true=>
   simp only[if_true]
   generalize rI (Qh xs a w) i=out at hle
   cases ho:out.getLast? with
   |none=>
    have:out=[]:=List.getLast?_eq_none_iff.1 ho
    subst this
    simp
   |some r=>
    have hne:out≠[]:=fun e=>by subst e;simp at ho
    have hpos:0 < out.length:=List.length_pos_iff.2 hne
    have hlast:out.length - 1 < out.length:=by omega
    have hr:out[out.length - 1]=r:=by
     rw[List.getLast?_eq_getElem?,List.getElem?_eq_getElem hlast] at ho
     exact Option.some.inj ho
    have e1:IntKind.wrap .i64 (((out.length:Nat):Int) - 1)=((out.length - 1:Nat):Int):=by rw[w64 (by omega) (by omega)];omega
    rw[if_pos (by omega)]
    simp only[e1,zO hlast,Option.bind_some,hr]
    by_cases hh:r.Hi=(i:Int)
    ·simp only[hh,decide_true,if_true,e1,zO hlast,Option.bind_some,hr,Int.toNat_natCast,ql i 1000 hi (by omega)]
     have e2:out.set (out.length - 1) (ze.mk r.Lo ((i+1:Nat):Int))=out.dropLast++[ze.mk r.Lo ((i+1:Nat):Int)]:=by
      obtain⟨ys,rfl⟩:=List.getLast?_eq_some_iff.1 ho
      rw[List.set_append_right _ _ (by simp)]
      simp
     rw[←e2]
    ·simp only[hh,decide_false,Bool.false_eq_true,if_false]
     rw[if_pos (by simp;omega)]
 ·unfold yb yc
  rw[if_neg (by simp)]
theorem zja(xs:List ze)(a:ze)(w:Bool)(h:xs.length≤1048576):JU xs a w=some (kz xs a w):=by
 unfold JU QQ kz
 simp only[XD _ h,Ju,Option.bind_some]
 cases hx:qb xs
 ·simp
 cases ha:z8 a
 ·simp
 simp only[if_true,Bool.not_true,Bool.false_eq_true,if_false,Bool.and_self,zhT xs a w hx ha,Option.bind_some]
 split<;>rfl
theorem zfX{R:Type}{f:(List Bool×Int→Option R)→List Bool×Int→Option R}(g:Nat→Bool)(v:Bool)(lo n:Nat)(k:List Bool→Option R)(hn:lo+n≤1000)
  (hs:∀kb (ys:List Bool) (j:Nat),lo≤j→j < lo+n→(∃b,idx ys (j:Int)=some b)→f kb (ys,(j:Int))=kb (ys.set j v,((j+1:Nat):Int)))
  (he:∀kb (ys:List Bool),f kb (ys,((lo+n:Nat):Int))=k ys) {s0:Int} (h0:s0=(lo:Int)):iter f FU (hb g,s0)=k (hb fun j=>if lo≤j∧j < lo+n then v else g j):=by
 subst h0
 refine qR (fun i=>(hb (fun j=>if lo≤j∧j < lo+i then v else g j),((lo+i:Nat):Int))) _ n (by omega) (fun kb i hi=> ?_) (fun kb=> ?_) ?_
 ·rw[hs kb _ (lo+i) (by omega) (by omega) ⟨_,zko _ (by omega)⟩,zqo _ (by omega)]
  congr 1
  congr 1
  refine zcH fun j _=> ?_
  by_cases e:j=lo+i
  ·subst e;simp
  ·rw[if_neg e]
   by_cases h1:lo≤j∧j < lo+i
   ·rw[if_pos h1,if_pos ⟨h1.1,by omega⟩]
   ·rw[if_neg h1,if_neg (fun h=>h1 ⟨h.1,by omega⟩)]
 ·exact he kb _
 ·congr 1
  refine zcH fun j _=> ?_
  rw[if_neg (by omega)]
theorem zj7{a:ze}(h:z8 a=true)(j:Nat):(a.Lo.toNat≤j∧j < a.Lo.toNat+(a.Hi - a.Lo).toNat)↔zaD a j=true:=by
 have:=Xc h
 unfold zaD
 simp only[Bool.and_eq_true,decide_eq_true_eq]
 omega
theorem zjW(xs:List ze)(a:ze)(w:Bool)(h:xs.length≤1048576):Jw xs a w=some (kz xs a w):=by
 unfold Jw kz
 simp only[xt _ h,Zq,Option.bind_some]
 cases hx:qb xs
 ·simp[yL]
 cases ha:z8 a
 ·simp[yL]
 simp only[if_true,Bool.not_true,Bool.and_self]
 have hl:=Xk hx
 have hab:=Xc ha
 unfold yL
 rw[if_neg (by simp),if_pos (by omega)]
 have hz:List.replicate (Int.toNat 1001) false=hb fun _=>false:=by
  unfold hb
  rw[List.map_const',List.length_range]
  rfl
 have fill:∀(r:ze),z8 r=true→∃lo n:Nat,r.Lo=(lo:Int)∧r.Hi=((lo+n:Nat):Int)∧lo+n≤1000∧(∀j:Nat,(lo≤j∧j < lo+n)↔zaD r j=true):=fun r hr=>by
  have hb:=Xc hr
  exact⟨r.Lo.toNat,(r.Hi - r.Lo).toNat,by omega,by omega,by omega,fun j=>zj7 hr j⟩
 have main:∀kx:List Bool→Option (List ze×Bool),iter (Qe xs kx) FU (hb (fun _=>false),0)=kx (hb fun j=>xs.any fun b=>zaD b j):=fun kx=>by
  refine qR (fun i=>(hb (fun j=>(xs.take i).any fun b=>zaD b j),(i:Int))) _ xs.length (by omega) (fun kb i hi=> ?_) (fun kb=> ?_) (by simp)
  ·obtain⟨lo,n,e1,e2,e3,e4⟩:=fill xs[i] (Q5 hx hi)
   unfold Qe
   simp only[zO hi,Option.bind_some]
   rw[if_pos (by omega),zfX _ true lo n (Qg kb (hb (fun j=>(xs.take i).any fun b=>zaD b j),(i:Int))) e3 (fun kb ys j h1 h2 hb'=> ?_) (fun kb ys=> ?_) e1]
   ·unfold Qg
    simp only[ql i _ hi (by omega)]
    congr 1
    congr 1
    refine zcH fun j _=> ?_
    rw[List.take_succ_eq_append_getElem hi,List.any_append]
    simp only[List.any_cons,List.any_nil,Bool.or_false]
    by_cases hh:lo≤j∧j < lo+n
    ·rw[if_pos hh,(e4 j).1 hh,Bool.or_true]
    ·rw[if_neg hh]
     have:zaD xs[i] j=false:=by
      rw[Bool.eq_false_iff];exact fun h=>hh ((e4 j).2 h)
     rw[this,Bool.or_false]
   ·unfold Yi
    obtain⟨b,hb'⟩:=hb'
    simp only[zO hi,Option.bind_some,hb',Int.toNat_natCast,ql j (lo+n) h2 (by omega)]
    rw[if_pos (by omega)]
   ·unfold Yi
    simp only[zO hi,Option.bind_some]
    rw[if_neg (by omega)]
  ·unfold Qe
   rw[if_neg (by simp),List.take_length]
 rw[hz,main]
 unfold xg
 obtain⟨lo,n,e1,e2,e3,e4⟩:=fill a ha
 rw[zfX _ w lo n Z4 e3 (fun kb ys j h1 h2 hb'=> ?_) (fun kb ys=> ?_) e1]
 ·have hcc:(hb fun j=>if lo≤j∧j < lo+n then w else xs.any fun b=>zaD b j)=hb (Qh xs a w):=by
   refine zcH fun j _=> ?_
   unfold Qh
   by_cases hh:lo≤j∧j < lo+n
   ·rw[if_pos hh,if_pos ((e4 j).1 hh)]
   ·rw[if_neg hh,if_neg (fun h=>hh ((e4 j).2 h))]
  rw[hcc]
  have hend:Qh xs a w 1000=false:=by
   unfold Qh
   have h1:zaD a 1000=false:=by unfold zaD;simp;omega
   rw[h1]
   simp only[Bool.false_eq_true,if_false]
   rw[List.any_eq_false]
   intro b hb
   obtain⟨i,hi,rfl⟩:=List.getElem_of_mem hb
   have:=Xc (Q5 hx hi)
   unfold zaD;simp;omega
  generalize Qh xs a w=is at hend
  have hrI:=zn9 is 1000 hend
  rw[←hrI]
  have fin:iter (Qd (hb is) Zh) FU (([]:List ze),(-1),0)=Zh (rS is 1001).1:=by
   refine qR (fun i=>((rS is i).1,(rS is i).2,(i:Int))) _ 1001 (by omega) (fun kb i hi=> ?_) (fun kb=> ?_) (by simp[rS])
   ·have hle:=zkt is i
    obtain⟨_,_,h3⟩:=zku is i
    unfold Qd Qm Zf Z0
    simp only[zko is hi,Option.bind_some,ql i 1001 hi (by omega),rS]
    rw[if_pos (by omega)]
    generalize rS is i=S at hle h3
    obtain⟨out,fr⟩:=S
    simp only at hle h3
    cases is i with
    |true=>by_cases h0:fr < 0<;>simp[h0]
    |false=>
     by_cases h0:0≤fr
     ·simp[h0];omega
     ·simp[h0]
   ·unfold Qd
    rw[if_neg (by simp)]
  unfold Z4
  rw[fin]
  unfold Zh
  split<;>rfl
 ·unfold YP
  obtain⟨b,hb'⟩:=hb'
  simp only[hb',Option.bind_some,Int.toNat_natCast,ql j (lo+n) h2 (by omega)]
  rw[if_pos (by omega)]
 ·unfold YP
  simp only
  rw[if_neg (by omega)]
theorem zie(xs:List ze)(a:ze)(w:Bool):(kz xs a w).1.length≤16:=by
 unfold kz
 split
 ·split
  ·simp
  ·simp only;omega
 ·simp
theorem zcs(xs:List ze)(a:ze)(h:xs.length≤1048576):ZL xs a=some (kz xs a false):=by
 simp only[ZL,zjW _ _ _ h,Option.bind_some]
theorem zcC(xs:List ze)(a:ze)(h:xs.length≤1048576):ZG xs a=some (kz xs a false):=by
 simp only[ZG,zja _ _ _ h,Option.bind_some]
def zbU(xs:List ze)(a:ze):Bool:=xs.any fun b=>kw a b
theorem zh7(xs:List ze)(a:ze)(h:xs.length≤1048576)(hx:qb xs=true)(ha:z8 a=true):Q2 xs a=some (zbU xs a):=by
 unfold Q2 zbU
 rw[zet xs (fun b=>kw a b) (some true) (some false) (by omega) (fun kb i hi=> ?_) (fun kb=> ?_)]
 ·cases xs.any fun b=>kw a b<;>rfl
 ·unfold Yv
  simp only[zO hi,Option.bind_some,zdB,ql i _ hi (by omega),Q5 hx hi,ha,Bool.true_and,ziN (Q5 hx hi) ha]
  rw[if_pos (by omega)]
  have hc:kw xs[i] a=kw a xs[i]:=by unfold kw;rw[Bool.and_comm]
  rw[hc]
  cases kw a xs[i]<;>simp
 ·unfold Yv
  rw[if_neg (by simp)]
  rfl
theorem zjs(xs:List ze)(a:ze)(h:xs.length≤1048576):JS xs a=some (zbU xs a):=by
 unfold JS qM jg zbU
 rw[JA xs (fun b=>kw a b) (by omega) (fun kb i hi=> ?_) (fun kb=> ?_)]
 ·simp only[Option.bind_some,ZK]
 ·unfold qU Yt
  simp only[zO hi,Option.bind_some,ziH,ql i _ hi (by omega)]
  rw[if_pos (by omega)]
 ·unfold qU
  rw[if_neg (by simp)]
  rfl
theorem zdF(s:zn)(h:zr s≤1048576):j9 s=some s:=by
 have hh:s.Helds.length≤1048576:=by unfold zr z7 at h;omega
 have hH:z7 s.Helds≤1048576:=by unfold zr at h;omega
 have hs:s.Own.length≤1048576∧s.Frozen.length≤1048576∧s.Cells.length≤1048576∧s.Locks.length≤1048576∧s.Wounded.length≤1048576∧s.Ended.length≤1048576:=by unfold zr at h;omega
 unfold j9
 simp only[zbE _ hs.1,zbE _ hs.2.1,zgx _ hs.2.2.1,zgy _ hs.2.2.2.1,zaN _ hs.2.2.2.2.1,zaN _ hs.2.2.2.2.2,Option.bind_some]
 refine qR (fun i=>((i:Int),s.Helds.take i)) _ s.Helds.length (by omega) (fun kb i hi=> ?_) (fun kb=> ?_) (by simp)
 ·unfold QD
  simp only[zO hi,Option.bind_some,zfv _ (KW hH hi),ql i _ hi (by omega),List.take_succ_eq_append_getElem hi]
  rw[if_pos (by omega),if_pos (by simp;omega)]
 ·unfold QD QF
  rw[if_neg (by simp),List.take_length]
theorem zf6(s:zn)(h:zr s≤1048576):Ql s=some s:=by
 have hh:s.Helds.length≤1048576:=by unfold zr z7 at h;omega
 have hH:z7 s.Helds≤1048576:=by unfold zr at h;omega
 have hs:s.Own.length≤1048576∧s.Frozen.length≤1048576∧s.Cells.length≤1048576∧s.Locks.length≤1048576∧s.Wounded.length≤1048576∧s.Ended.length≤1048576:=by unfold zr at h;omega
 unfold Ql
 rw[if_pos (by omega),if_pos (by omega),if_pos (by omega),if_pos (by omega)]
 refine qR (fun i=>((i:Int),s.Helds.take i)) _ s.Helds.length (by omega) (fun kb i hi=> ?_) (fun kb=> ?_) (by simp)
 ·have hw:=KW hH hi
  unfold YS
  simp only[zO hi,Option.bind_some,ql i _ hi (by omega),List.take_succ_eq_append_getElem hi]
  rw[if_pos (by omega),if_pos (by omega),if_pos (by simp;omega)]
 ·unfold YS xq
  rw[if_neg (by simp),List.take_length,if_pos (by omega),if_pos (by omega)]
def KO(s:zn)(rank:Int)(a:ze):Int:=if KT s&&qA rank 1 1000000&&z8 a then(if rank < s.Rank then 2 else 0) else 1
theorem zjC(s:zn)(rank:Int)(a:ze)(h:zr s≤1048576):JF s rank a=some (KO s rank a):=by
 unfold JF Zt KO
 simp only[zdX _ h,zda,Zq,Option.bind_some]
 cases KT s<;>cases qA rank 1 1000000<;>cases z8 a<;>simp
 split<;>rfl
theorem zjQ(s:zn)(rank:Int)(a:ze)(h:zr s≤1048576):Jz s rank a=some (KO s rank a):=by
 unfold Jz Zy KO
 simp only[zep _ h,zaA,Ju,Option.bind_some]
 cases KT s<;>cases qA rank 1 1000000<;>cases z8 a<;>simp
 split<;>rfl
def zf2:zn:=⟨0,[],[],[],[],[],[],[],0⟩
def Kj(s:zn)(code:Int):zn:=if code=1 then zf2 else s
theorem zgq(s:zn)(code:Int)(h:zr s≤1048576):ZI s code=some (Kj s code):=by
 unfold ZI Kj
 rw[zf6 s h]
 split<;>rfl
theorem zjw(s:zn)(code:Int)(h:zr s≤1048576):JD s code=some (Kj s code,code):=by
 unfold JD Kj
 rw[zdF s h]
 split
 ·rename_i e;rw[e];rfl
 ·rfl
theorem zgB(s:zn)(code:Int):zr (Kj s code)≤zr s:=by
 unfold Kj
 split
 ·simp[zf2,zr,z7,j4]
 ·exact Nat.le_refl _
theorem zhr{s:zn}{rank:Int}{a:ze}(h:KO s rank a=0):KT s=true∧z8 a=true:=by
 unfold KO at h
 split at h
 ·rename_i hc
  simp only[Bool.and_eq_true] at hc
  exact⟨hc.1.1,hc.2⟩
 ·cases h
theorem zad{s:zn}(h:KT s=true):qb s.Own=true∧qb s.Frozen=true∧qY s.Cells=true∧qE s.Locks=true:=by
 unfold KT at h
 simp only[Bool.and_eq_true] at h
 exact⟨h.1.1.1.1.1.1.2,h.1.1.1.1.1.2,h.1.1.1.1.2,h.1.1.1.2⟩
theorem zdV{xs:List ze}{a:ze}(h:xs.length≤1048576)(hx:qb xs=true)(ha:z8 a=true):jt xs a=some (y0 xs a):=by
 rw[XU _ _ h,hx,ha]
 rfl
theorem ziE{α:Type}(f:α→Nat)(b:Nat):∀(xs:List α),(∀x∈xs,f x≤b)→j4 f xs≤b * xs.length
 |[],_=>by simp[j4]
 |x::xs,H=>by
  have:=ziE f b xs fun y hy=>H y (List.mem_cons_of_mem _ hy)
  have:=H x List.mem_cons_self
  simp only[j4,List.length_cons,Nat.mul_add,Nat.mul_one]
  omega
theorem zhm{s:zn}(h:KT s=true):zr s≤5000:=by
 obtain⟨k1,k2,k3,k4⟩:=zad h
 have l1:=Xk k1
 have l2:=Xk k2
 have l3:=zcJ k3
 have l4:=zcu k4
 unfold KT zhG at h
 simp only[Bool.and_eq_true,decide_eq_true_eq] at h
 have h1:=h.1.2.1.1.1.1
 have h2:=h.1.2.1.1.1.2
 have h3:=h.1.2.1.1.2
 have hh:=h.2.1.2
 have hw:∀x∈s.Helds,x.Writes.length≤60:=fun x hx=>by
  obtain⟨i,hi,rfl⟩:=List.getElem_of_mem hx
  rw[List.all_eq_true] at hh
  have:=hh i (List.mem_range.2 hi)
  rw[zdr s hi] at this
  unfold zbC at this
  simp only[Bool.and_eq_true] at this
  exact zfy this.1.2.1
 have hs:=ziE (fun x:zL=>x.Writes.length) 60 s.Helds hw
 unfold zr
 rw[yY]
 omega
def J7(k:Int):zu:=⟨k,k+1⟩
def xT(k:Int)(n:Nat):List zu:=(List.range n).map fun(i:Nat)=>J7 (k+2 * (i:Int))
theorem zas(k:Int)(n:Nat):(xT k n).length=n:=by simp[xT]
theorem zgG(xs:List zu)(k:Int)(h:xs.length≤1048576)(hk:0≤k)(hk':k≤1000000000000):ZC xs k=some (k+2 * (xs.length:Int),xT k xs.length):=by
 unfold ZC
 refine qR (fun i=>(kB (fun(i:Nat)=>J7 (k+2 * (i:Int))) xs i,k+2 * (i:Int),(i:Int))) _ xs.length (by omega) (fun kb i hi=> ?_) (fun kb=> ?_) (by simp[XY])
 ·unfold QJ
  have hl:=QS (fun(i:Nat)=>J7 (k+2 * (i:Int))) (Nat.le_of_lt hi)
  have w1:IntKind.wrap .i64 (k+2 * (i:Int)+1)=k+2 * (i:Int)+1:=w64 (by omega) (by omega)
  have w2:IntKind.wrap .i64 (k+2 * (i:Int)+1+1)=k+2 * (i:Int)+2:=by rw[w64 (by omega) (by omega)];omega
  have e:k+2 * ((i+1:Nat):Int)=k+2 * (i:Int)+2:=by omega
  have hs:=KQ (fun(i:Nat)=>J7 (k+2 * (i:Int))) hi
  have hx:=KV (fun(i:Nat)=>J7 (k+2 * (i:Int))) hi
  show _=kb (kB (fun(i:Nat)=>J7 (k+2 * (i:Int))) xs (i+1),k+2 * ((i+1:Nat):Int),((i+1:Nat):Int))
  rw[←hs,e]
  generalize kB (fun(i:Nat)=>J7 (k+2 * (i:Int))) xs i=row at hl hx
  have hii:i < row.length:=by rw[hl];exact hi
  simp only[hx,Option.bind_some,Int.toNat_natCast,Yn hii,List.set_set,ql i _ hi (by omega),w1,w2,hl,J7]
  rw[if_pos (by omega)]
 ·unfold QJ QK
  have hl:=QS (fun(i:Nat)=>J7 (k+2 * (i:Int))) (Nat.le_refl xs.length)
  rw[if_neg (by simp only[hl];omega),if_pos hl,K0]
  rfl
theorem zgE(n:Nat)(k:Int)(h:n≤1048576)(hk:0≤k)(hk':k≤1000000000000):ZA (xT k n) k=some (k+2 * (n:Int)):=by
 unfold ZA
 refine qR (fun i=>(k+2 * (i:Int),(i:Int))) _ n (by omega) (fun kb i hi=> ?_) (fun kb=> ?_) (by simp)
 ·unfold Qy
  have w1:IntKind.wrap .i64 (k+2 * (i:Int)+1)=k+2 * (i:Int)+1:=w64 (by omega) (by omega)
  have w2:IntKind.wrap .i64 (k+2 * (i:Int)+1+1)=k+2 * (i:Int)+2:=by rw[w64 (by omega) (by omega)];omega
  have e:k+2 * ((i+1:Nat):Int)=k+2 * (i:Int)+2:=by omega
  have hx:idx (xT k n) (i:Int)=some (J7 (k+2 * (i:Int))):=X1 _ hi
  simp only[hx,Option.bind_some,ql i _ hi (by omega),w1,w2,J7,zas,not_true,if_false,e]
  rw[if_pos (by omega)]
 ·unfold Qy Qw
  rw[if_neg (by simp only[zas];omega)]
def Qr(x:zL):Nat:=1+2 * x.Writes.length
def zgt(x:zL)(k:Int):zL:=zL.mk k (xT (k+1) x.Writes.length)
def zbk(xs:List zL)(k:Int)(i:Nat):zL:=match xs[i]? with
 |some x=>zgt x (k+(j4 Qr (xs.take i):Nat))
 |none=>zL.mk 0 []
theorem zgQ(xs:List zL)(k:Int){i:Nat}(hi:i < xs.length):zbk xs k i=zgt xs[i] (k+(j4 Qr (xs.take i):Nat)):=by
 unfold zbk
 rw[List.getElem?_eq_getElem hi]
def J1(xs:List zL)(k:Int):List zL:=(List.range xs.length).map (zbk xs k)
theorem kA(xs:List zL)(k:Int):(J1 xs k).length=xs.length:=by simp[J1]
theorem zfU:∀(xs:List zL),j4 Qr xs=xs.length+2 * j4 (fun y:zL=>qO y) xs
 |[]=>rfl
 |x::xs=>by
  have ih:=zfU xs
  simp only[j4,List.length_cons,ih,Qr,qO]
  omega
theorem zaM{xs:List zL}(h:z7 xs≤1048576)(i:Nat):j4 Qr (xs.take i)≤4194304:=by
 have h1:=kU Qr xs i
 have h2:=zfU xs
 unfold z7 at h
 omega
theorem zhd(xs:List zL)(k:Int)(h:z7 xs≤1048576)(hk:0≤k)(hk':k≤100000000):y8 xs k=some (k+(j4 Qr xs:Nat),J1 xs k):=by
 obtain⟨hl0,hs0⟩:=Ks h
 unfold y8
 refine qR (fun i=>(kB (zbk xs k) xs i,k+(j4 Qr (xs.take i):Nat),(i:Int))) _ xs.length (by omega) (fun kb i hi=> ?_) (fun kb=> ?_) (by simp[XY,j4])
 ·unfold Jk
  have hl:=QS (zbk xs k) (Nat.le_of_lt hi)
  have hs:=KQ (zbk xs k) hi
  have hx:=KV (zbk xs k) hi
  have hb:=zaM h i
  have hsz:=hs0 i hi
  unfold qO at hsz
  have e:k+((j4 Qr (xs.take (i+1)):Nat):Int)=k+(j4 Qr (xs.take i):Nat)+1+2 * (xs[i].Writes.length:Int):=by
   rw[Xe Qr hi];unfold Qr;omega
  show _=kb (kB (zbk xs k) xs (i+1),k+((j4 Qr (xs.take (i+1)):Nat):Int),((i+1:Nat):Int))
  rw[←hs,e,zgQ xs k hi]
  have hkk:0≤k+((j4 Qr (xs.take i):Nat):Int)∧k+((j4 Qr (xs.take i):Nat):Int)≤110000000:=by omega
  generalize k+((j4 Qr (xs.take i):Nat):Int)=kk at hkk ⊢
  generalize kB (zbk xs k) xs i=row at hl hx ⊢
  have hii:i < row.length:=by rw[hl];exact hi
  have w1:IntKind.wrap .i64 (kk+1)=kk+1:=w64 (by omega) (by omega)
  have hS:=zgG xs[i].Writes (kk+1) (by omega) (by omega) (by omega)
  simp only[hx,Option.bind_some,Int.toNat_natCast,Yn hii,List.set_set,ql i _ hi (by omega),w1,hS,hl,zgt]
  rw[if_pos (by omega)]
 ·unfold Jk Jp
  have hl:=QS (zbk xs k) (Nat.le_refl xs.length)
  rw[if_neg (by simp only[hl];omega),if_pos hl,K0,List.take_length]
  rfl
theorem zgO(xs:List zL)(k:Int)(h:z7 xs≤1048576)(hk:0≤k)(hk':k≤100000000):y4 (J1 xs k) k=some (k+(j4 Qr xs:Nat)):=by
 obtain⟨hl0,hs0⟩:=Ks h
 unfold y4
 refine qR (fun i=>(k+(j4 Qr (xs.take i):Nat),(i:Int))) _ xs.length (by omega) (fun kb i hi=> ?_) (fun kb=> ?_) (by simp[j4])
 ·unfold Jf
  have hx:idx (J1 xs k) (i:Int)=some (zbk xs k i):=X1 _ hi
  have hb:=zaM h i
  have hsz:=hs0 i hi
  unfold qO at hsz
  have e:k+((j4 Qr (xs.take (i+1)):Nat):Int)=k+(j4 Qr (xs.take i):Nat)+1+2 * (xs[i].Writes.length:Int):=by
   rw[Xe Qr hi];unfold Qr;omega
  rw[e]
  rw[zgQ xs k hi] at hx
  have hkk:0≤k+((j4 Qr (xs.take i):Nat):Int)∧k+((j4 Qr (xs.take i):Nat):Int)≤110000000:=by omega
  generalize k+((j4 Qr (xs.take i):Nat):Int)=kk at hkk hx ⊢
  have w1:IntKind.wrap .i64 (kk+1)=kk+1:=w64 (by omega) (by omega)
  have hS:=zgE xs[i].Writes.length (kk+1) (by omega) (by omega) (by omega)
  simp only[hx,Option.bind_some,ql i _ hi (by omega),w1,hS,kA,zgt,not_true,if_false]
  rw[if_pos (by omega),if_neg (by omega)]
 ·unfold Jf Jh
  rw[if_neg (by simp only[kA];omega),List.take_length]
def JZ(k:Int):ze:=⟨k,k+1⟩
def yz(k:Int)(n:Nat):List ze:=(List.range n).map fun(i:Nat)=>JZ (k+2 * (i:Int))
theorem QV(k:Int)(n:Nat):(yz k n).length=n:=by simp[yz]
theorem zcP(xs:List ze)(k:Int)(h:xs.length≤1048576)(hk:0≤k)(hk':k≤1000000000000):jP xs k=some (k+2 * (xs.length:Int),yz k xs.length):=by
 unfold jP
 refine qR (fun i=>(kB (fun(i:Nat)=>JZ (k+2 * (i:Int))) xs i,k+2 * (i:Int),(i:Int))) _ xs.length (by omega) (fun kb i hi=> ?_) (fun kb=> ?_) (by simp[XY])
 ·unfold Qu
  have hl:=QS (fun(i:Nat)=>JZ (k+2 * (i:Int))) (Nat.le_of_lt hi)
  have w1:IntKind.wrap .i64 (k+2 * (i:Int)+1)=k+2 * (i:Int)+1:=w64 (by omega) (by omega)
  have w2:IntKind.wrap .i64 (k+2 * (i:Int)+1+1)=k+2 * (i:Int)+2:=by rw[w64 (by omega) (by omega)];omega
  have e:k+2 * ((i+1:Nat):Int)=k+2 * (i:Int)+2:=by omega
  have hs:=KQ (fun(i:Nat)=>JZ (k+2 * (i:Int))) hi
  have hx:=KV (fun(i:Nat)=>JZ (k+2 * (i:Int))) hi
  show _=kb (kB (fun(i:Nat)=>JZ (k+2 * (i:Int))) xs (i+1),k+2 * ((i+1:Nat):Int),((i+1:Nat):Int))
  rw[←hs,e]
  generalize kB (fun(i:Nat)=>JZ (k+2 * (i:Int))) xs i=row at hl hx
  have hii:i < row.length:=by rw[hl];exact hi
  simp only[hx,Option.bind_some,Int.toNat_natCast,Yn hii,List.set_set,ql i _ hi (by omega),w1,w2,hl,JZ]
  rw[if_pos (by omega)]
 ·unfold Qu QM
  have hl:=QS (fun(i:Nat)=>JZ (k+2 * (i:Int))) (Nat.le_refl xs.length)
  rw[if_neg (by simp only[hl];omega),if_pos hl,K0]
  rfl
theorem zcB(n:Nat)(k:Int)(h:n≤1048576)(hk:0≤k)(hk':k≤1000000000000):jQ (yz k n) k=some (k+2 * (n:Int)):=by
 unfold jQ
 refine qR (fun i=>(k+2 * (i:Int),(i:Int))) _ n (by omega) (fun kb i hi=> ?_) (fun kb=> ?_) (by simp)
 ·unfold QN
  have w1:IntKind.wrap .i64 (k+2 * (i:Int)+1)=k+2 * (i:Int)+1:=w64 (by omega) (by omega)
  have w2:IntKind.wrap .i64 (k+2 * (i:Int)+1+1)=k+2 * (i:Int)+2:=by rw[w64 (by omega) (by omega)];omega
  have e:k+2 * ((i+1:Nat):Int)=k+2 * (i:Int)+2:=by omega
  have hx:idx (yz k n) (i:Int)=some (JZ (k+2 * (i:Int))):=X1 _ hi
  simp only[hx,Option.bind_some,ql i _ hi (by omega),w1,w2,JZ,QV,not_true,if_false,e]
  rw[if_pos (by omega)]
 ·unfold QN QH
  rw[if_neg (by simp only[QV];omega)]
def xZ(k:Int):zu:=⟨k,k+1⟩
def J8(k:Int)(n:Nat):List zu:=(List.range n).map fun(i:Nat)=>xZ (k+2 * (i:Int))
theorem xX(k:Int)(n:Nat):(J8 k n).length=n:=by simp[J8]
theorem zhJ(xs:List zu)(k:Int)(h:xs.length≤1048576)(hk:0≤k)(hk':k≤1000000000000):Za xs k=some (k+2 * (xs.length:Int),J8 k xs.length):=by
 unfold Za
 refine qR (fun i=>(kB (fun(i:Nat)=>xZ (k+2 * (i:Int))) xs i,k+2 * (i:Int),(i:Int))) _ xs.length (by omega) (fun kb i hi=> ?_) (fun kb=> ?_) (by simp[XY])
 ·unfold Jc
  have hl:=QS (fun(i:Nat)=>xZ (k+2 * (i:Int))) (Nat.le_of_lt hi)
  have w1:IntKind.wrap .i64 (k+2 * (i:Int)+1)=k+2 * (i:Int)+1:=w64 (by omega) (by omega)
  have w2:IntKind.wrap .i64 (k+2 * (i:Int)+1+1)=k+2 * (i:Int)+2:=by rw[w64 (by omega) (by omega)];omega
  have e:k+2 * ((i+1:Nat):Int)=k+2 * (i:Int)+2:=by omega
  have hs:=KQ (fun(i:Nat)=>xZ (k+2 * (i:Int))) hi
  have hx:=KV (fun(i:Nat)=>xZ (k+2 * (i:Int))) hi
  show _=kb (kB (fun(i:Nat)=>xZ (k+2 * (i:Int))) xs (i+1),k+2 * ((i+1:Nat):Int),((i+1:Nat):Int))
  rw[←hs,e]
  generalize kB (fun(i:Nat)=>xZ (k+2 * (i:Int))) xs i=row at hl hx
  have hii:i < row.length:=by rw[hl];exact hi
  simp only[hx,Option.bind_some,Int.toNat_natCast,Yn hii,List.set_set,ql i _ hi (by omega),w1,w2,hl,xZ]
  rw[if_pos (by omega)]
 ·unfold Jc Jl
  have hl:=QS (fun(i:Nat)=>xZ (k+2 * (i:Int))) (Nat.le_refl xs.length)
  rw[if_neg (by simp only[hl];omega),if_pos hl,K0]
  rfl
theorem zgX(n:Nat)(k:Int)(h:n≤1048576)(hk:0≤k)(hk':k≤1000000000000):Zc (J8 k n) k=some (k+2 * (n:Int)):=by
 unfold Zc
 refine qR (fun i=>(k+2 * (i:Int),(i:Int))) _ n (by omega) (fun kb i hi=> ?_) (fun kb=> ?_) (by simp)
 ·unfold Jn
  have w1:IntKind.wrap .i64 (k+2 * (i:Int)+1)=k+2 * (i:Int)+1:=w64 (by omega) (by omega)
  have w2:IntKind.wrap .i64 (k+2 * (i:Int)+1+1)=k+2 * (i:Int)+2:=by rw[w64 (by omega) (by omega)];omega
  have e:k+2 * ((i+1:Nat):Int)=k+2 * (i:Int)+2:=by omega
  have hx:idx (J8 k n) (i:Int)=some (xZ (k+2 * (i:Int))):=X1 _ hi
  simp only[hx,Option.bind_some,ql i _ hi (by omega),w1,w2,xZ,xX,not_true,if_false,e]
  rw[if_pos (by omega)]
 ·unfold Jn Jo
  rw[if_neg (by simp only[xX];omega)]
def kJ(k:Int):zK:=⟨k,k+1,k+2,k+3⟩
def Jt(k:Int)(n:Nat):List zK:=(List.range n).map fun(i:Nat)=>kJ (k+4 * (i:Int))
theorem kh(k:Int)(n:Nat):(Jt k n).length=n:=by simp[Jt]
theorem zhq(xs:List zK)(k:Int)(h:xs.length≤1048576)(hk:0≤k)(hk':k≤1000000000000):Ze xs k=some (k+4 * (xs.length:Int),Jt k xs.length):=by
 unfold Ze
 refine qR (fun i=>(kB (fun(i:Nat)=>kJ (k+4 * (i:Int))) xs i,k+4 * (i:Int),(i:Int))) _ xs.length (by omega) (fun kb i hi=> ?_) (fun kb=> ?_) (by simp[XY])
 ·unfold Jq
  have hl:=QS (fun(i:Nat)=>kJ (k+4 * (i:Int))) (Nat.le_of_lt hi)
  have w1:IntKind.wrap .i64 (k+4 * (i:Int)+1)=k+4 * (i:Int)+1:=w64 (by omega) (by omega)
  have w2:IntKind.wrap .i64 (k+4 * (i:Int)+1+1)=k+4 * (i:Int)+2:=by rw[w64 (by omega) (by omega)];omega
  have w3:IntKind.wrap .i64 (k+4 * (i:Int)+2+1)=k+4 * (i:Int)+3:=by rw[w64 (by omega) (by omega)];omega
  have w4:IntKind.wrap .i64 (k+4 * (i:Int)+3+1)=k+4 * (i:Int)+4:=by rw[w64 (by omega) (by omega)];omega
  have e:k+4 * ((i+1:Nat):Int)=k+4 * (i:Int)+4:=by omega
  have hs:=KQ (fun(i:Nat)=>kJ (k+4 * (i:Int))) hi
  have hx:=KV (fun(i:Nat)=>kJ (k+4 * (i:Int))) hi
  show _=kb (kB (fun(i:Nat)=>kJ (k+4 * (i:Int))) xs (i+1),k+4 * ((i+1:Nat):Int),((i+1:Nat):Int))
  rw[←hs,e]
  generalize kB (fun(i:Nat)=>kJ (k+4 * (i:Int))) xs i=row at hl hx
  have hii:i < row.length:=by rw[hl];exact hi
  simp only[hx,Option.bind_some,Int.toNat_natCast,Yn hii,List.set_set,ql i _ hi (by omega),w1,w2,w3,w4,hl,kJ]
  rw[if_pos (by omega)]
 ·unfold Jq Jg
  have hl:=QS (fun(i:Nat)=>kJ (k+4 * (i:Int))) (Nat.le_refl xs.length)
  rw[if_neg (by simp only[hl];omega),if_pos hl,K0]
  rfl
theorem zhB(n:Nat)(k:Int)(h:n≤1048576)(hk:0≤k)(hk':k≤1000000000000):Zm (Jt k n) k=some (k+4 * (n:Int)):=by
 unfold Zm
 refine qR (fun i=>(k+4 * (i:Int),(i:Int))) _ n (by omega) (fun kb i hi=> ?_) (fun kb=> ?_) (by simp)
 ·unfold Je
  have w1:IntKind.wrap .i64 (k+4 * (i:Int)+1)=k+4 * (i:Int)+1:=w64 (by omega) (by omega)
  have w2:IntKind.wrap .i64 (k+4 * (i:Int)+1+1)=k+4 * (i:Int)+2:=by rw[w64 (by omega) (by omega)];omega
  have w3:IntKind.wrap .i64 (k+4 * (i:Int)+2+1)=k+4 * (i:Int)+3:=by rw[w64 (by omega) (by omega)];omega
  have w4:IntKind.wrap .i64 (k+4 * (i:Int)+3+1)=k+4 * (i:Int)+4:=by rw[w64 (by omega) (by omega)];omega
  have e:k+4 * ((i+1:Nat):Int)=k+4 * (i:Int)+4:=by omega
  have hx:idx (Jt k n) (i:Int)=some (kJ (k+4 * (i:Int))):=X1 _ hi
  simp only[hx,Option.bind_some,ql i _ hi (by omega),w1,w2,w3,w4,kJ,kh,not_true,if_false,e]
  rw[if_pos (by omega)]
 ·unfold Je Jj
  rw[if_neg (by simp only[kh];omega)]
def X3(k:Int):Int:=k
def Qb(k:Int)(n:Nat):List Int:=(List.range n).map fun(i:Nat)=>X3 (k+1 * (i:Int))
theorem Y9(k:Int)(n:Nat):(Qb k n).length=n:=by simp[Qb]
theorem zfj(xs:List Int)(k:Int)(h:xs.length≤1048576)(hk:0≤k)(hk':k≤1000000000000):yj xs k=some (k+1 * (xs.length:Int),Qb k xs.length):=by
 unfold yj
 refine qR (fun i=>(kB (fun(i:Nat)=>X3 (k+1 * (i:Int))) xs i,k+1 * (i:Int),(i:Int))) _ xs.length (by omega) (fun kb i hi=> ?_) (fun kb=> ?_) (by simp[XY])
 ·unfold YK
  have hl:=QS (fun(i:Nat)=>X3 (k+1 * (i:Int))) (Nat.le_of_lt hi)
  have w1:IntKind.wrap .i64 (k+1 * (i:Int)+1)=k+1 * (i:Int)+1:=w64 (by omega) (by omega)
  have e:k+1 * ((i+1:Nat):Int)=k+1 * (i:Int)+1:=by omega
  have hs:=KQ (fun(i:Nat)=>X3 (k+1 * (i:Int))) hi
  have hx:=KV (fun(i:Nat)=>X3 (k+1 * (i:Int))) hi
  show _=kb (kB (fun(i:Nat)=>X3 (k+1 * (i:Int))) xs (i+1),k+1 * ((i+1:Nat):Int),((i+1:Nat):Int))
  rw[←hs,e]
  generalize kB (fun(i:Nat)=>X3 (k+1 * (i:Int))) xs i=row at hl hx
  have hii:i < row.length:=by rw[hl];exact hi
  simp only[hx,Option.bind_some,Int.toNat_natCast,Yn hii,List.set_set,ql i _ hi (by omega),w1,hl,X3]
  rw[if_pos (by omega)]
 ·unfold YK Yo
  have hl:=QS (fun(i:Nat)=>X3 (k+1 * (i:Int))) (Nat.le_refl xs.length)
  rw[if_neg (by simp only[hl];omega),if_pos hl,K0]
  rfl
theorem zfg(n:Nat)(k:Int)(h:n≤1048576)(hk:0≤k)(hk':k≤1000000000000):yg (Qb k n) k=some (k+1 * (n:Int)):=by
 unfold yg
 refine qR (fun i=>(k+1 * (i:Int),(i:Int))) _ n (by omega) (fun kb i hi=> ?_) (fun kb=> ?_) (by simp)
 ·unfold YO
  have w1:IntKind.wrap .i64 (k+1 * (i:Int)+1)=k+1 * (i:Int)+1:=w64 (by omega) (by omega)
  have e:k+1 * ((i+1:Nat):Int)=k+1 * (i:Int)+1:=by omega
  have hx:idx (Qb k n) (i:Int)=some (X3 (k+1 * (i:Int))):=X1 _ hi
  simp only[hx,Option.bind_some,ql i _ hi (by omega),w1,X3,Y9,not_true,if_false,e]
  rw[if_pos (by omega)]
 ·unfold YO YV
  rw[if_neg (by simp only[Y9];omega)]
theorem zeo(x:zn)(h:zr x≤1048576):∃r:Int×zn,Zn x 1=some r∧0≤r.1∧r.2.Own.length=x.Own.length∧r.2.Frozen.length=x.Frozen.length∧r.2.Cells.length=x.Cells.length∧r.2.Locks.length=x.Locks.length∧r.2.Helds.length=x.Helds.length∧r.2.Wounded.length=x.Wounded.length∧r.2.Ended.length=x.Ended.length∧
  ∀e f,y9 (zn.mk e r.2.Own r.2.Frozen r.2.Cells r.2.Locks r.2.Helds r.2.Wounded r.2.Ended f) 1=some r.1:=by
 have hh:=h
 unfold zr at hh
 have hH:z7 x.Helds≤1048576:=by omega
 have hb:=zaM hH x.Helds.length
 rw[List.take_length] at hb
 obtain⟨k1,e1⟩:∃k,k=1+2 * (x.Own.length:Int):=⟨_,rfl⟩
 obtain⟨k2,e2⟩:∃k,k=k1+2 * (x.Frozen.length:Int):=⟨_,rfl⟩
 obtain⟨k3,e3⟩:∃k,k=k2+2 * (x.Cells.length:Int):=⟨_,rfl⟩
 obtain⟨k4,e4⟩:∃k,k=k3+4 * (x.Locks.length:Int):=⟨_,rfl⟩
 obtain⟨k5,e5⟩:∃k,k=k4+((j4 Qr x.Helds:Nat):Int):=⟨_,rfl⟩
 obtain⟨k6,e6⟩:∃k,k=k5+1 * (x.Wounded.length:Int):=⟨_,rfl⟩
 obtain⟨k7,e7⟩:∃k,k=k6+1 * (x.Ended.length:Int):=⟨_,rfl⟩
 have a1:jP x.Own 1=some (k1,yz 1 x.Own.length):=by rw[e1];exact zcP x.Own 1 (by omega) (by omega) (by omega)
 have a2:jP x.Frozen k1=some (k2,yz k1 x.Frozen.length):=by rw[e2];exact zcP x.Frozen k1 (by omega) (by omega) (by omega)
 have a3:Za x.Cells k2=some (k3,J8 k2 x.Cells.length):=by rw[e3];exact zhJ x.Cells k2 (by omega) (by omega) (by omega)
 have a4:Ze x.Locks k3=some (k4,Jt k3 x.Locks.length):=by rw[e4];exact zhq x.Locks k3 (by omega) (by omega) (by omega)
 have a5:y8 x.Helds k4=some (k5,J1 x.Helds k4):=by rw[e5];exact zhd x.Helds k4 hH (by omega) (by omega)
 have a6:yj x.Wounded k5=some (k6,Qb k5 x.Wounded.length):=by rw[e6];exact zfj x.Wounded k5 (by omega) (by omega) (by omega)
 have a7:yj x.Ended k6=some (k7,Qb k6 x.Ended.length):=by rw[e7];exact zfj x.Ended k6 (by omega) (by omega) (by omega)
 have b1:jQ (yz 1 x.Own.length) 1=some k1:=by rw[e1];exact zcB x.Own.length 1 (by omega) (by omega) (by omega)
 have b2:jQ (yz k1 x.Frozen.length) k1=some k2:=by rw[e2];exact zcB x.Frozen.length k1 (by omega) (by omega) (by omega)
 have b3:Zc (J8 k2 x.Cells.length) k2=some k3:=by rw[e3];exact zgX x.Cells.length k2 (by omega) (by omega) (by omega)
 have b4:Zm (Jt k3 x.Locks.length) k3=some k4:=by rw[e4];exact zhB x.Locks.length k3 (by omega) (by omega) (by omega)
 have b5:y4 (J1 x.Helds k4) k4=some k5:=by rw[e5];exact zgO x.Helds k4 hH (by omega) (by omega)
 have b6:yg (Qb k5 x.Wounded.length) k5=some k6:=by rw[e6];exact zfg x.Wounded.length k5 (by omega) (by omega) (by omega)
 have b7:yg (Qb k6 x.Ended.length) k6=some k7:=by rw[e7];exact zfg x.Ended.length k6 (by omega) (by omega) (by omega)
 have n1:¬k1 < 0:=by omega
 have n2:¬k2 < 0:=by omega
 have n3:¬k3 < 0:=by omega
 have n4:¬k4 < 0:=by omega
 have n5:¬k5 < 0:=by omega
 have n6:¬k6 < 0:=by omega
 have n7:¬k7 < 0:=by omega
 refine⟨(k7,zn.mk x.Me (yz 1 x.Own.length) (yz k1 x.Frozen.length) (J8 k2 x.Cells.length) (Jt k3 x.Locks.length) (J1 x.Helds k4) (Qb k5 x.Wounded.length) (Qb k6 x.Ended.length) x.Rank),?_,by simp only;omega,by simp only[QV],by simp only[QV],by simp only[xX],by simp only[kh],by simp only[kA],by simp only[Y9],by simp only[Y9],fun e f=> ?_⟩
 ·unfold Zn
  simp only[a1,a2,a3,a4,a5,a6,a7,QV,xX,kh,kA,Y9,Option.bind_some,if_true]
 ·unfold y9
  simp only[b1,b2,b3,b4,b5,b6,b7,n1,n2,n3,n4,n5,n6,n7,Option.bind_some,if_false]
def zb7(s:zn)(rank:Int)(a:ze):zn×Int:=
 if ¬KO s rank a=0 then(Kj s (KO s rank a),KO s rank a)
 else if decide (rank=s.Rank)&&!zbU s.Frozen a then(s,0)
 else if y0 s.Frozen a then(if (kz s.Frozen a false).2 then(⟨s.Me,s.Own,(kz s.Frozen a false).1,s.Cells,s.Locks,s.Helds,s.Wounded,s.Ended,rank⟩,0) else(s,6)) else(s,4)
theorem zc6(s:zn)(rank:Int)(a:ze)(h:zr s≤1048576):ZW s rank a=some (zb7 s rank a):=by
 have hf:s.Frozen.length≤1048576:=by unfold zr at h;omega
 unfold ZW zb7 Zo
 simp only[zjC _ _ _ h,zgq _ _ h,zf6 _ h,zcs _ _ hf,Option.bind_some]
 by_cases h0:KO s rank a=0
 ·obtain⟨g1,g2⟩:=zhr h0
  obtain⟨_,k2,_,_⟩:=zad g1
  simp only[h0,not_true_eq_false,if_false,zh7 _ _ hf k2 g2,zdV hf k2 g2,Option.bind_some]
  by_cases hr:rank=s.Rank
  ·simp only[hr,if_true,decide_true,Bool.true_and]
   cases zbU s.Frozen a<;>simp
   cases y0 s.Frozen a<;>simp
   cases(kz s.Frozen a false).2<;>simp
  ·simp only[hr,if_false,decide_false,Bool.false_and,Bool.false_eq_true]
   cases y0 s.Frozen a<;>simp
   cases(kz s.Frozen a false).2<;>simp
 ·simp only[h0,not_false_eq_true,if_true]
theorem zc1(s:zn)(rank:Int)(a:ze)(h:zr s≤1048576):Zg s rank a=some (zb7 s rank a):=by
 have hf:s.Frozen.length≤1048576:=by unfold zr at h;omega
 unfold Zg zb7 ZD
 simp only[zjQ _ _ _ h,zjw _ _ h,zdF _ h,zcC _ _ hf,zjs _ _ hf,zbr _ _ hf,Option.bind_some]
 by_cases h0:KO s rank a=0
 ·simp only[h0,not_true_eq_false,if_false]
  by_cases hr:rank=s.Rank
  ·simp only[hr,if_true,decide_true,Bool.true_and]
   cases zbU s.Frozen a<;>simp
   cases y0 s.Frozen a<;>simp
   cases(kz s.Frozen a false).2<;>simp
  ·simp only[hr,if_false,decide_false,Bool.false_and,Bool.false_eq_true]
   cases y0 s.Frozen a<;>simp
   cases(kz s.Frozen a false).2<;>simp
 ·simp only[h0,not_false_eq_true,if_true]
theorem zhP(s:zn)(rank:Int)(a:ze)(h:zr s≤1048576):zr (zb7 s rank a).1≤1048576:=by
 unfold zb7
 split
 ·have:=zgB s (KO s rank a);simp only;omega
 ·rename_i h0
  have h0:KO s rank a=0:=Classical.byContradiction h0
  split
  ·exact h
  ·split
   ·split
    ·obtain⟨g1,g2⟩:=zhr h0
     obtain⟨k1,k2,k3,k4⟩:=zad g1
     have t:=zie s.Frozen a false
     have:=zhm g1
     unfold zr at h this ⊢
     simp only
     omega
    ·exact h
   ·exact h
theorem zca(a1:zn)(a2:Int)(a3:ze)(h1:KR a1)(h2:inK .i64 a2)(h3:Yk a3):yJ a1 a2 a3=some true:=by
 unfold yJ
 rw[zi8 a1 h1 _ (by omega) (by omega)]
 simp only[Option.bind_some]
 split
 ·rfl
 ·rename_i hz
  have hl:zr a1≤1048576:=by omega
  have e1:=zc6 a1 a2 a3 hl
  have e2:=zc1 a1 a2 a3 hl
  have hr:=zhP a1 a2 a3 hl
  generalize zb7 a1 a2 a3=r at e1 e2 hr
  obtain⟨m,g1,g2,g3,g4,g5,g6,g7,g8,g9,g10⟩:=zeo r.1 hr
  obtain⟨n,f1,f2,f3,f4,f5,f6,f7,f8,f9,f10⟩:=zeo a1 hl
  have q1:¬m.1 < 0:=by omega
  have q2:¬n.1 < 0:=by omega
  simp[zjS _ hl,yB,e1,e2,zfS _ _ hr,zfS _ _ hl,f1,f3,f4,f5,f6,f7,f8,f9,g1,g3,g4,g5,g6,g7,g8,g9,g10,q1,q2,jJ,ji,jH]
end Go.AW
