/- Plain laws: what the plain functions answer. Conditions: each theorem's own. -/
import Derived.Test.YtlcjjljmjdmobaaMCoordVote
set_option linter.unusedVariables false
set_option linter.unusedSimpArgs false
set_option maxRecDepth 100000
namespace Go.AW
theorem w64{n:Int}(h1:-9223372036854775808≤n)(h2:n < 9223372036854775808):IntKind.wrap .i64 n=n:=by
 rw[IntKind.wrap_i64];omega
theorem zQ{α:Type}{xs:List α}{i:Nat}(h:i < xs.length):idx xs (i:Int)=some xs[i]:=by
 unfold idx
 rw[if_pos (by omega)]
 simp[h]
theorem zes{α:Type}(xs:List α)(i:Nat):idx xs (i:Int)=xs[i]?:=by
 unfold idx
 rw[if_pos (by omega)]
 simp
theorem zdO{S R:Type}{f:(S→Option R)→S→Option R}(st:Nat→S)(stop:Nat→Option (Option R))(k:Option R)(n:Nat)
  (hs:∀kb i,i < n→(∀j,j < i→stop j=none)→f kb (st i)=match stop i with|some r=>r|none=>kb (st (i+1))) (he:∀kb,(∀j,j < n→stop j=none)→f kb (st n)=k):
  ∀(m i:Nat),i≤n→(∀j,j < i→stop j=none)→n - i < m→iter f m (st i)=match ((List.range n).drop i).findSome? stop with|some r=>r|none=>k
 |0,i,_,_,h=>by omega
 |m+1,i,hi,hp,h=>by
  unfold iter
  by_cases e:i=n
  ·subst e
   rw[he _ hp]
   simp[List.drop_eq_nil_of_le]
  ·have hlt:i < n:=by omega
   rw[hs _ i hlt hp,List.drop_eq_getElem_cons (by simpa using hlt)]
   simp only[List.getElem_range,List.findSome?_cons]
   cases hq:stop i with
   |some r=>rfl
   |none=>exact zdO st stop k n hs he m (i+1) (by omega) (fun j hj=>by
     by_cases e':j=i
     ·subst e';exact hq
     ·exact hp j (by omega)) (by omega)
theorem K5{S R:Type}{f:(S→Option R)→S→Option R}(st:Nat→S)(stop:Nat→Option (Option R))(k:Option R)(n:Nat)(hn:n≤1152921504606846976)
  (hs:∀kb i,i < n→(∀j,j < i→stop j=none)→f kb (st i)=match stop i with|some r=>r|none=>kb (st (i+1))) (he:∀kb,(∀j,j < n→stop j=none)→f kb (st n)=k) {s0:S} (h0:s0=st 0):
  iter f FU s0=match (List.range n).findSome? stop with|some r=>r|none=>k:=by
 subst h0
 have:=zdO st stop k n hs he FU 0 (by omega) (fun j hj=>by omega) (by unfold FU;omega)
 simpa using this
theorem zbn{S R:Type}{f:(S→Option R)→S→Option R}(st:Nat→S)(stop:Nat→Option (Option R))(k:Option R)(n:Nat)(hn:n≤1152921504606846976)
  (hs:∀kb i,i < n→f kb (st i)=match stop i with|some r=>r|none=>kb (st (i+1))) (he:∀kb,f kb (st n)=k) {s0:S} (h0:s0=st 0):
  iter f FU s0=match (List.range n).findSome? stop with|some r=>r|none=>k:=
 K5 st stop k n hn (fun kb i hi _=>hs kb i hi) (fun kb _=>he kb) h0
theorem jx{S R:Type}{f:(S→Option R)→S→Option R}(st:Nat→S)(k:Option R)(n:Nat)(hn:n≤1152921504606846976)
  (hs:∀kb i,i < n→f kb (st i)=kb (st (i+1))) (he:∀kb,f kb (st n)=k) {s0:S} (h0:s0=st 0):iter f FU s0=k:=by
 rw[zbn st (fun _=>none) k n hn (fun kb i hi=>hs kb i hi) he h0]
 have:(List.range n).findSome? (fun _=>(none:Option (Option R)))=none:=by
  rw[List.findSome?_eq_none_iff];intro x _;rfl
 rw[this]
theorem kp{S R:Type}{f:(S→Option R)→S→Option R}(st:Nat→S)(good:Nat→Bool)(r k:Option R)(n:Nat)(hn:n≤1152921504606846976)
  (hs:∀kb i,i < n→(∀j,j < i→good j=true)→f kb (st i)=if good i=true then kb (st (i+1)) else r) (he:∀kb,(∀j,j < n→good j=true)→f kb (st n)=k) {s0:S} (h0:s0=st 0):
  iter f FU s0=if (List.range n).all good=true then k else r:=by
 have tr:∀j,(if good j=true then(none:Option (Option R)) else some r)=none→good j=true:=fun j h=>by
  split at h
  ·assumption
  ·cases h
 rw[K5 st (fun i=>if good i=true then none else some r) k n hn (fun kb i hi hp=>by rw[hs kb i hi (fun j hj=>tr j (hp j hj))];split<;>rfl) (fun kb hp=>he kb (fun j hj=>tr j (hp j hj))) h0]
 by_cases e:(List.range n).all good=true
 ·have:(List.range n).findSome? (fun i=>if good i=true then none else some r)=none:=by
   rw[List.findSome?_eq_none_iff]
   intro x hx
   rw[List.all_eq_true] at e
   simp[e x hx]
  rw[this,if_pos e]
 ·rw[if_neg e]
  cases h:(List.range n).findSome? (fun i=>if good i=true then none else some r) with
  |none=>
   exfalso
   apply e
   rw[List.all_eq_true]
   intro x hx
   rw[List.findSome?_eq_none_iff] at h
   exact tr x (h x hx)
  |some q=>
   obtain⟨x,hx,hq⟩:=List.exists_of_findSome?_eq_some h
   split at hq
   ·cases hq
   ·cases hq;rfl
theorem ju{S R:Type}{f:(S→Option R)→S→Option R}(st:Nat→S)(good:Nat→Bool)(r k:Option R)(n:Nat)(hn:n≤1152921504606846976)
  (hs:∀kb i,i < n→f kb (st i)=if good i=true then kb (st (i+1)) else r) (he:∀kb,f kb (st n)=k) {s0:S} (h0:s0=st 0):
  iter f FU s0=if (List.range n).all good=true then k else r:=
 kp st good r k n hn (fun kb i hi _=>hs kb i hi) (fun kb _=>he kb) h0
theorem YK{α R:Type}{f:(List α×Int→Option R)→List α×Int→Option R}(xs:List α)(z:α)(k:List α→Option R)(hn:xs.length≤2147483648)
  (hs:∀kb (ys:List α) (i:Nat) (hi:i < xs.length),ys.length=xs.length→f kb (ys,(i:Int))=kb (ys.set i xs[i],((i+1:Nat):Int)))
  (he:∀kb (ys:List α),f kb (ys,(xs.length:Int))=k ys):iter f FU (List.replicate xs.length z,0)=k xs:=by
 refine jx (fun i=>(xs.take i++List.replicate (xs.length - i) z,(i:Int))) _ xs.length (by omega) (fun kb i hi=> ?_) (fun kb=> ?_) (by simp)
 ·rw[hs kb _ i hi (by simp;omega)]
  congr 2
  have:xs.length - i=(xs.length - (i+1))+1:=by omega
  have hk:min i xs.length=i:=by omega
  show _=(List.take (i+1) xs++_)
  rw[this,List.replicate_succ,List.set_append_right _ _ (by simp;omega),show List.take (i+1) xs=List.take i xs++[xs[i]] from List.take_succ_eq_append_getElem hi]
  simp only[List.length_take,hk,Nat.sub_self,List.set_cons_zero]
  rw[List.append_assoc]
  rfl
 ·rw[he]
  simp
theorem Jf{α:Type}[DecidableEq α]{xs ys:List α}(h:xs.length=ys.length):(List.range xs.length).all (fun i=>decide (xs[i]? =ys[i]?))=decide (xs=ys):=by
 by_cases e:xs=ys
 ·subst e;simp
 ·rw[decide_eq_false e,List.all_eq_false]
  apply Classical.byContradiction
  intro hc
  apply e
  apply List.ext_getElem?
  intro i
  by_cases hi:i < xs.length
  ·apply Classical.byContradiction
   intro hne
   exact hc ⟨i,List.mem_range.2 hi,by simpa using hne⟩
  ·rw[List.getElem?_eq_none (by omega),List.getElem?_eq_none (by omega)]
theorem qO(i:Nat)(n:Nat)(h:i < n)(hn:n≤1152921504606846976):IntKind.wrap .i64 ((i:Int)+1)=((i+1:Nat):Int):=by
 rw[w64 (by omega) (by omega)];omega
def XS{α:Type}(p:α→Bool)(xs:List α):Int:=match xs.findIdx? p with
 |some k=>(k:Int)
 |none=>-1
theorem J2{α:Type}(p:α→Bool)(xs:List α):decide (0≤XS p xs)=xs.any p:=by
 unfold XS
 cases h:xs.findIdx? p with
 |none=>
  rw[List.findIdx?_eq_none_iff] at h
  have:xs.any p=false:=by rw[List.any_eq_false];intro x hx;simp[h x hx]
  simp[this]
 |some k=>
  rw[List.findIdx?_eq_some_iff_getElem] at h
  obtain⟨hk,hp,_⟩:=h
  have:xs.any p=true:=List.any_eq_true.2 ⟨xs[k],List.getElem_mem hk,hp⟩
  simp[this]
theorem Yn{α:Type}(xs:List α)(p:α→Bool){f:(Int→Option Int)→Int→Option Int}(hn:xs.length≤1152921504606846976)
  (hs:∀kb (i:Nat) (hi:i < xs.length),f kb (i:Int)=if p xs[i]=true then some (i:Int) else kb ((i+1:Nat):Int)) (he:∀kb,f kb (xs.length:Int)=some (-1)):iter f FU 0=some (XS p xs):=by
 rw[zbn (s0:=(0:Int)) (fun i=>(i:Int)) (fun i:Nat=>(xs[i]?).bind fun x=>if p x=true then some (some (i:Int)) else none) (some (-1)) xs.length hn (fun kb i hi=> ?_) (fun kb=>he kb) rfl]
 ·have key:∀(ys:List α) (o:Nat),(List.range ys.length).findSome? (fun i:Nat=>(ys[i]?).bind fun x=>if p x=true then some (some ((o+i:Nat):Int)) else none)=(ys.findIdx? p).map fun k=>some ((o+k:Nat):Int):=by
   intro ys
   induction ys with
   |nil=>intro o;rfl
   |cons y ys ih=>
    intro o
    rw[List.length_cons,List.range_succ_eq_map,List.findSome?_cons,List.findSome?_map,List.findIdx?_cons]
    simp only[List.getElem?_cons_zero,Option.bind_some]
    by_cases e:p y=true
    ·simp[e]
    ·simp only[e,if_false,Function.comp_def,List.getElem?_cons_succ,Bool.false_eq_true]
     have:=ih (o+1)
     rw[show(fun i:Nat=>(ys[i]?).bind fun x=>if p x=true then some (some ((o+(i+1):Nat):Int)) else none)=fun i:Nat=>(ys[i]?).bind fun x=>if p x=true then some (some ((o+1+i:Nat):Int)) else none from by funext i;rw[show o+(i+1)=o+1+i by omega]]
     rw[this]
     cases ys.findIdx? p<;>simp;omega
  have:=key xs 0
  simp only[Nat.zero_add] at this
  rw[this]
  unfold XS
  cases xs.findIdx? p<;>rfl
 ·rw[hs kb i hi,List.getElem?_eq_getElem hi]
  simp only[Option.bind_some]
  by_cases e:p xs[i]=true<;>simp[e]
theorem za1{α:Type}(xs:List α)(p:α→Bool):((List.range xs.length).all fun i=>((xs[i]?).map p).getD true)=xs.all p:=by
 rw[Bool.eq_iff_iff,List.all_eq_true,List.all_eq_true]
 constructor
 ·intro H x hx
  obtain⟨i,hi,rfl⟩:=List.mem_iff_getElem.1 hx
  have:=H i (List.mem_range.2 hi)
  rw[List.getElem?_eq_getElem hi] at this
  exact this
 ·intro H i hi
  have hi:=List.mem_range.1 hi
  rw[List.getElem?_eq_getElem hi]
  exact H _ (List.getElem_mem hi)
theorem zcf{α R:Type}(xs:List α)(p:α→Bool)(r k:Option R){f:(Int→Option R)→Int→Option R}(hn:xs.length≤1152921504606846976)
  (hs:∀kb (i:Nat) (hi:i < xs.length),f kb (i:Int)=if p xs[i]=true then r else kb ((i+1:Nat):Int)) (he:∀kb,f kb (xs.length:Int)=k):iter f FU 0=if xs.any p=true then r else k:=by
 rw[ju (s0:=(0:Int)) (fun i=>(i:Int)) (fun i=>((xs[i]?).map fun x=>!p x).getD true) r k xs.length hn (fun kb i hi=> ?_) (fun kb=>he kb) rfl,za1 xs fun x=>!p x]
 ·cases h:xs.any p with
  |true=>
   have:(xs.all fun x=>!p x)=false:=by
    rw[List.all_eq_false];obtain⟨x,hx,hp⟩:=List.any_eq_true.1 h;exact⟨x,hx,by simp[hp]⟩
   simp[this]
  |false=>
   have:(xs.all fun x=>!p x)=true:=by
    rw[List.all_eq_true];intro x hx;rw[List.any_eq_false] at h;simp[h x hx]
   simp[this]
 ·rw[hs kb i hi,List.getElem?_eq_getElem hi]
  cases h:p xs[i]<;>simp[h]
theorem zdj{α R:Type}(xs:List α)(p:α→Bool)(r k:Option R){f:(Int→Option R)→Int→Option R}(hn:xs.length≤1152921504606846976)
  (hs:∀kb (i:Nat) (hi:i < xs.length),f kb (i:Int)=if p xs[i]=true then kb ((i+1:Nat):Int) else r) (he:∀kb,f kb (xs.length:Int)=k):iter f FU 0=if xs.all p=true then k else r:=by
 rw[ju (s0:=(0:Int)) (fun i=>(i:Int)) (fun i=>((xs[i]?).map p).getD true) r k xs.length hn (fun kb i hi=> ?_) (fun kb=>he kb) rfl,za1 xs p]
 rw[hs kb i hi,List.getElem?_eq_getElem hi]
 rfl
def qa{α:Type}(f:α→Nat):List α→Nat
 |[]=>0
 |x::xs=>f x+qa f xs
theorem xk{α:Type}(f:α→Nat):∀(xs ys:List α),qa f (xs++ys)=qa f xs+qa f ys
 |[],ys=>by simp[qa]
 |x::xs,ys=>by simp[qa,xk f xs ys];omega
theorem Jy{α:Type}(f:α→Nat){xs:List α}{i:Nat}(hi:i < xs.length):qa f (xs.take (i+1))=qa f (xs.take i)+f xs[i]:=by
 rw[List.take_succ_eq_append_getElem hi,xk]
 simp[qa]
theorem YS{α:Type}(f:α→Nat)(xs:List α)(i:Nat):qa f (xs.take i)≤qa f xs:=by
 have:=xk f (xs.take i) (xs.drop i)
 rw[List.take_append_drop] at this
 omega
theorem zce{α:Type}(f:α→Nat){xs:List α}{i:Nat}(hi:i < xs.length):f xs[i]≤qa f xs:=by
 have h1:=Jy f hi
 have h2:=YS f xs (i+1)
 omega
theorem zak{α:Type}{xs:List α}{i:Nat}(h:i≤xs.length):cut xs 0 (i:Int)=some (xs.take i):=by
 unfold cut
 rw[if_pos ⟨by omega,by omega,by omega⟩]
 simp
theorem KI{α:Type}(p:α→Bool){xs:List α}{i:Nat}(hi:i < xs.length):(xs.take (i+1)).countP p=(xs.take i).countP p+if p xs[i]=true then 1 else 0:=by
 rw[List.take_succ_eq_append_getElem hi,List.countP_append]
 simp[List.countP_cons]
theorem zc9{α:Type}(p:α→Bool)(xs:List α)(i:Nat):(xs.take i).countP p≤xs.length:=by
 have h1:=List.countP_le_length (p:=p) (l:=xs.take i)
 have h2:(xs.take i).length≤xs.length:=by simp;omega
 omega
def qk(z lo hi:Int):Bool:=decide (lo≤z)&&decide (z≤hi)
theorem kG(z lo hi:Int):jb z lo hi=some (qk z lo hi):=by
 unfold jb qk;by_cases h:lo≤z<;>simp[h]
theorem xI(z lo hi:Int):qY z lo hi=some (qk z lo hi):=by
 unfold qY qk;by_cases h:lo≤z<;>simp[h]
theorem zeV(z:Int):Qt z=some (qk z 0 999):=by simp[Qt,kG]
theorem zgi(z:Int):Q6 z=some (qk z 0 999):=by simp[Q6,xI]
theorem zek(z:Int):ZF z=some (qk z 0 1000000000):=by simp[ZF,kG]
theorem zeF(z:Int):Zn z=some (qk z 0 1000000000):=by simp[Zn,xI]
def Jn(a:zC):Bool:=decide (0≤a.Lo)&&decide (a.Lo < a.Hi)&&decide (a.Hi≤1000)
theorem KC(a:zC):Zx a=some (Jn a):=by
 unfold Zx Jn;by_cases h:0≤a.Lo<;>by_cases h':a.Lo < a.Hi<;>simp[h,h']
theorem zaa(a:zC):Zr a=some (Jn a):=by
 unfold Zr Jn;by_cases h:0≤a.Lo<;>by_cases h':a.Lo < a.Hi<;>simp[h,h']
theorem zel(z:Int):Zo z=some (qk z 0 3):=by simp[Zo,xI]
def zpU(xs:List zO)(i:Nat):Bool:=match xs[i]? with
 |none=>true
 |some c=>qk c.Key 0 999&&qk c.Value 0 1000000000&&(i == 0||match xs[i - 1]? with|some p=>decide (p.Key < c.Key)|none=>true)
theorem zdf(z:Int):yW z=some (qk z (-1) 1000000000):=by simp[yW,xI]
def Yd(xs:List zO)(i:Nat):Bool:=match xs[i]? with
 |none=>true
 |some c=>qk c.Key 0 999&&qk c.Value (-1) 1000000000&&(i == 0||match xs[i - 1]? with|some p=>decide (p.Key < c.Key)|none=>true)
def yA(xs:List zO):Bool:=decide (xs.length≤60)&&(List.range xs.length).all (Yd xs)
theorem X7(xs:List zO)(h:xs.length≤1048576):j3 xs=some (yA xs):=by
 unfold j3 yA
 split
 ·rename_i h1
  have:¬xs.length≤60:=by omega
  simp[this]
 ·rename_i h1
  have:xs.length≤60:=by omega
  rw[ju (s0:=(0:Int)) (fun i=>(i:Int)) (Yd xs) (some false) (some true) xs.length (by omega) (fun kb i hi=> ?_) (fun kb=> ?_) rfl]
  ·simp only[this,decide_true,Bool.true_and];split<;>simp_all
  ·unfold ZL jt Yd
   simp only[zQ hi,zeV,kG,Option.bind_some,qO i _ hi (by omega),List.getElem?_eq_getElem hi]
   rw[if_pos (by omega)]
   cases qk xs[i].Key 0 999<;>simp
   cases qk xs[i].Value (-1) 1000000000<;>simp
   by_cases h0:0 < i
   ·have h2:IntKind.wrap .i64 ((i:Int) - 1)=((i - 1:Nat):Int):=by rw[w64 (by omega) (by omega)];omega
    have h3:i - 1 < xs.length:=by omega
    have h4:¬i=0:=by omega
    simp only[h0,if_true,h2,zQ h3,Option.bind_some,List.getElem?_eq_getElem h3,h4,false_or]
    by_cases h5:xs[i].Key≤xs[i - 1].Key
    ·have:¬xs[i - 1].Key < xs[i].Key:=by omega
     simp[h5,this]
    ·have:xs[i - 1].Key < xs[i].Key:=by omega
     simp[h5,this]
   ·have h4:i=0:=by omega
    simp[h4]
  ·unfold ZL
   rw[if_neg (by omega)];rfl
theorem X4(xs:List zO)(h:xs.length≤1048576):j4 xs=some (yA xs):=by
 unfold j4 yA
 rw[ju (s0:=(0:Int)) (fun i=>(i:Int)) (Yd xs) (some false) (some (decide (xs.length≤60))) xs.length (by omega) (fun kb i hi=> ?_) (fun kb=> ?_) rfl]
 ·split<;>simp_all
 ·unfold ZY js Yd
  simp only[zQ hi,zgi,zdf,Option.bind_some,qO i _ hi (by omega),List.getElem?_eq_getElem hi]
  rw[if_pos (by omega)]
  cases qk xs[i].Key 0 999<;>simp
  cases qk xs[i].Value (-1) 1000000000<;>simp
  by_cases h0:0 < i
  ·have h2:IntKind.wrap .i64 ((i:Int) - 1)=((i - 1:Nat):Int):=by rw[w64 (by omega) (by omega)];omega
   have h3:i - 1 < xs.length:=by omega
   have h4:¬i=0:=by omega
   simp only[h0,if_true,h2,zQ h3,Option.bind_some,List.getElem?_eq_getElem h3,h4,false_or]
   by_cases h5:xs[i].Key≤xs[i - 1].Key
   ·have:¬xs[i - 1].Key < xs[i].Key:=by omega
    simp[h5,this]
   ·have:xs[i - 1].Key < xs[i].Key:=by omega
    simp[h5,this]
  ·have h4:i=0:=by omega
   simp[h4]
 ·unfold ZY Qf
  rw[if_neg (by omega)]
  have:((xs.length:Int)≤60)↔xs.length≤60:=by omega
  simp[this]
theorem zfK{xs:List zO}(h:yA xs=true){i:Nat}(hi:i < xs.length):-1≤xs[i].Value∧0≤xs[i].Key∧xs[i].Key≤999:=by
 unfold yA at h
 simp only[Bool.and_eq_true,List.all_eq_true] at h
 have:=h.2 i (List.mem_range.2 hi)
 unfold Yd qk at this
 rw[List.getElem?_eq_getElem hi] at this
 simp only[Bool.and_eq_true,decide_eq_true_eq] at this
 exact⟨this.1.2.1,this.1.1.1,this.1.1.2⟩
theorem zdh(xs:List zC)(h:xs.length≤maxLen)(z:Int)(h1:0≤z)(h2:z≤1048576):y7 xs z=some (if z < xs.length then -1 else z - xs.length):=by
 unfold y7
 have:IntKind.wrap .i64 (z - (xs.length:Int))=z - xs.length:=by unfold maxLen at h;exact w64 (by omega) (by omega)
 rw[this]
 split<;>split<;>first|rfl|omega
theorem zdb(xs:List zC)(h:xs.length≤1048576):Zf xs=some xs:=by
 unfold Zf
 rw[if_pos ⟨by omega,by omega⟩]
 simp only[Int.toNat_natCast]
 refine YK xs _ ZX (by omega) (fun kb ys i hi hy=> ?_) (fun kb ys=> ?_)
 ·unfold ZM
  simp only[zQ hi,zQ (show i < ys.length by omega),Js,Option.bind_some,Int.toNat_natCast,qO i _ hi (by omega)]
  rw[if_pos (by omega)]
 ·unfold ZM
  rw[if_neg (by omega)]
theorem zew(a b:zC):Zt a b=some (decide (a=b)):=by
 unfold Zt
 cases a;cases b
 simp only[zC.mk.injEq]
 repeat' split
 all_goals simp_all
theorem zc5(xs ys:List zC)(h:xs.length≤1048576):y4 xs ys=some (decide (xs=ys)):=by
 unfold y4
 split
 ·rename_i hl
  have:¬xs=ys:=fun e=>hl (by rw[e])
  simp[this]
 ·rename_i hl
  have hl:xs.length=ys.length:=by omega
  rw[ju (s0:=(0:Int)) (fun i=>(i:Int)) (fun i=>decide (xs[i]? =ys[i]?)) (some false) (some true) xs.length (by omega) (fun kb i hi=> ?_) (fun kb=> ?_) rfl,Jf hl]
  ·by_cases e:xs=ys<;>simp[e]
  ·unfold Z7
   simp only[zQ hi,zQ (show i < ys.length by omega),zew,Option.bind_some,qO i _ hi (by omega)]
   rw[if_pos (by omega),List.getElem?_eq_getElem hi,List.getElem?_eq_getElem (show i < ys.length by omega)]
   simp
  ·unfold Z7
   rw[if_neg (by omega)]
   rfl
theorem zcT(xs:List zO)(h:xs.length≤maxLen)(z:Int)(h1:0≤z)(h2:z≤1048576):y5 xs z=some (if z < xs.length then -1 else z - xs.length):=by
 unfold y5
 have:IntKind.wrap .i64 (z - (xs.length:Int))=z - xs.length:=by unfold maxLen at h;exact w64 (by omega) (by omega)
 rw[this]
 split<;>split<;>first|rfl|omega
theorem zdp(xs:List zO)(h:xs.length≤1048576):y9 xs=some xs:=by
 unfold y9
 rw[if_pos ⟨by omega,by omega⟩]
 simp only[Int.toNat_natCast]
 refine YK xs _ Z0 (by omega) (fun kb ys i hi hy=> ?_) (fun kb ys=> ?_)
 ·unfold Z2
  simp only[zQ hi,zQ (show i < ys.length by omega),Q5,Option.bind_some,Int.toNat_natCast,qO i _ hi (by omega)]
  rw[if_pos (by omega)]
 ·unfold Z2
  rw[if_neg (by omega)]
theorem zeu(a b:zO):Zp a b=some (decide (a=b)):=by
 unfold Zp
 cases a;cases b
 simp only[zO.mk.injEq]
 repeat' split
 all_goals simp_all
theorem zdl(xs ys:List zO)(h:xs.length≤1048576):y8 xs ys=some (decide (xs=ys)):=by
 unfold y8
 split
 ·rename_i hl
  have:¬xs=ys:=fun e=>hl (by rw[e])
  simp[this]
 ·rename_i hl
  have hl:xs.length=ys.length:=by omega
  rw[ju (s0:=(0:Int)) (fun i=>(i:Int)) (fun i=>decide (xs[i]? =ys[i]?)) (some false) (some true) xs.length (by omega) (fun kb i hi=> ?_) (fun kb=> ?_) rfl,Jf hl]
  ·by_cases e:xs=ys<;>simp[e]
  ·unfold ZJ
   simp only[zQ hi,zQ (show i < ys.length by omega),zeu,Option.bind_some,qO i _ hi (by omega)]
   rw[if_pos (by omega),List.getElem?_eq_getElem hi,List.getElem?_eq_getElem (show i < ys.length by omega)]
   simp
  ·unfold ZJ
   rw[if_neg (by omega)]
   rfl
def zS(x:zb):Nat:=x.Reads.length+x.Writes.length
theorem zep(x:zb)(h:QV x)(z:Int)(h1:0≤z)(h2:z≤1048576):ZD x z=some (if z < (zS x:Int) then -1 else z - (zS x:Int)):=by
 unfold QV at h
 obtain⟨o0,o1,o2,o3⟩:=h
 unfold ZD zS
 rw[zdh x.Reads o1.1 _ (by omega) (by omega)]
 simp only[Option.bind_some]
 by_cases c0:z < (x.Reads.length:Int)
 ·rw[if_pos c0,if_pos (by omega)];try rw[if_pos (by omega)]
 rw[if_neg c0,if_neg (by omega)]
 rw[zcT x.Writes o2.1 _ (by omega) (by omega)]
 simp only[Option.bind_some]
 by_cases c1:z - (x.Reads.length:Int) < (x.Writes.length:Int)
 ·rw[if_pos c1,if_pos (by omega)];try rw[if_pos (by omega)]
 rw[if_neg c1,if_neg (by omega)]
 try rw[if_neg (by omega)]
 try (congr 1;omega)
theorem zd8(x:zb)(h:zS x≤1048576):Zy x=some x:=by simp[Zy,zdb _ (show x.Reads.length≤1048576 by unfold zS at h;omega),zdp _ (show x.Writes.length≤1048576 by unfold zS at h;omega)]
theorem zd7(x y:zb)(h:zS x≤1048576):ZA x y=some (decide (x=y)):=by
 unfold ZA
 simp only[zc5 _ _ (show x.Reads.length≤1048576 by unfold zS at h;omega),zdl _ _ (show x.Writes.length≤1048576 by unfold zS at h;omega),Option.bind_some]
 cases x;cases y
 simp only[zb.mk.injEq]
 repeat' split
 all_goals simp_all
def zP(xs:(List zb)):Nat:=xs.length+qa (fun y:zb=>zS y) xs
theorem zcU(xs:(List zb))(h:(okS QV) xs)(z:Int)(h1:0≤z)(h2:z≤1048576):Zd xs z=some (if z < (zP xs:Int) then -1 else z - (zP xs:Int)):=by
 unfold Zd
 have hm:=h.1
 have hw:IntKind.wrap .i64 (z - (xs.length:Int))=z - xs.length:=by unfold maxLen at hm;exact w64 (by omega) (by omega)
 rw[hw]
 have hsz:(zP xs:Int)=xs.length+(qa (fun y:zb=>zS y) xs:Nat):=by unfold zP;omega
 rw[hsz]
 by_cases c:z < xs.length
 ·rw[if_pos (by omega),if_pos (by omega)]
 rw[if_neg (by omega)]
 rw[kp (fun i=>(z - (xs.length:Int) - (qa (fun y:zb=>zS y) (xs.take i):Nat),(i:Int))) (fun i=>decide ((qa (fun y:zb=>zS y) (xs.take (i+1)):Int)≤z - xs.length)) (some (-1)) (some (z - (xs.length:Int) - (qa (fun y:zb=>zS y) xs:Nat))) xs.length (by omega) (fun kb i hi hp=> ?_) (fun kb hp=> ?_) (by simp[qa])]
 ·by_cases c2:z < xs.length+(qa (fun y:zb=>zS y) xs:Nat)
  ·rw[if_pos c2,if_neg]
   rw[Bool.not_eq_true,List.all_eq_false]
   cases hn:xs.length with
   |zero=>
    have:xs=[]:=List.eq_nil_of_length_eq_zero hn
    subst this
    simp[qa] at c2 c
    omega
   |succ n=>
    refine⟨n,by simp,?_⟩
    have:xs.take (n+1)=xs:=by rw[←hn];simp
    rw[this,decide_eq_true_eq]
    omega
  ·rw[if_neg c2,if_pos]
   ·congr 1;omega
   ·rw[List.all_eq_true]
    intro i hi
    have:=YS (fun y:zb=>zS y) xs (i+1)
    simp only[decide_eq_true_eq]
    omega
 ·have h0:(qa (fun y:zb=>zS y) (xs.take i):Int)≤z - xs.length:=by
   cases i with
   |zero=>simp[qa];omega
   |succ j=>have:=hp j (by omega);simpa using this
  unfold ZS
  simp only[zQ hi,Option.bind_some,qO i _ hi (by omega)]
  rw[if_pos (by omega),zep xs[i] (h.2 _ (List.getElem_mem hi)) _ (by omega) (by omega),Jy (fun y:zb=>zS y) hi]
  simp only[Option.bind_some,Int.natCast_add]
  by_cases c3:z - (xs.length:Int) - (qa (fun y:zb=>zS y) (xs.take i):Nat) < (zS (xs[i]):Nat)
  ·rw[if_pos c3,if_pos (by omega),if_neg (by simp;omega)]
  ·rw[if_neg c3,if_neg (by omega),if_pos (by simp;omega)]
   congr 2
   omega
 ·unfold ZS Qe
  rw[if_neg (by simp)]
  simp
theorem jw{xs:(List zb)}(h:zP xs≤1048576):xs.length≤1048576∧∀i (hi:i < xs.length),zS (xs[i])≤1048576:=by
 unfold zP at h
 refine⟨by omega,fun i hi=> ?_⟩
 have:=zce (fun y:zb=>zS y) hi
 omega
theorem zc7(xs:(List zb))(h:zP xs≤1048576):yS xs=some xs:=by
 obtain⟨hl,hs⟩:=jw h
 unfold yS
 rw[if_pos ⟨by omega,by omega⟩]
 simp only[Int.toNat_natCast]
 refine YK xs _ Qb (by omega) (fun kb ys i hi hy=> ?_) (fun kb ys=> ?_)
 ·unfold Z5
  simp only[zQ hi,zQ (show i < ys.length by omega),zd8 _ (hs i hi),Option.bind_some,Int.toNat_natCast,qO i _ hi (by omega)]
  rw[if_pos (by omega)]
 ·unfold Z5
  rw[if_neg (by omega)]
theorem zcX(xs ys:(List zb))(h:zP xs≤1048576):yZ xs ys=some (decide (xs=ys)):=by
 obtain⟨hl,hs⟩:=jw h
 unfold yZ
 split
 ·rename_i hl
  have:¬xs=ys:=fun e=>hl (by rw[e])
  simp[this]
 ·rename_i hl
  have hl:xs.length=ys.length:=by omega
  rw[ju (s0:=(0:Int)) (fun i=>(i:Int)) (fun i=>decide (xs[i]? =ys[i]?)) (some false) (some true) xs.length (by omega) (fun kb i hi=> ?_) (fun kb=> ?_) rfl,Jf hl]
  ·by_cases e:xs=ys<;>simp[e]
  ·unfold ZT
   simp only[zQ hi,zQ (show i < ys.length by omega),zd7 _ _ (hs i hi),Option.bind_some,qO i _ hi (by omega)]
   rw[if_pos (by omega),List.getElem?_eq_getElem hi,List.getElem?_eq_getElem (show i < ys.length by omega)]
   simp
  ·unfold ZT
   rw[if_neg (by omega)]
   rfl
def YU(xs:List zC):Bool:=decide (xs.length≤16)&&xs.all Jn
theorem zcl(a:zC):yl a=some (!Jn a):=by
 unfold yl;simp[zaa]
theorem kD(xs:List zC)(h:xs.length≤1048576):z3 xs=some (xs.any fun c=>!Jn c):=by
 unfold z3 qt
 rw[Yn xs (fun c=>!Jn c) (by omega) (fun kb i hi=> ?_) (fun kb=> ?_)]
 ·simp[J2]
 ·unfold qm
  simp only[zQ hi,zcl,Option.bind_some,qO i _ hi (by omega)]
  rw[if_pos (by omega)]
 ·unfold qm
  rw[if_neg (by omega)];rfl
theorem zgf{α:Type}(p:α→Bool)(xs:List α):(xs.any fun c=>!p c)= !xs.all p:=by rw[List.any_eq_not_all_not];simp
theorem zem(xs:List zC)(h:xs.length≤1048576):yr xs=some (YU xs):=by
 unfold yr YU
 simp only[kD _ h,zgf,Option.bind_some]
 by_cases c:xs.length≤16
 ·rw[if_pos (by omega)];simp[c]
 ·rw[if_neg (by omega)];simp[c]
def JH(xs:List zb)(i:Nat):Bool:=match xs[i]? with
 |some s=>qk s.Group 0 3&&(i == 0||(match xs[i - 1]? with|some p=>decide (p.Group < s.Group)|none=>true))&&YU s.Reads&&yA s.Writes&&qk s.Vote 0 2
 |none=>true
def jh(xs:List zb):Bool:=decide (xs.length≤4)&&(List.range xs.length).all (JH xs)
theorem zbO{R:Type}(s:zb)(kx:Unit→Option Bool)(h:s.Reads.length≤1048576):iter (j5 s kx) FU 0=if s.Reads.all Jn=true then kx () else some false:=by
 refine zdj s.Reads Jn (some false) (kx ()) (by omega) (fun kb i hi=> ?_) (fun kb=> ?_)
 ·unfold j5
  simp only[zQ hi,KC,Option.bind_some,qO i _ hi (by omega)]
  rw[if_pos (by omega)]
 ·unfold j5
  rw[if_neg (by omega)]
theorem XY(xs:List zb)(h:zP xs≤1048576):yU xs=some (jh xs):=by
  obtain⟨hl,hs⟩:=jw h
  unfold yU jh
  split
  · rename_i h1
    have:¬xs.length≤4:=by omega
    simp[this]
  · rename_i h1
    have h4:xs.length≤4:=by omega
    rw[ju (s0:=(0:Int)) (fun i=>(i:Int)) (JH xs) (some false) (some true) xs.length (by omega) (fun kb i hi=> ?_) (fun kb=> ?_) rfl]
    · simp only[h4,decide_true,Bool.true_and];split<;>simp_all
    · have hsi := hs i hi
      have hr:xs[i].Reads.length≤1048576:=by unfold zS at hsi;omega
      have hw:xs[i].Writes.length≤1048576:=by unfold zS at hsi;omega
      unfold ZW qg JH
      simp only[zQ hi,kG,X7 _ hw,zbO (R:=Bool) _ _ hr,qc,Option.bind_some,qO i _ hi (by omega),List.getElem?_eq_getElem hi,YU]
      rw[if_pos (by omega)]
      have e16:(16 < (xs[i].Reads.length:Int))↔¬xs[i].Reads.length≤16:=by omega
      simp only[e16]
      cases qk xs[i].Group 0 3<;>simp
      cases hwg:yA xs[i].Writes<;>cases hv:qk xs[i].Vote 0 2<;>by_cases c16:xs[i].Reads.length≤16<;>cases hall:xs[i].Reads.all Jn<;>
        (by_cases h0:0 < i
         · have h2 : IntKind.wrap .i64 ((i : Int) - 1) = ((i - 1 : Nat) : Int) := by rw [w64 (by omega) (by omega)]; omega
           have h3:i - 1 < xs.length:=by omega
           have h4:¬i=0:=by omega
           have h16:¬16 < xs[i].Reads.length↔xs[i].Reads.length≤16:=by omega
           simp only[h0,if_true,h2,zQ h3,Option.bind_some,List.getElem?_eq_getElem h3,h4,false_or]
           by_cases h5:xs[i].Group≤xs[i - 1].Group
           · have : ¬ xs[i - 1].Group < xs[i].Group := by omega
             simp[h5,this]
           · have : xs[i - 1].Group < xs[i].Group := by omega
             first
             |(simp[h5,this,c16];done)
             |(simp[h5,this,c16];intro hh;omega)
             |(simp[h5,this,c16,hall];done)
         · have h4 : i = 0 := by omega
           subst h4
           first
           |(simp[c16];done)
           |(simp[c16];intro hh;omega)
           |(simp[c16,hall];done))
    · unfold ZW
      rw[if_neg (by omega)];rfl
theorem Ke(xs:List zb)(h:zP xs≤1048576):yT xs=some (jh xs):=by
  obtain⟨hl,hs⟩:=jw h
  unfold yT jh
  rw[ju (s0:=(0:Int)) (fun i=>(i:Int)) (JH xs) (some false) (some (decide (xs.length≤4))) xs.length (by omega) (fun kb i hi=> ?_) (fun kb=> ?_) rfl]
  · split<;>simp_all
  · have hsi := hs i hi
    have hr:xs[i].Reads.length≤1048576:=by unfold zS at hsi;omega
    have hw:xs[i].Writes.length≤1048576:=by unfold zS at hsi;omega
    unfold Z3 qp JH
    simp only[zQ hi,zel,xI,X4 _ hw,zem _ hr,Option.bind_some,qO i _ hi (by omega),List.getElem?_eq_getElem hi]
    rw[if_pos (by omega)]
    cases qk xs[i].Group 0 3<;>simp
    cases hwg:yA xs[i].Writes<;>cases hv:qk xs[i].Vote 0 2<;>cases hrg:YU xs[i].Reads<;>
      (by_cases h0:0 < i
       · have h2 : IntKind.wrap .i64 ((i : Int) - 1) = ((i - 1 : Nat) : Int) := by rw [w64 (by omega) (by omega)]; omega
         have h3:i - 1 < xs.length:=by omega
         have h4:¬i=0:=by omega
         simp only[h0,if_true,h2,zQ h3,Option.bind_some,List.getElem?_eq_getElem h3,h4,false_or]
         by_cases h5:xs[i].Group≤xs[i - 1].Group
         · have : ¬ xs[i - 1].Group < xs[i].Group := by omega
           simp[h5,this]
         · have : xs[i - 1].Group < xs[i].Group := by omega
           simp[h5,this]
       · have h4 : i = 0 := by omega
         subst h4
         simp)
  · unfold Z3 ZZ
    rw[if_neg (by omega)]
    have:((xs.length:Int)≤4)↔xs.length≤4:=by omega
    simp[this]
theorem kg{xs:List zb}(H:jh xs=true):xs.length≤4∧∀s∈xs,qk s.Vote 0 2=true:=by
 unfold jh at H
 simp only[Bool.and_eq_true,decide_eq_true_eq,List.all_eq_true,List.mem_range] at H
 refine⟨H.1,fun s hs=> ?_⟩
 obtain⟨i,hi,rfl⟩:=List.mem_iff_getElem.1 hs
 have h:=H.2 i hi
 unfold JH at h
 simp only[List.getElem?_eq_getElem hi,Bool.and_eq_true] at h
 exact h.2
def qb(x:zp):Nat:=zP x.Shares
theorem zgh(x:zp)(h:Yv x)(z:Int)(h1:0≤z)(h2:z≤1048576):Ja x z=some (if z < (qb x:Int) then -1 else z - (qb x:Int)):=by
 unfold Yv at h
 obtain⟨o0,o1,o2,o3,o4⟩:=h
 unfold Ja qb
 rw[zcU x.Shares o4 _ (by omega) (by omega)]
 simp only[Option.bind_some]
 by_cases c0:z < (zP x.Shares:Int)
 ·rw[if_pos c0,if_pos (by omega)];try rw[if_pos (by omega)]
 rw[if_neg c0,if_neg (by omega)]
 try rw[if_neg (by omega)]
 try (congr 1;omega)
theorem zf4(x:zp)(h:qb x≤1048576):Jj x=some x:=by simp[Jj,zc7 _ (show zP x.Shares≤1048576 by unfold qb at h;omega)]
theorem zgg(x y:zp)(h:qb x≤1048576):Jl x y=some (decide (x=y)):=by
 unfold Jl
 simp only[zcX _ _ (show zP x.Shares≤1048576 by unfold qb at h;omega),Option.bind_some]
 cases x;cases y
 simp only[zp.mk.injEq]
 repeat' split
 all_goals simp_all
def zY(xs:(List zp)):Nat:=xs.length+qa (fun y:zp=>qb y) xs
theorem zeT(xs:(List zp))(h:(okS Yv) xs)(z:Int)(h1:0≤z)(h2:z≤1048576):Qq xs z=some (if z < (zY xs:Int) then -1 else z - (zY xs:Int)):=by
 unfold Qq
 have hm:=h.1
 have hw:IntKind.wrap .i64 (z - (xs.length:Int))=z - xs.length:=by unfold maxLen at hm;exact w64 (by omega) (by omega)
 rw[hw]
 have hsz:(zY xs:Int)=xs.length+(qa (fun y:zp=>qb y) xs:Nat):=by unfold zY;omega
 rw[hsz]
 by_cases c:z < xs.length
 ·rw[if_pos (by omega),if_pos (by omega)]
 rw[if_neg (by omega)]
 rw[kp (fun i=>(z - (xs.length:Int) - (qa (fun y:zp=>qb y) (xs.take i):Nat),(i:Int))) (fun i=>decide ((qa (fun y:zp=>qb y) (xs.take (i+1)):Int)≤z - xs.length)) (some (-1)) (some (z - (xs.length:Int) - (qa (fun y:zp=>qb y) xs:Nat))) xs.length (by omega) (fun kb i hi hp=> ?_) (fun kb hp=> ?_) (by simp[qa])]
 ·by_cases c2:z < xs.length+(qa (fun y:zp=>qb y) xs:Nat)
  ·rw[if_pos c2,if_neg]
   rw[Bool.not_eq_true,List.all_eq_false]
   cases hn:xs.length with
   |zero=>
    have:xs=[]:=List.eq_nil_of_length_eq_zero hn
    subst this
    simp[qa] at c2 c
    omega
   |succ n=>
    refine⟨n,by simp,?_⟩
    have:xs.take (n+1)=xs:=by rw[←hn];simp
    rw[this,decide_eq_true_eq]
    omega
  ·rw[if_neg c2,if_pos]
   ·congr 1;omega
   ·rw[List.all_eq_true]
    intro i hi
    have:=YS (fun y:zp=>qb y) xs (i+1)
    simp only[decide_eq_true_eq]
    omega
 ·have h0:(qa (fun y:zp=>qb y) (xs.take i):Int)≤z - xs.length:=by
   cases i with
   |zero=>simp[qa];omega
   |succ j=>have:=hp j (by omega);simpa using this
  unfold Q3
  simp only[zQ hi,Option.bind_some,qO i _ hi (by omega)]
  rw[if_pos (by omega),zgh xs[i] (h.2 _ (List.getElem_mem hi)) _ (by omega) (by omega),Jy (fun y:zp=>qb y) hi]
  simp only[Option.bind_some,Int.natCast_add]
  by_cases c3:z - (xs.length:Int) - (qa (fun y:zp=>qb y) (xs.take i):Nat) < (qb (xs[i]):Nat)
  ·rw[if_pos c3,if_pos (by omega),if_neg (by simp;omega)]
  ·rw[if_neg c3,if_neg (by omega),if_pos (by simp;omega)]
   congr 2
   omega
 ·unfold Q3 QY
  rw[if_neg (by simp)]
  simp
theorem yH{xs:(List zp)}(h:zY xs≤1048576):xs.length≤1048576∧∀i (hi:i < xs.length),qb (xs[i])≤1048576:=by
 unfold zY at h
 refine⟨by omega,fun i hi=> ?_⟩
 have:=zce (fun y:zp=>qb y) hi
 omega
theorem zeN(xs:(List zp))(h:zY xs≤1048576):Qr xs=some xs:=by
 obtain⟨hl,hs⟩:=yH h
 unfold Qr
 rw[if_pos ⟨by omega,by omega⟩]
 simp only[Int.toNat_natCast]
 refine YK xs _ Q1 (by omega) (fun kb ys i hi hy=> ?_) (fun kb ys=> ?_)
 ·unfold Q9
  simp only[zQ hi,zQ (show i < ys.length by omega),zf4 _ (hs i hi),Option.bind_some,Int.toNat_natCast,qO i _ hi (by omega)]
  rw[if_pos (by omega)]
 ·unfold Q9
  rw[if_neg (by omega)]
theorem zbZ(xs ys:(List zp))(h:zY xs≤1048576):Qn xs ys=some (decide (xs=ys)):=by
 obtain⟨hl,hs⟩:=yH h
 unfold Qn
 split
 ·rename_i hl
  have:¬xs=ys:=fun e=>hl (by rw[e])
  simp[this]
 ·rename_i hl
  have hl:xs.length=ys.length:=by omega
  rw[ju (s0:=(0:Int)) (fun i=>(i:Int)) (fun i=>decide (xs[i]? =ys[i]?)) (some false) (some true) xs.length (by omega) (fun kb i hi=> ?_) (fun kb=> ?_) rfl,Jf hl]
  ·by_cases e:xs=ys<;>simp[e]
  ·unfold Q0
   simp only[zQ hi,zQ (show i < ys.length by omega),zgg _ _ (hs i hi),Option.bind_some,qO i _ hi (by omega)]
   rw[if_pos (by omega),List.getElem?_eq_getElem hi,List.getElem?_eq_getElem (show i < ys.length by omega)]
   simp
  ·unfold Q0
   rw[if_neg (by omega)]
   rfl
theorem zfb(xs:List Int)(h:xs.length≤maxLen)(z:Int)(h1:0≤z)(h2:z≤1048576):QB xs z=some (if z < xs.length then -1 else z - xs.length):=by
 unfold QB
 have:IntKind.wrap .i64 (z - (xs.length:Int))=z - xs.length:=by unfold maxLen at h;exact w64 (by omega) (by omega)
 rw[this]
 split<;>split<;>first|rfl|omega
theorem zfh(xs:List Int)(h:xs.length≤1048576):QA xs=some xs:=by
 unfold QA
 rw[if_pos ⟨by omega,by omega⟩]
 simp only[Int.toNat_natCast]
 refine YK xs _ Jc (by omega) (fun kb ys i hi hy=> ?_) (fun kb ys=> ?_)
 ·unfold Jm
  simp only[zQ hi,zQ (show i < ys.length by omega),Option.bind_some,Int.toNat_natCast,qO i _ hi (by omega)]
  rw[if_pos (by omega)]
 ·unfold Jm
  rw[if_neg (by omega)]
theorem zcr(xs ys:List Int)(h:xs.length≤1048576):Qu xs ys=some (decide (xs=ys)):=by
 unfold Qu
 split
 ·rename_i hl
  have:¬xs=ys:=fun e=>hl (by rw[e])
  simp[this]
 ·rename_i hl
  have hl:xs.length=ys.length:=by omega
  rw[ju (s0:=(0:Int)) (fun i=>(i:Int)) (fun i=>decide (xs[i]? =ys[i]?)) (some false) (some true) xs.length (by omega) (fun kb i hi=> ?_) (fun kb=> ?_) rfl,Jf hl]
  ·by_cases e:xs=ys<;>simp[e]
  ·unfold QZ
   simp only[zQ hi,zQ (show i < ys.length by omega),Option.bind_some,qO i _ hi (by omega)]
   rw[if_pos (by omega),List.getElem?_eq_getElem hi,List.getElem?_eq_getElem (show i < ys.length by omega)]
   simp
  ·unfold QZ
   rw[if_neg (by omega)]
   rfl
def zW(x:zw):Nat:=zY x.Recs+x.Order.length
theorem zeo(x:zw)(h:YL x)(z:Int)(h1:0≤z)(h2:z≤1048576):ZB x z=some (if z < (zW x:Int) then -1 else z - (zW x:Int)):=by
 unfold YL at h
 obtain⟨o0,o1⟩:=h
 unfold ZB zW
 rw[zeT x.Recs o0 _ (by omega) (by omega)]
 simp only[Option.bind_some]
 by_cases c0:z < (zY x.Recs:Int)
 ·rw[if_pos c0,if_pos (by omega)];try rw[if_pos (by omega)]
 rw[if_neg c0,if_neg (by omega)]
 rw[zfb x.Order o1.1 _ (by omega) (by omega)]
 simp only[Option.bind_some]
 by_cases c1:z - (zY x.Recs:Int) < (x.Order.length:Int)
 ·rw[if_pos c1,if_pos (by omega)];try rw[if_pos (by omega)]
 rw[if_neg c1,if_neg (by omega)]
 try rw[if_neg (by omega)]
 try (congr 1;omega)
theorem zd2(x:zw)(h:zW x≤1048576):jy x=some x:=by simp[jy,zeN _ (show zY x.Recs≤1048576 by unfold zW at h;omega),zfh _ (show x.Order.length≤1048576 by unfold zW at h;omega)]
theorem zd4(x y:zw)(h:zW x≤1048576):qU x y=some (decide (x=y)):=by
 unfold qU
 simp only[zbZ _ _ (show zY x.Recs≤1048576 by unfold zW at h;omega),zcr _ _ (show x.Order.length≤1048576 by unfold zW at h;omega),Option.bind_some]
 cases x;cases y
 simp only[zw.mk.injEq]
 repeat' split
 all_goals simp_all
def j0(z:Int)(s:zb):Bool:=decide (s.Vote=z)
theorem zaA(xs:List zb)(z:Int)(h:xs.length≤1048576):jj xs z=some ((xs.countP (j0 z):Nat):Int):=by
 unfold jj
 refine jx (s0:=((0:Int),(0:Int))) (fun i=>((((xs.take i).countP (j0 z):Nat):Int),(i:Int))) _ xs.length (by omega) (fun kb i hi=> ?_) (fun kb=> ?_) (by simp)
 ·unfold ZR
  have hc:=zc9 (j0 z) xs i
  simp only[zQ hi,Option.bind_some,qO i _ hi (by omega),KI _ hi]
  rw[if_pos (by omega),w64 (by omega) (by omega)]
  by_cases c:xs[i].Vote=z
  ·simp[c,j0]
  ·simp[c,j0]
 ·unfold ZR Z6
  rw[if_neg (by simp)]
  simp
theorem zdX(xs:List zb)(z:Int)(h:xs.length≤1048576):jI xs z=some (xs.any (j0 z)):=by
 unfold jI qo qA
 rw[Yn xs (j0 z) (by omega) (fun kb i hi=> ?_) (fun kb=> ?_)]
 ·simp[J2]
 ·unfold qw Q4
  simp only[zQ hi,Option.bind_some,qO i _ hi (by omega)]
  rw[if_pos (by omega)]
  rfl
 ·unfold qw
  rw[if_neg (by omega)];rfl
theorem zgl(z:Int):Jr z=some (qk z 1 1000000000):=by simp[Jr,xI]
def JN(r:zp):Bool:=qk r.Client 0 1000000000&&qk r.Req 1 1000000000&&jh r.Shares&&
 (if r.State=1 then decide (r.Shares.length=0) else if r.State=2 then r.Shares.any (j0 0)&&!r.Shares.any (j0 2) else if r.State=3 then !r.Shares.any (j0 0)&&!r.Shares.any (j0 2) else decide (r.State=4))
theorem zdW(z:Int)(xs:List zb):(0 < ((xs.countP (j0 z):Nat):Int))↔xs.any (j0 z)=true:=by
 rw[List.any_eq_true]
 have:=List.countP_pos_iff (p:=j0 z) (l:=xs)
 constructor
 ·intro h;exact this.1 (by omega)
 ·intro h;have:=this.2 h;omega
theorem zcE(z:Int)(xs:List zb):(((xs.countP (j0 z):Nat):Int)=0)↔xs.any (j0 z)=false:=by
 have h1:=zdW z xs
 constructor
 ·intro h
  cases ha:xs.any (j0 z) with
  |true=>have:=h1.2 ha;omega
  |false=>rfl
 ·intro h
  have:¬(0 < ((xs.countP (j0 z):Nat):Int)):=fun e=>by have:=h1.1 e;rw[h] at this;cases this
  omega
theorem zfO{xs:List zb}(H:∀s∈xs,qk s.Vote 0 2=true):(((xs.countP (j0 1):Nat):Int)=(xs.length:Int))↔(xs.any (j0 0)=false∧xs.any (j0 2)=false):=by
 have e:(((xs.countP (j0 1):Nat):Int)=(xs.length:Int))↔xs.countP (j0 1)=xs.length:=by omega
 rw[e,List.countP_eq_length,List.any_eq_false,List.any_eq_false]
 constructor
 ·intro h
  refine⟨fun s hs=> ?_,fun s hs=> ?_⟩<;>have:=h s hs<;>unfold j0 at this ⊢<;>simp at this ⊢<;>omega
 ·intro⟨h1,h2⟩ s hs
  have a:=h1 s hs;have b:=h2 s hs;have c:=H s hs
  unfold j0 qk at *
  simp at a b c ⊢
  omega
theorem zc1(r:zp)(h:zP r.Shares≤1048576):yY r=some (JN r):=by
 obtain⟨hl,_⟩:=jw h
 unfold yY jP JN
 simp only[zek,kG,XY _ h,zaA _ _ hl,Option.bind_some,zdW,zcE]
 have hv:jh r.Shares=true→_:=fun hg=>zfO (kg hg).2
 generalize r.Shares.any (j0 0)=b0 at hv ⊢
 generalize r.Shares.any (j0 2)=b2 at hv ⊢
 generalize jh r.Shares=b4 at hv ⊢
 cases qk r.Client 0 1000000000
 ·simp
 cases qk r.Req 1 1000000000
 ·simp
 cases b4
 ·simp
 simp only[hv rfl]
 by_cases c1:r.State=1
 ·simp[c1]
 ·by_cases c2:r.State=2
  ·cases b0<;>cases b2<;>simp[c2]
  ·by_cases c3:r.State=3
   ·cases b0<;>cases b2<;>simp[c3]
   ·simp[c1,c2,c3]
theorem zf8(r:zp)(h:zP r.Shares≤1048576):Jg r=some (JN r):=by
 obtain⟨hl,_⟩:=jw h
 unfold Jg Zg JN
 simp only[zeF,zgl,Ke _ h,zdX _ _ hl,Option.bind_some]
 generalize r.Shares.any (j0 0)=b0
 generalize r.Shares.any (j0 2)=b2
 generalize jh r.Shares=b4
 cases qk r.Client 0 1000000000
 ·simp
 cases qk r.Req 1 1000000000
 ·simp
 cases b4
 ·simp
 by_cases c1:r.State=1
 ·simp[c1]
 ·by_cases c2:r.State=2
  ·cases b0<;>cases b2<;>simp[c2]
  ·by_cases c3:r.State=3
   ·cases b0<;>cases b2<;>simp[c3]
   ·simp[c1,c2,c3]
def J8(r q:zp):Bool:=decide (q.Client=r.Client)&&decide (q.Req=r.Req)
def XU(xs:List zp)(i:Nat):Bool:=match xs[i]? with
 |some r=>decide (r.Tx=(i:Int)+1)&&JN r&&!(xs.take i).any (J8 r)
 |none=>true
def JR(r:zp):Bool:=decide (r.State=3)
def Q2(rs:List zp)(os:List Int)(i:Nat):Bool:=match os[i]? with
 |some o=>qk o 1 rs.length&&(match rs[(o - 1).toNat]? with|some r=>JR r|none=>false)&&!(os.take i).any (fun z=>decide (o=z))
 |none=>true
def Qc(c:zw):Bool:=decide (c.Recs.length≤60)&&(List.range c.Recs.length).all (XU c.Recs)&&(List.range c.Order.length).all (Q2 c.Recs c.Order)&&decide (c.Recs.countP JR=c.Order.length)
theorem zcg(xs:List Int)(z:Int)(h:xs.length≤1048576):jX xs z=some (XS (fun y=>decide (z=y)) xs):=by
 unfold jX
 rw[Yn xs (fun y=>decide (z=y)) (by omega) (fun kb i hi=> ?_) (fun kb=> ?_)]
 ·unfold yi
  simp only[zQ hi,Option.bind_some,qO i _ hi (by omega)]
  rw[if_pos (by omega)]
  simp
 ·unfold yi
  rw[if_neg (by omega)];rfl
theorem KL(xs:List Int)(z:Int)(h:xs.length≤1048576):jp xs z=some (xs.any fun y=>decide (z=y)):=by
 unfold jp
 simp[zcg _ _ h,J2]
theorem ze5(xs:List Int)(z:Int)(h:xs.length≤1048576):Qy xs z=some (xs.any fun y=>decide (z=y)):=by
 unfold Qy
 rw[zcf xs (fun y=>decide (z=y)) (some true) (some false) (by omega) (fun kb i hi=> ?_) (fun kb=> ?_)]
 ·cases xs.any fun y=>decide (z=y)<;>simp
 ·unfold Ji
  simp only[zQ hi,Option.bind_some,qO i _ hi (by omega)]
  rw[if_pos (by omega)]
  by_cases c:xs[i]=z
  ·simp[c]
  ·have:¬z=xs[i]:=fun e=>c e.symm
   simp[c,this]
 ·unfold Ji
  rw[if_neg (by omega)];rfl
theorem kl(xs:List zp)(r:zp)(h:xs.length≤1048576):z6 xs r=some (xs.any (J8 r)):=by
 unfold z6 qB
 rw[Yn xs (J8 r) (by omega) (fun kb i hi=> ?_) (fun kb=> ?_)]
 ·simp[J2]
 ·unfold qx Qd J8
  simp only[zQ hi,Option.bind_some,qO i _ hi (by omega)]
  rw[if_pos (by omega)]
  by_cases c:xs[i].Client=r.Client<;>simp[c]
 ·unfold qx
  rw[if_neg (by omega)];rfl
theorem zaB(c:zw)(h:zW c≤1048576):Zu c=some (Qc c):=by
 have hR:zY c.Recs≤1048576:=by unfold zW at h;omega
 have hO:c.Order.length≤1048576:=by unfold zW at h;omega
 obtain⟨hl,hs⟩:=yH hR
 unfold Zu Qc
 split
 ·rename_i h1
  have:¬c.Recs.length≤60:=by omega
  simp[this]
 ·rename_i h1
  have h6:c.Recs.length≤60:=by omega
  rw[ju (s0:=((0:Int),(0:Int))) (fun i=>((((c.Recs.take i).countP JR:Nat):Int),(i:Int))) (XU c.Recs) (some false) (some ((List.range c.Order.length).all (Q2 c.Recs c.Order)&&decide (c.Recs.countP JR=c.Order.length))) c.Recs.length (by omega) (fun kb i hi=> ?_) (fun kb=> ?_) (by simp)]
  ·generalize (List.range c.Recs.length).all (XU c.Recs)=b1
   generalize (List.range c.Order.length).all (Q2 c.Recs c.Order)=b2
   cases b1<;>simp[h6]
  ·have hsi:zP c.Recs[i].Shares≤1048576:=by have:=hs i hi;unfold qb at this;omega
   have hc:=zc9 JR c.Recs i
   unfold Qg jM XU
   simp only[zQ hi,zf8 _ hsi,zak (Nat.le_of_lt hi),kl (c.Recs.take i) _ (by simp;omega),Option.bind_some,qO i _ hi (by omega),List.getElem?_eq_getElem hi,KI _ hi]
   rw[if_pos (by omega),w64 (by omega) (by omega)]
   have e1:((i+1:Nat):Int)=(i:Int)+1:=by omega
   rw[e1]
   generalize JN c.Recs[i]=b1
   generalize (List.take i c.Recs).any (J8 c.Recs[i])=b2
   by_cases c1:c.Recs[i].Tx=(i:Int)+1<;>cases b1<;>cases b2<;>by_cases c3:c.Recs[i].State=3<;>simp[c1,c3,JR]
  ·unfold Qg QE
   rw[if_neg (by omega)]
   rw[ju (s0:=(0:Int)) (fun i=>(i:Int)) (Q2 c.Recs c.Order) (some false) (some (decide (c.Recs.countP JR=c.Order.length))) c.Order.length (by omega) (fun kb i hi=> ?_) (fun kb=> ?_) rfl]
   ·generalize (List.range c.Order.length).all (Q2 c.Recs c.Order)=b2
    cases b2<;>simp
   ·unfold QG jO Q2
    simp only[zQ hi,xI,zak (Nat.le_of_lt hi),KL (c.Order.take i) _ (by simp;omega),Option.bind_some,qO i _ hi (by omega),List.getElem?_eq_getElem hi]
    rw[if_pos (by omega)]
    cases hw:qk c.Order[i] 1 (c.Recs.length:Int) with
    |false=>simp
    |true=>
     have hw':1≤c.Order[i]∧c.Order[i]≤c.Recs.length:=by unfold qk at hw;simpa using hw
     have hk:(c.Order[i] - 1).toNat < c.Recs.length:=by omega
     have e2:IntKind.wrap .i64 (c.Order[i] - 1)=(((c.Order[i] - 1).toNat:Nat):Int):=by rw[w64 (by omega) (by omega)];omega
     simp only[if_true,e2,zQ hk,Option.bind_some,List.getElem?_eq_getElem hk,Bool.true_and,JR]
     generalize (List.take i c.Order).any (fun y=>decide (c.Order[i]=y))=b2
     generalize c.Recs[(c.Order[i] - 1).toNat].State=z
     by_cases c3:z=3<;>cases b2<;>simp[c3]
   ·unfold QG QM
    rw[if_neg (by omega)]
    simp
    omega
theorem zaC(c:zw)(r:zp)(cnt:Int)(kx:Unit→Option Bool)(i:Nat)(hi:i < c.Recs.length)(hl:c.Recs.length≤1048576):
  iter (yk (cnt,(i:Int)) c r kx) FU 0=if (c.Recs.take i).any (J8 r)=true then some false else kx ():=by
 have hn:(c.Recs.take i).length=i:=by simp;omega
 refine zcf (c.Recs.take i) (J8 r) (some false) (kx ()) (by omega) (fun kb j hj=> ?_) (fun kb=> ?_)
 ·have hj':j < c.Recs.length:=by omega
  unfold yk ym J8
  simp only[zQ hj',Option.bind_some,qO j _ hj' (by omega),List.getElem_take]
  rw[if_pos (by omega)]
  by_cases c1:c.Recs[j].Client=r.Client<;>by_cases c2:c.Recs[j].Req=r.Req<;>simp[c1,c2]
 ·unfold yk
  rw[if_neg (by omega)]
theorem KH(c:zw)(h:zW c≤1048576):Zs c=some (Qc c):=by
 have hR:zY c.Recs≤1048576:=by unfold zW at h;omega
 have hO:c.Order.length≤1048576:=by unfold zW at h;omega
 obtain⟨hl,hs⟩:=yH hR
 have hcn:c.Recs.countP JR≤c.Recs.length:=List.countP_le_length
 unfold Zs Zb Qc
 split
 ·rename_i h1
  have:¬c.Recs.length≤60:=by omega
  simp[this]
 ·rename_i h1
  have h6:c.Recs.length≤60:=by omega
  by_cases hb:60 < (c.Order.length:Int)
  ·have:¬c.Recs.countP JR=c.Order.length:=by omega
   simp[hb,this]
  simp only[hb,decide_false,Bool.false_eq_true,if_false]
  rw[ju (s0:=((0:Int),(0:Int))) (fun i=>((((c.Recs.take i).countP JR:Nat):Int),(i:Int))) (XU c.Recs) (some false) (some ((List.range c.Order.length).all (Q2 c.Recs c.Order)&&decide (c.Recs.countP JR=c.Order.length))) c.Recs.length (by omega) (fun kb i hi=> ?_) (fun kb=> ?_) (by simp)]
  ·generalize (List.range c.Recs.length).all (XU c.Recs)=b1
   generalize (List.range c.Order.length).all (Q2 c.Recs c.Order)=b2
   cases b1<;>simp[h6]
  ·have hsi:zP c.Recs[i].Shares≤1048576:=by have:=hs i hi;unfold qb at this;omega
   have hc:=zc9 JR c.Recs i
   unfold ZU yu XU
   simp only[zQ hi,zc1 _ hsi,zaC c _ _ _ i hi hl,Option.bind_some,qO i _ hi (by omega),List.getElem?_eq_getElem hi,KI _ hi]
   unfold Z8 jr
   simp only[qO i _ hi (by omega)]
   rw[if_pos (by omega),w64 (by omega) (by omega)]
   have e1:((i+1:Nat):Int)=(i:Int)+1:=by omega
   rw[e1]
   generalize JN c.Recs[i]=b1
   generalize (List.take i c.Recs).any (J8 c.Recs[i])=b2
   by_cases c1:c.Recs[i].Tx=(i:Int)+1<;>cases b1<;>cases b2<;>by_cases c3:c.Recs[i].State=3<;>simp[c1,c3,JR]
  ·unfold ZU QL
   rw[if_neg (by omega)]
   rw[ju (s0:=(0:Int)) (fun i=>(i:Int)) (Q2 c.Recs c.Order) (some false) (some (decide (c.Recs.countP JR=c.Order.length))) c.Order.length (by omega) (fun kb i hi=> ?_) (fun kb=> ?_) rfl]
   ·generalize (List.range c.Order.length).all (Q2 c.Recs c.Order)=b2
    cases b2<;>simp
   ·unfold QI jK Q2
    simp only[zQ hi,kG,zak (Nat.le_of_lt hi),ze5 (c.Order.take i) _ (by simp;omega),Option.bind_some,qO i _ hi (by omega),List.getElem?_eq_getElem hi]
    rw[if_pos (by omega)]
    cases hw:qk c.Order[i] 1 (c.Recs.length:Int) with
    |false=>simp
    |true=>
     have hw':1≤c.Order[i]∧c.Order[i]≤c.Recs.length:=by unfold qk at hw;simpa using hw
     have hk:(c.Order[i] - 1).toNat < c.Recs.length:=by omega
     have e2:IntKind.wrap .i64 (c.Order[i] - 1)=(((c.Order[i] - 1).toNat:Nat):Int):=by rw[w64 (by omega) (by omega)];omega
     simp only[if_true,e2,zQ hk,Option.bind_some,List.getElem?_eq_getElem hk,Bool.true_and,JR]
     generalize (List.take i c.Order).any (fun y=>decide (c.Order[i]=y))=b2
     generalize c.Recs[(c.Order[i] - 1).toNat].State=z
     by_cases c3:z=3<;>cases b2<;>simp[c3]
   ·unfold QI QH
    rw[if_neg (by omega)]
    simp
    omega
theorem zck(xs:List Int)(h:xs.length≤1048576):jV xs=some xs:=by
 unfold jV ji
 split<;>first|(simp;done)|(simp;omega)
theorem zaE(xs:List zC)(h:xs.length≤1048576):jA xs=some xs:=by
 unfold jA qS
 split<;>first|(simp;done)|(simp;omega)
theorem zaL(xs:List zO)(h:xs.length≤1048576):jB xs=some xs:=by
 unfold jB qT
 split<;>first|(simp;done)|(simp;omega)
def JS{α:Type}(g:Nat→α)(xs:List α)(i:Nat):List α:=(List.range i).map g++xs.drop i
theorem Qw{α:Type}(g:Nat→α){xs:List α}{i:Nat}(h:i≤xs.length):(JS g xs i).length=xs.length:=by
 unfold JS
 simp
 omega
theorem xZ{α:Type}(g:Nat→α){xs:List α}{i:Nat}(h:i < xs.length):idx (JS g xs i) (i:Int)=some xs[i]:=by
 rw[zes]
 unfold JS
 rw[List.getElem?_append_right (by simp)]
 simp[h]
theorem xn{α:Type}(g:Nat→α){xs:List α}{i:Nat}(h:i < xs.length):(JS g xs i).set i (g i)=JS g xs (i+1):=by
 unfold JS
 rw[List.set_append,if_neg (by simp),List.range_succ,List.map_append,List.append_assoc]
 congr 1
 have e:i - ((List.range i).map g).length=0:=by simp
 rw[e,List.drop_eq_getElem_cons h]
 rfl
theorem YO{α:Type}(g:Nat→α)(xs:List α):JS g xs 0=xs:=by simp[JS]
theorem xM{α:Type}(g:Nat→α)(xs:List α):JS g xs xs.length=(List.range xs.length).map g:=by simp[JS]
theorem Qa{α:Type}{xs:List α}{i:Nat}{a:α}(h:i < xs.length):idx (xs.set i a) (i:Int)=some a:=by
 rw[zQ (by simpa using h)]
 simp
theorem YP{α:Type}(g:Nat→α){n i:Nat}(h:i < n):idx ((List.range n).map g) (i:Int)=some (g i):=by
 rw[zQ (by simpa using h)]
 simp
def ze6{α:Type}(xs:List α)(p:α→Bool)(k0:Nat):Nat→List α×Nat
 |0=>(xs,k0)
 |n+1=>match xs[k0+1+n]? with
  |some x=>if p x then ze6 xs p k0 n else((ze6 xs p k0 n).1.set (ze6 xs p k0 n).2 x,(ze6 xs p k0 n).2+1)
  |none=>ze6 xs p k0 n
theorem zcj(xs:List zb)(h:zP xs≤1048576):yq xs=some xs:=by
 obtain⟨hl,hs⟩:=jw h
 unfold yq
 refine jx (fun i=>(xs.take i,(i:Int))) _ xs.length (by omega) (fun kb i hi=> ?_) (fun kb=> ?_) (by simp)
 ·have hsz:=hs i hi
  unfold zS at hsz
  unfold Zl
  simp only[zQ hi,Option.bind_some,qO i _ hi (by omega)]
  rw[if_pos (by omega),if_pos (by omega),if_pos (by omega),if_pos (by simp;omega),List.take_succ_eq_append_getElem hi]
 ·unfold Zl Zi
  rw[if_neg (Int.lt_irrefl _),List.take_length]
theorem zbD(xs:List zb)(h:zP xs≤1048576):yb xs=some xs:=by
 obtain⟨hl,hs⟩:=jw h
 unfold yb
 refine jx (fun i=>(xs.take i,(i:Int))) _ xs.length (by omega) (fun kb i hi=> ?_) (fun kb=> ?_) (by simp)
 ·have hsz:=hs i hi
  unfold zS at hsz
  unfold yx
  simp only[zQ hi,Option.bind_some,qO i _ hi (by omega),zaE xs[i].Reads (by omega),zaL xs[i].Writes (by omega)]
  rw[if_pos (by omega),if_pos (by simp;omega),List.take_succ_eq_append_getElem hi]
 ·unfold yx yQ
  rw[if_neg (Int.lt_irrefl _),List.take_length]
theorem zd3(c:zw)(h:zW c≤1048576):ZE c=some c:=by
 have hR:zY c.Recs≤1048576:=by unfold zW at h;omega
 have hO:c.Order.length≤1048576:=by unfold zW at h;omega
 obtain⟨hl,hs⟩:=yH hR
 unfold ZE
 rw[if_pos (by omega)]
 refine jx (fun i=>((i:Int),c.Recs.take i)) _ c.Recs.length (by omega) (fun kb i hi=> ?_) (fun kb=> ?_) (by simp)
 ·have hsz:=hs i hi
  unfold qb at hsz
  unfold QD
  simp only[zQ hi,Option.bind_some,qO i _ hi (by omega),zcj c.Recs[i].Shares hsz]
  rw[if_pos (by omega),if_pos (by simp;omega),List.take_succ_eq_append_getElem hi]
 ·unfold QD QJ
  rw[if_neg (Int.lt_irrefl _),List.take_length]
theorem zcm(c:zw)(h:zW c≤1048576):yt c=some c:=by
 have hR:zY c.Recs≤1048576:=by unfold zW at h;omega
 have hO:c.Order.length≤1048576:=by unfold zW at h;omega
 obtain⟨hl,hs⟩:=yH hR
 unfold yt
 simp only[zck _ hO,Option.bind_some]
 refine jx (fun i=>((i:Int),c.Recs.take i)) _ c.Recs.length (by omega) (fun kb i hi=> ?_) (fun kb=> ?_) (by simp)
 ·have hsz:=hs i hi
  unfold qb at hsz
  unfold Zh
  simp only[zQ hi,Option.bind_some,qO i _ hi (by omega),zbD c.Recs[i].Shares hsz]
  rw[if_pos (by omega),if_pos (by simp;omega),List.take_succ_eq_append_getElem hi]
 ·unfold Zh Zm
  rw[if_neg (Int.lt_irrefl _),List.take_length]
theorem zaw{α:Type}(f:α→Nat):∀(xs:List α) (i:Nat) (y:α),(∀x,xs[i]? =some x→f y=f x)→qa f (xs.set i y)=qa f xs
 |[],_,_,_=>rfl
 |x::xs,0,y,h=>by simp[qa,h x rfl]
 |x::xs,i+1,y,h=>by
  simp only[List.set_cons_succ,qa]
  rw[zaw f xs i y (fun z hz=>h z (by simpa using hz))]
theorem zfa(xs:List zp)(i:Nat)(y:zp)(h:∀x,xs[i]? =some x→qb y=qb x):zY (xs.set i y)=zY xs:=by
 unfold zY
 rw[List.length_set,zaw _ xs i y h]
def Jd(m:Nat)(x y:Option (zw×Int)):Prop:=∃r:zw×Int,x=some r∧y=some r∧zY r.1.Recs≤m∧r.1.Order.length≤m
theorem Jd.zero{m:Nat}{z:Int}:Jd m (some (zw.mk [] [],z)) (some (zw.mk [] [],z)):=⟨_,rfl,rfl,by simp[zY,qa],by simp⟩
theorem Jd.same{c:zw}{z:Int}(h:zW c≤1048576):Jd 1048576 (some (c,z)) (some (c,z)):=by
 unfold zW at h
 exact⟨_,rfl,rfl,by simp only;omega,by simp only;omega⟩
theorem zaD{c:zw}(H:Qc c=true){i:Nat}(hi:i < c.Recs.length):JN c.Recs[i]=true:=by
 unfold Qc at H
 simp only[Bool.and_eq_true,decide_eq_true_eq,List.all_eq_true,List.mem_range] at H
 have h:=H.1.1.2 i hi
 unfold XU at h
 simp only[List.getElem?_eq_getElem hi,Bool.and_eq_true,decide_eq_true_eq] at h
 exact h.1.2
theorem zaM{c:zw}(H:Qc c=true):c.Recs.length≤60∧c.Order.length≤60:=by
 unfold Qc at H
 simp only[Bool.and_eq_true,decide_eq_true_eq] at H
 have:=List.countP_le_length (p:=JR) (l:=c.Recs)
 omega
def xd(g:Int)(s:zb):Bool:=decide (s.Group=g)&&decide (s.Vote=0)
def QO(p:zb→Bool)(xs:List zb):Nat→Int
 |0=>-1
 |i+1=>match xs[i]? with
  |some s=>if p s=true then(i:Int) else QO p xs i
  |none=>QO p xs i
theorem zaU(p:zb→Bool)(xs:List zb):∀i,-1≤QO p xs i∧QO p xs i < i
 |0=>by simp[QO]
 |i+1=>by
  have:=zaU p xs i
  unfold QO
  split
  ·split<;>omega
  ·omega
theorem xY{p:zb→Bool}{xs:List zb}:∀i,(∀j (hj:j < xs.length),j < i→p xs[j]=false)→QO p xs i= -1
 |0,_=>rfl
 |i+1,h=>by
  unfold QO
  cases e:xs[i]? with
  |none=>exact xY i fun j hj hi=>h j hj (by omega)
  |some s=>
   obtain⟨hl,rfl⟩:=List.getElem?_eq_some_iff.1 e
   simp only
   rw[if_neg (by rw[h i hl (by omega)];simp)]
   exact xY i fun j hj hi=>h j hj (by omega)
theorem xx{p:zb→Bool}{xs:List zb}{k:Nat}(hk:k < xs.length)(hp:p xs[k]=true):∀i,k < i→(∀j (hj:j < xs.length),k < j→j < i→p xs[j]=false)→QO p xs i=(k:Int)
 |0,h,_=>by omega
 |i+1,h,hn=>by
  unfold QO
  by_cases e:i=k
  ·subst e
   rw[List.getElem?_eq_getElem hk]
   simp only[hp,if_true]
  ·cases e1:xs[i]? with
   |none=>exact xx hk hp i (by omega) fun j hj h1 h2=>hn j hj h1 (by omega)
   |some s=>
    obtain⟨hl,rfl⟩:=List.getElem?_eq_some_iff.1 e1
    simp only
    rw[if_neg (by rw[hn i hl (by omega) (by omega)];simp)]
    exact xx hk hp i (by omega) fun j hj h1 h2=>hn j hj h1 (by omega)
theorem zef{xs:List zb}(h:jh xs=true):∀i j (hi:i < xs.length) (hj:j < xs.length),i < j→xs[i].Group < xs[j].Group:=by
 have step:∀i (hi:i+1 < xs.length),xs[i].Group < xs[i+1].Group:=by
  intro i hi
  unfold jh at h
  simp only[Bool.and_eq_true,List.all_eq_true] at h
  have:=h.2 (i+1) (List.mem_range.2 hi)
  unfold JH at this
  rw[List.getElem?_eq_getElem hi] at this
  simp only[Bool.and_eq_true,Bool.or_eq_true,beq_iff_eq] at this
  have:=this.1.1.1.2
  rw[Nat.add_sub_cancel,List.getElem?_eq_getElem (show i < xs.length by omega)] at this
  simpa using this
 intro i j hi hj hij
 obtain⟨d,rfl⟩:∃d,j=i+1+d:=⟨j - (i+1),by omega⟩
 induction d with
 |zero=>exact step i hj
 |succ d ih=>
  have h1:=ih (by omega) (by omega)
  have h2:=step (i+1+d) (by omega)
  have e:i+1+(d+1)=i+1+d+1:=by omega
  simp only[e]
  omega
theorem zda{xs:List zb}(h:jh xs=true)(g:Int):XS (xd g) xs=QO (xd g) xs xs.length:=by
 unfold XS
 cases e:xs.findIdx? (xd g) with
 |none=>
  rw[List.findIdx?_eq_none_iff] at e
  exact(xY _ fun j hj _=>e _ (List.getElem_mem hj)).symm
 |some k=>
  rw[List.findIdx?_eq_some_iff_getElem] at e
  obtain⟨hk,hp,_⟩:=e
  refine(xx hk hp _ hk fun j hj h1 _=> ?_).symm
  have:=zef h k j hk hj h1
  unfold xd at hp ⊢
  simp only[Bool.and_eq_true,decide_eq_true_eq] at hp
  rw[decide_eq_false (by omega)]
  rfl
theorem k9(xs:List zb)(g:Int)(h:xs.length≤1048576):z4 xs g=some (XS (xd g) xs):=by
 unfold z4
 rw[Yn xs (xd g) (by omega) (fun kb i hi=> ?_) (fun kb=> ?_)]
 ·unfold qf yM xd
  simp only[zQ hi,Option.bind_some,qO i _ hi (by omega)]
  rw[if_pos (by omega)]
  by_cases c:xs[i].Group=g<;>simp[c]
 ·unfold qf
  rw[if_neg (by omega)];rfl
theorem zb1(r:zp)(g:Int)(kx:Int→Option (zw×Int))(h:r.Shares.length≤1048576):iter (jT r g kx) FU ((-1),0)=kx (QO (xd g) r.Shares r.Shares.length):=by
 refine jx (fun i=>(QO (xd g) r.Shares i,(i:Int))) _ r.Shares.length (by omega) (fun kb i hi=> ?_) (fun kb=> ?_) rfl
 ·unfold jT jS
  simp only[zQ hi,Option.bind_some,qO i _ hi (by omega),QO,List.getElem?_eq_getElem hi]
  rw[if_pos (by omega)]
  unfold xd
  by_cases c1:r.Shares[i].Group=g<;>by_cases c2:r.Shares[i].Vote=0<;>simp[c1,c2]
 ·unfold jT
  rw[if_neg (by simp)]
theorem K9{r:zp}(h:JN r=true):jh r.Shares=true:=by
 unfold JN at h
 simp only[Bool.and_eq_true] at h
 exact h.1.2
theorem zd0(xs:List zb)(n:Nat)(hn:n < xs.length)(z:Int):zP (xs.set n (zb.mk xs[n].Group xs[n].Reads xs[n].Writes z))=zP xs:=by
 unfold zP
 rw[List.length_set,zaw _ xs n _ (fun x hx=>by
  rw[List.getElem?_eq_getElem hn,Option.some.injEq] at hx
  subst hx
  rfl)]
theorem zcc(c:zw)(k g:Int)(yes:Bool)(h:zW c≤1048576):Jd 1048576 (yj c k g yes) (jL c k g yes):=by
 have hR:zY c.Recs≤1048576:=by unfold zW at h;omega
 have hO:c.Order.length≤1048576:=by unfold zW at h;omega
 obtain⟨hl,hs⟩:=yH hR
 unfold yj jL J6
 simp only[KH _ h,zaB _ h,zd3 _ h,zcm _ h,kG,xI,Option.bind_some]
 cases hc:Qc c with
 |false=>exact Jd.zero
 |true=>
  simp only[if_true]
  have hlen:=zaM hc
  cases hw1:qk k 1 (c.Recs.length:Int) with
  |false=>
   simp only[Bool.false_eq_true,if_false]
   exact Jd.same h
  |true=>
   have hw':1≤k∧k≤c.Recs.length:=by unfold qk at hw1;simpa using hw1
   have hk:(k - 1).toNat < c.Recs.length:=by omega
   have e5:IntKind.wrap .i64 (k - 1)=(((k - 1).toNat:Nat):Int):=by rw[w64 (by omega) (by omega)];omega
   have hsg:=K9 (zaD hc hk)
   have hsl:c.Recs[(k - 1).toNat].Shares.length≤4:=(kg hsg).1
   simp only[if_true,e5,zQ hk,Option.bind_some,k9 _ _ (show c.Recs[(k - 1).toNat].Shares.length≤1048576 by omega),zb1 _ _ _ (show c.Recs[(k - 1).toNat].Shares.length≤1048576 by omega),zda hsg]
   unfold yO
   have hz:=zaU (xd g) c.Recs[(k - 1).toNat].Shares c.Recs[(k - 1).toNat].Shares.length
   generalize QO (xd g) c.Recs[(k - 1).toNat].Shares c.Recs[(k - 1).toNat].Shares.length=z at hz
   have over:Jd 1048576 (jq c yes c.Recs[(k - 1).toNat] z k true) (jv c yes c.Recs[(k - 1).toNat] z k true):=Jd.same h
   by_cases c1:c.Recs[(k - 1).toNat].State=2
   rotate_left
   ·rw[if_pos c1,if_pos c1];exact over
   rw[if_neg (fun hne=>hne c1),if_neg (fun hne=>hne c1)]
   by_cases c2:z < 0
   ·rw[decide_eq_true c2];exact over
   rw[decide_eq_false c2]
   obtain⟨n,rfl⟩:∃n:Nat,z=(n:Int):=⟨z.toNat,by omega⟩
   have hn:n < c.Recs[(k - 1).toNat].Shares.length:=by omega
   unfold jq jv jQ jW
   have hsz:=fun v=>zd0 c.Recs[(k - 1).toNat].Shares n hn v
   have hset:=fun(st:Int) (ss:List zb) (e:zP ss=zP c.Recs[(k - 1).toNat].Shares)=>zfa c.Recs (k - 1).toNat (zp.mk c.Recs[(k - 1).toNat].Tx c.Recs[(k - 1).toNat].Client c.Recs[(k - 1).toNat].Req st ss) (fun x hx=>by
    rw[List.getElem?_eq_getElem hk,Option.some.injEq] at hx
    subst hx
    exact e)
   simp only[Bool.false_eq_true,if_false,e5,zQ hn,Option.bind_some,Int.toNat_natCast,Qa hk,List.set_set]
   have hl2:∀v,(c.Recs[(k - 1).toNat].Shares.set n (zb.mk c.Recs[(k - 1).toNat].Shares[n].Group c.Recs[(k - 1).toNat].Shares[n].Reads c.Recs[(k - 1).toNat].Shares[n].Writes v)).length≤1048576:=fun v=>by rw[List.length_set];omega
   cases yes with
   |false=>
    simp only[Bool.false_eq_true,if_false]
    exact⟨_,rfl,rfl,by simp only;rw[hset _ _ (hsz 2)];exact hR,hO⟩
   |true=>
    simp only[if_true,zaA _ _ (hl2 1),zdX _ _ (hl2 1),Option.bind_some,zcE]
    cases hv:(c.Recs[(k - 1).toNat].Shares.set n (zb.mk c.Recs[(k - 1).toNat].Shares[n].Group c.Recs[(k - 1).toNat].Shares[n].Reads c.Recs[(k - 1).toNat].Shares[n].Writes 1)).any (j0 0) with
    |true=>
     simp only[Bool.true_eq_false,if_false,if_true]
     exact⟨_,rfl,rfl,by simp only;rw[hset _ _ (hsz 1)];exact hR,hO⟩
    |false=>
     simp only[Bool.false_eq_true,if_false,if_true]
     rw[if_pos (by simp;omega)]
     exact⟨_,rfl,rfl,by simp only;rw[hset _ _ (hsz 1)];exact hR,by simp;omega⟩
def ZC(k:Int):zC:=⟨k,k+1⟩
def QR(k:Int)(n:Nat):List zC:=(List.range n).map fun(i:Nat)=>ZC (k+2 * (i:Int))
theorem xc(k:Int)(n:Nat):(QR k n).length=n:=by simp[QR]
theorem zbM(xs:List zC)(k:Int)(h:xs.length≤1048576)(hk:0≤k)(hk':k≤1000000000000):j7 xs k=some (k+2 * (xs.length:Int),QR k xs.length):=by
 unfold j7
 refine jx (fun i=>(JS (fun(i:Nat)=>ZC (k+2 * (i:Int))) xs i,k+2 * (i:Int),(i:Int))) _ xs.length (by omega) (fun kb i hi=> ?_) (fun kb=> ?_) (by simp[YO])
 ·unfold yy
  have hl:=Qw (fun(i:Nat)=>ZC (k+2 * (i:Int))) (Nat.le_of_lt hi)
  have w1:IntKind.wrap .i64 (k+2 * (i:Int)+1)=k+2 * (i:Int)+1:=w64 (by omega) (by omega)
  have w2:IntKind.wrap .i64 (k+2 * (i:Int)+1+1)=k+2 * (i:Int)+2:=by rw[w64 (by omega) (by omega)];omega
  have e:k+2 * ((i+1:Nat):Int)=k+2 * (i:Int)+2:=by omega
  have hs:=xn (fun(i:Nat)=>ZC (k+2 * (i:Int))) hi
  have hx:=xZ (fun(i:Nat)=>ZC (k+2 * (i:Int))) hi
  show _=kb (JS (fun(i:Nat)=>ZC (k+2 * (i:Int))) xs (i+1),k+2 * ((i+1:Nat):Int),((i+1:Nat):Int))
  rw[←hs,e]
  generalize JS (fun(i:Nat)=>ZC (k+2 * (i:Int))) xs i=row at hl hx
  have hii:i < row.length:=by rw[hl];exact hi
  simp only[hx,Option.bind_some,Int.toNat_natCast,Qa hii,List.set_set,qO i _ hi (by omega),w1,w2,hl,ZC]
  rw[if_pos (by omega)]
 ·unfold yy yG
  have hl:=Qw (fun(i:Nat)=>ZC (k+2 * (i:Int))) (Nat.le_refl xs.length)
  rw[if_neg (by simp only[hl];omega),if_pos hl,xM]
  rfl
theorem zbB(n:Nat)(k:Int)(h:n≤1048576)(hk:0≤k)(hk':k≤1000000000000):yc (QR k n) k=some (k+2 * (n:Int)):=by
 unfold yc
 refine jx (fun i=>(k+2 * (i:Int),(i:Int))) _ n (by omega) (fun kb i hi=> ?_) (fun kb=> ?_) (by simp)
 ·unfold yJ
  have w1:IntKind.wrap .i64 (k+2 * (i:Int)+1)=k+2 * (i:Int)+1:=w64 (by omega) (by omega)
  have w2:IntKind.wrap .i64 (k+2 * (i:Int)+1+1)=k+2 * (i:Int)+2:=by rw[w64 (by omega) (by omega)];omega
  have e:k+2 * ((i+1:Nat):Int)=k+2 * (i:Int)+2:=by omega
  have hx:idx (QR k n) (i:Int)=some (ZC (k+2 * (i:Int))):=YP _ hi
  simp only[hx,Option.bind_some,qO i _ hi (by omega),w1,w2,ZC,xc,not_true,if_false,e]
  rw[if_pos (by omega)]
 ·unfold yJ yB
  rw[if_neg (by simp only[xc];omega)]
def Zv(k:Int):zO:=⟨k,k+1⟩
def QU(k:Int)(n:Nat):List zO:=(List.range n).map fun(i:Nat)=>Zv (k+2 * (i:Int))
theorem Y9(k:Int)(n:Nat):(QU k n).length=n:=by simp[QU]
theorem zbv(xs:List zO)(k:Int)(h:xs.length≤1048576)(hk:0≤k)(hk':k≤1000000000000):j9 xs k=some (k+2 * (xs.length:Int),QU k xs.length):=by
 unfold j9
 refine jx (fun i=>(JS (fun(i:Nat)=>Zv (k+2 * (i:Int))) xs i,k+2 * (i:Int),(i:Int))) _ xs.length (by omega) (fun kb i hi=> ?_) (fun kb=> ?_) (by simp[YO])
 ·unfold yK
  have hl:=Qw (fun(i:Nat)=>Zv (k+2 * (i:Int))) (Nat.le_of_lt hi)
  have w1:IntKind.wrap .i64 (k+2 * (i:Int)+1)=k+2 * (i:Int)+1:=w64 (by omega) (by omega)
  have w2:IntKind.wrap .i64 (k+2 * (i:Int)+1+1)=k+2 * (i:Int)+2:=by rw[w64 (by omega) (by omega)];omega
  have e:k+2 * ((i+1:Nat):Int)=k+2 * (i:Int)+2:=by omega
  have hs:=xn (fun(i:Nat)=>Zv (k+2 * (i:Int))) hi
  have hx:=xZ (fun(i:Nat)=>Zv (k+2 * (i:Int))) hi
  show _=kb (JS (fun(i:Nat)=>Zv (k+2 * (i:Int))) xs (i+1),k+2 * ((i+1:Nat):Int),((i+1:Nat):Int))
  rw[←hs,e]
  generalize JS (fun(i:Nat)=>Zv (k+2 * (i:Int))) xs i=row at hl hx
  have hii:i < row.length:=by rw[hl];exact hi
  simp only[hx,Option.bind_some,Int.toNat_natCast,Qa hii,List.set_set,qO i _ hi (by omega),w1,w2,hl,Zv]
  rw[if_pos (by omega)]
 ·unfold yK yI
  have hl:=Qw (fun(i:Nat)=>Zv (k+2 * (i:Int))) (Nat.le_refl xs.length)
  rw[if_neg (by simp only[hl];omega),if_pos hl,xM]
  rfl
theorem zbN(n:Nat)(k:Int)(h:n≤1048576)(hk:0≤k)(hk':k≤1000000000000):yg (QU k n) k=some (k+2 * (n:Int)):=by
 unfold yg
 refine jx (fun i=>(k+2 * (i:Int),(i:Int))) _ n (by omega) (fun kb i hi=> ?_) (fun kb=> ?_) (by simp)
 ·unfold yL
  have w1:IntKind.wrap .i64 (k+2 * (i:Int)+1)=k+2 * (i:Int)+1:=w64 (by omega) (by omega)
  have w2:IntKind.wrap .i64 (k+2 * (i:Int)+1+1)=k+2 * (i:Int)+2:=by rw[w64 (by omega) (by omega)];omega
  have e:k+2 * ((i+1:Nat):Int)=k+2 * (i:Int)+2:=by omega
  have hx:idx (QU k n) (i:Int)=some (Zv (k+2 * (i:Int))):=YP _ hi
  simp only[hx,Option.bind_some,qO i _ hi (by omega),w1,w2,Zv,Y9,not_true,if_false,e]
  rw[if_pos (by omega)]
 ·unfold yL yP
  rw[if_neg (by simp only[Y9];omega)]
def jg(x:zb):Nat:=2+2 * x.Reads.length+2 * x.Writes.length
def Kt(x:zb)(k:Int):zb:=zb.mk k (QR (k+1) x.Reads.length) (QU (k+1+2 * (x.Reads.length:Int)) x.Writes.length) (k+1+2 * (x.Reads.length:Int)+2 * (x.Writes.length:Int))
def Yg(xs:List zb)(k:Int)(i:Nat):zb:=match xs[i]? with
 |some x=>Kt x (k+(qa jg (xs.take i):Nat))
 |none=>zb.mk 0 [] [] 0
theorem zaV(xs:List zb)(k:Int){i:Nat}(hi:i < xs.length):Yg xs k i=Kt xs[i] (k+(qa jg (xs.take i):Nat)):=by
 unfold Yg
 rw[List.getElem?_eq_getElem hi]
def QQ(xs:List zb)(k:Int):List zb:=(List.range xs.length).map (Yg xs k)
theorem xe(xs:List zb)(k:Int):(QQ xs k).length=xs.length:=by simp[QQ]
theorem zaz:∀(xs:List zb),qa jg xs=2 * xs.length+2 * qa (fun y:zb=>zS y) xs
 |[]=>rfl
 |x::xs=>by
  have ih:=zaz xs
  simp only[qa,List.length_cons,ih,jg,zS]
  omega
theorem XQ{xs:List zb}:qa jg xs=2 * zP xs:=by
 rw[zaz];unfold zP;omega
theorem Xb{xs:List zb}(h:zP xs≤1048576)(i:Nat):qa jg (xs.take i)≤2097152:=by
 have h1:=YS jg xs i
 have h2:=@XQ xs
 omega
theorem zbs(xs:List zb)(k:Int)(h:zP xs≤1048576)(hk:0≤k)(hk':k≤1000000000):j6 xs k=some (k+(qa jg xs:Nat),QQ xs k):=by
 obtain⟨hl0,hs0⟩:=jw h
 unfold j6
 refine jx (fun i=>(JS (Yg xs k) xs i,k+(qa jg (xs.take i):Nat),(i:Int))) _ xs.length (by omega) (fun kb i hi=> ?_) (fun kb=> ?_) (by simp[YO,qa])
 ·unfold yE
  have hl:=Qw (Yg xs k) (Nat.le_of_lt hi)
  have hs:=xn (Yg xs k) hi
  have hx:=xZ (Yg xs k) hi
  have hb:=Xb h i
  have hsz:=hs0 i hi
  unfold zS at hsz
  have e:k+((qa jg (xs.take (i+1)):Nat):Int)=k+(qa jg (xs.take i):Nat)+1+2 * (xs[i].Reads.length:Int)+2 * (xs[i].Writes.length:Int)+1:=by
   rw[Jy jg hi];unfold jg;omega
  show _=kb (JS (Yg xs k) xs (i+1),k+((qa jg (xs.take (i+1)):Nat):Int),((i+1:Nat):Int))
  rw[←hs,e,zaV xs k hi]
  have hkk:0≤k+((qa jg (xs.take i):Nat):Int)∧k+((qa jg (xs.take i):Nat):Int)≤1100000000:=by omega
  generalize k+((qa jg (xs.take i):Nat):Int)=kk at hkk ⊢
  generalize JS (Yg xs k) xs i=row at hl hx ⊢
  have hii:i < row.length:=by rw[hl];exact hi
  have w1:IntKind.wrap .i64 (kk+1)=kk+1:=w64 (by omega) (by omega)
  have hR:=zbM xs[i].Reads (kk+1) (by omega) (by omega) (by omega)
  have hW:=zbv xs[i].Writes (kk+1+2 * (xs[i].Reads.length:Int)) (by omega) (by omega) (by omega)
  have w2:IntKind.wrap .i64 (kk+1+2 * (xs[i].Reads.length:Int)+2 * (xs[i].Writes.length:Int)+1)=kk+1+2 * (xs[i].Reads.length:Int)+2 * (xs[i].Writes.length:Int)+1:=w64 (by omega) (by omega)
  simp only[hx,Option.bind_some,Int.toNat_natCast,Qa hii,List.set_set,qO i _ hi (by omega),w1,hR,hW,w2,hl,Kt]
  rw[if_pos (by omega)]
 ·unfold yE yN
  have hl:=Qw (Yg xs k) (Nat.le_refl xs.length)
  rw[if_neg (by simp only[hl];omega),if_pos hl,xM,List.take_length]
  rfl
theorem zbF(xs:List zb)(k:Int)(h:zP xs≤1048576)(hk:0≤k)(hk':k≤1000000000):j8 (QQ xs k) k=some (k+(qa jg xs:Nat)):=by
 obtain⟨hl0,hs0⟩:=jw h
 unfold j8
 refine jx (fun i=>(k+(qa jg (xs.take i):Nat),(i:Int))) _ xs.length (by omega) (fun kb i hi=> ?_) (fun kb=> ?_) (by simp[qa])
 ·unfold yR
  have hx:idx (QQ xs k) (i:Int)=some (Yg xs k i):=YP _ hi
  have hb:=Xb h i
  have hsz:=hs0 i hi
  unfold zS at hsz
  have e:k+((qa jg (xs.take (i+1)):Nat):Int)=k+(qa jg (xs.take i):Nat)+1+2 * (xs[i].Reads.length:Int)+2 * (xs[i].Writes.length:Int)+1:=by
   rw[Jy jg hi];unfold jg;omega
  rw[e]
  rw[zaV xs k hi] at hx
  have hkk:0≤k+((qa jg (xs.take i):Nat):Int)∧k+((qa jg (xs.take i):Nat):Int)≤1100000000:=by omega
  generalize k+((qa jg (xs.take i):Nat):Int)=kk at hkk hx ⊢
  have w1:IntKind.wrap .i64 (kk+1)=kk+1:=w64 (by omega) (by omega)
  have hR:=zbB xs[i].Reads.length (kk+1) (by omega) (by omega) (by omega)
  have hW:=zbN xs[i].Writes.length (kk+1+2 * (xs[i].Reads.length:Int)) (by omega) (by omega) (by omega)
  have w2:IntKind.wrap .i64 (kk+1+2 * (xs[i].Reads.length:Int)+2 * (xs[i].Writes.length:Int)+1)=kk+1+2 * (xs[i].Reads.length:Int)+2 * (xs[i].Writes.length:Int)+1:=w64 (by omega) (by omega)
  simp only[hx,Option.bind_some,qO i _ hi (by omega),w1,hR,hW,w2,xe,Kt,not_true,if_false]
  rw[if_pos (by omega),if_neg (by omega),if_neg (by omega)]
 ·unfold yR yD
  rw[if_neg (by simp only[xe];omega),List.take_length]
def Jb(x:zp):Nat:=4+qa jg x.Shares
def zdT(x:zp)(k:Int):zp:=zp.mk k (k+1) (k+2) (k+3) (QQ x.Shares (k+4))
def KO(xs:List zp)(k:Int)(i:Nat):zp:=match xs[i]? with
 |some x=>zdT x (k+(qa Jb (xs.take i):Nat))
 |none=>zp.mk 0 0 0 0 []
theorem zdJ(xs:List zp)(k:Int){i:Nat}(hi:i < xs.length):KO xs k i=zdT xs[i] (k+(qa Jb (xs.take i):Nat)):=by
 unfold KO
 rw[List.getElem?_eq_getElem hi]
def Yb(xs:List zp)(k:Int):List zp:=(List.range xs.length).map (KO xs k)
theorem Qs(xs:List zp)(k:Int):(Yb xs k).length=xs.length:=by simp[Yb]
theorem zbX:∀(xs:List zp),qa Jb xs=4 * xs.length+2 * qa (fun y:zp=>qb y) xs
 |[]=>rfl
 |x::xs=>by
  have ih:=zbX xs
  have h:=@XQ x.Shares
  simp only[qa,List.length_cons,ih,Jb,qb,h]
  omega
theorem Yk{xs:List zp}(h:zY xs≤1048576)(i:Nat):qa Jb (xs.take i)≤4194304:=by
 have h1:=YS Jb xs i
 have h2:=zbX xs
 unfold zY at h
 omega
theorem zdi(xs:List zp)(k:Int)(h:zY xs≤1048576)(hk:0≤k)(hk':k≤100000000):y6 xs k=some (k+(qa Jb xs:Nat),Yb xs k):=by
 obtain⟨hl0,hs0⟩:=yH h
 unfold y6
 refine jx (fun i=>(JS (KO xs k) xs i,k+(qa Jb (xs.take i):Nat),(i:Int))) _ xs.length (by omega) (fun kb i hi=> ?_) (fun kb=> ?_) (by simp[YO,qa])
 ·unfold ZN
  have hl:=Qw (KO xs k) (Nat.le_of_lt hi)
  have hs:=xn (KO xs k) hi
  have hx:=xZ (KO xs k) hi
  have hb:=Yk h i
  have hsz:=hs0 i hi
  unfold qb at hsz
  have e:k+((qa Jb (xs.take (i+1)):Nat):Int)=k+(qa Jb (xs.take i):Nat)+4+(qa jg xs[i].Shares:Nat):=by
   rw[Jy Jb hi];unfold Jb;omega
  show _=kb (JS (KO xs k) xs (i+1),k+((qa Jb (xs.take (i+1)):Nat):Int),((i+1:Nat):Int))
  rw[←hs,e,zdJ xs k hi]
  have hkk:0≤k+((qa Jb (xs.take i):Nat):Int)∧k+((qa Jb (xs.take i):Nat):Int)≤110000000:=by omega
  generalize k+((qa Jb (xs.take i):Nat):Int)=kk at hkk ⊢
  generalize JS (KO xs k) xs i=row at hl hx ⊢
  have hii:i < row.length:=by rw[hl];exact hi
  have w1:IntKind.wrap .i64 (kk+1)=kk+1:=w64 (by omega) (by omega)
  have w2:IntKind.wrap .i64 (kk+1+1)=kk+2:=by rw[w64 (by omega) (by omega)];omega
  have w3:IntKind.wrap .i64 (kk+2+1)=kk+3:=by rw[w64 (by omega) (by omega)];omega
  have w4:IntKind.wrap .i64 (kk+3+1)=kk+4:=by rw[w64 (by omega) (by omega)];omega
  have hS:=zbs xs[i].Shares (kk+4) hsz (by omega) (by omega)
  simp only[hx,Option.bind_some,Int.toNat_natCast,Qa hii,List.set_set,qO i _ hi (by omega),w1,w2,w3,w4,hS,hl,zdT]
  rw[if_pos (by omega)]
 ·unfold ZN ZP
  have hl:=Qw (KO xs k) (Nat.le_refl xs.length)
  rw[if_neg (by simp only[hl];omega),if_pos hl,xM,List.take_length]
  rfl
theorem zdr(xs:List zp)(k:Int)(h:zY xs≤1048576)(hk:0≤k)(hk':k≤100000000):y0 (Yb xs k) k=some (k+(qa Jb xs:Nat)):=by
 obtain⟨hl0,hs0⟩:=yH h
 unfold y0
 refine jx (fun i=>(k+(qa Jb (xs.take i):Nat),(i:Int))) _ xs.length (by omega) (fun kb i hi=> ?_) (fun kb=> ?_) (by simp[qa])
 ·unfold ZK
  have hx:idx (Yb xs k) (i:Int)=some (KO xs k i):=YP _ hi
  have hb:=Yk h i
  have hsz:=hs0 i hi
  unfold qb at hsz
  have e:k+((qa Jb (xs.take (i+1)):Nat):Int)=k+(qa Jb (xs.take i):Nat)+4+(qa jg xs[i].Shares:Nat):=by
   rw[Jy Jb hi];unfold Jb;omega
  rw[e]
  rw[zdJ xs k hi] at hx
  have hkk:0≤k+((qa Jb (xs.take i):Nat):Int)∧k+((qa Jb (xs.take i):Nat):Int)≤110000000:=by omega
  generalize k+((qa Jb (xs.take i):Nat):Int)=kk at hkk hx ⊢
  have w1:IntKind.wrap .i64 (kk+1)=kk+1:=w64 (by omega) (by omega)
  have w2:IntKind.wrap .i64 (kk+1+1)=kk+2:=by rw[w64 (by omega) (by omega)];omega
  have w3:IntKind.wrap .i64 (kk+2+1)=kk+3:=by rw[w64 (by omega) (by omega)];omega
  have w4:IntKind.wrap .i64 (kk+3+1)=kk+4:=by rw[w64 (by omega) (by omega)];omega
  have hS:=zbF xs[i].Shares (kk+4) hsz (by omega) (by omega)
  simp only[hx,Option.bind_some,qO i _ hi (by omega),w1,w2,w3,w4,hS,Qs,zdT,not_true,if_false]
  rw[if_pos (by omega),if_neg (by omega)]
 ·unfold ZK Qh
  rw[if_neg (by simp only[Qs];omega),List.take_length]
def Yt(k:Int):Int:=k
def Yc(k:Int)(n:Nat):List Int:=(List.range n).map fun(i:Nat)=>Yt (k+1 * (i:Int))
theorem QC(k:Int)(n:Nat):(Yc k n).length=n:=by simp[Yc]
theorem zdk(xs:List Int)(k:Int)(h:xs.length≤1048576)(hk:0≤k)(hk':k≤1000000000000):Zc xs k=some (k+1 * (xs.length:Int),Yc k xs.length):=by
 unfold Zc
 refine jx (fun i=>(JS (fun(i:Nat)=>Yt (k+1 * (i:Int))) xs i,k+1 * (i:Int),(i:Int))) _ xs.length (by omega) (fun kb i hi=> ?_) (fun kb=> ?_) (by simp[YO])
 ·unfold ZO
  have hl:=Qw (fun(i:Nat)=>Yt (k+1 * (i:Int))) (Nat.le_of_lt hi)
  have w1:IntKind.wrap .i64 (k+1 * (i:Int)+1)=k+1 * (i:Int)+1:=w64 (by omega) (by omega)
  have e:k+1 * ((i+1:Nat):Int)=k+1 * (i:Int)+1:=by omega
  have hs:=xn (fun(i:Nat)=>Yt (k+1 * (i:Int))) hi
  have hx:=xZ (fun(i:Nat)=>Yt (k+1 * (i:Int))) hi
  show _=kb (JS (fun(i:Nat)=>Yt (k+1 * (i:Int))) xs (i+1),k+1 * ((i+1:Nat):Int),((i+1:Nat):Int))
  rw[←hs,e]
  generalize JS (fun(i:Nat)=>Yt (k+1 * (i:Int))) xs i=row at hl hx
  have hii:i < row.length:=by rw[hl];exact hi
  simp only[hx,Option.bind_some,Int.toNat_natCast,Qa hii,List.set_set,qO i _ hi (by omega),w1,hl,Yt]
  rw[if_pos (by omega)]
 ·unfold ZO ZQ
  have hl:=Qw (fun(i:Nat)=>Yt (k+1 * (i:Int))) (Nat.le_refl xs.length)
  rw[if_neg (by simp only[hl];omega),if_pos hl,xM]
  rfl
theorem zdn(n:Nat)(k:Int)(h:n≤1048576)(hk:0≤k)(hk':k≤1000000000000):Ze (Yc k n) k=some (k+1 * (n:Int)):=by
 unfold Ze
 refine jx (fun i=>(k+1 * (i:Int),(i:Int))) _ n (by omega) (fun kb i hi=> ?_) (fun kb=> ?_) (by simp)
 ·unfold Z4
  have w1:IntKind.wrap .i64 (k+1 * (i:Int)+1)=k+1 * (i:Int)+1:=w64 (by omega) (by omega)
  have e:k+1 * ((i+1:Nat):Int)=k+1 * (i:Int)+1:=by omega
  have hx:idx (Yc k n) (i:Int)=some (Yt (k+1 * (i:Int))):=YP _ hi
  simp only[hx,Option.bind_some,qO i _ hi (by omega),w1,Yt,QC,not_true,if_false,e]
  rw[if_pos (by omega)]
 ·unfold Z4 ZI
  rw[if_neg (by simp only[QC];omega)]
theorem XL(x:zw)(h1:zY x.Recs≤1048576)(h2:x.Order.length≤1048576):qZ x 1=some (1+(qa Jb x.Recs:Nat)+(x.Order.length:Int),zw.mk (Yb x.Recs 1) (Yc (1+(qa Jb x.Recs:Nat)) x.Order.length)):=by
 have hb:=Yk h1 x.Recs.length
 rw[List.take_length] at hb
 unfold qZ
 have e1:=zdi x.Recs 1 h1 (by omega) (by omega)
 have e2:=zdk x.Order (1+(qa Jb x.Recs:Nat)) h2 (by omega) (by omega)
 simp only[e1,Option.bind_some,e2,Qs,QC,if_true,Int.one_mul]
theorem zc0(x:zw)(h1:zY x.Recs≤1048576)(h2:x.Order.length≤1048576):∃r:Int×zw,qZ x 1=some r∧0≤r.1∧r.2.Recs.length=x.Recs.length∧r.2.Order.length=x.Order.length∧jN r.2 1=some r.1:=by
 have hb:=Yk h1 x.Recs.length
 rw[List.take_length] at hb
 refine⟨_,XL x h1 h2,by simp only;omega,by simp[Qs],by simp[QC],?_⟩
 unfold jN
 have e1:=zdr x.Recs 1 h1 (by omega) (by omega)
 have e2:=zdn x.Order.length (1+(qa Jb x.Recs:Nat)) h2 (by omega) (by omega)
 simp only[e1,Option.bind_some]
 rw[if_neg (by omega),e2]
 simp only[Option.bind_some,Int.one_mul]
 rw[if_neg (by omega)]
theorem zdv(x:zw)(h1:zY x.Recs≤1048576)(h2:x.Order.length≤1048576):∃r:Int×zw,qZ x 1=some r∧0≤r.1∧r.2.Recs.length=x.Recs.length∧r.2.Order.length=x.Order.length:=by
 have hb:=Yk h1 x.Recs.length
 rw[List.take_length] at hb
 exact⟨_,XL x h1 h2,by simp only;omega,by simp[Qs],by simp[QC]⟩
theorem zcH(x y:zw)(h1:zY x.Recs≤1048576)(h2:x.Order.length≤1048576):qU x y=some (decide (x=y)):=by
 unfold qU
 simp only[zbZ _ _ h1,zcr _ _ h2,Option.bind_some]
 cases x;cases y
 simp only[zw.mk.injEq]
 repeat' split
 all_goals simp_all
theorem ko(a1:zw)(a2 a3:Int)(a4:Bool)(h:YL a1)(h2:inK .i64 a2)(h3:inK .i64 a3)(h4:True):jG a1 a2 a3 a4=some true:=by
 unfold jG
 rw[zeo a1 h _ (by omega) (by omega)]
 simp only[Option.bind_some]
 split
 ·rfl
 ·rename_i h1
  have hl:zW a1≤1048576:=by omega
  have hh:=hl
  unfold zW at hh
  obtain⟨r,e1,e2,b1,b2⟩:=zcc a1 a2 a3 a4 hl
  obtain⟨m,g1,g2,g3,g4⟩:=zdv a1 (by omega) (by omega)
  obtain⟨m',k1,k2,k3,k4,k5⟩:=zc0 r.1 b1 b2
  have q1:¬m.1 < 0:=by omega
  have q2:¬m'.1 < 0:=by omega
  simp[zd2 _ hl,e1,e2,zd4 _ _ hl,zcH _ _ b1 b2,g1,g3,g4,q1,k1,k3,k4,k5,q2,qM,qu,qN]
end Go.AW
