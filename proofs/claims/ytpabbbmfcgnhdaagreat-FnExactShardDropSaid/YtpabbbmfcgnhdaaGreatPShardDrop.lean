/- Plain laws: what the plain functions answer. Conditions: each theorem's own. -/
import Derived.Test.YtpabbbmfcgnhdaaGreatMShardDrop
set_option linter.unusedVariables false
set_option linter.unusedSimpArgs false
set_option maxRecDepth 100000
namespace Go.AW
theorem w64{n:Int}(h1:-9223372036854775808≤n)(h2:n < 9223372036854775808):IntKind.wrap .i64 n=n:=by
 rw[IntKind.wrap_i64];omega
theorem zP{α:Type}{xs:List α}{i:Nat}(h:i < xs.length):idx xs (i:Int)=some xs[i]:=by
 unfold idx
 rw[if_pos (by omega)]
 simp[h]
theorem zgR{α:Type}(xs:List α)(i:Nat):idx xs (i:Int)=xs[i]?:=by
 unfold idx
 rw[if_pos (by omega)]
 simp
theorem zjJ{S R:Type}{f:(S→Option R)→S→Option R}(st:Nat→S)(stop:Nat→Option (Option R))(k:Option R)(n:Nat)
  (hs:∀kb i,i < n→(∀j,j < i→stop j=none)→f kb (st i)=match stop i with|some r=>r|none=>kb (st (i+1))) (he:∀kb,(∀j,j < n→stop j=none)→f kb (st n)=k):
  ∀(m i:Nat),i≤n→(∀j,j < i→stop j=none)→n - i < m→iter f m (st i)=match ((List.range n).drop i).findSome? stop with|some r=>r|none=>k
 |0,i,_,_,h=>by omega
 |m+1,i,hi,hp,h=>by
  unfold iter
  by_cases e:i=n
  ·subst e
   rw[he _ hp]
   simp[List.drop_eq_nil_of_le]
  ·have hlt:i < n:=by omega
   rw[hs _ i hlt hp,List.drop_eq_getElem_cons (by simpa using hlt)]
   simp only[List.getElem_range,List.findSome?_cons]
   cases hq:stop i with
   |some r=>rfl
   |none=>exact zjJ st stop k n hs he m (i+1) (by omega) (fun j hj=>by
     by_cases e':j=i
     ·subst e';exact hq
     ·exact hp j (by omega)) (by omega)
theorem zfo{S R:Type}{f:(S→Option R)→S→Option R}(st:Nat→S)(stop:Nat→Option (Option R))(k:Option R)(n:Nat)(hn:n≤1152921504606846976)
  (hs:∀kb i,i < n→(∀j,j < i→stop j=none)→f kb (st i)=match stop i with|some r=>r|none=>kb (st (i+1))) (he:∀kb,(∀j,j < n→stop j=none)→f kb (st n)=k) {s0:S} (h0:s0=st 0):
  iter f FU s0=match (List.range n).findSome? stop with|some r=>r|none=>k:=by
 subst h0
 have:=zjJ st stop k n hs he FU 0 (by omega) (fun j hj=>by omega) (by unfold FU;omega)
 simpa using this
theorem zb5{S R:Type}{f:(S→Option R)→S→Option R}(st:Nat→S)(stop:Nat→Option (Option R))(k:Option R)(n:Nat)(hn:n≤1152921504606846976)
  (hs:∀kb i,i < n→f kb (st i)=match stop i with|some r=>r|none=>kb (st (i+1))) (he:∀kb,f kb (st n)=k) {s0:S} (h0:s0=st 0):
  iter f FU s0=match (List.range n).findSome? stop with|some r=>r|none=>k:=
 zfo st stop k n hn (fun kb i hi _=>hs kb i hi) (fun kb _=>he kb) h0
theorem qM{S R:Type}{f:(S→Option R)→S→Option R}(st:Nat→S)(k:Option R)(n:Nat)(hn:n≤1152921504606846976)
  (hs:∀kb i,i < n→f kb (st i)=kb (st (i+1))) (he:∀kb,f kb (st n)=k) {s0:S} (h0:s0=st 0):iter f FU s0=k:=by
 rw[zb5 st (fun _=>none) k n hn (fun kb i hi=>hs kb i hi) he h0]
 have:(List.range n).findSome? (fun _=>(none:Option (Option R)))=none:=by
  rw[List.findSome?_eq_none_iff];intro x _;rfl
 rw[this]
theorem zcE{S R:Type}{f:(S→Option R)→S→Option R}(st:Nat→S)(good:Nat→Bool)(r k:Option R)(n:Nat)(hn:n≤1152921504606846976)
  (hs:∀kb i,i < n→(∀j,j < i→good j=true)→f kb (st i)=if good i=true then kb (st (i+1)) else r) (he:∀kb,(∀j,j < n→good j=true)→f kb (st n)=k) {s0:S} (h0:s0=st 0):
  iter f FU s0=if (List.range n).all good=true then k else r:=by
 have tr:∀j,(if good j=true then(none:Option (Option R)) else some r)=none→good j=true:=fun j h=>by
  split at h
  ·assumption
  ·cases h
 rw[zfo st (fun i=>if good i=true then none else some r) k n hn (fun kb i hi hp=>by rw[hs kb i hi (fun j hj=>tr j (hp j hj))];split<;>rfl) (fun kb hp=>he kb (fun j hj=>tr j (hp j hj))) h0]
 by_cases e:(List.range n).all good=true
 ·have:(List.range n).findSome? (fun i=>if good i=true then none else some r)=none:=by
   rw[List.findSome?_eq_none_iff]
   intro x hx
   rw[List.all_eq_true] at e
   simp[e x hx]
  rw[this,if_pos e]
 ·rw[if_neg e]
  cases h:(List.range n).findSome? (fun i=>if good i=true then none else some r) with
  |none=>
   exfalso
   apply e
   rw[List.all_eq_true]
   intro x hx
   rw[List.findSome?_eq_none_iff] at h
   exact tr x (h x hx)
  |some q=>
   obtain⟨x,hx,hq⟩:=List.exists_of_findSome?_eq_some h
   split at hq
   ·cases hq
   ·cases hq;rfl
theorem jT{S R:Type}{f:(S→Option R)→S→Option R}(st:Nat→S)(good:Nat→Bool)(r k:Option R)(n:Nat)(hn:n≤1152921504606846976)
  (hs:∀kb i,i < n→f kb (st i)=if good i=true then kb (st (i+1)) else r) (he:∀kb,f kb (st n)=k) {s0:S} (h0:s0=st 0):
  iter f FU s0=if (List.range n).all good=true then k else r:=
 zcE st good r k n hn (fun kb i hi _=>hs kb i hi) (fun kb _=>he kb) h0
theorem KA{α R:Type}{f:(List α×Int→Option R)→List α×Int→Option R}(xs:List α)(z:α)(k:List α→Option R)(hn:xs.length≤2147483648)
  (hs:∀kb (ys:List α) (i:Nat) (hi:i < xs.length),ys.length=xs.length→f kb (ys,(i:Int))=kb (ys.set i xs[i],((i+1:Nat):Int)))
  (he:∀kb (ys:List α),f kb (ys,(xs.length:Int))=k ys):iter f FU (List.replicate xs.length z,0)=k xs:=by
 refine qM (fun i=>(xs.take i++List.replicate (xs.length - i) z,(i:Int))) _ xs.length (by omega) (fun kb i hi=> ?_) (fun kb=> ?_) (by simp)
 ·rw[hs kb _ i hi (by simp;omega)]
  congr 2
  have:xs.length - i=(xs.length - (i+1))+1:=by omega
  have hk:min i xs.length=i:=by omega
  show _=(List.take (i+1) xs++_)
  rw[this,List.replicate_succ,List.set_append_right _ _ (by simp;omega),show List.take (i+1) xs=List.take i xs++[xs[i]] from List.take_succ_eq_append_getElem hi]
  simp only[List.length_take,hk,Nat.sub_self,List.set_cons_zero]
  rw[List.append_assoc]
  rfl
 ·rw[he]
  simp
theorem Y0{α:Type}[DecidableEq α]{xs ys:List α}(h:xs.length=ys.length):(List.range xs.length).all (fun i=>decide (xs[i]? =ys[i]?))=decide (xs=ys):=by
 by_cases e:xs=ys
 ·subst e;simp
 ·rw[decide_eq_false e,List.all_eq_false]
  apply Classical.byContradiction
  intro hc
  apply e
  apply List.ext_getElem?
  intro i
  by_cases hi:i < xs.length
  ·apply Classical.byContradiction
   intro hne
   exact hc ⟨i,List.mem_range.2 hi,by simpa using hne⟩
  ·rw[List.getElem?_eq_none (by omega),List.getElem?_eq_none (by omega)]
theorem qh(i:Nat)(n:Nat)(h:i < n)(hn:n≤1152921504606846976):IntKind.wrap .i64 ((i:Int)+1)=((i+1:Nat):Int):=by
 rw[w64 (by omega) (by omega)];omega
def zcl{α:Type}(p:α→Bool)(xs:List α):Int:=match xs.findIdx? p with
 |some k=>(k:Int)
 |none=>-1
theorem Zm{α:Type}(p:α→Bool)(xs:List α):decide (0≤zcl p xs)=xs.any p:=by
 unfold zcl
 cases h:xs.findIdx? p with
 |none=>
  rw[List.findIdx?_eq_none_iff] at h
  have:xs.any p=false:=by rw[List.any_eq_false];intro x hx;simp[h x hx]
  simp[this]
 |some k=>
  rw[List.findIdx?_eq_some_iff_getElem] at h
  obtain⟨hk,hp,_⟩:=h
  have:xs.any p=true:=List.any_eq_true.2 ⟨xs[k],List.getElem_mem hk,hp⟩
  simp[this]
theorem Qe{α:Type}(xs:List α)(p:α→Bool){f:(Int→Option Int)→Int→Option Int}(hn:xs.length≤1152921504606846976)
  (hs:∀kb (i:Nat) (hi:i < xs.length),f kb (i:Int)=if p xs[i]=true then some (i:Int) else kb ((i+1:Nat):Int)) (he:∀kb,f kb (xs.length:Int)=some (-1)):iter f FU 0=some (zcl p xs):=by
 rw[zb5 (s0:=(0:Int)) (fun i=>(i:Int)) (fun i:Nat=>(xs[i]?).bind fun x=>if p x=true then some (some (i:Int)) else none) (some (-1)) xs.length hn (fun kb i hi=> ?_) (fun kb=>he kb) rfl]
 ·have key:∀(ys:List α) (o:Nat),(List.range ys.length).findSome? (fun i:Nat=>(ys[i]?).bind fun x=>if p x=true then some (some ((o+i:Nat):Int)) else none)=(ys.findIdx? p).map fun k=>some ((o+k:Nat):Int):=by
   intro ys
   induction ys with
   |nil=>intro o;rfl
   |cons y ys ih=>
    intro o
    rw[List.length_cons,List.range_succ_eq_map,List.findSome?_cons,List.findSome?_map,List.findIdx?_cons]
    simp only[List.getElem?_cons_zero,Option.bind_some]
    by_cases e:p y=true
    ·simp[e]
    ·simp only[e,if_false,Function.comp_def,List.getElem?_cons_succ,Bool.false_eq_true]
     have:=ih (o+1)
     rw[show(fun i:Nat=>(ys[i]?).bind fun x=>if p x=true then some (some ((o+(i+1):Nat):Int)) else none)=fun i:Nat=>(ys[i]?).bind fun x=>if p x=true then some (some ((o+1+i:Nat):Int)) else none from by funext i;rw[show o+(i+1)=o+1+i by omega]]
     rw[this]
     cases ys.findIdx? p<;>simp;omega
  have:=key xs 0
  simp only[Nat.zero_add] at this
  rw[this]
  unfold zcl
  cases xs.findIdx? p<;>rfl
 ·rw[hs kb i hi,List.getElem?_eq_getElem hi]
  simp only[Option.bind_some]
  by_cases e:p xs[i]=true<;>simp[e]
theorem zgS{α:Type}(xs:List α)(p:α→Bool):((List.range xs.length).all fun i=>((xs[i]?).map p).getD true)=xs.all p:=by
 rw[Bool.eq_iff_iff,List.all_eq_true,List.all_eq_true]
 constructor
 ·intro H x hx
  obtain⟨i,hi,rfl⟩:=List.mem_iff_getElem.1 hx
  have:=H i (List.mem_range.2 hi)
  rw[List.getElem?_eq_getElem hi] at this
  exact this
 ·intro H i hi
  have hi:=List.mem_range.1 hi
  rw[List.getElem?_eq_getElem hi]
  exact H _ (List.getElem_mem hi)
theorem zfP{α R:Type}(xs:List α)(p:α→Bool)(r k:Option R){f:(Int→Option R)→Int→Option R}(hn:xs.length≤1152921504606846976)
  (hs:∀kb (i:Nat) (hi:i < xs.length),f kb (i:Int)=if p xs[i]=true then r else kb ((i+1:Nat):Int)) (he:∀kb,f kb (xs.length:Int)=k):iter f FU 0=if xs.any p=true then r else k:=by
 rw[jT (s0:=(0:Int)) (fun i=>(i:Int)) (fun i=>((xs[i]?).map fun x=>!p x).getD true) r k xs.length hn (fun kb i hi=> ?_) (fun kb=>he kb) rfl,zgS xs fun x=>!p x]
 ·cases h:xs.any p with
  |true=>
   have:(xs.all fun x=>!p x)=false:=by
    rw[List.all_eq_false];obtain⟨x,hx,hp⟩:=List.any_eq_true.1 h;exact⟨x,hx,by simp[hp]⟩
   simp[this]
  |false=>
   have:(xs.all fun x=>!p x)=true:=by
    rw[List.all_eq_true];intro x hx;rw[List.any_eq_false] at h;simp[h x hx]
   simp[this]
 ·rw[hs kb i hi,List.getElem?_eq_getElem hi]
  cases h:p xs[i]<;>simp[h]
theorem XE{α R:Type}(xs:List α)(p:α→Bool)(r k:Option R){f:(Int→Option R)→Int→Option R}(hn:xs.length≤1152921504606846976)
  (hs:∀kb (i:Nat) (hi:i < xs.length),f kb (i:Int)=if p xs[i]=true then kb ((i+1:Nat):Int) else r) (he:∀kb,f kb (xs.length:Int)=k):iter f FU 0=if xs.all p=true then k else r:=by
 rw[jT (s0:=(0:Int)) (fun i=>(i:Int)) (fun i=>((xs[i]?).map p).getD true) r k xs.length hn (fun kb i hi=> ?_) (fun kb=>he kb) rfl,zgS xs p]
 rw[hs kb i hi,List.getElem?_eq_getElem hi]
 rfl
def yd{α:Type}(f:α→Nat):List α→Nat
 |[]=>0
 |x::xs=>f x+yd f xs
theorem zbU{α:Type}(f:α→Nat):∀(xs ys:List α),yd f (xs++ys)=yd f xs+yd f ys
 |[],ys=>by simp[yd]
 |x::xs,ys=>by simp[yd,zbU f xs ys];omega
theorem XN{α:Type}(f:α→Nat){xs:List α}{i:Nat}(hi:i < xs.length):yd f (xs.take (i+1))=yd f (xs.take i)+f xs[i]:=by
 rw[List.take_succ_eq_append_getElem hi,zbU]
 simp[yd]
theorem Xw{α:Type}(f:α→Nat)(xs:List α)(i:Nat):yd f (xs.take i)≤yd f xs:=by
 have:=zbU f (xs.take i) (xs.drop i)
 rw[List.take_append_drop] at this
 omega
theorem zlb{α:Type}(f:α→Nat){xs:List α}{i:Nat}(hi:i < xs.length):f xs[i]≤yd f xs:=by
 have h1:=XN f hi
 have h2:=Xw f xs (i+1)
 omega
def qC(z lo hi:Int):Bool:=decide (lo≤z)&&decide (z≤hi)
theorem zcI(z lo hi:Int):yz z lo hi=some (qC z lo hi):=by
 unfold yz qC;by_cases h:lo≤z<;>simp[h]
theorem zaV(z lo hi:Int):yA z lo hi=some (qC z lo hi):=by
 unfold yA qC;by_cases h:lo≤z<;>simp[h]
theorem ziw(z:Int):JB z=some (qC z 0 999):=by simp[JB,zcI]
theorem zjC(z:Int):Y7 z=some (qC z 0 999):=by simp[Y7,zaV]
theorem zkv(z:Int):J4 z=some (qC z 0 1000000000):=by simp[J4,zcI]
theorem zkN(z:Int):Yj z=some (qC z 0 1000000000):=by simp[Yj,zaV]
theorem zhm(z:Int):Jf z=some (qC z 1 60):=by simp[Jf,zcI]
theorem zlH(z:Int):kG z=some (qC z 1 60):=by simp[kG,zaV]
def z8(a:ze):Bool:=decide (0≤a.Lo)&&decide (a.Lo < a.Hi)&&decide (a.Hi≤1000)
theorem yr(a:ze):qL a=some (z8 a):=by
 unfold qL z8;by_cases h:0≤a.Lo<;>by_cases h':a.Lo < a.Hi<;>simp[h,h']
theorem QE(a:ze):j7 a=some (z8 a):=by
 unfold j7 z8;by_cases h:0≤a.Lo<;>by_cases h':a.Lo < a.Hi<;>simp[h,h']
theorem zkd(z:Int):Yb z=some (qC z 0 3):=by simp[Yb,zaV]
theorem zfl(xs:List ze)(h:xs.length≤maxLen)(z:Int)(h1:0≤z)(h2:z≤1048576):ZV xs z=some (if z < xs.length then -1 else z - xs.length):=by
 unfold ZV
 have:IntKind.wrap .i64 (z - (xs.length:Int))=z - xs.length:=by unfold maxLen at h;exact w64 (by omega) (by omega)
 rw[this]
 split<;>split<;>first|rfl|omega
theorem zfO(xs:List ze)(h:xs.length≤1048576):ZU xs=some xs:=by
 unfold ZU
 rw[if_pos ⟨by omega,by omega⟩]
 simp only[Int.toNat_natCast]
 refine KA xs _ Y8 (by omega) (fun kb ys i hi hy=> ?_) (fun kb ys=> ?_)
 ·unfold xc
  simp only[zP hi,zP (show i < ys.length by omega),yU,Option.bind_some,Int.toNat_natCast,qh i _ hi (by omega)]
  rw[if_pos (by omega)]
 ·unfold xc
  rw[if_neg (by omega)]
theorem zj6(a b:ze):J8 a b=some (decide (a=b)):=by
 unfold J8
 cases a;cases b
 simp only[ze.mk.injEq]
 repeat' split
 all_goals simp_all
theorem zfe(xs ys:List ze)(h:xs.length≤1048576):ZW xs ys=some (decide (xs=ys)):=by
 unfold ZW
 split
 ·rename_i hl
  have:¬xs=ys:=fun e=>hl (by rw[e])
  simp[this]
 ·rename_i hl
  have hl:xs.length=ys.length:=by omega
  rw[jT (s0:=(0:Int)) (fun i=>(i:Int)) (fun i=>decide (xs[i]? =ys[i]?)) (some false) (some true) xs.length (by omega) (fun kb i hi=> ?_) (fun kb=> ?_) rfl,Y0 hl]
  ·by_cases e:xs=ys<;>simp[e]
  ·unfold YI
   simp only[zP hi,zP (show i < ys.length by omega),zj6,Option.bind_some,qh i _ hi (by omega)]
   rw[if_pos (by omega),List.getElem?_eq_getElem hi,List.getElem?_eq_getElem (show i < ys.length by omega)]
   simp
  ·unfold YI
   rw[if_neg (by omega)]
   rfl
def zcb(xs:List ze)(i:Nat):Bool:=match xs[i]? with
 |none=>true
 |some c=>z8 c&&(i == 0||match xs[i - 1]? with|some p=>decide (p.Hi≤c.Lo)|none=>true)
def qf(xs:List ze):Bool:=decide (xs.length≤16)&&(List.range xs.length).all (zcb xs)
theorem km(xs:List ze)(h:xs.length≤1048576):yy xs=some (qf xs):=by
 unfold yy qf
 split
 ·rename_i h1
  have:¬xs.length≤16:=by omega
  simp[this]
 ·rename_i h1
  have:xs.length≤16:=by omega
  rw[jT (s0:=(0:Int)) (fun i=>(i:Int)) (zcb xs) (some false) (some true) xs.length (by omega) (fun kb i hi=> ?_) (fun kb=> ?_) rfl]
  ·simp only[this,decide_true,Bool.true_and];split<;>simp_all
  ·unfold Y5 ZE zcb
   simp only[zP hi,yr,Option.bind_some,qh i _ hi (by omega),List.getElem?_eq_getElem hi]
   rw[if_pos (by omega)]
   cases z8 xs[i]<;>simp
   by_cases h0:0 < i
   ·have h2:IntKind.wrap .i64 ((i:Int) - 1)=((i - 1:Nat):Int):=by rw[w64 (by omega) (by omega)];omega
    have h3:i - 1 < xs.length:=by omega
    have h4:¬i=0:=by omega
    simp only[h0,if_true,h2,zP h3,Option.bind_some,List.getElem?_eq_getElem h3,h4,false_or]
    by_cases h5:xs[i].Lo < xs[i - 1].Hi
    ·have:¬xs[i - 1].Hi≤xs[i].Lo:=by omega
     simp[h5,this]
    ·have:xs[i - 1].Hi≤xs[i].Lo:=by omega
     simp[h5,this]
   ·have h4:i=0:=by omega
    simp[h4]
  ·unfold Y5
   rw[if_neg (by omega)];rfl
theorem X8(xs:List ze)(h:xs.length≤1048576):y8 xs=some (qf xs):=by
 unfold y8 qf
 rw[jT (s0:=(0:Int)) (fun i=>(i:Int)) (zcb xs) (some false) (some (decide (xs.length≤16))) xs.length (by omega) (fun kb i hi=> ?_) (fun kb=> ?_) rfl]
 ·split<;>simp_all
 ·unfold xo Zr zcb
  simp only[zP hi,QE,Option.bind_some,qh i _ hi (by omega),List.getElem?_eq_getElem hi]
  rw[if_pos (by omega)]
  cases z8 xs[i]<;>simp
  by_cases h0:0 < i
  ·have h2:IntKind.wrap .i64 ((i:Int) - 1)=((i - 1:Nat):Int):=by rw[w64 (by omega) (by omega)];omega
   have h3:i - 1 < xs.length:=by omega
   have h4:¬i=0:=by omega
   simp only[h0,if_true,h2,zP h3,Option.bind_some,List.getElem?_eq_getElem h3,h4,false_or]
   by_cases h5:xs[i].Lo < xs[i - 1].Hi
   ·have:¬xs[i - 1].Hi≤xs[i].Lo:=by omega
    simp[h5,this]
   ·have:xs[i - 1].Hi≤xs[i].Lo:=by omega
    simp[h5,this]
  ·have h4:i=0:=by omega
   simp[h4]
 ·unfold xo YQ
  rw[if_neg (by omega)]
  have:((xs.length:Int)≤16)↔xs.length≤16:=by omega
  simp[this]
theorem Jz{xs:List ze}(h:qf xs=true){i:Nat}(hi:i < xs.length):z8 xs[i]=true:=by
 unfold qf at h
 simp only[Bool.and_eq_true,List.all_eq_true] at h
 have:=h.2 i (List.mem_range.2 hi)
 unfold zcb at this
 rw[List.getElem?_eq_getElem hi] at this
 simp only[Bool.and_eq_true] at this
 exact this.1
theorem XU{xs:List ze}(h:qf xs=true):xs.length≤16:=by
 unfold qf at h;simp at h;exact h.1
def Kf(xs:List ze)(z:Int):Int:=xs.foldl (fun at_ b=>if b.Lo≤at_∧at_ < b.Hi then b.Hi else at_) z
def Zp(xs:List ze)(a:ze):Bool:=decide (a.Hi≤Kf xs a.Lo)
theorem zer{xs:List ze}{i:Nat}(hi:i < xs.length)(z:Int):Kf (xs.take (i+1)) z=if xs[i].Lo≤Kf (xs.take i) z∧Kf (xs.take i) z < xs[i].Hi then xs[i].Hi else Kf (xs.take i) z:=by
 unfold Kf
 rw[List.take_succ_eq_append_getElem hi,List.foldl_append]
 rfl
theorem zb9(xs:List ze)(a:ze)(h:xs.length≤1048576):yP xs a=some (Zp xs a):=by
 unfold yP Zp
 refine qM (fun i=>(Kf (xs.take i) a.Lo,(i:Int))) _ xs.length (by omega) (fun kb i hi=> ?_) (fun kb=> ?_) (by simp[Kf])
 ·unfold kp QL
  simp only[zP hi,Option.bind_some,qh i _ hi (by omega),zer hi]
  rw[if_pos (by omega)]
  generalize Kf (xs.take i) a.Lo=z
  by_cases c1:xs[i].Lo≤z<;>by_cases c2:z < xs[i].Hi<;>simp[c1,c2]
 ·unfold kp kc
  rw[if_neg (by simp)]
  simp
theorem Kq(xs:List ze)(a:ze)(h:xs.length≤1048576):jE xs a=some (qf xs&&z8 a&&Zp xs a):=by
 have J:yh xs a false=some (Zp xs a):=by
  unfold yh Zp
  rw[if_neg (by simp)]
  refine qM (fun i=>(Kf (xs.take i) a.Lo,(i:Int))) _ xs.length (by omega) (fun kb i hi=> ?_) (fun kb=> ?_) (by simp[Kf])
  ·unfold Ja Zl
   simp only[zP hi,Option.bind_some,qh i _ hi (by omega),zer hi]
   rw[if_pos (by omega)]
   generalize Kf (xs.take i) a.Lo=z
   by_cases c1:xs[i].Lo≤z<;>by_cases c2:z < xs[i].Hi<;>simp[c1,c2]
  ·unfold Ja Jd
   rw[if_neg (by simp)]
   simp
 have J2:yh xs a true=some false:=rfl
 unfold jE
 simp only[km _ h,yr,Option.bind_some]
 cases qf xs<;>cases z8 a<;>simp[J,J2]
def zim(xs:List Int)(i:Nat):Bool:=match xs[i]? with
 |none=>true
 |some c=>qC c 1 60&&(i == 0||match xs[i - 1]? with|some p=>decide (p < c)|none=>true)
def jR(xs:List Int):Bool:=(List.range xs.length).all (zim xs)
theorem zh4(xs:List Int)(h:xs.length≤1048576):Jx xs=some (jR xs):=by
 unfold Jx jR
 rw[jT (s0:=(0:Int)) (fun i=>(i:Int)) (zim xs) (some false) (some true) xs.length (by omega) (fun kb i hi=> ?_) (fun kb=> ?_) rfl]
 ·split<;>simp_all
 ·unfold kQ Qn zim
  simp only[zP hi,zhm,Option.bind_some,qh i _ hi (by omega),List.getElem?_eq_getElem hi]
  rw[if_pos (by omega)]
  cases qC xs[i] 1 60<;>simp
  by_cases h0:0 < i
  ·have h2:IntKind.wrap .i64 ((i:Int) - 1)=((i - 1:Nat):Int):=by rw[w64 (by omega) (by omega)];omega
   have h3:i - 1 < xs.length:=by omega
   have h4:¬i=0:=by omega
   simp only[h0,if_true,h2,zP h3,Option.bind_some,List.getElem?_eq_getElem h3,h4,false_or]
   by_cases h5:xs[i]≤xs[i - 1]
   ·have:¬xs[i - 1] < xs[i]:=by omega
    simp[h5,this]
   ·have:xs[i - 1] < xs[i]:=by omega
    simp[h5,this]
  ·have h4:i=0:=by omega
   simp[h4]
 ·unfold kQ
  rw[if_neg (by omega)];rfl
theorem zbk(xs:List Int)(h:xs.length≤1048576):yK xs=some (jR xs):=by
 unfold yK jR
 rw[jT (s0:=(0:Int)) (fun i=>(i:Int)) (zim xs) (some false) (some true) xs.length (by omega) (fun kb i hi=> ?_) (fun kb=> ?_) rfl]
 ·split<;>simp_all
 ·unfold JF yY zim
  simp only[zP hi,zlH,Option.bind_some,qh i _ hi (by omega),List.getElem?_eq_getElem hi]
  rw[if_pos (by omega)]
  cases qC xs[i] 1 60<;>simp
  by_cases h0:0 < i
  ·have h2:IntKind.wrap .i64 ((i:Int) - 1)=((i - 1:Nat):Int):=by rw[w64 (by omega) (by omega)];omega
   have h3:i - 1 < xs.length:=by omega
   have h4:¬i=0:=by omega
   simp only[h0,if_true,h2,zP h3,Option.bind_some,List.getElem?_eq_getElem h3,h4,false_or]
   by_cases h5:xs[i]≤xs[i - 1]
   ·have:¬xs[i - 1] < xs[i]:=by omega
    simp[h5,this]
   ·have:xs[i - 1] < xs[i]:=by omega
    simp[h5,this]
  ·have h4:i=0:=by omega
   simp[h4]
 ·unfold JF
  rw[if_neg (by omega)];rfl
theorem zcy{xs:List Int}(h:jR xs=true){i:Nat}(hi:i < xs.length):(1≤xs[i]∧xs[i]≤60)∧(0 < i→xs[i - 1]'(by omega) < xs[i]):=by
 unfold jR at h
 simp only[List.all_eq_true] at h
 have:=h i (List.mem_range.2 hi)
 unfold zim qC at this
 rw[List.getElem?_eq_getElem hi] at this
 simp only[Bool.and_eq_true,decide_eq_true_eq,Bool.or_eq_true,beq_iff_eq] at this
 refine⟨this.1,fun h0=> ?_⟩
 rcases this.2 with e|e
 ·omega
 ·rw[List.getElem?_eq_getElem (show i - 1 < xs.length by omega)] at e
  simpa using e
theorem zcS{xs:List Int}(h:jR xs=true):∀{i j:Nat} (hj:j < xs.length) (hij:i < j),xs[i]'(by omega) < xs[j]
 |i,j+1,hj,hij=>by
  have h1:=(zcy h hj).2 (by omega)
  simp only[Nat.add_sub_cancel] at h1
  by_cases e:i=j
  ·subst e;exact h1
  ·have:=zcS h (i:=i) (j:=j) (by omega) (by omega)
   omega
theorem zeY{xs:List Int}(h:jR xs=true):∀{j:Nat} (hj:j < xs.length),(j:Int)+1≤xs[j]
 |0,hj=>by have:=(zcy h hj).1.1;omega
 |j+1,hj=>by
  have h1:=zeY h (j:=j) (by omega)
  have h2:=zcS h hj (i:=j) (by omega)
  omega
theorem zcW{xs:List Int}(h:jR xs=true):xs.length≤60:=by
 by_cases e:xs.length=0
 ·omega
 ·have h1:=zeY h (j:=xs.length - 1) (by omega)
  have h2:=(zcy h (i:=xs.length - 1) (by omega)).1.2
  omega
theorem zal{xs:List Int}(h:jR xs=true):xs.Nodup:=by
 refine List.pairwise_iff_getElem.2 fun i j hi hj hij=> ?_
 have:=zcS h hj hij
 omega
theorem zhS(xs:List Int):(Go.Lib.compact xs).length=xs.length↔∀i (h:i+1 < xs.length),xs[i+1]≠xs[i]:=by
 unfold Go.Lib.compact Go.Lib.compactUpTo
 rw[List.length_map]
 have:(List.filter (Go.Lib.keeps xs.toArray) (List.range xs.length)).length=xs.length↔∀i∈List.range xs.length,Go.Lib.keeps xs.toArray i=true:=by
  have:=List.length_filter_eq_length_iff (l:=List.range xs.length) (p:=Go.Lib.keeps xs.toArray)
  rw[List.length_range] at this
  exact this
 rw[this]
 constructor
 ·intro H i hi
  have:=H (i+1) (List.mem_range.2 hi)
  unfold Go.Lib.keeps at this
  intro e
  have h1:xs.toArray[i+1]! =xs[i+1]:=by rw[getElem!_pos _ _ (by simpa using hi)];simp
  have h2:xs.toArray[i]! =xs[i]:=by rw[getElem!_pos _ _ (by simp;omega)];simp
  simp[h1,h2,e] at this
 ·intro H i hi
  have hi:=List.mem_range.1 hi
  unfold Go.Lib.keeps
  cases i with
  |zero=>simp
  |succ i=>
   have h1:xs.toArray[i+1]! =xs[i+1]:=by rw[getElem!_pos _ _ (by simpa using hi)];simp
   have h2:xs.toArray[i]! =xs[i]:=by rw[getElem!_pos _ _ (by simp;omega)];simp
   have:=H i hi
   simp[h1,h2,this]
theorem zhq{xs:List Int}(hs:xs.Pairwise (·≤·)):(∀i (h:i+1 < xs.length),xs[i+1]≠xs[i])↔xs.Nodup:=by
 constructor
 ·intro H
  have lt:∀{i j:Nat} (hj:j < xs.length) (hij:i < j),xs[i]'(by omega) < xs[j]:=by
   intro i j
   induction j with
   |zero=>intro _ h;omega
   |succ j ih=>
    intro hj hij
    have h1:=H j hj
    have h2:=List.pairwise_iff_getElem.1 hs j (j+1) (by omega) hj (by omega)
    by_cases e:i=j
    ·subst e;omega
    ·have:=ih (by omega) (by omega);omega
  refine List.pairwise_iff_getElem.2 fun i j hi hj hij=> ?_
  have:=lt hj hij
  omega
 ·intro H i hi e
  exact List.pairwise_iff_getElem.1 H i (i+1) (by omega) hi (by omega) e.symm
theorem zi6(zs:List Int):(zbM zs).Perm zs:=List.mergeSort_perm zs _
theorem zhd(zs:List Int):(zbM zs).Pairwise (·≤·):=by
 have:=List.pairwise_mergeSort (le:=fun x y:Int=>decide (x≤y)) (by intro a b c h1 h2;simp at *;omega) (by intro a b;simp;omega) zs
 exact this.imp fun h=>by simpa using h
theorem zhg(zs:List Int):(Go.Lib.compact (zbM zs)).length=zs.length↔zs.Nodup:=by
 rw[←KB zs,zhS,zhq (zhd zs)]
 exact(zi6 zs).nodup_iff
def Xq{α:Type}(g:Nat→α)(xs:List α)(i:Nat):List α:=(List.range i).map g++xs.drop i
theorem Js{α:Type}(g:Nat→α){xs:List α}{i:Nat}(h:i≤xs.length):(Xq g xs i).length=xs.length:=by
 unfold Xq
 simp
 omega
theorem zaH{α:Type}(g:Nat→α){xs:List α}{i:Nat}(h:i < xs.length):idx (Xq g xs i) (i:Int)=some xs[i]:=by
 rw[zgR]
 unfold Xq
 rw[List.getElem?_append_right (by simp)]
 simp[h]
theorem zaw{α:Type}(g:Nat→α){xs:List α}{i:Nat}(h:i < xs.length):(Xq g xs i).set i (g i)=Xq g xs (i+1):=by
 unfold Xq
 rw[List.set_append,if_neg (by simp),List.range_succ,List.map_append,List.append_assoc]
 congr 1
 have e:i - ((List.range i).map g).length=0:=by simp
 rw[e,List.drop_eq_getElem_cons h]
 rfl
theorem KE{α:Type}(g:Nat→α)(xs:List α):Xq g xs 0=xs:=by simp[Xq]
theorem zaJ{α:Type}(g:Nat→α)(xs:List α):Xq g xs xs.length=(List.range xs.length).map g:=by simp[Xq]
theorem xm{α:Type}{xs:List α}{i:Nat}{a:α}(h:i < xs.length):idx (xs.set i a) (i:Int)=some a:=by
 rw[zP (by simpa using h)]
 simp
theorem KD{α:Type}(g:Nat→α){n i:Nat}(h:i < n):idx ((List.range n).map g) (i:Int)=some (g i):=by
 rw[zP (by simpa using h)]
 simp
theorem zh3{α R:Type}{f:(List α×Int→Option R)→List α×Int→Option R}(xs:List α)(q:α→Bool)(k:List α→Option R)(hn:xs.length≤1048576)
  (hs:∀kb (ys:List α) (i:Nat) (hi:i < xs.length),ys.length≤i→f kb (ys,(i:Int))=if q xs[i]=true then kb (ys++[xs[i]],((i+1:Nat):Int)) else kb (ys,((i+1:Nat):Int)))
  (he:∀kb (ys:List α),f kb (ys,(xs.length:Int))=k ys):iter f FU ([],0)=k (xs.filter q):=by
 refine qM (fun i=>((xs.take i).filter q,(i:Int))) _ xs.length (by omega) (fun kb i hi=> ?_) (fun kb=> ?_) (by simp)
 ·rw[hs kb _ i hi (Nat.le_trans (List.length_filter_le _ _) (by simp;omega))]
  rw[List.take_succ_eq_append_getElem hi,List.filter_append]
  by_cases h:q xs[i]=true<;>simp[h]
 ·rw[he,List.take_length]
def Xc{α:Type}(xs:List α)(p:α→Bool)(k0:Nat):Nat→List α×Nat
 |0=>(xs,k0)
 |n+1=>match xs[k0+1+n]? with
  |some x=>if p x then Xc xs p k0 n else((Xc xs p k0 n).1.set (Xc xs p k0 n).2 x,(Xc xs p k0 n).2+1)
  |none=>Xc xs p k0 n
theorem zdM{α:Type}(xs:List α)(p:α→Bool)(k0:Nat)(hk:k0 < xs.length)(h0:(xs.take (k0+1)).filter (fun x=>!p x)=xs.take k0):∀n,k0+1+n≤xs.length→
  (Xc xs p k0 n).1.length=xs.length∧(Xc xs p k0 n).2 < k0+1+n∧(Xc xs p k0 n).1.take (Xc xs p k0 n).2=(xs.take (k0+1+n)).filter (fun x=>!p x)∧∀m,k0+1+n≤m→(Xc xs p k0 n).1[m]? =xs[m]?
 |0,h=>by
  refine⟨rfl,by simp[Xc],?_,fun m _=>rfl⟩
  simp only[Xc,Nat.add_zero]
  rw[h0]
 |n+1,h=>by
  obtain⟨h1,h2,h3,h4⟩:=zdM xs p k0 hk h0 n (by omega)
  have hlt:k0+1+n < xs.length:=by omega
  simp only[Xc,List.getElem?_eq_getElem hlt]
  have ht:(xs.take (k0+1+(n+1))).filter (fun x=>!p x)=(xs.take (k0+1+n)).filter (fun x=>!p x)++(if p xs[k0+1+n]=true then[] else[xs[k0+1+n]]):=by
   rw[show k0+1+(n+1)=(k0+1+n)+1 by omega,List.take_succ_eq_append_getElem hlt,List.filter_append]
   congr 1
   by_cases c:p xs[k0+1+n]=true<;>simp[c]
  by_cases c:p xs[k0+1+n]=true
  ·simp only[c,if_true]
   refine⟨h1,by omega,by rw[ht,c];simpa using h3,fun m hm=>h4 m (by omega)⟩
  ·simp only[c,Bool.false_eq_true,if_false]
   refine⟨by simpa using h1,by omega,?_,fun m hm=> ?_⟩
   ·rw[ht,←h3]
    rw[if_neg c,List.take_succ_eq_append_getElem (by rw[List.length_set,h1];omega),List.take_set_of_le (Nat.le_refl _)]
    simp
   ·rw[List.getElem?_set_ne (by omega)]
    exact h4 m (by omega)
theorem zln{α R:Type}{f:(List α×Int×Int→Option R)→List α×Int×Int→Option R}(xs:List α)(p:α→Bool)(k:List α→Nat→Option R)(hn:xs.length≤1048576)(k0:Nat)(hk:k0 < xs.length)(h0:(xs.take (k0+1)).filter (fun x=>!p x)=xs.take k0)
  (hs:∀kb (ys:List α) (i j:Nat) (hj:j < xs.length),i < j→ys.length=xs.length→ys[j]? =some xs[j]→f kb (ys,(i:Int),(j:Int))=if p xs[j]=true then kb (ys,(i:Int),((j+1:Nat):Int)) else kb (ys.set i xs[j],((i+1:Nat):Int),((j+1:Nat):Int)))
  (he:∀kb (ys:List α) (i:Nat),i≤xs.length→ys.length=xs.length→f kb (ys,(i:Int),(xs.length:Int))=k ys i):
  ∃ys,ys.length=xs.length∧(xs.filter fun x=>!p x).length≤xs.length∧ys.take (xs.filter fun x=>!p x).length=xs.filter (fun x=>!p x)∧iter f FU (xs,(k0:Int),((k0+1:Nat):Int))=k ys (xs.filter fun x=>!p x).length:=by
 obtain⟨h1,h2,h3,_⟩:=zdM xs p k0 hk h0 (xs.length - (k0+1)) (by omega)
 rw[show k0+1+(xs.length - (k0+1))=xs.length by omega,List.take_length] at h3
 rw[show k0+1+(xs.length - (k0+1))=xs.length by omega] at h2
 have hl:(Xc xs p k0 (xs.length - (k0+1))).2=(xs.filter fun x=>!p x).length:=by
  rw[←h3,List.length_take,h1];omega
 refine⟨_,h1,List.length_filter_le _ _,by rw[←hl];exact h3,?_⟩
 rw[←hl]
 refine qM (fun n=>((Xc xs p k0 n).1,((Xc xs p k0 n).2:Int),((k0+1+n:Nat):Int))) _ (xs.length - (k0+1)) (by omega) (fun kb n hlt=> ?_) (fun kb=> ?_) (by simp[Xc])
 ·obtain⟨g1,g2,g3,g4⟩:=zdM xs p k0 hk h0 n (by omega)
  have hj:k0+1+n < xs.length:=by omega
  show f kb ((Xc xs p k0 n).1,((Xc xs p k0 n).2:Int),((k0+1+n:Nat):Int))=kb ((Xc xs p k0 (n+1)).1,((Xc xs p k0 (n+1)).2:Int),((k0+1+(n+1):Nat):Int))
  rw[hs kb _ _ _ hj g2 g1 (by rw[g4 _ (Nat.le_refl _),List.getElem?_eq_getElem hj])]
  have e:Xc xs p k0 (n+1)=if p xs[k0+1+n]=true then Xc xs p k0 n else((Xc xs p k0 n).1.set (Xc xs p k0 n).2 xs[k0+1+n],(Xc xs p k0 n).2+1):=by
   simp only[Xc,List.getElem?_eq_getElem hj]
  rw[e]
  by_cases c:p xs[k0+1+n]=true
  ·simp only[c,if_true];rfl
  ·simp only[c,Bool.false_eq_true,if_false];rfl
 ·show f kb ((Xc xs p k0 (xs.length - (k0+1))).1,((Xc xs p k0 (xs.length - (k0+1))).2:Int),((k0+1+(xs.length - (k0+1)):Nat):Int))=_
  rw[show k0+1+(xs.length - (k0+1))=xs.length by omega]
  exact he kb _ _ (by omega) h1
theorem zlh{α:Type}{p:α→Bool}{xs:List α}(e:zcl p xs= -1):xs.filter (fun x=>!p x)=xs:=by
 unfold zcl at e
 split at e
 ·omega
 ·rename_i h
  rw[List.findIdx?_eq_none_iff] at h
  rw[List.filter_eq_self]
  intro x hx
  simp[h x hx]
theorem zkh{α:Type}{p:α→Bool}{xs:List α}(e:¬zcl p xs= -1):∃k:Nat,zcl p xs=(k:Int)∧k < xs.length∧(xs.take (k+1)).filter (fun x=>!p x)=xs.take k:=by
 unfold zcl at e ⊢
 split
 ·rename_i k h
  rw[List.findIdx?_eq_some_iff_getElem] at h
  obtain⟨hk,hp,hb⟩:=h
  refine⟨k,rfl,hk,?_⟩
  rw[List.take_succ_eq_append_getElem hk,List.filter_append,List.filter_eq_self.2 ?_]
  ·simp[hp]
  ·intro x hx
   obtain⟨j,hj,rfl⟩:=List.getElem_of_mem hx
   have hj':j < k:=by simp at hj;omega
   have:=hb j hj'
   simp only[List.getElem_take]
   simpa using this
 ·rename_i h
  rw[h] at e
  exact absurd rfl e
theorem ziV{α:Type}{ys:List α}{i:Nat}(zs ws:List α)(h:i≤ys.length):List.take i (List.take i ys++zs++ws)=List.take i ys:=by
 rw[List.append_assoc,List.take_append_of_le_length (by simp;omega),List.take_take,Nat.min_self]
def kW(xs:List zn)(i:Nat):Bool:=match xs[i]? with
 |none=>true
 |some c=>qC c.Key 0 999&&qC c.Value 0 1000000000&&(i == 0||match xs[i - 1]? with|some p=>decide (p.Key < c.Key)|none=>true)
def qP(xs:List zn):Bool:=decide (xs.length≤60)&&(List.range xs.length).all (kW xs)
theorem Yr(xs:List zn)(h:xs.length≤1048576):ZK xs=some (qP xs):=by
 unfold ZK qP
 split
 ·rename_i h1
  have:¬xs.length≤60:=by omega
  simp[this]
 ·rename_i h1
  have:xs.length≤60:=by omega
  rw[jT (s0:=(0:Int)) (fun i=>(i:Int)) (kW xs) (some false) (some true) xs.length (by omega) (fun kb i hi=> ?_) (fun kb=> ?_) rfl]
  ·simp only[this,decide_true,Bool.true_and];split<;>simp_all
  ·unfold kl Zf kW
   simp only[zP hi,ziw,zkv,Option.bind_some,qh i _ hi (by omega),List.getElem?_eq_getElem hi]
   rw[if_pos (by omega)]
   cases qC xs[i].Key 0 999<;>simp
   cases qC xs[i].Value 0 1000000000<;>simp
   by_cases h0:0 < i
   ·have h2:IntKind.wrap .i64 ((i:Int) - 1)=((i - 1:Nat):Int):=by rw[w64 (by omega) (by omega)];omega
    have h3:i - 1 < xs.length:=by omega
    have h4:¬i=0:=by omega
    simp only[h0,if_true,h2,zP h3,Option.bind_some,List.getElem?_eq_getElem h3,h4,false_or]
    by_cases h5:xs[i].Key≤xs[i - 1].Key
    ·have:¬xs[i - 1].Key < xs[i].Key:=by omega
     simp[h5,this]
    ·have:xs[i - 1].Key < xs[i].Key:=by omega
     simp[h5,this]
   ·have h4:i=0:=by omega
    simp[h4]
  ·unfold kl
   rw[if_neg (by omega)];rfl
theorem KY(xs:List zn)(h:xs.length≤1048576):ZJ xs=some (qP xs):=by
 unfold ZJ qP
 rw[jT (s0:=(0:Int)) (fun i=>(i:Int)) (kW xs) (some false) (some (decide (xs.length≤60))) xs.length (by omega) (fun kb i hi=> ?_) (fun kb=> ?_) rfl]
 ·split<;>simp_all
 ·unfold xX Zg kW
  simp only[zP hi,zjC,zkN,Option.bind_some,qh i _ hi (by omega),List.getElem?_eq_getElem hi]
  rw[if_pos (by omega)]
  cases qC xs[i].Key 0 999<;>simp
  cases qC xs[i].Value 0 1000000000<;>simp
  by_cases h0:0 < i
  ·have h2:IntKind.wrap .i64 ((i:Int) - 1)=((i - 1:Nat):Int):=by rw[w64 (by omega) (by omega)];omega
   have h3:i - 1 < xs.length:=by omega
   have h4:¬i=0:=by omega
   simp only[h0,if_true,h2,zP h3,Option.bind_some,List.getElem?_eq_getElem h3,h4,false_or]
   by_cases h5:xs[i].Key≤xs[i - 1].Key
   ·have:¬xs[i - 1].Key < xs[i].Key:=by omega
    simp[h5,this]
   ·have:xs[i - 1].Key < xs[i].Key:=by omega
    simp[h5,this]
  ·have h4:i=0:=by omega
   simp[h4]
 ·unfold xX ki
  rw[if_neg (by omega)]
  have:((xs.length:Int)≤60)↔xs.length≤60:=by omega
  simp[this]
def asc(xs:List zn):Prop:=∀i j (hi:i < xs.length) (hj:j < xs.length),i < j→xs[i].Key < xs[j].Key
theorem zdc{xs:List zn}(h:qP xs=true):xs.length≤60:=by
 unfold qP at h;simp at h;exact h.1
theorem zdb{xs:List zn}(h:qP xs=true){i:Nat}(hi:i < xs.length):kW xs i=true:=by
 unfold qP at h
 simp only[Bool.and_eq_true,List.all_eq_true] at h
 exact h.2 i (List.mem_range.2 hi)
theorem zgl{xs:List zn}(h:qP xs=true){i:Nat}(hi:i < xs.length):0≤xs[i].Key∧xs[i].Key≤999∧0≤xs[i].Value∧xs[i].Value≤1000000000:=by
 have:=zdb h hi
 unfold kW qC at this
 rw[List.getElem?_eq_getElem hi] at this
 simp only[Bool.and_eq_true,decide_eq_true_eq] at this
 exact⟨this.1.1.1,this.1.1.2,this.1.2.1,this.1.2.2⟩
theorem zgi{xs:List zn}(h:qP xs=true):asc xs:=by
 have step:∀i (hi:i+1 < xs.length),xs[i].Key < xs[i+1].Key:=by
  intro i hi
  have:=zdb h hi
  unfold kW at this
  rw[List.getElem?_eq_getElem hi] at this
  simp only[Bool.and_eq_true,Nat.add_sub_cancel,List.getElem?_eq_getElem (show i < xs.length by omega)] at this
  simpa using this.2
 intro i j hi hj hlt
 induction j with
 |zero=>omega
 |succ j ih=>
  by_cases e:i=j
  ·subst e;exact step i hj
  ·have:=ih (by omega) (by omega)
   have:=step j hj
   omega
theorem mid{a b:Nat}(h:a < b)(hb:b≤1048576):IntKind.wrap .i64 (Int.fdiv (IntKind.wrap .u64 (IntKind.wrap .i64 ((a:Int)+(b:Int)))) (2 ^ (min (Int.toNat 1) (IntKind.bits .u64))))=(((a+b) / 2:Nat):Int):=by
 rw[w64 (n:=(a:Int)+b) (by omega) (by omega)]
 have h1:IntKind.wrap .u64 ((a:Int)+b)=(a:Int)+b:=by
  unfold IntKind.wrap
  simp only[IntKind.bits,IntKind.signed]
  simp
  omega
 rw[h1]
 have h2:(min (Int.toNat 1) (IntKind.bits .u64))=1:=by decide
 rw[h2]
 have h3:((a:Int)+b).fdiv (2 ^ 1)=(((a+b) / 2:Nat):Int):=by
  rw[Int.fdiv_eq_ediv_of_nonneg _ (by decide)]
  omega
 rw[h3]
 exact w64 (by omega) (by omega)
theorem zko(xs:List zn)(k:Int)(hs:asc xs)(hl:xs.length≤1048576)(hk:∀i (hi:i < xs.length),-1000000000000≤xs[i].Key∧xs[i].Key≤1000000000000)(h1:-9000000000000000000≤k)(h2:k≤9000000000000000000):
  ∃p:Nat,p≤xs.length∧(∀i (hi:i < xs.length),i < p↔xs[i].Key < k)∧Yi xs k=some ((p:Int),decide ((xs[p]?).map (·.Key)=some k)):=by
 have hc:∀i (hi:i < xs.length),ZB xs[i] k=some (xs[i].Key - k):=fun i hi=>by
  unfold ZB
  have:=hk i hi
  rw[w64 (by omega) (by omega)]
 have loop:∀(m lo hi:Nat),lo≤hi→hi≤xs.length→hi - lo < m→(∀i (h:i < xs.length),i < lo→xs[i].Key < k)→(∀i (h:i < xs.length),hi≤i→¬xs[i].Key < k)→
   ∃p:Nat,p≤xs.length∧(∀i (hi:i < xs.length),i < p↔xs[i].Key < k)∧
    iter (qb xs k (zV xs k)) m ((lo:Int),(hi:Int))=zV xs k (p:Int):=by
  intro m
  induction m with
  |zero=>intro lo hi _ _ h;omega
  |succ m ih=>
   intro lo hi hle hhi hm hlow hhigh
   unfold iter
   unfold qb
   by_cases e:lo=hi
   ·subst e
    refine⟨lo,hhi,fun i h=>⟨hlow i h,fun hlt=> ?_⟩,?_⟩
    ·apply Classical.byContradiction
     intro hn
     exact hhigh i h (by omega) hlt
    ·rw[if_neg (by simp)]
   ·have hlt:lo < hi:=by omega
    rw[if_pos (by simp;omega)]
    simp only[mid hlt (show hi≤1048576 by omega)]
    have hmid:(lo+hi) / 2 < xs.length:=by omega
    rw[zP hmid]
    simp only[Option.bind_some,hc _ hmid]
    by_cases hv:xs[(lo+hi) / 2].Key - k < 0
    ·rw[if_pos hv,qh ((lo+hi) / 2) (xs.length) hmid (by omega)]
     refine ih ((lo+hi) / 2+1) hi (by omega) hhi (by omega) (fun i h hi'=> ?_) hhigh
     by_cases e2:i=(lo+hi) / 2
     ·subst e2;omega
     ·have:=hs i ((lo+hi) / 2) h hmid (by omega);omega
    ·rw[if_neg hv]
     refine ih lo ((lo+hi) / 2) (by omega) (by omega) (by omega) hlow (fun i h hi'=> ?_)
     by_cases e2:i=(lo+hi) / 2
     ·subst e2;omega
     ·have:=hs ((lo+hi) / 2) i hmid h (by omega);omega
 obtain⟨p,hp,hiff,hit⟩:=loop FU 0 xs.length (by omega) (by omega) (by unfold FU;omega) (fun i h h0=>by omega) (fun i h h0=>by omega)
 refine⟨p,hp,hiff,?_⟩
 unfold Yi qx
 have hit:iter (qb xs k (zV xs k)) FU (0,(xs.length:Int))=_:=hit
 rw[hit]
 unfold zV
 by_cases e:p < xs.length
 ·rw[if_pos (by omega),zP e]
  simp only[Option.bind_some,hc p e,List.getElem?_eq_getElem e,Option.map_some]
  congr 2
  rw[decide_eq_decide]
  simp
  omega
 ·rw[if_neg (by omega),List.getElem?_eq_none (by omega)]
  simp
theorem zbR{α β:Type}:∀(xs:List α) (g:α→Option β),(List.range xs.length).findSome? (fun i=>(xs[i]?).bind g)= xs.findSome? g
 |[],_=>rfl
 |x::xs,g=>by
  rw[List.length_cons,List.range_succ_eq_map,List.findSome?_cons,List.findSome?_cons,List.findSome?_map]
  simp only[List.getElem?_cons_zero,Option.bind_some]
  cases g x with
  |some y=>rfl
  |none=>
   simp only[Function.comp_def,List.getElem?_cons_succ]
   exact zbR xs g
def K9(xs:List zn)(k:Int):Int:=match xs.find? fun c=>decide (c.Key=k) with
 |some c=>c.Value
 |none=>-1
theorem zk1(xs:List zn)(k:Int)(hl:xs.length≤1048576):xz xs k=some (K9 xs k):=by
 unfold xz
 rw[zb5 (s0:=(0:Int)) (fun i=>(i:Int)) (fun i:Nat=>match xs[i]? with|some c=>if c.Key=k then some (some c.Value) else none|none=>none) (some (-1)) xs.length (by omega) (fun kb i hi=> ?_) (fun kb=> ?_) rfl]
 ·have:∀ys:List zn,ys.findSome? (fun c=>if c.Key=k then some (some c.Value) else none)=(ys.find? fun c=>decide (c.Key=k)).map fun c=>some c.Value:=by
   intro ys
   induction ys with
   |nil=>rfl
   |cons y ys ih=>
    simp only[List.findSome?_cons,List.find?_cons]
    by_cases e:y.Key=k
    ·simp[e]
    ·simp[e,ih]
  have h2:(List.range xs.length).findSome? (fun i:Nat=>match xs[i]? with|some c=>if c.Key=k then some (some c.Value) else none|none=>none)= xs.findSome? (fun c=>if c.Key=k then some (some c.Value) else none):=by
   have key:∀(g:zn→Option (Option Int)),(List.range xs.length).findSome? (fun i:Nat=>match xs[i]? with|some c=>g c|none=>none)= xs.findSome? g:=fun g=>by
    have e:(fun i:Nat=>match xs[i]? with|some c=>g c|none=>none)=fun i=>(xs[i]?).bind g:=by funext i;cases xs[i]?<;>rfl
    rw[e]
    exact zbR xs g
   exact key _
  rw[h2,this]
  unfold K9
  cases xs.find? fun c=>decide (c.Key=k)<;>rfl
 ·unfold kL
  simp only[zP hi,Option.bind_some,qh i _ hi (by omega),List.getElem?_eq_getElem hi]
  rw[if_pos (by omega)]
  by_cases e:xs[i].Key=k<;>simp[e]
 ·unfold kL
  rw[if_neg (by omega)];rfl
theorem zhk{xs:List zn}{k:Int}(hs:asc xs){p:Nat}(hp:p≤xs.length)(hiff:∀i (hi:i < xs.length),i < p↔xs[i].Key < k):
  K9 xs k=match xs[p]? with|some c=>if c.Key=k then c.Value else -1|none=>-1:=by
 unfold K9
 by_cases e:∃h:p < xs.length,xs[p].Key=k
 ·obtain⟨h,e⟩:=e
  have:xs.find? (fun c=>decide (c.Key=k))=some xs[p]:=by
   rw[List.find?_eq_some_iff_getElem]
   refine⟨by simp[e],p,h,rfl,fun j hj=> ?_⟩
   have:=(hiff j (by omega)).1 hj
   simp;omega
  rw[this,List.getElem?_eq_getElem h]
  simp[e]
 ·have:xs.find? (fun c=>decide (c.Key=k))=none:=by
   rw[List.find?_eq_none]
   intro x hx
   obtain⟨i,hi,rfl⟩:=List.mem_iff_getElem.1 hx
   simp only[decide_eq_true_eq]
   intro hk
   apply e
   have h1:=hiff i hi
   by_cases e1:p < xs.length
   ·refine⟨e1,?_⟩
    have h2:=hiff p e1
    by_cases e2:i=p
    ·subst e2;exact hk
    ·have:¬i < p:=by omega
     have h3:=hs p i e1 hi (by omega)
     omega
   ·omega
  rw[this]
  by_cases e1:p < xs.length
  ·rw[List.getElem?_eq_getElem e1]
   have:¬xs[p].Key=k:=fun h=>e ⟨e1,h⟩
   simp[this]
  ·rw[List.getElem?_eq_none (by omega)]
theorem zkL(xs:List zn)(k:Int)(hg:qP xs=true)(h1:-9000000000000000000≤k)(h2:k≤9000000000000000000):Yp xs k=some (K9 xs k):=by
 have hs:=zgi hg
 have hl:=zdc hg
 obtain⟨p,hp,hiff,hb⟩:=zko xs k hs (by omega) (fun i hi=>by have:=zgl hg hi;omega) h1 h2
 unfold Yp
 rw[hb,zhk hs hp hiff]
 simp only[Option.bind_some,decide_eq_true_eq]
 by_cases e:p < xs.length
 ·rw[List.getElem?_eq_getElem e]
  simp only[Option.map_some,Option.some.injEq,zP e,Option.bind_some]
  split<;>rfl
 ·rw[List.getElem?_eq_none (by omega)]
  simp
theorem zc2(xs:List zn)(h:xs.length≤1048576):yu xs=some xs:=by
 unfold yu yl
 split<;>first|(simp;done)|(simp;omega)
theorem zhf(xs:List zL)(h:xs.length≤1048576):Zk xs=some xs:=by
 unfold Zk ym
 split<;>first|(simp;done)|(simp;omega)
theorem zbZ(xs:List Int)(h:xs.length≤1048576):yi xs=some xs:=by
 unfold yi yw
 split<;>first|(simp;done)|(simp;omega)
theorem zcu(xs:List ze)(h:xs.length≤1048576):yk xs=some xs:=by
 unfold yk j6
 split<;>first|(simp;done)|(simp;omega)
theorem zgj(xs:List zn)(h:xs.length≤1048576):yT xs=some xs:=by
 unfold yT j5
 split<;>first|(simp;done)|(simp;omega)
def iL(x:Int):List Int→Bool→List Int
 |[],put=>if put then[] else[x]
 |c::cs,put=>(if (!put&&decide (x≤c))=true then[x] else[])++((if ¬c=x then[c] else[])++iL x cs (put||decide (x≤c)))
theorem ztl(x z:Int):∀(xs:List Int) (b:Bool),z∈iL x xs b↔(b=false∧z=x)∨(z∈xs∧¬z=x)
 |[],b=>by cases b<;>simp[iL]
 |c::cs,b=>by
  simp only[iL,List.mem_append,ztl x z cs,List.mem_cons]
  by_cases h1:x≤c<;>by_cases h2:c=x<;>cases b<;>simp[h1,h2]<;>by_cases h3:z=x<;>simp[h3]<;>omega
def zqD(x:Int):Nat→List Int→Bool
 |0,_=>false
 |n+1,xs=>zqD x n xs||match xs[n]? with|some c=>decide (x≤c)|none=>false
def iP(x:Int)(xs:List Int):Nat→List Int
 |0=>[]
 |i+1=>iP x xs i++(match xs[i]? with|some c=>(if (!(zqD x i xs)&&decide (x≤c))=true then[x] else[])++(if ¬c=x then[c] else[])|none=>[])
theorem znN(x:Int)(xs:List Int):∀i,(iP x xs i).length≤2 * i
 |0=>by simp[iP]
 |i+1=>by
  have ih:=znN x xs i
  simp only[iP,List.length_append]
  have:(match xs[i]? with|some c=>(if (!(zqD x i xs)&&decide (x≤c))=true then[x] else[])++(if ¬c=x then[c] else[])|none=>[]).length≤2:=by
   cases xs[i]? with
   |none=>simp
   |some c=>simp only[List.length_append];split<;>split<;>simp
  omega
def Kl(m:Int):Bool:=decide (m=1)||decide (m=2)
theorem zkJ(m:Int):J0 m=some (Kl m):=by
 unfold J0 Kl;by_cases h:m=1<;>simp[h]
theorem zif(m:Int):Jv m=some (Kl m):=by
 unfold Jv Kl;by_cases h:m=1<;>simp[h]
def Qc(a b:ze):Bool:=decide (a.Lo < b.Hi)&&decide (b.Lo < a.Hi)
theorem zht(a b:ze):Z6 a b=some (Qc a b):=by
 unfold Z6 Qc;by_cases h:a.Lo < b.Hi<;>simp[h]
def Yc(a b:zL):Bool:=decide (¬a.Tx=b.Tx)&&(decide (a.Mode=2)||decide (b.Mode=2))&&Qc ⟨a.Lo,a.Hi⟩ ⟨b.Lo,b.Hi⟩
theorem zhc(a b:zL):Xn a b=some (Yc a b):=by
 unfold Xn qH Yc
 simp only[zht,Option.bind_some]
 by_cases h:a.Tx=b.Tx<;>by_cases h1:a.Mode=2<;>by_cases h2:b.Mode=2<;>simp[h,h1,h2]
theorem zmx(a b:Int):kV a b=some (min a b):=by
 unfold kV;split<;>congr 1<;>omega
theorem zmR(a b:Int):Xh a b=some (max a b):=by
 unfold Xh;split<;>congr 1<;>omega
theorem zbV(a b:ze):yH a b=some (if z8 a&&z8 b&&z8 ⟨max a.Lo b.Lo,min a.Hi b.Hi⟩ then(⟨max a.Lo b.Lo,min a.Hi b.Hi⟩,true) else(⟨0,0⟩,false)):=by
 unfold yH y4
 simp only[zmx,zmR,yr,Option.bind_some]
 cases z8 a<;>cases z8 b<;>cases z8 ⟨max a.Lo b.Lo,min a.Hi b.Hi⟩<;>simp
theorem zhr{a b:ze}(ha:z8 a=true)(hb:z8 b=true):z8 ⟨max a.Lo b.Lo,min a.Hi b.Hi⟩=Qc a b:=by
 unfold z8 at *
 unfold Qc
 simp only[Bool.and_eq_true,decide_eq_true_eq] at ha hb
 rw[Bool.eq_iff_iff]
 simp only[Bool.and_eq_true,decide_eq_true_eq]
 omega
theorem zi2(a b:zL)(ha:z8 ⟨a.Lo,a.Hi⟩=true)(hb:z8 ⟨b.Lo,b.Hi⟩=true):Jl a b=some (Yc a b):=by
 unfold Jl qT Yc
 simp only[zbV,Option.bind_some,ha,hb,Bool.true_and]
 have:=zhr ha hb
 simp only at this
 rw[this]
 cases Qc ⟨a.Lo,a.Hi⟩ ⟨b.Lo,b.Hi⟩<;>by_cases h:a.Tx=b.Tx<;>by_cases h1:a.Mode=2<;>simp[h,h1]
def XO(a:zL):Bool:=qC a.Tx 1 60&&z8 ⟨a.Lo,a.Hi⟩&&Kl a.Mode
def X3(xs:List zL)(i:Nat):Bool:=match xs[i]? with
 |none=>true
 |some a=>XO a&&(xs.take i).all fun b=>!Yc a b
def qQ(xs:List zL):Bool:=decide (xs.length≤40)&&(List.range xs.length).all (X3 xs)
def zje{α:Type}(f:α→Bool):Option α→Bool
 |some b=>f b
 |none=>true
theorem zlz{α:Type}(xs:List α)(f:α→Bool)(n:Nat)(h:n≤xs.length):(xs.take n).all f=(List.range n).all fun k=>zje f xs[k]?:=by
 rw[Bool.eq_iff_iff,List.all_eq_true,List.all_eq_true]
 constructor
 ·intro H k hk
  have hk:=List.mem_range.1 hk
  have:k < xs.length:=by omega
  rw[List.getElem?_eq_getElem this]
  show f _=true
  exact H _ (by rw[List.mem_take_iff_getElem];exact⟨k,by omega,rfl⟩)
 ·intro H x hx
  rw[List.mem_take_iff_getElem] at hx
  obtain⟨k,hk,rfl⟩:=hx
  have:=H k (List.mem_range.2 (by omega))
  rw[List.getElem?_eq_getElem (by omega)] at this
  exact this
theorem zir{xs:List zL}{i:Nat}(h:∀k,k < i→X3 xs k=true){k:Nat}(hk:k < i)(hl:k < xs.length):z8 ⟨xs[k].Lo,xs[k].Hi⟩=true:=by
 have:=h k hk
 unfold X3 XO at this
 rw[List.getElem?_eq_getElem hl] at this
 simp only[Bool.and_eq_true] at this
 exact this.1.1.2
theorem zff(xs:List zL)(h:xs.length≤1048576):JV xs=some (qQ xs):=by
 unfold JV qQ
 split
 ·have:¬xs.length≤40:=by omega
  simp[this]
 ·have:xs.length≤40:=by omega
  rw[zcE (s0:=(0:Int)) (fun i=>(i:Int)) (X3 xs) (some false) (some true) xs.length (by omega) (fun kb i hi hp=> ?_) (fun kb _=> ?_) rfl]
  ·simp only[this,decide_true,Bool.true_and];split<;>simp_all
  ·unfold kd Zy X3 XO
   simp only[zP hi,zhm,zkJ,yr,qT,Option.bind_some,List.getElem?_eq_getElem hi]
   rw[if_pos (by omega)]
   generalize hg:(List.take i xs).all (fun b=>!Yc xs[i] b)=g
   cases h1:qC xs[i].Tx 1 60<;>simp
   cases h2:z8 ⟨xs[i].Lo,xs[i].Hi⟩<;>simp
   cases h3:Kl xs[i].Mode<;>simp
   rw[jT (s0:=(0:Int)) (fun k=>(k:Int)) (fun k=>zje (fun b=>!Yc xs[i] b) xs[k]?) (some false) (kb ((i+1:Nat):Int)) i (by omega) (fun kb' k hk=> ?_) (fun kb'=> ?_) rfl]
   ·rw[←hg,zlz xs _ i (by omega)]
    simp only[Int.natCast_add,Int.cast_ofNat_Int]
   ·unfold YW
    have hkl:k < xs.length:=by omega
    simp only[zP hi,zP hkl,Option.bind_some,zi2 _ _ h2 (zir hp hk hkl),qh k _ hk (by omega),List.getElem?_eq_getElem hkl,zje]
    rw[if_pos (by omega)]
    cases Yc xs[i] xs[k]<;>simp
   ·unfold YW Za
    rw[if_neg (by omega),qh i _ hi (by omega)]
  ·unfold kd
   rw[if_neg (by omega)];rfl
theorem zcx(xs:List zL)(a:zL)(h:xs.length≤1048576):qz xs a=some (!xs.all fun b=>!Yc a b):=by
 unfold qz jA
 have hb:∀x,Qy x a=some (Yc a x):=fun x=>by simp[Qy,zhc]
 rw[zb5 (s0:=(0:Int)) (fun i=>(i:Int)) (fun i:Nat=>match xs[i]? with|some b=>if Yc a b=true then some (some (i:Int)) else none|none=>none) (some (-1)) xs.length (by omega) (fun kb i hi=> ?_) (fun kb=> ?_) rfl]
 ·cases hf:(List.range xs.length).findSome? (fun i:Nat=>match xs[i]? with|some b=>if Yc a b=true then some (some (i:Int)) else none|none=>none) with
  |none=>
   rw[List.findSome?_eq_none_iff] at hf
   have:(xs.all fun b=>!Yc a b)=true:=by
    rw[List.all_eq_true]
    intro x hx
    obtain⟨k,hk,rfl⟩:=List.mem_iff_getElem.1 hx
    have:=hf k (List.mem_range.2 hk)
    rw[List.getElem?_eq_getElem hk] at this
    cases hc:Yc a xs[k] with
    |false=>rfl
    |true=>simp[hc] at this
   simp[this]
  |some q=>
   obtain⟨x,hx,hq⟩:=List.exists_of_findSome?_eq_some hf
   have hk:=List.mem_range.1 hx
   rw[List.getElem?_eq_getElem hk] at hq
   simp only at hq
   split at hq
   ·rename_i hc
    cases hq
    have:(xs.all fun b=>!Yc a b)=false:=by
     rw[List.all_eq_false]
     exact⟨xs[x],List.getElem_mem hk,by simp[hc]⟩
    simp[this]
   ·cases hq
 ·unfold jr
  simp only[zP hi,Option.bind_some,hb,qh i _ hi (by omega),List.getElem?_eq_getElem hi]
  rw[if_pos (by omega)]
  cases Yc a xs[i]<;>simp
 ·unfold jr
  rw[if_neg (by omega)];rfl
theorem zbG(xs:List zL)(h:xs.length≤1048576):QC xs=some (qQ xs):=by
 unfold QC qQ
 rw[jT (s0:=(0:Int)) (fun i=>(i:Int)) (X3 xs) (some false) (some (decide (xs.length≤40))) xs.length (by omega) (fun kb i hi=> ?_) (fun kb=> ?_) rfl]
 ·split<;>simp_all
 ·unfold xV Zc X3 XO
  have hc:cut xs 0 (i:Int)=some (xs.take i):=by
   unfold cut
   rw[if_pos ⟨by omega,by omega,by omega⟩]
   simp
  simp only[zP hi,zlH,zif,QE,qH,Option.bind_some,List.getElem?_eq_getElem hi,hc,zcx (xs.take i) xs[i] (by simp;omega),qh i _ hi (by omega)]
  rw[if_pos (by omega)]
  generalize hg:(List.take i xs).all (fun b=>!Yc xs[i] b)=g
  cases h1:qC xs[i].Tx 1 60<;>simp
  cases h2:z8 ⟨xs[i].Lo,xs[i].Hi⟩<;>simp
  cases h3:Kl xs[i].Mode<;>simp
  cases g<;>simp
 ·unfold xV kf
  rw[if_neg (by omega)]
  have:((xs.length:Int)≤40)↔xs.length≤40:=by omega
  simp[this]
def KW(tx:Int)(a:ze)(mode:Int)(l:zL):Bool:=decide (l.Tx=tx)&&(decide (l.Mode=mode)||decide (l.Mode=2))&&decide (l.Lo≤a.Lo)&&decide (a.Hi≤l.Hi)
theorem zc1{xs:List zL}(h:qQ xs=true):xs.length≤40:=by
 unfold qQ at h;simp at h;exact h.1
theorem zc5{xs:List zL}(h:qQ xs=true){i:Nat}(hi:i < xs.length):XO xs[i]=true:=by
 unfold qQ at h
 simp only[Bool.and_eq_true,List.all_eq_true] at h
 have:=h.2 i (List.mem_range.2 hi)
 unfold X3 at this
 rw[List.getElem?_eq_getElem hi] at this
 simp only[Bool.and_eq_true] at this
 exact this.1
theorem zfA(a b:ze):JX a b=some (z8 a&&z8 b&&decide (b.Lo≤a.Lo)&&decide (a.Hi≤b.Hi)):=by
 unfold JX
 simp only[yr,Option.bind_some]
 cases z8 a<;>cases z8 b<;>by_cases h:b.Lo≤a.Lo<;>simp[h]
theorem zjj(xs:List zL)(tx:Int)(a:ze)(mode:Int)(hg:qQ xs=true)(ha:z8 a=true)(hm:Kl mode=true):Jn xs tx a mode=some (xs.any (KW tx a mode)):=by
 have hl:=zc1 hg
 unfold Jn
 rw[zfP xs (KW tx a mode) (some true) (some false) (by omega) (fun kb i hi=> ?_) (fun kb=> ?_)]
 ·split<;>simp_all
 ·have hgi:=zc5 hg hi
  unfold XO Kl at hgi
  unfold Kl at hm
  unfold YS y6 KW
  simp only[Bool.and_eq_true,Bool.or_eq_true,decide_eq_true_eq] at hgi hm
  simp only[zP hi,qT,zfA,Option.bind_some,qh i _ hi (by omega),ha,hgi.1.2,Bool.true_and]
  rw[if_pos (by omega)]
  by_cases h1:xs[i].Tx=tx<;>by_cases h2:xs[i].Lo≤a.Lo<;>by_cases h3:a.Hi≤xs[i].Hi<;>simp[h1,h2,h3]
  have:(mode≤xs[i].Mode)↔(xs[i].Mode=mode∨xs[i].Mode=2):=by omega
  simp[this]
 ·unfold YS
  rw[if_neg (by omega)];rfl
theorem zgs(l:zL)(tx mode:Int)(a:ze):ZO l tx mode a=some (KW tx a mode l):=by
 unfold ZO KW
 by_cases h1:l.Tx=tx<;>by_cases h2:l.Lo≤a.Lo<;>by_cases h3:l.Mode=mode<;>by_cases h4:l.Mode=2<;>simp[h1,h2,h3,h4]
theorem zbT(xs:List zL)(tx mode:Int)(a:ze)(h:xs.length≤1048576):qp xs tx mode a=some (xs.any (KW tx a mode)):=by
 unfold qp jk
 rw[Qe xs (KW tx a mode) (by omega) (fun kb i hi=> ?_) (fun kb=> ?_)]
 ·simp[Zm]
 ·unfold jc
  simp only[zP hi,zgs,Option.bind_some,qh i _ hi (by omega)]
  rw[if_pos (by omega)]
 ·unfold jc
  rw[if_neg (by omega)];rfl
def kF(xs:List zL)(tx:Int)(a:ze)(mode:Int):Bool:=qQ xs&&z8 a&&Kl mode&&xs.any (KW tx a mode)
theorem zd2(xs:List zL)(tx:Int)(a:ze)(mode:Int)(h:xs.length≤1048576):Qt xs tx a mode=some (kF xs tx a mode):=by
 unfold Qt kF
 simp only[zbG _ h,QE,zif,zbT _ _ _ _ h,Option.bind_some]
 cases h1:qQ xs<;>cases h2:z8 a<;>cases h3:Kl mode<;>simp
theorem zbr(xs:List Int)(x:Int)(h:xs.length≤1048576):yN xs x=some (xs.contains x):=by
 unfold yN
 rw[zfP xs (fun c=>decide (c=x)) (some true) (some false) (by omega) (fun kb i hi=> ?_) (fun kb=> ?_)]
 ·have e:xs.any (fun c=>decide (c=x))=xs.contains x:=by
   rw[Bool.eq_iff_iff,List.any_eq_true,List.contains_iff_mem]
   simp
  rw[e]
  cases xs.contains x<;>rfl
 ·unfold Xe
  simp only[zP hi,Option.bind_some,qh i _ hi (by omega)]
  rw[if_pos (by omega)]
  by_cases e:xs[i]=x<;>simp[e]
 ·unfold Xe Xb
  rw[if_neg (by omega)]
theorem zfg(xs:List Int)(x:Int)(h:xs.length≤1048576):yG xs x=some (xs.contains x):=by
 unfold yG Jc
 rw[Qe xs (fun c=>decide (x=c)) (by omega) (fun kb i hi=> ?_) (fun kb=> ?_)]
 ·simp only[Option.bind_some,Zm]
  congr 1
  rw[Bool.eq_iff_iff,List.any_eq_true,List.contains_iff_mem]
  simp
 ·unfold Qi
  simp only[zP hi,Option.bind_some,qh i _ hi (by omega)]
  rw[if_pos (by omega)]
  by_cases e:x=xs[i]<;>simp[e]
 ·unfold Qi
  rw[if_neg (by omega)];rfl
theorem zdE{xs:List zL}(hg:qQ xs=true){i:Nat}(hi:i < xs.length):z8 ⟨xs[i].Lo,xs[i].Hi⟩=true:=by
 have:=zc5 hg hi
 unfold XO at this
 simp only[Bool.and_eq_true] at this
 exact this.1.2
theorem zkK(xs:List zn)(h:xs.length≤maxLen)(z:Int)(h1:0≤z)(h2:z≤1048576):Yz xs z=some (if z < xs.length then -1 else z - xs.length):=by
 unfold Yz
 have:IntKind.wrap .i64 (z - (xs.length:Int))=z - xs.length:=by unfold maxLen at h;exact w64 (by omega) (by omega)
 rw[this]
 split<;>split<;>first|rfl|omega
theorem zks(xs:List zn)(h:xs.length≤1048576):Yt xs=some xs:=by
 unfold Yt
 rw[if_pos ⟨by omega,by omega⟩]
 simp only[Int.toNat_natCast]
 refine KA xs _ kg (by omega) (fun kb ys i hi hy=> ?_) (fun kb ys=> ?_)
 ·unfold xY
  simp only[zP hi,zP (show i < ys.length by omega),XT,Option.bind_some,Int.toNat_natCast,qh i _ hi (by omega)]
  rw[if_pos (by omega)]
 ·unfold xY
  rw[if_neg (by omega)]
theorem zlN(a b:zn):xL a b=some (decide (a=b)):=by
 unfold xL
 cases a;cases b
 simp only[zn.mk.injEq]
 repeat' split
 all_goals simp_all
theorem zkm(xs ys:List zn)(h:xs.length≤1048576):YB xs ys=some (decide (xs=ys)):=by
 unfold YB
 split
 ·rename_i hl
  have:¬xs=ys:=fun e=>hl (by rw[e])
  simp[this]
 ·rename_i hl
  have hl:xs.length=ys.length:=by omega
  rw[jT (s0:=(0:Int)) (fun i=>(i:Int)) (fun i=>decide (xs[i]? =ys[i]?)) (some false) (some true) xs.length (by omega) (fun kb i hi=> ?_) (fun kb=> ?_) rfl,Y0 hl]
  ·by_cases e:xs=ys<;>simp[e]
  ·unfold xU
   simp only[zP hi,zP (show i < ys.length by omega),zlN,Option.bind_some,qh i _ hi (by omega)]
   rw[if_pos (by omega),List.getElem?_eq_getElem hi,List.getElem?_eq_getElem (show i < ys.length by omega)]
   simp
  ·unfold xU
   rw[if_neg (by omega)]
   rfl
theorem ziU(xs:List zn)(h:xs.length≤maxLen)(z:Int)(h1:0≤z)(h2:z≤1048576):Jo xs z=some (if z < xs.length then -1 else z - xs.length):=by
 unfold Jo
 have:IntKind.wrap .i64 (z - (xs.length:Int))=z - xs.length:=by unfold maxLen at h;exact w64 (by omega) (by omega)
 rw[this]
 split<;>split<;>first|rfl|omega
theorem zjm(xs:List zn)(h:xs.length≤1048576):Jp xs=some xs:=by
 unfold Jp
 rw[if_pos ⟨by omega,by omega⟩]
 simp only[Int.toNat_natCast]
 refine KA xs _ YK (by omega) (fun kb ys i hi hy=> ?_) (fun kb ys=> ?_)
 ·unfold YO
  simp only[zP hi,zP (show i < ys.length by omega),k8,Option.bind_some,Int.toNat_natCast,qh i _ hi (by omega)]
  rw[if_pos (by omega)]
 ·unfold YO
  rw[if_neg (by omega)]
theorem zkp(a b:zn):J3 a b=some (decide (a=b)):=by
 unfold J3
 cases a;cases b
 simp only[zn.mk.injEq]
 repeat' split
 all_goals simp_all
theorem zja(xs ys:List zn)(h:xs.length≤1048576):Jm xs ys=some (decide (xs=ys)):=by
 unfold Jm
 split
 ·rename_i hl
  have:¬xs=ys:=fun e=>hl (by rw[e])
  simp[this]
 ·rename_i hl
  have hl:xs.length=ys.length:=by omega
  rw[jT (s0:=(0:Int)) (fun i=>(i:Int)) (fun i=>decide (xs[i]? =ys[i]?)) (some false) (some true) xs.length (by omega) (fun kb i hi=> ?_) (fun kb=> ?_) rfl,Y0 hl]
  ·by_cases e:xs=ys<;>simp[e]
  ·unfold YR
   simp only[zP hi,zP (show i < ys.length by omega),zkp,Option.bind_some,qh i _ hi (by omega)]
   rw[if_pos (by omega),List.getElem?_eq_getElem hi,List.getElem?_eq_getElem (show i < ys.length by omega)]
   simp
  ·unfold YR
   rw[if_neg (by omega)]
   rfl
theorem ziT(z:Int):Jr z=some (qC z (-1) 1000000000):=by simp[Jr,zaV]
def KC(xs:List zn)(i:Nat):Bool:=match xs[i]? with
 |none=>true
 |some c=>qC c.Key 0 999&&qC c.Value (-1) 1000000000&&(i == 0||match xs[i - 1]? with|some p=>decide (p.Key < c.Key)|none=>true)
def jH(xs:List zn):Bool:=decide (xs.length≤60)&&(List.range xs.length).all (KC xs)
theorem zbd(xs:List zn)(h:xs.length≤1048576):y9 xs=some (jH xs):=by
 unfold y9 jH
 split
 ·rename_i h1
  have:¬xs.length≤60:=by omega
  simp[this]
 ·rename_i h1
  have:xs.length≤60:=by omega
  rw[jT (s0:=(0:Int)) (fun i=>(i:Int)) (KC xs) (some false) (some true) xs.length (by omega) (fun kb i hi=> ?_) (fun kb=> ?_) rfl]
  ·simp only[this,decide_true,Bool.true_and];split<;>simp_all
  ·unfold Y1 yI KC
   simp only[zP hi,ziw,zcI,Option.bind_some,qh i _ hi (by omega),List.getElem?_eq_getElem hi]
   rw[if_pos (by omega)]
   cases qC xs[i].Key 0 999<;>simp
   cases qC xs[i].Value (-1) 1000000000<;>simp
   by_cases h0:0 < i
   ·have h2:IntKind.wrap .i64 ((i:Int) - 1)=((i - 1:Nat):Int):=by rw[w64 (by omega) (by omega)];omega
    have h3:i - 1 < xs.length:=by omega
    have h4:¬i=0:=by omega
    simp only[h0,if_true,h2,zP h3,Option.bind_some,List.getElem?_eq_getElem h3,h4,false_or]
    by_cases h5:xs[i].Key≤xs[i - 1].Key
    ·have:¬xs[i - 1].Key < xs[i].Key:=by omega
     simp[h5,this]
    ·have:xs[i - 1].Key < xs[i].Key:=by omega
     simp[h5,this]
   ·have h4:i=0:=by omega
    simp[h4]
  ·unfold Y1
   rw[if_neg (by omega)];rfl
theorem za6(xs:List zn)(h:xs.length≤1048576):Z1 xs=some (jH xs):=by
 unfold Z1 jH
 rw[jT (s0:=(0:Int)) (fun i=>(i:Int)) (KC xs) (some false) (some (decide (xs.length≤60))) xs.length (by omega) (fun kb i hi=> ?_) (fun kb=> ?_) rfl]
 ·split<;>simp_all
 ·unfold YJ yJ KC
  simp only[zP hi,zjC,ziT,Option.bind_some,qh i _ hi (by omega),List.getElem?_eq_getElem hi]
  rw[if_pos (by omega)]
  cases qC xs[i].Key 0 999<;>simp
  cases qC xs[i].Value (-1) 1000000000<;>simp
  by_cases h0:0 < i
  ·have h2:IntKind.wrap .i64 ((i:Int) - 1)=((i - 1:Nat):Int):=by rw[w64 (by omega) (by omega)];omega
   have h3:i - 1 < xs.length:=by omega
   have h4:¬i=0:=by omega
   simp only[h0,if_true,h2,zP h3,Option.bind_some,List.getElem?_eq_getElem h3,h4,false_or]
   by_cases h5:xs[i].Key≤xs[i - 1].Key
   ·have:¬xs[i - 1].Key < xs[i].Key:=by omega
    simp[h5,this]
   ·have:xs[i - 1].Key < xs[i].Key:=by omega
    simp[h5,this]
  ·have h4:i=0:=by omega
   simp[h4]
 ·unfold YJ xk
  rw[if_neg (by omega)]
  have:((xs.length:Int)≤60)↔xs.length≤60:=by omega
  simp[this]
theorem zaq{xs:List zn}(h:jH xs=true){i:Nat}(hi:i < xs.length):-1≤xs[i].Value∧0≤xs[i].Key∧xs[i].Key≤999:=by
 unfold jH at h
 simp only[Bool.and_eq_true,List.all_eq_true] at h
 have:=h.2 i (List.mem_range.2 hi)
 unfold KC qC at this
 rw[List.getElem?_eq_getElem hi] at this
 simp only[Bool.and_eq_true,decide_eq_true_eq] at this
 exact⟨this.1.2.1,this.1.1.1,this.1.1.2⟩
theorem zgr{xs:List zn}(h:jH xs=true):xs.length≤60:=by
 unfold jH at h;simp at h;exact h.1
def zdi(xs:List zn)(w:zn):Bool:=decide (0≤w.Value)&&decide (K9 xs w.Key < 0)
def Xd(xs ws:List zn):Int:=if qP xs&&jH ws then((ws.filter (zdi xs)).length:Int) else -1
theorem zgJ{α:Type}{ws:List α}{p:α→Bool}{i:Nat}(hi:i < ws.length):((ws.take (i+1)).filter p).length=((ws.take i).filter p).length+if p ws[i]=true then 1 else 0:=by
 rw[List.take_succ_eq_append_getElem hi,List.filter_append,List.length_append]
 congr 1
 by_cases h:p ws[i]=true<;>simp[h]
theorem zeJ(xs ws:List zn)(h:xs.length≤1048576)(h':ws.length≤1048576):Jt xs ws=some (Xd xs ws):=by
 unfold Jt Xd Qu
 simp only[Yr _ h,zbd _ h',Option.bind_some]
 cases hg:qP xs<;>simp
 cases hw:jH ws<;>simp
 rw[qM (s0:=((0:Int),(0:Int))) (fun i=>((((ws.take i).filter (zdi xs)).length:Int),(i:Int))) (some ((ws.filter (zdi xs)).length:Int)) ws.length (by omega) (fun kb i hi=> ?_) (fun kb=> ?_) (by simp)]
 ·unfold YU Z9
  have hle:((ws.take i).filter (zdi xs)).length≤ws.length:=Nat.le_trans (List.length_filter_le _ _) (by simp;omega)
  have e:=qh i _ hi (by omega)
  have e3:IntKind.wrap .i64 ((((ws.take i).filter (zdi xs)).length:Int)+1)=((((ws.take i).filter (zdi xs)).length+1:Nat):Int):=by rw[w64 (by omega) (by omega)];omega
  simp only[zP hi,Option.bind_some,zk1 _ _ h,e,e3]
  rw[if_pos (by omega),zgJ hi]
  unfold zdi
  by_cases h0:0≤ws[i].Value<;>by_cases h1:K9 xs ws[i].Key < 0<;>simp[h0,h1]
 ·unfold YU xb
  rw[if_neg (by simp)]
  simp
theorem zeP(xs ws:List zn)(h:xs.length≤1048576)(h':ws.length≤1048576):Jh xs ws=some (Xd xs ws):=by
 unfold Jh Xd Qr
 simp only[KY _ h,za6 _ h',Option.bind_some]
 cases hg:qP xs<;>simp
 cases hw:jH ws<;>simp
 rw[qM (s0:=((0:Int),(0:Int))) (fun i=>((((ws.take i).filter (zdi xs)).length:Int),(i:Int))) (some ((ws.filter (zdi xs)).length:Int)) ws.length (by omega) (fun kb i hi=> ?_) (fun kb=> ?_) (by simp)]
 ·unfold Y9 Qa
  have hle:((ws.take i).filter (zdi xs)).length≤ws.length:=Nat.le_trans (List.length_filter_le _ _) (by simp;omega)
  have e:=qh i _ hi (by omega)
  have e3:IntKind.wrap .i64 ((((ws.take i).filter (zdi xs)).length:Int)+1)=((((ws.take i).filter (zdi xs)).length+1:Nat):Int):=by rw[w64 (by omega) (by omega)];omega
  have hv:=zaq hw hi
  simp only[zP hi,Option.bind_some,zkL xs _ hg (show -9000000000000000000≤ws[i].Key by omega) (by omega),e,e3]
  rw[if_pos (by omega),zgJ hi]
  unfold zdi
  by_cases h0:0≤ws[i].Value
  ·have:¬ws[i].Value= -1:=by omega
   by_cases h1:K9 xs ws[i].Key < 0<;>simp[h0,h1,this]
  ·have:ws[i].Value= -1:=by omega
   simp[this]
 ·unfold Y9 YV
  rw[if_neg (by simp)]
  simp
theorem zkD(xs:List zL)(h:xs.length≤maxLen)(z:Int)(h1:0≤z)(h2:z≤1048576):Ys xs z=some (if z < xs.length then -1 else z - xs.length):=by
 unfold Ys
 have:IntKind.wrap .i64 (z - (xs.length:Int))=z - xs.length:=by unfold maxLen at h;exact w64 (by omega) (by omega)
 rw[this]
 split<;>split<;>first|rfl|omega
theorem zjZ(xs:List zL)(h:xs.length≤1048576):Yq xs=some xs:=by
 unfold Yq
 rw[if_pos ⟨by omega,by omega⟩]
 simp only[Int.toNat_natCast]
 refine KA xs _ ke (by omega) (fun kb ys i hi hy=> ?_) (fun kb ys=> ?_)
 ·unfold x9
  simp only[zP hi,zP (show i < ys.length by omega),XX,Option.bind_some,Int.toNat_natCast,qh i _ hi (by omega)]
  rw[if_pos (by omega)]
 ·unfold x9
  rw[if_neg (by omega)]
theorem zlf(a b:zL):xJ a b=some (decide (a=b)):=by
 unfold xJ
 cases a;cases b
 simp only[zL.mk.injEq]
 repeat' split
 all_goals simp_all
theorem zkj(xs ys:List zL)(h:xs.length≤1048576):Ya xs ys=some (decide (xs=ys)):=by
 unfold Ya
 split
 ·rename_i hl
  have:¬xs=ys:=fun e=>hl (by rw[e])
  simp[this]
 ·rename_i hl
  have hl:xs.length=ys.length:=by omega
  rw[jT (s0:=(0:Int)) (fun i=>(i:Int)) (fun i=>decide (xs[i]? =ys[i]?)) (some false) (some true) xs.length (by omega) (fun kb i hi=> ?_) (fun kb=> ?_) rfl,Y0 hl]
  ·by_cases e:xs=ys<;>simp[e]
  ·unfold xP
   simp only[zP hi,zP (show i < ys.length by omega),zlf,Option.bind_some,qh i _ hi (by omega)]
   rw[if_pos (by omega),List.getElem?_eq_getElem hi,List.getElem?_eq_getElem (show i < ys.length by omega)]
   simp
  ·unfold xP
   rw[if_neg (by omega)]
   rfl
def jf(x:zN):Nat:=x.Writes.length
theorem zlC(x:zN)(h:X5 x)(z:Int)(h1:0≤z)(h2:z≤1048576):xB x z=some (if z < (jf x:Int) then -1 else z - (jf x:Int)):=by
 unfold X5 at h
 obtain⟨o0,o1⟩:=h
 unfold xB jf
 rw[ziU x.Writes o1.1 _ (by omega) (by omega)]
 simp only[Option.bind_some]
 by_cases c0:z < (x.Writes.length:Int)
 ·rw[if_pos c0,if_pos (by omega)];try rw[if_pos (by omega)]
 rw[if_neg c0,if_neg (by omega)]
 try rw[if_neg (by omega)]
 try (congr 1;omega)
theorem zlA(x:zN)(h:jf x≤1048576):xw x=some x:=by simp[xw,zjm _ (show x.Writes.length≤1048576 by unfold jf at h;omega)]
theorem zlM(x y:zN)(h:jf x≤1048576):xD x y=some (decide (x=y)):=by
 unfold xD
 simp only[zja _ _ (show x.Writes.length≤1048576 by unfold jf at h;omega),Option.bind_some]
 cases x;cases y
 simp only[zN.mk.injEq]
 repeat' split
 all_goals simp_all
def qc(xs:(List zN)):Nat:=xs.length+yd (fun y:zN=>jf y) xs
theorem zkC(xs:(List zN))(h:(okS X5) xs)(z:Int)(h1:0≤z)(h2:z≤1048576):J1 xs z=some (if z < (qc xs:Int) then -1 else z - (qc xs:Int)):=by
 unfold J1
 have hm:=h.1
 have hw:IntKind.wrap .i64 (z - (xs.length:Int))=z - xs.length:=by unfold maxLen at hm;exact w64 (by omega) (by omega)
 rw[hw]
 have hsz:(qc xs:Int)=xs.length+(yd (fun y:zN=>jf y) xs:Nat):=by unfold qc;omega
 rw[hsz]
 by_cases c:z < xs.length
 ·rw[if_pos (by omega),if_pos (by omega)]
 rw[if_neg (by omega)]
 rw[zcE (fun i=>(z - (xs.length:Int) - (yd (fun y:zN=>jf y) (xs.take i):Nat),(i:Int))) (fun i=>decide ((yd (fun y:zN=>jf y) (xs.take (i+1)):Int)≤z - xs.length)) (some (-1)) (some (z - (xs.length:Int) - (yd (fun y:zN=>jf y) xs:Nat))) xs.length (by omega) (fun kb i hi hp=> ?_) (fun kb hp=> ?_) (by simp[yd])]
 ·by_cases c2:z < xs.length+(yd (fun y:zN=>jf y) xs:Nat)
  ·rw[if_pos c2,if_neg]
   rw[Bool.not_eq_true,List.all_eq_false]
   cases hn:xs.length with
   |zero=>
    have:xs=[]:=List.eq_nil_of_length_eq_zero hn
    subst this
    simp[yd] at c2 c
    omega
   |succ n=>
    refine⟨n,by simp,?_⟩
    have:xs.take (n+1)=xs:=by rw[←hn];simp
    rw[this,decide_eq_true_eq]
    omega
  ·rw[if_neg c2,if_pos]
   ·congr 1;omega
   ·rw[List.all_eq_true]
    intro i hi
    have:=Xw (fun y:zN=>jf y) xs (i+1)
    simp only[decide_eq_true_eq]
    omega
 ·have h0:(yd (fun y:zN=>jf y) (xs.take i):Int)≤z - xs.length:=by
   cases i with
   |zero=>simp[yd];omega
   |succ j=>have:=hp j (by omega);simpa using this
  unfold xM
  simp only[zP hi,Option.bind_some,qh i _ hi (by omega)]
  rw[if_pos (by omega),zlC xs[i] (h.2 _ (List.getElem_mem hi)) _ (by omega) (by omega),XN (fun y:zN=>jf y) hi]
  simp only[Option.bind_some,Int.natCast_add]
  by_cases c3:z - (xs.length:Int) - (yd (fun y:zN=>jf y) (xs.take i):Nat) < (jf (xs[i]):Nat)
  ·rw[if_pos c3,if_pos (by omega),if_neg (by simp;omega)]
  ·rw[if_neg c3,if_neg (by omega),if_pos (by simp;omega)]
   congr 2
   omega
 ·unfold xM xS
  rw[if_neg (by simp)]
  simp
theorem K7{xs:(List zN)}(h:qc xs≤1048576):xs.length≤1048576∧∀i (hi:i < xs.length),jf (xs[i])≤1048576:=by
 unfold qc at h
 refine⟨by omega,fun i hi=> ?_⟩
 have:=zlb (fun y:zN=>jf y) hi
 omega
theorem zkz(xs:(List zN))(h:qc xs≤1048576):YC xs=some xs:=by
 obtain⟨hl,hs⟩:=K7 h
 unfold YC
 rw[if_pos ⟨by omega,by omega⟩]
 simp only[Int.toNat_natCast]
 refine KA xs _ xW (by omega) (fun kb ys i hi hy=> ?_) (fun kb ys=> ?_)
 ·unfold xT
  simp only[zP hi,zP (show i < ys.length by omega),zlA _ (hs i hi),Option.bind_some,Int.toNat_natCast,qh i _ hi (by omega)]
  rw[if_pos (by omega)]
 ·unfold xT
  rw[if_neg (by omega)]
theorem zkc(xs ys:(List zN))(h:qc xs≤1048576):Yh xs ys=some (decide (xs=ys)):=by
 obtain⟨hl,hs⟩:=K7 h
 unfold Yh
 split
 ·rename_i hl
  have:¬xs=ys:=fun e=>hl (by rw[e])
  simp[this]
 ·rename_i hl
  have hl:xs.length=ys.length:=by omega
  rw[jT (s0:=(0:Int)) (fun i=>(i:Int)) (fun i=>decide (xs[i]? =ys[i]?)) (some false) (some true) xs.length (by omega) (fun kb i hi=> ?_) (fun kb=> ?_) rfl,Y0 hl]
  ·by_cases e:xs=ys<;>simp[e]
  ·unfold ka
   simp only[zP hi,zP (show i < ys.length by omega),zlM _ _ (hs i hi),Option.bind_some,qh i _ hi (by omega)]
   rw[if_pos (by omega),List.getElem?_eq_getElem hi,List.getElem?_eq_getElem (show i < ys.length by omega)]
   simp
  ·unfold ka
   rw[if_neg (by omega)]
   rfl
theorem zhO(xs:List Int)(h:xs.length≤maxLen)(z:Int)(h1:0≤z)(h2:z≤1048576):Jw xs z=some (if z < xs.length then -1 else z - xs.length):=by
 unfold Jw
 have:IntKind.wrap .i64 (z - (xs.length:Int))=z - xs.length:=by unfold maxLen at h;exact w64 (by omega) (by omega)
 rw[this]
 split<;>split<;>first|rfl|omega
theorem zin(xs:List Int)(h:xs.length≤1048576):Jy xs=some xs:=by
 unfold Jy
 rw[if_pos ⟨by omega,by omega⟩]
 simp only[Int.toNat_natCast]
 refine KA xs _ Xi (by omega) (fun kb ys i hi hy=> ?_) (fun kb ys=> ?_)
 ·unfold kP
  simp only[zP hi,zP (show i < ys.length by omega),Option.bind_some,Int.toNat_natCast,qh i _ hi (by omega)]
  rw[if_pos (by omega)]
 ·unfold kP
  rw[if_neg (by omega)]
theorem ziy(xs ys:List Int)(h:xs.length≤1048576):JA xs ys=some (decide (xs=ys)):=by
 unfold JA
 split
 ·rename_i hl
  have:¬xs=ys:=fun e=>hl (by rw[e])
  simp[this]
 ·rename_i hl
  have hl:xs.length=ys.length:=by omega
  rw[jT (s0:=(0:Int)) (fun i=>(i:Int)) (fun i=>decide (xs[i]? =ys[i]?)) (some false) (some true) xs.length (by omega) (fun kb i hi=> ?_) (fun kb=> ?_) rfl,Y0 hl]
  ·by_cases e:xs=ys<;>simp[e]
  ·unfold kX
   simp only[zP hi,zP (show i < ys.length by omega),Option.bind_some,qh i _ hi (by omega)]
   rw[if_pos (by omega),List.getElem?_eq_getElem hi,List.getElem?_eq_getElem (show i < ys.length by omega)]
   simp
  ·unfold kX
   rw[if_neg (by omega)]
   rfl
def zr(x:zo):Nat:=x.Own.length+x.Frozen.length+x.Cells.length+x.Locks.length+qc x.Helds+x.Wounded.length+x.Ended.length
theorem zkF(x:zo)(h:zau x)(z:Int)(h1:0≤z)(h2:z≤1048576):J9 x z=some (if z < (zr x:Int) then -1 else z - (zr x:Int)):=by
 unfold zau at h
 obtain⟨o0,o1,o2,o3,o4,o5,o6,o7,o8⟩:=h
 unfold J9 zr
 rw[zfl x.Own o1.1 _ (by omega) (by omega)]
 simp only[Option.bind_some]
 by_cases c0:z < (x.Own.length:Int)
 ·rw[if_pos c0,if_pos (by omega)];try rw[if_pos (by omega)]
 rw[if_neg c0,if_neg (by omega)]
 rw[zfl x.Frozen o2.1 _ (by omega) (by omega)]
 simp only[Option.bind_some]
 by_cases c1:z - (x.Own.length:Int) < (x.Frozen.length:Int)
 ·rw[if_pos c1,if_pos (by omega)];try rw[if_pos (by omega)]
 rw[if_neg c1,if_neg (by omega)]
 rw[zkK x.Cells o3.1 _ (by omega) (by omega)]
 simp only[Option.bind_some]
 by_cases c2:z - (x.Own.length:Int) - (x.Frozen.length:Int) < (x.Cells.length:Int)
 ·rw[if_pos c2,if_pos (by omega)];try rw[if_pos (by omega)]
 rw[if_neg c2,if_neg (by omega)]
 rw[zkD x.Locks o4.1 _ (by omega) (by omega)]
 simp only[Option.bind_some]
 by_cases c3:z - (x.Own.length:Int) - (x.Frozen.length:Int) - (x.Cells.length:Int) < (x.Locks.length:Int)
 ·rw[if_pos c3,if_pos (by omega)];try rw[if_pos (by omega)]
 rw[if_neg c3,if_neg (by omega)]
 rw[zkC x.Helds o5 _ (by omega) (by omega)]
 simp only[Option.bind_some]
 by_cases c4:z - (x.Own.length:Int) - (x.Frozen.length:Int) - (x.Cells.length:Int) - (x.Locks.length:Int) < (qc x.Helds:Int)
 ·rw[if_pos c4,if_pos (by omega)];try rw[if_pos (by omega)]
 rw[if_neg c4,if_neg (by omega)]
 rw[zhO x.Wounded o6.1 _ (by omega) (by omega)]
 simp only[Option.bind_some]
 by_cases c5:z - (x.Own.length:Int) - (x.Frozen.length:Int) - (x.Cells.length:Int) - (x.Locks.length:Int) - (qc x.Helds:Int) < (x.Wounded.length:Int)
 ·rw[if_pos c5,if_pos (by omega)];try rw[if_pos (by omega)]
 rw[if_neg c5,if_neg (by omega)]
 rw[zhO x.Ended o7.1 _ (by omega) (by omega)]
 simp only[Option.bind_some]
 by_cases c6:z - (x.Own.length:Int) - (x.Frozen.length:Int) - (x.Cells.length:Int) - (x.Locks.length:Int) - (qc x.Helds:Int) - (x.Wounded.length:Int) < (x.Ended.length:Int)
 ·rw[if_pos c6,if_pos (by omega)];try rw[if_pos (by omega)]
 rw[if_neg c6,if_neg (by omega)]
 try rw[if_neg (by omega)]
 try (congr 1;omega)
theorem zjT(x:zo)(h:zr x≤1048576):yQ x=some x:=by simp[yQ,zfO _ (show x.Own.length≤1048576 by unfold zr at h;omega),zfO _ (show x.Frozen.length≤1048576 by unfold zr at h;omega),zks _ (show x.Cells.length≤1048576 by unfold zr at h;omega),zjZ _ (show x.Locks.length≤1048576 by unfold zr at h;omega),zkz _ (show qc x.Helds≤1048576 by unfold zr at h;omega),zin _ (show x.Wounded.length≤1048576 by unfold zr at h;omega),zin _ (show x.Ended.length≤1048576 by unfold zr at h;omega)]
theorem zgD(x y:zo)(h:zr x≤1048576):yV x y=some (decide (x=y)):=by
 unfold yV
 simp only[zfe _ _ (show x.Own.length≤1048576 by unfold zr at h;omega),zfe _ _ (show x.Frozen.length≤1048576 by unfold zr at h;omega),zkm _ _ (show x.Cells.length≤1048576 by unfold zr at h;omega),zkj _ _ (show x.Locks.length≤1048576 by unfold zr at h;omega),zkc _ _ (show qc x.Helds≤1048576 by unfold zr at h;omega),ziy _ _ (show x.Wounded.length≤1048576 by unfold zr at h;omega),ziy _ _ (show x.Ended.length≤1048576 by unfold zr at h;omega),Option.bind_some]
 cases x;cases y
 simp only[zo.mk.injEq]
 repeat' split
 all_goals simp_all
def zbi(k:Int):ze:=ze.mk k (IntKind.wrap .i64 (k+1))
theorem zh5(k:Int):xK k=some (zbi k):=rfl
theorem znH(k:Int):KK k=some (zbi k):=rfl
theorem zg5{k:Int}(h:0≤k∧k≤999):z8 (zbi k)=true:=by
 unfold zbi z8
 rw[w64 (by omega) (by omega)]
 simp
 omega
theorem zjv(xs:List zN)(h:xs.length≤1048576):xg xs=some (xs.map (·.Tx)):=by
 unfold xg
 refine qM (fun i=>((xs.take i).map (·.Tx),(i:Int))) _ xs.length (by omega) (fun kb i hi=> ?_) (fun kb=> ?_) (by simp)
 ·unfold XY
  simp only[zP hi,Option.bind_some,qh i _ hi (by omega)]
  rw[if_pos (by omega),if_pos (by simp;omega),List.take_succ_eq_append_getElem hi,List.map_append]
  rfl
 ·unfold XY XW
  rw[if_neg (by simp)]
  simp
theorem zho(xs:List (List Int))(h:xs.length≤1048576)(hs:yd List.length xs≤100000000):Zj xs=some xs.flatten:=by
 unfold Zj
 have hst:=fun i=>Xw List.length xs i
 refine qM (fun i=>(((yd List.length (xs.take i):Nat):Int),(i:Int))) _ xs.length (by omega) (fun kb i hi=> ?_) (fun kb=> ?_) (by simp[yd])
 ·unfold ZQ
  have h1:=hst (i+1)
  have h2:=XN List.length hi
  have e:IntKind.wrap .i64 (((yd List.length (xs.take i):Nat):Int)+(xs[i].length:Int))=((yd List.length (xs.take (i+1)):Nat):Int):=by rw[w64 (by omega) (by omega),h2];omega
  simp only[zP hi,Option.bind_some,qh i _ hi (by omega),e]
  rw[if_pos (by omega),if_neg (by omega)]
 ·unfold ZQ Z8 Xm
  rw[if_neg (by simp)]
  have h1:=hst xs.length
  simp only
  rw[if_pos (by omega)]
  simp only[Option.bind_some]
  refine qM (fun i=>((xs.take i).flatten,(i:Int))) _ xs.length (by omega) (fun kb i hi=> ?_) (fun kb=> ?_) (by simp)
  ·unfold Qb
   have h3:=hst (i+1)
   have hf:∀ys:List (List Int),ys.flatten.length=yd List.length ys:=fun ys=>by
    induction ys with
    |nil=>rfl
    |cons y ys ih=>simp only[List.flatten_cons,List.length_append,yd,ih]
   have h2:=XN List.length hi
   have e:(xs.take (i+1)).flatten=(xs.take i).flatten++xs[i]:=by rw[List.take_succ_eq_append_getElem hi,List.flatten_append];simp
   simp only[zP hi,Option.bind_some,qh i _ hi (by omega)]
   rw[if_pos (by omega),if_pos (by rw[←e,hf];omega),e]
  ·unfold Qb Z4
   rw[if_neg (by simp)]
   simp
def kM(xs:List zn)(hs:List zN):Int:=(hs.map fun h=>Xd xs h.Writes).sum
theorem zhT(xs ws:List zn):-1≤Xd xs ws∧Xd xs ws≤ws.length:=by
 unfold Xd
 have:=List.length_filter_le (zdi xs) ws
 split<;>omega
theorem zca(xs:List zn):∀hs:List zN,-(hs.length:Int)≤kM xs hs∧kM xs hs≤(yd (fun h:zN=>h.Writes.length) hs:Nat)
 |[]=>by simp[kM,yd]
 |h::hs=>by
  have:=zca xs hs
  have h2:=zhT xs h.Writes
  unfold kM at this ⊢
  simp only[List.map_cons,List.sum_cons,yd,List.length_cons]
  omega
theorem zai(xs:List zn){hs:List zN}{i:Nat}(hi:i < hs.length):kM xs (hs.take (i+1))=kM xs (hs.take i)+Xd xs hs[i].Writes:=by
 unfold kM
 rw[List.take_succ_eq_append_getElem hi,List.map_append,List.sum_append]
 simp
theorem Zq(hs:List zN):qc hs=hs.length+yd (fun h:zN=>h.Writes.length) hs:=rfl
theorem zaA{hs:List zN}(h:qc hs≤1048576){i:Nat}(hi:i < hs.length):hs[i].Writes.length≤1048576:=by
 rw[Zq] at h
 have h1:=XN (fun h:zN=>h.Writes.length) hi
 have h2:=Xw (fun h:zN=>h.Writes.length) hs (i+1)
 omega
theorem zlu(s:zo)(h:zr s≤1048576):xC s=some (kM s.Cells s.Helds):=by
 have hc:s.Cells.length≤1048576:=by unfold zr at h;omega
 have hh:qc s.Helds≤1048576:=by unfold zr at h;omega
 have hh2:=hh
 rw[Zq] at hh2
 unfold xC
 refine qM (fun i=>(kM s.Cells (s.Helds.take i),(i:Int))) _ s.Helds.length (by omega) (fun kb i hi=> ?_) (fun kb=> ?_) (by simp[kM])
 ·unfold kS
  have b1:=zca s.Cells (s.Helds.take (i+1))
  have b2:=Xw (fun h:zN=>h.Writes.length) s.Helds (i+1)
  have b3:(s.Helds.take (i+1)).length≤s.Helds.length:=by simp;omega
  rw[zai s.Cells hi] at b1
  simp only[zP hi,zeJ _ _ hc (zaA hh hi),Option.bind_some,qh i _ hi (by omega),zai s.Cells hi]
  rw[if_pos (by omega),w64 (by omega) (by omega)]
 ·unfold kS k9
  rw[if_neg (by simp)]
  simp
theorem zxq(s:zo)(h:zr s≤1048576):X7 s=some ((s.Cells.length:Int)+kM s.Cells s.Helds):=by
 have hc:s.Cells.length≤1048576:=by unfold zr at h;omega
 have hh:qc s.Helds≤1048576:=by unfold zr at h;omega
 have hh2:=hh
 rw[Zq] at hh2
 unfold X7
 refine qM (fun i=>((s.Cells.length:Int)+kM s.Cells (s.Helds.take i),(i:Int))) _ s.Helds.length (by omega) (fun kb i hi=> ?_) (fun kb=> ?_) (by simp[kM])
 ·unfold Kt
  have b1:=zca s.Cells (s.Helds.take (i+1))
  have b2:=Xw (fun h:zN=>h.Writes.length) s.Helds (i+1)
  have b3:(s.Helds.take (i+1)).length≤s.Helds.length:=by simp;omega
  rw[zai s.Cells hi] at b1
  simp only[zP hi,zeP _ _ hc (zaA hh hi),Option.bind_some,qh i _ hi (by omega),zai s.Cells hi]
  rw[if_pos (by omega),w64 (by omega) (by omega),Int.add_assoc]
 ·unfold Kt Ko
  rw[if_neg (by simp)]
  simp
def Xk(s:zo)(h:zN):Bool:=h.Writes.all fun w=>s.Locks.any (KW h.Tx (zbi w.Key) 2)
theorem ziB(w:zn)(s:zo)(h:zN)(hs:s.Locks.length≤1048576):Qp w s h=some (!kF s.Locks h.Tx (zbi w.Key) 2):=by
 unfold Qp
 simp only[znH,zd2 _ _ _ _ hs,Option.bind_some]
theorem zcB(ws:List zn)(s:zo)(h:zN)(hs:s.Locks.length≤1048576)(hw:ws.length≤1048576):qu ws s h=some (ws.any fun w=>!kF s.Locks h.Tx (zbi w.Key) 2):=by
 unfold qu jt
 rw[Qe ws (fun w=>!kF s.Locks h.Tx (zbi w.Key) 2) (by omega) (fun kb i hi=> ?_) (fun kb=> ?_)]
 ·simp only[Option.bind_some,Zm]
 ·unfold ji
  simp only[zP hi,ziB _ _ _ hs,Option.bind_some,qh i _ hi (by omega)]
  rw[if_pos (by omega)]
 ·unfold ji
  rw[if_neg (by omega)];rfl
theorem zls{s:zo}{h:zN}(hg:qQ s.Locks=true)(hw:jH h.Writes=true):(h.Writes.any fun w=>!kF s.Locks h.Tx (zbi w.Key) 2)= !Xk s h:=by
 have:∀w∈h.Writes,(!kF s.Locks h.Tx (zbi w.Key) 2)= !(s.Locks.any (KW h.Tx (zbi w.Key) 2)):=fun w hm=>by
  obtain⟨i,hi,rfl⟩:=List.mem_iff_getElem.1 hm
  have hk:=(zaq hw hi).2
  unfold kF
  rw[hg,zg5 hk]
  rfl
 unfold Xk
 rw[List.not_all_eq_any_not]
 rw[Bool.eq_iff_iff,List.any_eq_true,List.any_eq_true]
 constructor<;>rintro⟨w,hm,e⟩<;>refine⟨w,hm,?_⟩
 ·rw[←this w hm];exact e
 ·rw[this w hm];exact e
def zcs(s:zo)(h:zN):Bool:=jH h.Writes&&Xk s h
theorem zkw(s:zo)(h:zr s≤1048576)(hg:qQ s.Locks=true):Yo s=some (s.Helds.all (zcs s)&&jR (s.Helds.map (·.Tx))):=by
 have hl:s.Locks.length≤1048576:=by unfold zr at h;omega
 have hh:qc s.Helds≤1048576:=by unfold zr at h;omega
 have hn:s.Helds.length≤1048576:=by rw[Zq] at hh;omega
 unfold Yo
 rw[XE s.Helds (zcs s) (some false) (some (jR (s.Helds.map (·.Tx)))) (by omega) (fun kb i hi=> ?_) (fun kb=> ?_)]
 ·cases s.Helds.all (zcs s)<;>simp
 ·unfold xO Qv zcs
  have hw:=zaA hh hi
  simp only[zP hi,za6 _ hw,zcB _ _ _ hl hw,Option.bind_some,qh i _ hi (by omega)]
  rw[if_pos (by omega)]
  cases hwg:jH s.Helds[i].Writes
  ·simp
  ·rw[zls hg hwg]
   cases Xk s s.Helds[i]<;>simp
 ·unfold xO xZ
  rw[if_neg (by omega)]
  simp only[zjv _ hn,zbk _ (show(s.Helds.map (·.Tx)).length≤1048576 by simpa using hn),Option.bind_some]
def xr(s:zo)(i:Nat):Bool:=match s.Helds[i]? with
 |none=>true
 |some h=>qC h.Tx 1 60&&(i == 0||match s.Helds[i - 1]? with|some p=>decide (p.Tx < h.Tx)|none=>true)&&jH h.Writes&&Xk s h&&!s.Wounded.contains h.Tx&&!s.Ended.contains h.Tx
theorem zki(s:zo)(hd:zN)(kx:Unit→Option Bool)(h:zr s≤1048576)(hw:hd.Writes.length≤1048576)(hg:qQ s.Locks=true)(hwg:jH hd.Writes=true):jm hd s kx false=if Xk s hd=true then(if (!s.Wounded.contains hd.Tx&&!s.Ended.contains hd.Tx)=true then kx () else some false) else some false:=by
 have hW:s.Wounded.length≤1048576:=by unfold zr at h;omega
 have hE:s.Ended.length≤1048576:=by unfold zr at h;omega
 unfold jm Xk
 rw[if_neg (by simp)]
 refine XE hd.Writes (fun w=>s.Locks.any (KW hd.Tx (zbi w.Key) 2)) (some false) _ (by omega) (fun kb i hi=> ?_) (fun kb=> ?_)
 ·unfold Qk
  have hk:=(zaq hwg hi).2
  simp only[zP hi,zh5,zjj _ hd.Tx _ 2 hg (zg5 hk) (by decide),Option.bind_some,qh i _ hi (by omega)]
  rw[if_pos (by omega)]
 ·unfold Qk Qj Zi
  rw[if_neg (by omega)]
  simp only[zbr _ _ hW,zbr _ _ hE,Option.bind_some]
  cases s.Wounded.contains hd.Tx<;>cases s.Ended.contains hd.Tx<;>simp
theorem zhl(s:zo)(h:zr s≤1048576)(hg:qQ s.Locks=true):Z2 s=some ((List.range s.Helds.length).all (xr s)):=by
 have hh:qc s.Helds≤1048576:=by unfold zr at h;omega
 have hn:s.Helds.length≤1048576:=by rw[Zq] at hh;omega
 unfold Z2
 rw[jT (s0:=(0:Int)) (fun i=>(i:Int)) (xr s) (some false) (some true) s.Helds.length (by omega) (fun kb i hi=> ?_) (fun kb=> ?_) rfl]
 ·split<;>simp_all
 ·have hw:=zaA hh hi
  have J:∀kx,jm s.Helds[i] s kx true=some false:=fun kx=>rfl
  unfold Jb xr
  simp only[zP hi,zhm,zbd _ hw,Option.bind_some,List.getElem?_eq_getElem hi]
  rw[if_pos (by omega)]
  cases hwg:jH s.Helds[i].Writes
  ·cases qC s.Helds[i].Tx 1 60<;>simp[J]
   intro h0
   have h2:IntKind.wrap .i64 ((i:Int) - 1)=((i - 1:Nat):Int):=by rw[w64 (by omega) (by omega)];omega
   have h3:i - 1 < s.Helds.length:=by omega
   simp only[h2,zP h3,Option.bind_some]
  ·simp only[Bool.not_true,zki s s.Helds[i] _ h hw hg hwg]
   unfold jb
   rw[qh i _ hi (by omega)]
   cases qC s.Helds[i].Tx 1 60<;>simp[J]
   by_cases h0:0 < i
   ·have h2:IntKind.wrap .i64 ((i:Int) - 1)=((i - 1:Nat):Int):=by rw[w64 (by omega) (by omega)];omega
    have h3:i - 1 < s.Helds.length:=by omega
    have h4:¬i=0:=by omega
    simp only[h0,if_true,h2,zP h3,Option.bind_some,List.getElem?_eq_getElem h3,h4,false_or]
    by_cases h5:s.Helds[i].Tx≤s.Helds[i - 1].Tx
    ·have:¬s.Helds[i - 1].Tx < s.Helds[i].Tx:=by omega
     simp[h5,this]
    ·have:s.Helds[i - 1].Tx < s.Helds[i].Tx:=by omega
     simp[h5,this]
     cases Xk s s.Helds[i]<;>simp
   ·have h4:i=0:=by omega
    subst h4
    simp
    cases Xk s s.Helds[0]<;>simp
 ·unfold Jb
  rw[if_neg (by omega)];rfl
theorem zis(s:zo)(a:ze)(h:s.Own.length≤1048576):QR a s=some (!Zp s.Own a):=by
 unfold QR
 simp only[zb9 _ _ h,Option.bind_some]
theorem zh0(s:zo)(a:zn)(h:s.Own.length≤1048576):QJ a s=some (!Zp s.Own (zbi a.Key)):=by
 unfold QJ
 simp only[znH,zb9 _ _ h,Option.bind_some]
theorem ziu(s:zo)(l:zL)(g:List Int)(h:s.Own.length≤1048576)(hg:g.length≤1048576):QA l s g=some (!Zp s.Own ⟨l.Lo,l.Hi⟩||g.contains l.Tx):=by
 unfold QA qH
 simp only[zb9 _ _ h,zfg _ _ hg,Option.bind_some]
 cases Zp s.Own ⟨l.Lo,l.Hi⟩<;>simp
theorem zdd(xs:List ze)(s:zo)(h:s.Own.length≤1048576)(hx:xs.length≤1048576):qw xs s=some (xs.any fun a=>!Zp s.Own a):=by
 unfold qw jo
 rw[Qe xs (fun a=>!Zp s.Own a) (by omega) (fun kb i hi=> ?_) (fun kb=> ?_)]
 ·simp only[Option.bind_some,Zm]
 ·unfold jj
  simp only[zP hi,zis _ _ h,Option.bind_some,qh i _ hi (by omega)]
  rw[if_pos (by omega)]
 ·unfold jj
  rw[if_neg (by omega)];rfl
theorem zc3(xs:List zn)(s:zo)(h:s.Own.length≤1048576)(hx:xs.length≤1048576):qB xs s=some (xs.any fun a=>!Zp s.Own (zbi a.Key)):=by
 unfold qB jz
 rw[Qe xs (fun a=>!Zp s.Own (zbi a.Key)) (by omega) (fun kb i hi=> ?_) (fun kb=> ?_)]
 ·simp only[Option.bind_some,Zm]
 ·unfold js
  simp only[zP hi,zh0 _ _ h,Option.bind_some,qh i _ hi (by omega)]
  rw[if_pos (by omega)]
 ·unfold js
  rw[if_neg (by omega)];rfl
theorem zda(xs:List zL)(s:zo)(g:List Int)(h:s.Own.length≤1048576)(hg:g.length≤1048576)(hx:xs.length≤1048576):qA xs s g=some (xs.any fun l=>!Zp s.Own ⟨l.Lo,l.Hi⟩||g.contains l.Tx):=by
 unfold qA jx
 rw[Qe xs (fun l=>!Zp s.Own ⟨l.Lo,l.Hi⟩||g.contains l.Tx) (by omega) (fun kb i hi=> ?_) (fun kb=> ?_)]
 ·simp only[Option.bind_some,Zm]
 ·unfold jq
  simp only[zP hi,ziu _ _ _ h hg,Option.bind_some,qh i _ hi (by omega)]
  rw[if_pos (by omega)]
 ·unfold jq
  rw[if_neg (by omega)];rfl
def zdn(s:zo):Bool:=s.Frozen.all (Zp s.Own)
def zcN(s:zo):Bool:=s.Cells.all fun c=>Zp s.Own (zbi c.Key)
def Ki(s:zo):Bool:=s.Locks.all fun l=>Zp s.Own ⟨l.Lo,l.Hi⟩&&(!s.Wounded.contains l.Tx&&!s.Ended.contains l.Tx)
def zar(s:zo):Bool:=s.Wounded.all fun t=>!s.Ended.contains t
def zaj(s:zo):Bool:=decide ((s.Cells.length:Int)+kM s.Cells s.Helds≤60)
def zib(s:zo):Bool:=zdn s&&zcN s&&Ki s&&zar s&&(List.range s.Helds.length).all (xr s)&&zaj s
theorem ztQ(s:zo)(h:zr s≤1048576)(hg:qQ s.Locks=true):QG s ()=some ((List.range s.Helds.length).all (xr s)&&zaj s):=by
 have hc:s.Cells.length≤1048576:=by unfold zr at h;omega
 have hh:qc s.Helds≤1048576:=by unfold zr at h;omega
 rw[Zq] at hh
 have hb:=zca s.Cells s.Helds
 unfold QG zaj
 simp only[zhl s h hg,zlu s h,Option.bind_some]
 rw[w64 (by omega) (by omega)]
 cases(List.range s.Helds.length).all (xr s)<;>simp
theorem zx6(s:zo)(h:zr s≤1048576)(hg:qQ s.Locks=true):QD s ()=some (zar s&&((List.range s.Helds.length).all (xr s)&&zaj s)):=by
 have hW:s.Wounded.length≤1048576:=by unfold zr at h;omega
 have hE:s.Ended.length≤1048576:=by unfold zr at h;omega
 unfold QD zar
 rw[XE s.Wounded (fun t=>!s.Ended.contains t) (some false) (some ((List.range s.Helds.length).all (xr s)&&zaj s)) (by omega) (fun kb i hi=> ?_) (fun kb=> ?_)]
 ·cases s.Wounded.all _<;>simp
 ·unfold xd
  simp only[zP hi,zbr _ _ hE,Option.bind_some,qh i _ hi (by omega)]
  rw[if_pos (by omega)]
  cases s.Ended.contains s.Wounded[i]<;>simp
 ·unfold xd
  rw[if_neg (by omega)]
  exact ztQ s h hg
theorem zpB(s:zo)(h:zr s≤1048576)(hg:qQ s.Locks=true)(ho:qf s.Own=true):QM s ()=some (Ki s&&(zar s&&((List.range s.Helds.length).all (xr s)&&zaj s))):=by
 have hO:s.Own.length≤1048576:=by unfold zr at h;omega
 have hL:s.Locks.length≤1048576:=by unfold zr at h;omega
 have hW:s.Wounded.length≤1048576:=by unfold zr at h;omega
 have hE:s.Ended.length≤1048576:=by unfold zr at h;omega
 unfold QM Ki
 rw[XE s.Locks (fun l=>Zp s.Own ⟨l.Lo,l.Hi⟩&&(!s.Wounded.contains l.Tx&&!s.Ended.contains l.Tx)) (some false) (some (zar s&&((List.range s.Helds.length).all (xr s)&&zaj s))) (by omega) (fun kb i hi=> ?_) (fun kb=> ?_)]
 ·cases s.Locks.all _<;>simp
 ·unfold xj ZG qT
  simp only[zP hi,Kq _ _ hO,ho,zdE hg hi,zbr _ _ hE,zbr _ _ hW,Option.bind_some,qh i _ hi (by omega),Bool.true_and]
  rw[if_pos (by omega)]
  cases Zp s.Own ⟨s.Locks[i].Lo,s.Locks[i].Hi⟩<;>cases s.Wounded.contains s.Locks[i].Tx<;>cases s.Ended.contains s.Locks[i].Tx<;>simp
 ·unfold xj
  rw[if_neg (by omega)]
  exact zx6 s h hg
theorem zll{xs:List zn}(hg:qP xs=true){i:Nat}(hi:i < xs.length):0≤xs[i].Key∧xs[i].Key≤999:=by
 unfold qP at hg
 simp only[Bool.and_eq_true,List.all_eq_true] at hg
 have:=hg.2 i (List.mem_range.2 hi)
 unfold kW qC at this
 rw[List.getElem?_eq_getElem hi] at this
 simp only[Bool.and_eq_true,decide_eq_true_eq] at this
 exact this.1.1
theorem zAq(s:zo)(h:zr s≤1048576)(hg:qQ s.Locks=true)(ho:qf s.Own=true)(hs:qP s.Cells=true):Jg s ()=some (zcN s&&(Ki s&&(zar s&&((List.range s.Helds.length).all (xr s)&&zaj s)))):=by
 have hO:s.Own.length≤1048576:=by unfold zr at h;omega
 have hC:s.Cells.length≤1048576:=by unfold zr at h;omega
 unfold Jg zcN
 rw[XE s.Cells (fun c=>Zp s.Own (zbi c.Key)) (some false) (some (Ki s&&(zar s&&((List.range s.Helds.length).all (xr s)&&zaj s)))) (by omega) (fun kb i hi=> ?_) (fun kb=> ?_)]
 ·cases s.Cells.all _<;>simp
 ·unfold YN
  simp only[zP hi,zh5,Kq _ _ hO,ho,zg5 (zll hs hi),Option.bind_some,qh i _ hi (by omega),Bool.true_and]
  rw[if_pos (by omega)]
 ·unfold YN
  rw[if_neg (by omega)]
  exact zpB s h hg ho
theorem zDJ(s:zo)(h:zr s≤1048576)(hg:qQ s.Locks=true)(ho:qf s.Own=true)(hf:qf s.Frozen=true)(hs:qP s.Cells=true):jL s false=some (zib s):=by
 have hO:s.Own.length≤1048576:=by unfold zr at h;omega
 have hC:s.Frozen.length≤1048576:=by unfold zr at h;omega
 unfold jL zib zdn
 rw[if_neg (by simp)]
 rw[XE s.Frozen (Zp s.Own) (some false) (some (zcN s&&(Ki s&&(zar s&&((List.range s.Helds.length).all (xr s)&&zaj s))))) (by omega) (fun kb i hi=> ?_) (fun kb=> ?_)]
 ·cases s.Frozen.all _<;>simp[Bool.and_assoc]
 ·unfold YM
  simp only[zP hi,Kq _ _ hO,ho,Jz hf hi,Option.bind_some,qh i _ hi (by omega),Bool.true_and]
  rw[if_pos (by omega)]
 ·unfold YM
  rw[if_neg (by omega)]
  exact zAq s h hg ho hs
def zaP(s:zo):Bool:=qC s.Me 0 3&&qf s.Own&&qf s.Frozen&&qP s.Cells&&qQ s.Locks&&qC s.Rank 0 1000000&&(decide (s.Helds.length≤60)&&decide (s.Wounded.length≤60)&&decide (s.Ended.length≤60)&&jR s.Wounded&&jR s.Ended)&&zib s
theorem zeI(s:zo)(h:zr s≤1048576):Yx s=some (zaP s):=by
 have hO:s.Own.length≤1048576:=by unfold zr at h;omega
 have hF:s.Frozen.length≤1048576:=by unfold zr at h;omega
 have hC:s.Cells.length≤1048576:=by unfold zr at h;omega
 have hL:s.Locks.length≤1048576:=by unfold zr at h;omega
 have hW:s.Wounded.length≤1048576:=by unfold zr at h;omega
 have hE:s.Ended.length≤1048576:=by unfold zr at h;omega
 have J2:jK s true=some false:=rfl
 have J5:jL s true=some false:=rfl
 unfold Yx zaP
 simp only[zcI,km _ hO,km _ hF,Yr _ hC,zff _ hL,Option.bind_some]
 cases qC s.Me 0 3
 ·simp[J2]
 cases ho:qf s.Own
 ·simp[J2]
 cases hf:qf s.Frozen
 ·simp[J2]
 cases hs:qP s.Cells
 ·simp[J2]
 cases hg:qQ s.Locks
 ·simp[J2]
 cases qC s.Rank 0 1000000
 ·simp[J2]
 simp only[if_true,Bool.not_true,Bool.true_and]
 unfold jK
 simp only[zh4 _ hW,zh4 _ hE,Option.bind_some,Bool.false_eq_true,if_false,J5]
 by_cases c1:60 < (s.Helds.length:Int)
 ·have:¬s.Helds.length≤60:=by omega
  simp[c1,this]
 by_cases c2:60 < (s.Wounded.length:Int)
 ·have:¬s.Wounded.length≤60:=by omega
  simp[c1,c2,this]
 by_cases c3:60 < (s.Ended.length:Int)
 ·have:¬s.Ended.length≤60:=by omega
  simp[c1,c2,c3,this]
 have d1:s.Helds.length≤60:=by omega
 have d2:s.Wounded.length≤60:=by omega
 have d3:s.Ended.length≤60:=by omega
 simp only[c1,c2,c3,if_false,d1,d2,d3,decide_true,Bool.true_and]
 cases jR s.Wounded<;>cases jR s.Ended<;>simp[J5,zDJ s h hg ho hf hs]
def zch(s:zo):List Int:=s.Helds.map (·.Tx)
def zee(s:zo):Bool:=decide (zch s++(s.Wounded++s.Ended)).Nodup
def zjz(s:zo):Bool:=qC s.Me 0 3&&qf s.Own&&qf s.Frozen&&qP s.Cells&&qQ s.Locks&&(s.Helds.all (zcs s)&&jR (zch s))&&jR s.Wounded&&jR s.Ended&&qC s.Rank 0 1000000&&(zdn s&&zcN s&&Ki s&&zee s&&zaj s)
theorem zAn(s:zo)(h:zr s≤1048576):Zd s false=some (Ki s&&zee s&&zaj s):=by
 have hO:s.Own.length≤1048576:=by unfold zr at h;omega
 have hL:s.Locks.length≤1048576:=by unfold zr at h;omega
 have hWE:s.Wounded.length+s.Ended.length≤1048576:=by unfold zr at h;omega
 have hh:qc s.Helds+s.Wounded.length+s.Ended.length≤1048576:=by unfold zr at h;omega
 rw[Zq] at hh
 have hn:s.Helds.length≤1048576:=by omega
 have hfl:[s.Wounded,s.Ended].flatten=s.Wounded++s.Ended:=by simp
 unfold Zd
 rw[if_neg (by simp),zho _ (by simp) (by simp[yd];omega),hfl]
 simp only[zda _ _ _ hO (show(s.Wounded++s.Ended).length≤1048576 by simpa using hWE) hL,zjv _ hn,Option.bind_some]
 have eL:(s.Locks.any fun l=>!Zp s.Own ⟨l.Lo,l.Hi⟩||(s.Wounded++s.Ended).contains l.Tx)= !Ki s:=by
  unfold Ki
  rw[List.not_all_eq_any_not]
  congr 1
  funext l
  rw[List.contains_append]
  cases Zp s.Own ⟨l.Lo,l.Hi⟩<;>cases s.Wounded.contains l.Tx<;>cases s.Ended.contains l.Tx<;>rfl
 rw[eL]
 cases Ki s
 ·simp
 ·simp only[Bool.not_true,Bool.false_eq_true,if_false,Bool.true_and]
  have hlen:(List.map (fun x=>x.Tx) s.Helds++(s.Wounded++s.Ended)).length≤1048576:=by simp;omega
  rw[if_pos (by omega)]
  unfold Xo JW
  rw[if_pos (by omega)]
  simp only[Option.bind_some]
  rw[if_pos (KB _),zbZ _ (by rw[KB];omega)]
  simp only[Option.bind_some]
  rw[if_pos (by rw[KB];omega)]
  simp only[Option.bind_some,zxq s h]
  have e:=zhg (List.map (fun x=>x.Tx) s.Helds++(s.Wounded++s.Ended))
  unfold zee zch zaj
  by_cases c:(List.map (fun x=>x.Tx) s.Helds++(s.Wounded++s.Ended)).Nodup
  ·rw[if_pos (by have:=e.2 c;omega)]
   simp[c]
  ·rw[if_neg (fun k=>c (e.1 (by omega)))]
   simp[c]
theorem zeK(s:zo)(h:zr s≤1048576):QP s=some (zjz s):=by
 have hO:s.Own.length≤1048576:=by unfold zr at h;omega
 have hF:s.Frozen.length≤1048576:=by unfold zr at h;omega
 have hC:s.Cells.length≤1048576:=by unfold zr at h;omega
 have hL:s.Locks.length≤1048576:=by unfold zr at h;omega
 have hW:s.Wounded.length≤1048576:=by unfold zr at h;omega
 have hE:s.Ended.length≤1048576:=by unfold zr at h;omega
 have J2:qJ s true=some false:=rfl
 have J5:Zd s true=some false:=rfl
 have K2:qJ s false=some (zdn s&&zcN s&&Ki s&&zee s&&zaj s):=by
  unfold qJ zdn zcN
  rw[if_neg (by simp)]
  simp only[zdd _ _ hO hF,zc3 _ _ hO hC,Option.bind_some]
  rw[←List.not_all_eq_any_not,←List.not_all_eq_any_not]
  cases s.Frozen.all fun a=>Zp s.Own a<;>cases s.Cells.all fun a=>Zp s.Own (zbi a.Key)<;>simp[J5,zAn s h]
 unfold QP zjz zch
 simp only[zkd,X8 _ hO,X8 _ hF,KY _ hC,zbG _ hL,Option.bind_some]
 cases qC s.Me 0 3
 ·simp[J2]
 cases ho:qf s.Own
 ·simp[J2]
 cases hf:qf s.Frozen
 ·simp[J2]
 cases hs:qP s.Cells
 ·simp[J2]
 cases hg:qQ s.Locks
 ·simp[J2]
 simp only[zkw s h hg,zbk _ hW,zbk _ hE,zaV,Option.bind_some,if_true,Bool.true_and]
 cases s.Helds.all (zcs s)
 ·simp[J2]
 cases jR (s.Helds.map (·.Tx))
 ·simp[J2]
 cases jR s.Wounded
 ·simp[J2]
 cases jR s.Ended
 ·simp[J2]
 cases qC s.Rank 0 1000000<;>simp[J2,K2]
theorem zdT(s:zo){i:Nat}(hi:i < s.Helds.length):xr s i=(zim (zch s) i&&zcs s s.Helds[i]&&(!s.Wounded.contains s.Helds[i].Tx&&!s.Ended.contains s.Helds[i].Tx)):=by
 unfold xr zim zcs zch
 simp only[List.getElem?_map,List.getElem?_eq_getElem hi,Option.map_some]
 by_cases h0:i=0
 ·subst h0
  simp[Bool.and_assoc]
 ·have h3:i - 1 < s.Helds.length:=by omega
  simp[List.getElem?_eq_getElem h3,h0,Bool.and_assoc]
theorem zkx(s:zo):(List.range s.Helds.length).all (xr s)=(s.Helds.all (zcs s)&&jR (zch s)&&(zch s).all fun t=>!s.Wounded.contains t&&!s.Ended.contains t):=by
 rw[Bool.eq_iff_iff]
 unfold jR
 simp only[Bool.and_eq_true,List.all_eq_true,List.mem_range]
 have hl:(zch s).length=s.Helds.length:=by unfold zch;simp
 constructor
 ·intro H
  have H':∀i (hi:i < s.Helds.length),_:=fun i hi=>by have:=H i hi;rw[zdT s hi] at this;simpa only[Bool.and_eq_true] using this
  refine⟨⟨fun x hx=> ?_,fun i hi=>(H' i (by omega)).1.1⟩,fun t ht=> ?_⟩
  ·obtain⟨i,hi,rfl⟩:=List.mem_iff_getElem.1 hx
   exact(H' i hi).1.2
  ·unfold zch at ht
   obtain⟨x,hx,rfl⟩:=List.mem_map.1 ht
   obtain⟨i,hi,rfl⟩:=List.mem_iff_getElem.1 hx
   exact(H' i hi).2
 ·rintro⟨⟨h1,h2⟩,h3⟩ i hi
  rw[zdT s hi]
  simp only[Bool.and_eq_true]
  exact⟨⟨h2 i (by omega),h1 _ (List.getElem_mem hi)⟩,h3 _ (by unfold zch;exact List.mem_map.2 ⟨_,List.getElem_mem hi,rfl⟩)⟩
theorem zlx(s:zo):zaP s=zjz s:=by
 unfold zaP zjz zib
 rw[zkx]
 rw[Bool.eq_iff_iff]
 simp only[Bool.and_eq_true,decide_eq_true_eq]
 have hl:(zch s).length=s.Helds.length:=by unfold zch;simp
 have ap:jR (zch s)=true→jR s.Wounded=true→jR s.Ended=true→(zee s=true↔(zar s=true∧((zch s).all fun t=>!s.Wounded.contains t&&!s.Ended.contains t)=true)):=by
  intro g1 g2 g3
  unfold zee zar
  simp only[decide_eq_true_eq,List.nodup_append,List.all_eq_true,Bool.and_eq_true,Bool.not_eq_true',List.mem_append]
  have nc:∀(xs:List Int) (z:Int),xs.contains z=false↔z∉xs:=fun xs z=>by
   rw[←List.contains_iff_mem]
   cases xs.contains z<;>simp
  simp only[nc]
  constructor
  ·rintro⟨_,⟨_,_,d1⟩,d2⟩
   exact⟨fun t ht he=>d1 t ht t he rfl,fun t ht=>⟨fun hw=>d2 t ht t (.inl hw) rfl,fun he=>d2 t ht t (.inr he) rfl⟩⟩
  ·rintro⟨w,d⟩
   refine⟨zal g1,⟨zal g2,zal g3,fun a ha b hb e=>w a ha (e▸hb)⟩,fun a ha b hb e=> ?_⟩
   subst e
   rcases hb with hb|hb
   ·exact(d a ha).1 hb
   ·exact(d a ha).2 hb
 constructor
 ·rintro⟨⟨⟨⟨⟨⟨⟨a1,a2⟩,a3⟩,a4⟩,a5⟩,a6⟩,⟨⟨⟨b1,b2⟩,b3⟩,b4⟩,b5⟩,⟨⟨⟨⟨c1,c2⟩,c3⟩,c4⟩,⟨c5,c6⟩,c7⟩,c8⟩
  exact⟨⟨⟨⟨⟨⟨⟨⟨⟨a1,a2⟩,a3⟩,a4⟩,a5⟩,c5,c6⟩,b4⟩,b5⟩,a6⟩,⟨⟨⟨c1,c2⟩,c3⟩,(ap c6 b4 b5).2 ⟨c4,c7⟩⟩,c8⟩
 ·rintro⟨⟨⟨⟨⟨⟨⟨⟨⟨a1,a2⟩,a3⟩,a4⟩,a5⟩,c5,c6⟩,b4⟩,b5⟩,a6⟩,⟨⟨⟨c1,c2⟩,c3⟩,c4⟩,c8⟩
  have k:=(ap c6 b4 b5).1 c4
  exact⟨⟨⟨⟨⟨⟨⟨a1,a2⟩,a3⟩,a4⟩,a5⟩,a6⟩,⟨⟨⟨by have:=zcW c6;omega,zcW b4⟩,zcW b5⟩,b4⟩,b5⟩,⟨⟨⟨⟨c1,c2⟩,c3⟩,k.1⟩,⟨c5,c6⟩,k.2⟩,c8⟩
theorem ze2(s:zo)(h:zr s≤1048576):QP s=some (zaP s):=by rw[zlx];exact zeK s h
def hb(f:Nat→Bool):List Bool:=(List.range 1001).map f
theorem zw7(f:Nat→Bool):(hb f).length=1001:=by simp[hb]
theorem zld(f:Nat→Bool){k:Nat}(h:k < 1001):idx (hb f) (k:Int)=some (f k):=by
 rw[zP (by rw[zw7];exact h)]
 simp[hb]
theorem ztA(f:Nat→Bool){k:Nat}(h:k < 1001)(v:Bool):(hb f).set k v=hb (fun j=>if j=k then v else f j):=by
 apply List.ext_getElem
 ·simp[hb]
 ·intro i h1 h2
  rw[List.getElem_set]
  simp only[hb,List.getElem_map,List.getElem_range]
  by_cases e:k=i
  ·subst e;simp
  ·rw[if_neg e,if_neg (Ne.symm e)]
theorem zc8{f g:Nat→Bool}(h:∀j,j < 1001→f j=g j):hb f=hb g:=by
 unfold hb
 apply List.map_congr_left
 intro j hj
 exact h j (List.mem_range.1 hj)
def zbm(a:ze)(k:Nat):Bool:=decide (a.Lo≤(k:Int))&&decide ((k:Int) < a.Hi)
def QO(xs:List ze)(a:ze)(w:Bool)(k:Nat):Bool:=if zbm a k then w else xs.any fun b=>zbm b k
theorem XM{a:ze}(h:z8 a=true):0≤a.Lo∧a.Lo < a.Hi∧a.Hi≤1000:=by
 unfold z8 at h
 simp only[Bool.and_eq_true,decide_eq_true_eq] at h
 exact⟨h.1.1,h.1.2,h.2⟩
def rI(is:Nat→Bool):Nat→List ze
 |0=>[]
 |n+1=>if is n=true then(match (rI is n).getLast? with|some r=>if r.Hi=(n:Int) then(rI is n).dropLast++[⟨r.Lo,((n+1:Nat):Int)⟩] else rI is n++[⟨(n:Int),((n+1:Nat):Int)⟩]|none=>[⟨(n:Int),((n+1:Nat):Int)⟩]) else rI is n
theorem zkR(is:Nat→Bool):∀n,(rI is n).length≤n
 |0=>by simp[rI]
 |n+1=>by
  have ih:=zkR is n
  unfold rI
  split
  ·split
   ·rename_i r hr
    split
    ·have:(rI is n).dropLast.length=(rI is n).length - 1:=List.length_dropLast
     simp only[List.length_append,List.length_cons,List.length_nil];omega
    ·simp only[List.length_append,List.length_cons,List.length_nil];omega
   ·simp
  ·omega
def rS(is:Nat→Bool):Nat→List ze×Int
 |0=>([],-1)
 |n+1=>if is n=true then((rS is n).1,if (rS is n).2 < 0 then(n:Int) else(rS is n).2) else if 0≤(rS is n).2 then((rS is n).1++[⟨(rS is n).2,(n:Int)⟩],-1) else((rS is n).1,(rS is n).2)
theorem zli(is:Nat→Bool):∀n,(rS is n).1.length≤n
 |0=>by simp[rS]
 |n+1=>by
  have ih:=zli is n
  unfold rS
  split
  ·simp only;omega
  ·split
   ·simp only[List.length_append,List.length_cons,List.length_nil];omega
   ·simp only;omega
theorem zlV(is:Nat→Bool):∀n:Nat,rI is n=(rS is n).1++(if 0≤(rS is n).2 then[⟨(rS is n).2,(n:Int)⟩] else[])∧(∀r∈(rS is n).1,r.Hi < (n:Int))∧-1≤(rS is n).2
 |0=>by simp[rI,rS]
 |n+1=>by
  obtain⟨h1,h2,h3⟩:=zlV is n
  generalize hS:rS is n=S at h1 h2 h3
  obtain⟨out,fr⟩:=S
  simp only at h1 h2 h3
  cases hi:is n with
  |true=>
   have e2:rS is (n+1)=(out,if fr < 0 then(n:Int) else fr):=by simp[rS,hi,hS]
   rw[e2]
   by_cases h0:0≤fr
   ·have hn:¬fr < 0:=by omega
    rw[if_pos h0] at h1
    simp only[hn,h0,if_true,if_false]
    refine⟨?_,fun r hr=>by have:=h2 r hr;omega,h3⟩
    unfold rI
    rw[if_pos hi,h1]
    simp
   ·have hn:fr < 0:=by omega
    rw[if_neg h0,List.append_nil] at h1
    simp only[hn,if_true]
    have hnn:(0:Int)≤(n:Int):=by omega
    rw[if_pos hnn]
    refine⟨?_,fun r hr=>by have:=h2 r hr;omega,by omega⟩
    unfold rI
    rw[if_pos hi,h1]
    cases hl:out.getLast? with
    |none=>
     have:out=[]:=List.getLast?_eq_none_iff.1 hl
     simp[this]
    |some r=>
     have hm:r∈out:=List.mem_of_getLast? hl
     have:=h2 r hm
     simp only
     rw[if_neg (by omega)]
  |false=>
   have hr:rI is (n+1)=rI is n:=by simp[rI,hi]
   rw[hr,h1]
   by_cases h0:0≤fr
   ·have e2:rS is (n+1)=(out++[⟨fr,(n:Int)⟩],-1):=by simp[rS,hi,hS,h0]
    rw[e2]
    simp only[h0,if_true]
    refine⟨by simp,fun r hr=> ?_,by omega⟩
    rcases List.mem_append.1 hr with hr|hr
    ·have:=h2 r hr;omega
    ·rw[List.mem_singleton] at hr;subst hr;simp only;omega
   ·have e2:rS is (n+1)=(out,fr):=by simp[rS,hi,hS,h0]
    rw[e2]
    simp only[h0,if_false]
    exact⟨by first|trivial|rfl,fun r hr=>by have:=h2 r hr;omega,h3⟩
theorem zu1(is:Nat→Bool)(n:Nat)(h:is n=false):(rS is (n+1)).1=rI is n:=by
 obtain⟨h1,_,_⟩:=zlV is n
 rw[h1]
 simp only[rS,h,Bool.false_eq_true,if_false]
 split<;>simp
def Zn(xs:List ze)(a:ze)(w:Bool):List ze×Bool:=if qf xs&&z8 a then(if 16 < ((rI (QO xs a w) 1000).length:Int) then([],false) else(rI (QO xs a w) 1000,true)) else([],false)
theorem zjt(a:ze)(k:Nat)(h:-1000000≤a.Hi∧a.Hi≤1000000):jU a (k:Int)=some (zbm a k):=by
 unfold jU zbm
 rw[w64 (by omega) (by omega)]
 simp only[zaV,Option.bind_some,qC]
 congr 2
 rw[decide_eq_decide]
 omega
theorem zhK(xs:List ze)(a:ze)(w:Bool)(k:Nat)(hx:qf xs=true)(ha:z8 a=true):QB (k:Int) a w xs=some (QO xs a w k):=by
 have hl:=XU hx
 have hb:=XM ha
 have hc:qm xs (k:Int)=some (xs.any fun b=>zbm b k):=by
  unfold qm jd
  rw[Qe xs (fun b=>zbm b k) (by omega) (fun kb i hi=> ?_) (fun kb=> ?_)]
  ·simp only[Option.bind_some]
   rw[Zm]
  ·have hbi:=XM (Jz hx hi)
   unfold qW Q0
   simp only[zP hi,Option.bind_some,zjt xs[i] k (by omega),qh i _ hi (by omega)]
   rw[if_pos (by omega)]
  ·unfold qW
   rw[if_neg (by simp)]
   rfl
 unfold QB QO
 simp only[zjt a k (by omega),Option.bind_some,hc]
 split<;>rfl
theorem zji(xs:List ze)(a:ze)(w:Bool)(hx:qf xs=true)(ha:z8 a=true):jJ a w xs=some (rI (QO xs a w) 1000):=by
 unfold jJ
 refine qM (fun i=>(rI (QO xs a w) i,(i:Int))) _ 1000 (by omega) (fun kb i hi=> ?_) (fun kb=> ?_) (by simp[rI])
 ·have hle:=zkR (QO xs a w) i
  unfold yq jD
  simp only[zhK xs a w i hx ha,Option.bind_some,qh i 1000 hi (by omega)]
  rw[if_pos (by omega)]
  have hrw:rI (QO xs a w) (i+1)=if QO xs a w i=true then(match (rI (QO xs a w) i).getLast? with|some r=>if r.Hi=(i:Int) then(rI (QO xs a w) i).dropLast++[⟨r.Lo,((i+1:Nat):Int)⟩] else rI (QO xs a w) i++[⟨(i:Int),((i+1:Nat):Int)⟩]|none=>[⟨(i:Int),((i+1:Nat):Int)⟩]) else rI (QO xs a w) i:=rfl
  rw[hrw]
  cases hi1:QO xs a w i with
  |false=>simp
  |true=>
   simp only[if_true]
   generalize rI (QO xs a w) i=out at hle
   cases ho:out.getLast? with
   |none=>
    have:out=[]:=List.getLast?_eq_none_iff.1 ho
    subst this
    simp
   |some r=>
    have hne:out≠[]:=fun e=>by subst e;simp at ho
    have hpos:0 < out.length:=List.length_pos_iff.2 hne
    have hlast:out.length - 1 < out.length:=by omega
    have hr:out[out.length - 1]=r:=by
     rw[List.getLast?_eq_getElem?,List.getElem?_eq_getElem hlast] at ho
     exact Option.some.inj ho
    have e1:IntKind.wrap .i64 (((out.length:Nat):Int) - 1)=((out.length - 1:Nat):Int):=by rw[w64 (by omega) (by omega)];omega
    rw[if_pos (by omega)]
    simp only[e1,zP hlast,Option.bind_some,hr]
    by_cases hh:r.Hi=(i:Int)
    ·simp only[hh,decide_true,if_true,e1,zP hlast,Option.bind_some,hr,Int.toNat_natCast,qh i 1000 hi (by omega)]
     have e2:out.set (out.length - 1) (ze.mk r.Lo ((i+1:Nat):Int))=out.dropLast++[ze.mk r.Lo ((i+1:Nat):Int)]:=by
      obtain⟨ys,rfl⟩:=List.getLast?_eq_some_iff.1 ho
      rw[List.set_append_right _ _ (by simp)]
      simp
     rw[←e2]
    ·simp only[hh,decide_false,Bool.false_eq_true,if_false]
     rw[if_pos (by simp;omega)]
 ·unfold yq yp
  rw[if_neg (by simp)]
theorem zkB(xs:List ze)(a:ze)(w:Bool)(h:xs.length≤1048576):Yk xs a w=some (Zn xs a w):=by
 unfold Yk Jq Zn
 simp only[X8 _ h,QE,Option.bind_some]
 cases hx:qf xs
 ·simp
 cases ha:z8 a
 ·simp
 simp only[if_true,Bool.not_true,Bool.false_eq_true,if_false,Bool.and_self,zji xs a w hx ha,Option.bind_some]
 split<;>rfl
theorem zgU{R:Type}{f:(List Bool×Int→Option R)→List Bool×Int→Option R}(g:Nat→Bool)(v:Bool)(lo n:Nat)(k:List Bool→Option R)(hn:lo+n≤1000)
  (hs:∀kb (ys:List Bool) (j:Nat),lo≤j→j < lo+n→(∃b,idx ys (j:Int)=some b)→f kb (ys,(j:Int))=kb (ys.set j v,((j+1:Nat):Int)))
  (he:∀kb (ys:List Bool),f kb (ys,((lo+n:Nat):Int))=k ys) {s0:Int} (h0:s0=(lo:Int)):iter f FU (hb g,s0)=k (hb fun j=>if lo≤j∧j < lo+n then v else g j):=by
 subst h0
 refine qM (fun i=>(hb (fun j=>if lo≤j∧j < lo+i then v else g j),((lo+i:Nat):Int))) _ n (by omega) (fun kb i hi=> ?_) (fun kb=> ?_) ?_
 ·rw[hs kb _ (lo+i) (by omega) (by omega) ⟨_,zld _ (by omega)⟩,ztA _ (by omega)]
  congr 1
  congr 1
  refine zc8 fun j _=> ?_
  by_cases e:j=lo+i
  ·subst e;simp
  ·rw[if_neg e]
   by_cases h1:lo≤j∧j < lo+i
   ·rw[if_pos h1,if_pos ⟨h1.1,by omega⟩]
   ·rw[if_neg h1,if_neg (fun h=>h1 ⟨h.1,by omega⟩)]
 ·exact he kb _
 ·congr 1
  refine zc8 fun j _=> ?_
  rw[if_neg (by omega)]
theorem zkU{a:ze}(h:z8 a=true)(j:Nat):(a.Lo.toNat≤j∧j < a.Lo.toNat+(a.Hi - a.Lo).toNat)↔zbm a j=true:=by
 have:=XM h
 unfold zbm
 simp only[Bool.and_eq_true,decide_eq_true_eq]
 omega
theorem zkn(xs:List ze)(a:ze)(w:Bool)(h:xs.length≤1048576):Yv xs a w=some (Zn xs a w):=by
 unfold Yv Zn
 simp only[km _ h,yr,Option.bind_some]
 cases hx:qf xs
 ·simp[Zb]
 cases ha:z8 a
 ·simp[Zb]
 simp only[if_true,Bool.not_true,Bool.and_self]
 have hl:=XU hx
 have hab:=XM ha
 unfold Zb
 rw[if_neg (by simp),if_pos (by omega)]
 have hz:List.replicate (Int.toNat 1001) false=hb fun _=>false:=by
  unfold hb
  rw[List.map_const',List.length_range]
  rfl
 have fill:∀(r:ze),z8 r=true→∃lo n:Nat,r.Lo=(lo:Int)∧r.Hi=((lo+n:Nat):Int)∧lo+n≤1000∧(∀j:Nat,(lo≤j∧j < lo+n)↔zbm r j=true):=fun r hr=>by
  have hb:=XM hr
  exact⟨r.Lo.toNat,(r.Hi - r.Lo).toNat,by omega,by omega,by omega,fun j=>zkU hr j⟩
 have main:∀kx:List Bool→Option (List ze×Bool),iter (Qm xs kx) FU (hb (fun _=>false),0)=kx (hb fun j=>xs.any fun b=>zbm b j):=fun kx=>by
  refine qM (fun i=>(hb (fun j=>(xs.take i).any fun b=>zbm b j),(i:Int))) _ xs.length (by omega) (fun kb i hi=> ?_) (fun kb=> ?_) (by simp)
  ·obtain⟨lo,n,e1,e2,e3,e4⟩:=fill xs[i] (Jz hx hi)
   unfold Qm
   simp only[zP hi,Option.bind_some]
   rw[if_pos (by omega),zgU _ true lo n (QN kb (hb (fun j=>(xs.take i).any fun b=>zbm b j),(i:Int))) e3 (fun kb ys j h1 h2 hb'=> ?_) (fun kb ys=> ?_) e1]
   ·unfold QN
    simp only[qh i _ hi (by omega)]
    congr 1
    congr 1
    refine zc8 fun j _=> ?_
    rw[List.take_succ_eq_append_getElem hi,List.any_append]
    simp only[List.any_cons,List.any_nil,Bool.or_false]
    by_cases hh:lo≤j∧j < lo+n
    ·rw[if_pos hh,(e4 j).1 hh,Bool.or_true]
    ·rw[if_neg hh]
     have:zbm xs[i] j=false:=by
      rw[Bool.eq_false_iff];exact fun h=>hh ((e4 j).2 h)
     rw[this,Bool.or_false]
   ·unfold Y2
    obtain⟨b,hb'⟩:=hb'
    simp only[zP hi,Option.bind_some,hb',Int.toNat_natCast,qh j (lo+n) h2 (by omega)]
    rw[if_pos (by omega)]
   ·unfold Y2
    simp only[zP hi,Option.bind_some]
    rw[if_neg (by omega)]
  ·unfold Qm
   rw[if_neg (by simp),List.take_length]
 rw[hz,main]
 unfold xR
 obtain⟨lo,n,e1,e2,e3,e4⟩:=fill a ha
 rw[zgU _ w lo n Qw e3 (fun kb ys j h1 h2 hb'=> ?_) (fun kb ys=> ?_) e1]
 ·have hcc:(hb fun j=>if lo≤j∧j < lo+n then w else xs.any fun b=>zbm b j)=hb (QO xs a w):=by
   refine zc8 fun j _=> ?_
   unfold QO
   by_cases hh:lo≤j∧j < lo+n
   ·rw[if_pos hh,if_pos ((e4 j).1 hh)]
   ·rw[if_neg hh,if_neg (fun h=>hh ((e4 j).2 h))]
  rw[hcc]
  have hend:QO xs a w 1000=false:=by
   unfold QO
   have h1:zbm a 1000=false:=by unfold zbm;simp;omega
   rw[h1]
   simp only[Bool.false_eq_true,if_false]
   rw[List.any_eq_false]
   intro b hb
   obtain⟨i,hi,rfl⟩:=List.getElem_of_mem hb
   have:=XM (Jz hx hi)
   unfold zbm;simp;omega
  generalize QO xs a w=is at hend
  have hrI:=zu1 is 1000 hend
  rw[←hrI]
  have fin:iter (Qq (hb is) Zx) FU (([]:List ze),(-1),0)=Zx (rS is 1001).1:=by
   refine qM (fun i=>((rS is i).1,(rS is i).2,(i:Int))) _ 1001 (by omega) (fun kb i hi=> ?_) (fun kb=> ?_) (by simp[rS])
   ·have hle:=zli is i
    obtain⟨_,_,h3⟩:=zlV is i
    unfold Qq Qs ZC QF
    simp only[zld is hi,Option.bind_some,qh i 1001 hi (by omega),rS]
    rw[if_pos (by omega)]
    generalize rS is i=S at hle h3
    obtain⟨out,fr⟩:=S
    simp only at hle h3
    cases is i with
    |true=>by_cases h0:fr < 0<;>simp[h0]
    |false=>
     by_cases h0:0≤fr
     ·simp[h0];omega
     ·simp[h0]
   ·unfold Qq
    rw[if_neg (by simp)]
  unfold Qw
  rw[fin]
  unfold Zx
  split<;>rfl
 ·unfold xi
  obtain⟨b,hb'⟩:=hb'
  simp only[hb',Option.bind_some,Int.toNat_natCast,qh j (lo+n) h2 (by omega)]
  rw[if_pos (by omega)]
 ·unfold xi
  simp only
  rw[if_neg (by omega)]
theorem ze5(xs:List ze)(a:ze)(w:Bool):(Zn xs a w).1.length≤16:=by
 unfold Zn
 split
 ·split
  ·simp
  ·simp only;omega
 ·simp
theorem K3(xs:List ze)(a:ze)(h:xs.length≤1048576):y5 xs a=some (Zn xs a false):=by
 simp only[y5,zkn _ _ _ h,Option.bind_some]
theorem zaa(xs:List ze)(a:ze)(h:xs.length≤1048576):y7 xs a=some (Zn xs a false):=by
 simp only[y7,zkB _ _ _ h,Option.bind_some]
def zfs(xs:List ze)(a:ze):Bool:=xs.any fun b=>Qc a b
theorem zi4(xs:List ze)(a:ze)(h:xs.length≤1048576)(hx:qf xs=true)(ha:z8 a=true):Jj xs a=some (zfs xs a):=by
 unfold Jj zfs
 rw[zfP xs (fun b=>Qc a b) (some true) (some false) (by omega) (fun kb i hi=> ?_) (fun kb=> ?_)]
 ·cases xs.any fun b=>Qc a b<;>rfl
 ·unfold xe
  simp only[zP hi,Option.bind_some,zbV,qh i _ hi (by omega),Jz hx hi,ha,Bool.true_and,zhr (Jz hx hi) ha]
  rw[if_pos (by omega)]
  have hc:Qc xs[i] a=Qc a xs[i]:=by unfold Qc;rw[Bool.and_comm]
  rw[hc]
  cases Qc a xs[i]<;>simp
 ·unfold xe
  rw[if_neg (by simp)]
  rfl
theorem zkA(xs:List ze)(a:ze)(h:xs.length≤1048576):J6 xs a=some (zfs xs a):=by
 unfold J6 qV jp zfs
 rw[Qe xs (fun b=>Qc a b) (by omega) (fun kb i hi=> ?_) (fun kb=> ?_)]
 ·simp only[Option.bind_some,Zm]
 ·unfold jh xl
  simp only[zP hi,Option.bind_some,zht,qh i _ hi (by omega)]
  rw[if_pos (by omega)]
 ·unfold jh
  rw[if_neg (by simp)]
  rfl
theorem zeo(s:zo)(h:zr s≤1048576):yo s=some s:=by
 have hh:s.Helds.length≤1048576:=by unfold zr qc at h;omega
 have hH:qc s.Helds≤1048576:=by unfold zr at h;omega
 have hs:s.Own.length≤1048576∧s.Frozen.length≤1048576∧s.Cells.length≤1048576∧s.Locks.length≤1048576∧s.Wounded.length≤1048576∧s.Ended.length≤1048576:=by unfold zr at h;omega
 unfold yo
 simp only[zcu _ hs.1,zcu _ hs.2.1,zc2 _ hs.2.2.1,zhf _ hs.2.2.2.1,zbZ _ hs.2.2.2.2.1,zbZ _ hs.2.2.2.2.2,Option.bind_some]
 refine qM (fun i=>((i:Int),s.Helds.take i)) _ s.Helds.length (by omega) (fun kb i hi=> ?_) (fun kb=> ?_) (by simp)
 ·unfold Q2
  simp only[zP hi,Option.bind_some,zgj _ (zaA hH hi),qh i _ hi (by omega),List.take_succ_eq_append_getElem hi]
  rw[if_pos (by omega),if_pos (by simp;omega)]
 ·unfold Q2 Q1
  rw[if_neg (by simp),List.take_length]
theorem zgW(s:zo)(h:zr s≤1048576):QH s=some s:=by
 have hh:s.Helds.length≤1048576:=by unfold zr qc at h;omega
 have hH:qc s.Helds≤1048576:=by unfold zr at h;omega
 have hs:s.Own.length≤1048576∧s.Frozen.length≤1048576∧s.Cells.length≤1048576∧s.Locks.length≤1048576∧s.Wounded.length≤1048576∧s.Ended.length≤1048576:=by unfold zr at h;omega
 unfold QH
 rw[if_pos (by omega),if_pos (by omega),if_pos (by omega),if_pos (by omega)]
 refine qM (fun i=>((i:Int),s.Helds.take i)) _ s.Helds.length (by omega) (fun kb i hi=> ?_) (fun kb=> ?_) (by simp)
 ·have hw:=zaA hH hi
  unfold YL
  simp only[zP hi,Option.bind_some,qh i _ hi (by omega),List.take_succ_eq_append_getElem hi]
  rw[if_pos (by omega),if_pos (by omega),if_pos (by simp;omega)]
 ·unfold YL ko
  rw[if_neg (by simp),List.take_length,if_pos (by omega),if_pos (by omega)]
def zax(s:zo)(rank:Int)(a:ze):Int:=if zaP s&&qC rank 1 1000000&&z8 a then(if rank < s.Rank then 2 else 0) else 1
theorem zjU(s:zo)(rank:Int)(a:ze)(h:zr s≤1048576):Yw s rank a=some (zax s rank a):=by
 unfold Yw ZT zax
 simp only[zeI _ h,zcI,yr,Option.bind_some]
 cases zaP s<;>cases qC rank 1 1000000<;>cases z8 a<;>simp
 split<;>rfl
theorem zj1(s:zo)(rank:Int)(a:ze)(h:zr s≤1048576):Yy s rank a=some (zax s rank a):=by
 unfold Yy ZZ zax
 simp only[ze2 _ h,zaV,QE,Option.bind_some]
 cases zaP s<;>cases qC rank 1 1000000<;>cases z8 a<;>simp
 split<;>rfl
def zg1:zo:=⟨0,[],[],[],[],[],[],[],0⟩
def KS(s:zo)(code:Int):zo:=if code=1 then zg1 else s
theorem zhx(s:zo)(code:Int)(h:zr s≤1048576):Z5 s code=some (KS s code):=by
 unfold Z5 KS
 rw[zgW s h]
 split<;>rfl
theorem zj2(s:zo)(code:Int)(h:zr s≤1048576):YD s code=some (KS s code,code):=by
 unfold YD KS
 rw[zeo s h]
 split
 ·rename_i e;rw[e];rfl
 ·rfl
theorem zhe(s:zo)(code:Int):zr (KS s code)≤zr s:=by
 unfold KS
 split
 ·simp[zg1,zr,qc,yd]
 ·exact Nat.le_refl _
theorem zil{s:zo}{rank:Int}{a:ze}(h:zax s rank a=0):zaP s=true∧z8 a=true:=by
 unfold zax at h
 split at h
 ·rename_i hc
  simp only[Bool.and_eq_true] at hc
  exact⟨hc.1.1,hc.2⟩
 ·cases h
theorem zcZ{s:zo}(h:zaP s=true):qf s.Own=true∧qf s.Frozen=true∧qP s.Cells=true∧qQ s.Locks=true:=by
 unfold zaP at h
 simp only[Bool.and_eq_true] at h
 exact⟨h.1.1.1.1.1.1.2,h.1.1.1.1.1.2,h.1.1.1.1.2,h.1.1.1.2⟩
theorem zez{xs:List ze}{a:ze}(h:xs.length≤1048576)(hx:qf xs=true)(ha:z8 a=true):jE xs a=some (Zp xs a):=by
 rw[Kq _ _ h,hx,ha]
 rfl
theorem zjs{α:Type}(f:α→Nat)(b:Nat):∀(xs:List α),(∀x∈xs,f x≤b)→yd f xs≤b * xs.length
 |[],_=>by simp[yd]
 |x::xs,H=>by
  have:=zjs f b xs fun y hy=>H y (List.mem_cons_of_mem _ hy)
  have:=H x List.mem_cons_self
  simp only[yd,List.length_cons,Nat.mul_add,Nat.mul_one]
  omega
theorem ziz{s:zo}(h:zaP s=true):zr s≤5000:=by
 obtain⟨k1,k2,k3,k4⟩:=zcZ h
 have l1:=XU k1
 have l2:=XU k2
 have l3:=zdc k3
 have l4:=zc1 k4
 unfold zaP zib at h
 simp only[Bool.and_eq_true,decide_eq_true_eq] at h
 have h1:=h.1.2.1.1.1.1
 have h2:=h.1.2.1.1.1.2
 have h3:=h.1.2.1.1.2
 have hh:=h.2.1.2
 have hw:∀x∈s.Helds,x.Writes.length≤60:=fun x hx=>by
  obtain⟨i,hi,rfl⟩:=List.getElem_of_mem hx
  rw[List.all_eq_true] at hh
  have:=hh i (List.mem_range.2 hi)
  rw[zdT s hi] at this
  unfold zcs at this
  simp only[Bool.and_eq_true] at this
  exact zgr this.1.2.1
 have hs:=zjs (fun x:zN=>x.Writes.length) 60 s.Helds hw
 unfold zr
 rw[Zq]
 omega
def Yd(k:Int):zn:=⟨k,k+1⟩
def kC(k:Int)(n:Nat):List zn:=(List.range n).map fun(i:Nat)=>Yd (k+2 * (i:Int))
theorem za9(k:Int)(n:Nat):(kC k n).length=n:=by simp[kC]
theorem zhi(xs:List zn)(k:Int)(h:xs.length≤1048576)(hk:0≤k)(hk':k≤1000000000000):Z3 xs k=some (k+2 * (xs.length:Int),kC k xs.length):=by
 unfold Z3
 refine qM (fun i=>(Xq (fun(i:Nat)=>Yd (k+2 * (i:Int))) xs i,k+2 * (i:Int),(i:Int))) _ xs.length (by omega) (fun kb i hi=> ?_) (fun kb=> ?_) (by simp[KE])
 ·unfold Q7
  have hl:=Js (fun(i:Nat)=>Yd (k+2 * (i:Int))) (Nat.le_of_lt hi)
  have w1:IntKind.wrap .i64 (k+2 * (i:Int)+1)=k+2 * (i:Int)+1:=w64 (by omega) (by omega)
  have w2:IntKind.wrap .i64 (k+2 * (i:Int)+1+1)=k+2 * (i:Int)+2:=by rw[w64 (by omega) (by omega)];omega
  have e:k+2 * ((i+1:Nat):Int)=k+2 * (i:Int)+2:=by omega
  have hs:=zaw (fun(i:Nat)=>Yd (k+2 * (i:Int))) hi
  have hx:=zaH (fun(i:Nat)=>Yd (k+2 * (i:Int))) hi
  show _=kb (Xq (fun(i:Nat)=>Yd (k+2 * (i:Int))) xs (i+1),k+2 * ((i+1:Nat):Int),((i+1:Nat):Int))
  rw[←hs,e]
  generalize Xq (fun(i:Nat)=>Yd (k+2 * (i:Int))) xs i=row at hl hx
  have hii:i < row.length:=by rw[hl];exact hi
  simp only[hx,Option.bind_some,Int.toNat_natCast,xm hii,List.set_set,qh i _ hi (by omega),w1,w2,hl,Yd]
  rw[if_pos (by omega)]
 ·unfold Q7 Q4
  have hl:=Js (fun(i:Nat)=>Yd (k+2 * (i:Int))) (Nat.le_refl xs.length)
  rw[if_neg (by simp only[hl];omega),if_pos hl,zaJ]
  rfl
theorem zg7(n:Nat)(k:Int)(h:n≤1048576)(hk:0≤k)(hk':k≤1000000000000):Z7 (kC k n) k=some (k+2 * (n:Int)):=by
 unfold Z7
 refine qM (fun i=>(k+2 * (i:Int),(i:Int))) _ n (by omega) (fun kb i hi=> ?_) (fun kb=> ?_) (by simp)
 ·unfold Je
  have w1:IntKind.wrap .i64 (k+2 * (i:Int)+1)=k+2 * (i:Int)+1:=w64 (by omega) (by omega)
  have w2:IntKind.wrap .i64 (k+2 * (i:Int)+1+1)=k+2 * (i:Int)+2:=by rw[w64 (by omega) (by omega)];omega
  have e:k+2 * ((i+1:Nat):Int)=k+2 * (i:Int)+2:=by omega
  have hx:idx (kC k n) (i:Int)=some (Yd (k+2 * (i:Int))):=KD _ hi
  simp only[hx,Option.bind_some,qh i _ hi (by omega),w1,w2,Yd,za9,not_true,if_false,e]
  rw[if_pos (by omega)]
 ·unfold Je QX
  rw[if_neg (by simp only[za9];omega)]
def QT(x:zN):Nat:=1+2 * x.Writes.length
def zhp(x:zN)(k:Int):zN:=zN.mk k (kC (k+1) x.Writes.length)
def zbu(xs:List zN)(k:Int)(i:Nat):zN:=match xs[i]? with
 |some x=>zhp x (k+(yd QT (xs.take i):Nat))
 |none=>zN.mk 0 []
theorem zhE(xs:List zN)(k:Int){i:Nat}(hi:i < xs.length):zbu xs k i=zhp xs[i] (k+(yd QT (xs.take i):Nat)):=by
 unfold zbu
 rw[List.getElem?_eq_getElem hi]
def Ym(xs:List zN)(k:Int):List zN:=(List.range xs.length).map (zbu xs k)
theorem Xa(xs:List zN)(k:Int):(Ym xs k).length=xs.length:=by simp[Ym]
theorem zg2:∀(xs:List zN),yd QT xs=xs.length+2 * yd (fun y:zN=>jf y) xs
 |[]=>rfl
 |x::xs=>by
  have ih:=zg2 xs
  simp only[yd,List.length_cons,ih,QT,jf]
  omega
theorem zbB{xs:List zN}(h:qc xs≤1048576)(i:Nat):yd QT (xs.take i)≤4194304:=by
 have h1:=Xw QT xs i
 have h2:=zg2 xs
 unfold qc at h
 omega
theorem zh8(xs:List zN)(k:Int)(h:qc xs≤1048576)(hk:0≤k)(hk':k≤100000000):ZF xs k=some (k+(yd QT xs:Nat),Ym xs k):=by
 obtain⟨hl0,hs0⟩:=K7 h
 unfold ZF
 refine qM (fun i=>(Xq (zbu xs k) xs i,k+(yd QT (xs.take i):Nat),(i:Int))) _ xs.length (by omega) (fun kb i hi=> ?_) (fun kb=> ?_) (by simp[KE,yd])
 ·unfold JL
  have hl:=Js (zbu xs k) (Nat.le_of_lt hi)
  have hs:=zaw (zbu xs k) hi
  have hx:=zaH (zbu xs k) hi
  have hb:=zbB h i
  have hsz:=hs0 i hi
  unfold jf at hsz
  have e:k+((yd QT (xs.take (i+1)):Nat):Int)=k+(yd QT (xs.take i):Nat)+1+2 * (xs[i].Writes.length:Int):=by
   rw[XN QT hi];unfold QT;omega
  show _=kb (Xq (zbu xs k) xs (i+1),k+((yd QT (xs.take (i+1)):Nat):Int),((i+1:Nat):Int))
  rw[←hs,e,zhE xs k hi]
  have hkk:0≤k+((yd QT (xs.take i):Nat):Int)∧k+((yd QT (xs.take i):Nat):Int)≤110000000:=by omega
  generalize k+((yd QT (xs.take i):Nat):Int)=kk at hkk ⊢
  generalize Xq (zbu xs k) xs i=row at hl hx ⊢
  have hii:i < row.length:=by rw[hl];exact hi
  have w1:IntKind.wrap .i64 (kk+1)=kk+1:=w64 (by omega) (by omega)
  have hS:=zhi xs[i].Writes (kk+1) (by omega) (by omega) (by omega)
  simp only[hx,Option.bind_some,Int.toNat_natCast,xm hii,List.set_set,qh i _ hi (by omega),w1,hS,hl,zhp]
  rw[if_pos (by omega)]
 ·unfold JL JN
  have hl:=Js (zbu xs k) (Nat.le_refl xs.length)
  rw[if_neg (by simp only[hl];omega),if_pos hl,zaJ,List.take_length]
  rfl
theorem ziH(xs:List zN)(k:Int)(h:qc xs≤1048576)(hk:0≤k)(hk':k≤100000000):Zs (Ym xs k) k=some (k+(yd QT xs:Nat)):=by
 obtain⟨hl0,hs0⟩:=K7 h
 unfold Zs
 refine qM (fun i=>(k+(yd QT (xs.take i):Nat),(i:Int))) _ xs.length (by omega) (fun kb i hi=> ?_) (fun kb=> ?_) (by simp[yd])
 ·unfold JP
  have hx:idx (Ym xs k) (i:Int)=some (zbu xs k i):=KD _ hi
  have hb:=zbB h i
  have hsz:=hs0 i hi
  unfold jf at hsz
  have e:k+((yd QT (xs.take (i+1)):Nat):Int)=k+(yd QT (xs.take i):Nat)+1+2 * (xs[i].Writes.length:Int):=by
   rw[XN QT hi];unfold QT;omega
  rw[e]
  rw[zhE xs k hi] at hx
  have hkk:0≤k+((yd QT (xs.take i):Nat):Int)∧k+((yd QT (xs.take i):Nat):Int)≤110000000:=by omega
  generalize k+((yd QT (xs.take i):Nat):Int)=kk at hkk hx ⊢
  have w1:IntKind.wrap .i64 (kk+1)=kk+1:=w64 (by omega) (by omega)
  have hS:=zg7 xs[i].Writes.length (kk+1) (by omega) (by omega) (by omega)
  simp only[hx,Option.bind_some,qh i _ hi (by omega),w1,hS,Xa,zhp,not_true,if_false]
  rw[if_pos (by omega),if_neg (by omega)]
 ·unfold JP JI
  rw[if_neg (by simp only[Xa];omega),List.take_length]
def J7(k:Int):ze:=⟨k,k+1⟩
def yS(k:Int)(n:Nat):List ze:=(List.range n).map fun(i:Nat)=>J7 (k+2 * (i:Int))
theorem Jk(k:Int)(n:Nat):(yS k n).length=n:=by simp[yS]
theorem zdl(xs:List ze)(k:Int)(h:xs.length≤1048576)(hk:0≤k)(hk':k≤1000000000000):j3 xs k=some (k+2 * (xs.length:Int),yS k xs.length):=by
 unfold j3
 refine qM (fun i=>(Xq (fun(i:Nat)=>J7 (k+2 * (i:Int))) xs i,k+2 * (i:Int),(i:Int))) _ xs.length (by omega) (fun kb i hi=> ?_) (fun kb=> ?_) (by simp[KE])
 ·unfold Q8
  have hl:=Js (fun(i:Nat)=>J7 (k+2 * (i:Int))) (Nat.le_of_lt hi)
  have w1:IntKind.wrap .i64 (k+2 * (i:Int)+1)=k+2 * (i:Int)+1:=w64 (by omega) (by omega)
  have w2:IntKind.wrap .i64 (k+2 * (i:Int)+1+1)=k+2 * (i:Int)+2:=by rw[w64 (by omega) (by omega)];omega
  have e:k+2 * ((i+1:Nat):Int)=k+2 * (i:Int)+2:=by omega
  have hs:=zaw (fun(i:Nat)=>J7 (k+2 * (i:Int))) hi
  have hx:=zaH (fun(i:Nat)=>J7 (k+2 * (i:Int))) hi
  show _=kb (Xq (fun(i:Nat)=>J7 (k+2 * (i:Int))) xs (i+1),k+2 * ((i+1:Nat):Int),((i+1:Nat):Int))
  rw[←hs,e]
  generalize Xq (fun(i:Nat)=>J7 (k+2 * (i:Int))) xs i=row at hl hx
  have hii:i < row.length:=by rw[hl];exact hi
  simp only[hx,Option.bind_some,Int.toNat_natCast,xm hii,List.set_set,qh i _ hi (by omega),w1,w2,hl,J7]
  rw[if_pos (by omega)]
 ·unfold Q8 QY
  have hl:=Js (fun(i:Nat)=>J7 (k+2 * (i:Int))) (Nat.le_refl xs.length)
  rw[if_neg (by simp only[hl];omega),if_pos hl,zaJ]
  rfl
theorem zdq(n:Nat)(k:Int)(h:n≤1048576)(hk:0≤k)(hk':k≤1000000000000):j4 (yS k n) k=some (k+2 * (n:Int)):=by
 unfold j4
 refine qM (fun i=>(k+2 * (i:Int),(i:Int))) _ n (by omega) (fun kb i hi=> ?_) (fun kb=> ?_) (by simp)
 ·unfold Q9
  have w1:IntKind.wrap .i64 (k+2 * (i:Int)+1)=k+2 * (i:Int)+1:=w64 (by omega) (by omega)
  have w2:IntKind.wrap .i64 (k+2 * (i:Int)+1+1)=k+2 * (i:Int)+2:=by rw[w64 (by omega) (by omega)];omega
  have e:k+2 * ((i+1:Nat):Int)=k+2 * (i:Int)+2:=by omega
  have hx:idx (yS k n) (i:Int)=some (J7 (k+2 * (i:Int))):=KD _ hi
  simp only[hx,Option.bind_some,qh i _ hi (by omega),w1,w2,J7,Jk,not_true,if_false,e]
  rw[if_pos (by omega)]
 ·unfold Q9 QZ
  rw[if_neg (by simp only[Jk];omega)]
def kN(k:Int):zn:=⟨k,k+1⟩
def YA(k:Int)(n:Nat):List zn:=(List.range n).map fun(i:Nat)=>kN (k+2 * (i:Int))
theorem kU(k:Int)(n:Nat):(YA k n).length=n:=by simp[YA]
theorem zie(xs:List zn)(k:Int)(h:xs.length≤1048576)(hk:0≤k)(hk':k≤1000000000000):Zt xs k=some (k+2 * (xs.length:Int),YA k xs.length):=by
 unfold Zt
 refine qM (fun i=>(Xq (fun(i:Nat)=>kN (k+2 * (i:Int))) xs i,k+2 * (i:Int),(i:Int))) _ xs.length (by omega) (fun kb i hi=> ?_) (fun kb=> ?_) (by simp[KE])
 ·unfold JG
  have hl:=Js (fun(i:Nat)=>kN (k+2 * (i:Int))) (Nat.le_of_lt hi)
  have w1:IntKind.wrap .i64 (k+2 * (i:Int)+1)=k+2 * (i:Int)+1:=w64 (by omega) (by omega)
  have w2:IntKind.wrap .i64 (k+2 * (i:Int)+1+1)=k+2 * (i:Int)+2:=by rw[w64 (by omega) (by omega)];omega
  have e:k+2 * ((i+1:Nat):Int)=k+2 * (i:Int)+2:=by omega
  have hs:=zaw (fun(i:Nat)=>kN (k+2 * (i:Int))) hi
  have hx:=zaH (fun(i:Nat)=>kN (k+2 * (i:Int))) hi
  show _=kb (Xq (fun(i:Nat)=>kN (k+2 * (i:Int))) xs (i+1),k+2 * ((i+1:Nat):Int),((i+1:Nat):Int))
  rw[←hs,e]
  generalize Xq (fun(i:Nat)=>kN (k+2 * (i:Int))) xs i=row at hl hx
  have hii:i < row.length:=by rw[hl];exact hi
  simp only[hx,Option.bind_some,Int.toNat_natCast,xm hii,List.set_set,qh i _ hi (by omega),w1,w2,hl,kN]
  rw[if_pos (by omega)]
 ·unfold JG JH
  have hl:=Js (fun(i:Nat)=>kN (k+2 * (i:Int))) (Nat.le_refl xs.length)
  rw[if_neg (by simp only[hl];omega),if_pos hl,zaJ]
  rfl
theorem zh6(n:Nat)(k:Int)(h:n≤1048576)(hk:0≤k)(hk':k≤1000000000000):ZD (YA k n) k=some (k+2 * (n:Int)):=by
 unfold ZD
 refine qM (fun i=>(k+2 * (i:Int),(i:Int))) _ n (by omega) (fun kb i hi=> ?_) (fun kb=> ?_) (by simp)
 ·unfold JM
  have w1:IntKind.wrap .i64 (k+2 * (i:Int)+1)=k+2 * (i:Int)+1:=w64 (by omega) (by omega)
  have w2:IntKind.wrap .i64 (k+2 * (i:Int)+1+1)=k+2 * (i:Int)+2:=by rw[w64 (by omega) (by omega)];omega
  have e:k+2 * ((i+1:Nat):Int)=k+2 * (i:Int)+2:=by omega
  have hx:idx (YA k n) (i:Int)=some (kN (k+2 * (i:Int))):=KD _ hi
  simp only[hx,Option.bind_some,qh i _ hi (by omega),w1,w2,kN,kU,not_true,if_false,e]
  rw[if_pos (by omega)]
 ·unfold JM JS
  rw[if_neg (by simp only[kU];omega)]
def kZ(k:Int):zL:=⟨k,k+1,k+2,k+3⟩
def Yl(k:Int)(n:Nat):List zL:=(List.range n).map fun(i:Nat)=>kZ (k+4 * (i:Int))
theorem Xg(k:Int)(n:Nat):(Yl k n).length=n:=by simp[Yl]
theorem zhG(xs:List zL)(k:Int)(h:xs.length≤1048576)(hk:0≤k)(hk':k≤1000000000000):Zv xs k=some (k+4 * (xs.length:Int),Yl k xs.length):=by
 unfold Zv
 refine qM (fun i=>(Xq (fun(i:Nat)=>kZ (k+4 * (i:Int))) xs i,k+4 * (i:Int),(i:Int))) _ xs.length (by omega) (fun kb i hi=> ?_) (fun kb=> ?_) (by simp[KE])
 ·unfold JO
  have hl:=Js (fun(i:Nat)=>kZ (k+4 * (i:Int))) (Nat.le_of_lt hi)
  have w1:IntKind.wrap .i64 (k+4 * (i:Int)+1)=k+4 * (i:Int)+1:=w64 (by omega) (by omega)
  have w2:IntKind.wrap .i64 (k+4 * (i:Int)+1+1)=k+4 * (i:Int)+2:=by rw[w64 (by omega) (by omega)];omega
  have w3:IntKind.wrap .i64 (k+4 * (i:Int)+2+1)=k+4 * (i:Int)+3:=by rw[w64 (by omega) (by omega)];omega
  have w4:IntKind.wrap .i64 (k+4 * (i:Int)+3+1)=k+4 * (i:Int)+4:=by rw[w64 (by omega) (by omega)];omega
  have e:k+4 * ((i+1:Nat):Int)=k+4 * (i:Int)+4:=by omega
  have hs:=zaw (fun(i:Nat)=>kZ (k+4 * (i:Int))) hi
  have hx:=zaH (fun(i:Nat)=>kZ (k+4 * (i:Int))) hi
  show _=kb (Xq (fun(i:Nat)=>kZ (k+4 * (i:Int))) xs (i+1),k+4 * ((i+1:Nat):Int),((i+1:Nat):Int))
  rw[←hs,e]
  generalize Xq (fun(i:Nat)=>kZ (k+4 * (i:Int))) xs i=row at hl hx
  have hii:i < row.length:=by rw[hl];exact hi
  simp only[hx,Option.bind_some,Int.toNat_natCast,xm hii,List.set_set,qh i _ hi (by omega),w1,w2,w3,w4,hl,kZ]
  rw[if_pos (by omega)]
 ·unfold JO JR
  have hl:=Js (fun(i:Nat)=>kZ (k+4 * (i:Int))) (Nat.le_refl xs.length)
  rw[if_neg (by simp only[hl];omega),if_pos hl,zaJ]
  rfl
theorem zhX(n:Nat)(k:Int)(h:n≤1048576)(hk:0≤k)(hk':k≤1000000000000):ZA (Yl k n) k=some (k+4 * (n:Int)):=by
 unfold ZA
 refine qM (fun i=>(k+4 * (i:Int),(i:Int))) _ n (by omega) (fun kb i hi=> ?_) (fun kb=> ?_) (by simp)
 ·unfold JD
  have w1:IntKind.wrap .i64 (k+4 * (i:Int)+1)=k+4 * (i:Int)+1:=w64 (by omega) (by omega)
  have w2:IntKind.wrap .i64 (k+4 * (i:Int)+1+1)=k+4 * (i:Int)+2:=by rw[w64 (by omega) (by omega)];omega
  have w3:IntKind.wrap .i64 (k+4 * (i:Int)+2+1)=k+4 * (i:Int)+3:=by rw[w64 (by omega) (by omega)];omega
  have w4:IntKind.wrap .i64 (k+4 * (i:Int)+3+1)=k+4 * (i:Int)+4:=by rw[w64 (by omega) (by omega)];omega
  have e:k+4 * ((i+1:Nat):Int)=k+4 * (i:Int)+4:=by omega
  have hx:idx (Yl k n) (i:Int)=some (kZ (k+4 * (i:Int))):=KD _ hi
  simp only[hx,Option.bind_some,qh i _ hi (by omega),w1,w2,w3,w4,kZ,Xg,not_true,if_false,e]
  rw[if_pos (by omega)]
 ·unfold JD JE
  rw[if_neg (by simp only[Xg];omega)]
def KP(k:Int):Int:=k
def QK(k:Int)(n:Nat):List Int:=(List.range n).map fun(i:Nat)=>KP (k+1 * (i:Int))
theorem xA(k:Int)(n:Nat):(QK k n).length=n:=by simp[QK]
theorem zfE(xs:List Int)(k:Int)(h:xs.length≤1048576)(hk:0≤k)(hk':k≤1000000000000):yx xs k=some (k+1 * (xs.length:Int),QK k xs.length):=by
 unfold yx
 refine qM (fun i=>(Xq (fun(i:Nat)=>KP (k+1 * (i:Int))) xs i,k+1 * (i:Int),(i:Int))) _ xs.length (by omega) (fun kb i hi=> ?_) (fun kb=> ?_) (by simp[KE])
 ·unfold YG
  have hl:=Js (fun(i:Nat)=>KP (k+1 * (i:Int))) (Nat.le_of_lt hi)
  have w1:IntKind.wrap .i64 (k+1 * (i:Int)+1)=k+1 * (i:Int)+1:=w64 (by omega) (by omega)
  have e:k+1 * ((i+1:Nat):Int)=k+1 * (i:Int)+1:=by omega
  have hs:=zaw (fun(i:Nat)=>KP (k+1 * (i:Int))) hi
  have hx:=zaH (fun(i:Nat)=>KP (k+1 * (i:Int))) hi
  show _=kb (Xq (fun(i:Nat)=>KP (k+1 * (i:Int))) xs (i+1),k+1 * ((i+1:Nat):Int),((i+1:Nat):Int))
  rw[←hs,e]
  generalize Xq (fun(i:Nat)=>KP (k+1 * (i:Int))) xs i=row at hl hx
  have hii:i < row.length:=by rw[hl];exact hi
  simp only[hx,Option.bind_some,Int.toNat_natCast,xm hii,List.set_set,qh i _ hi (by omega),w1,hl,KP]
  rw[if_pos (by omega)]
 ·unfold YG YP
  have hl:=Js (fun(i:Nat)=>KP (k+1 * (i:Int))) (Nat.le_refl xs.length)
  rw[if_neg (by simp only[hl];omega),if_pos hl,zaJ]
  rfl
theorem zf1(n:Nat)(k:Int)(h:n≤1048576)(hk:0≤k)(hk':k≤1000000000000):yC (QK k n) k=some (k+1 * (n:Int)):=by
 unfold yC
 refine qM (fun i=>(k+1 * (i:Int),(i:Int))) _ n (by omega) (fun kb i hi=> ?_) (fun kb=> ?_) (by simp)
 ·unfold YZ
  have w1:IntKind.wrap .i64 (k+1 * (i:Int)+1)=k+1 * (i:Int)+1:=w64 (by omega) (by omega)
  have e:k+1 * ((i+1:Nat):Int)=k+1 * (i:Int)+1:=by omega
  have hx:idx (QK k n) (i:Int)=some (KP (k+1 * (i:Int))):=KD _ hi
  simp only[hx,Option.bind_some,qh i _ hi (by omega),w1,KP,xA,not_true,if_false,e]
  rw[if_pos (by omega)]
 ·unfold YZ Y4
  rw[if_neg (by simp only[xA];omega)]
theorem zfW(x:zo)(h:zr x≤1048576):∃r:Int×zo,Zu x 1=some r∧0≤r.1∧r.2.Own.length=x.Own.length∧r.2.Frozen.length=x.Frozen.length∧r.2.Cells.length=x.Cells.length∧r.2.Locks.length=x.Locks.length∧r.2.Helds.length=x.Helds.length∧r.2.Wounded.length=x.Wounded.length∧r.2.Ended.length=x.Ended.length∧
  ∀e f,Zw (zo.mk e r.2.Own r.2.Frozen r.2.Cells r.2.Locks r.2.Helds r.2.Wounded r.2.Ended f) 1=some r.1:=by
 have hh:=h
 unfold zr at hh
 have hH:qc x.Helds≤1048576:=by omega
 have hb:=zbB hH x.Helds.length
 rw[List.take_length] at hb
 obtain⟨k1,e1⟩:∃k,k=1+2 * (x.Own.length:Int):=⟨_,rfl⟩
 obtain⟨k2,e2⟩:∃k,k=k1+2 * (x.Frozen.length:Int):=⟨_,rfl⟩
 obtain⟨k3,e3⟩:∃k,k=k2+2 * (x.Cells.length:Int):=⟨_,rfl⟩
 obtain⟨k4,e4⟩:∃k,k=k3+4 * (x.Locks.length:Int):=⟨_,rfl⟩
 obtain⟨k5,e5⟩:∃k,k=k4+((yd QT x.Helds:Nat):Int):=⟨_,rfl⟩
 obtain⟨k6,e6⟩:∃k,k=k5+1 * (x.Wounded.length:Int):=⟨_,rfl⟩
 obtain⟨k7,e7⟩:∃k,k=k6+1 * (x.Ended.length:Int):=⟨_,rfl⟩
 have a1:j3 x.Own 1=some (k1,yS 1 x.Own.length):=by rw[e1];exact zdl x.Own 1 (by omega) (by omega) (by omega)
 have a2:j3 x.Frozen k1=some (k2,yS k1 x.Frozen.length):=by rw[e2];exact zdl x.Frozen k1 (by omega) (by omega) (by omega)
 have a3:Zt x.Cells k2=some (k3,YA k2 x.Cells.length):=by rw[e3];exact zie x.Cells k2 (by omega) (by omega) (by omega)
 have a4:Zv x.Locks k3=some (k4,Yl k3 x.Locks.length):=by rw[e4];exact zhG x.Locks k3 (by omega) (by omega) (by omega)
 have a5:ZF x.Helds k4=some (k5,Ym x.Helds k4):=by rw[e5];exact zh8 x.Helds k4 hH (by omega) (by omega)
 have a6:yx x.Wounded k5=some (k6,QK k5 x.Wounded.length):=by rw[e6];exact zfE x.Wounded k5 (by omega) (by omega) (by omega)
 have a7:yx x.Ended k6=some (k7,QK k6 x.Ended.length):=by rw[e7];exact zfE x.Ended k6 (by omega) (by omega) (by omega)
 have b1:j4 (yS 1 x.Own.length) 1=some k1:=by rw[e1];exact zdq x.Own.length 1 (by omega) (by omega) (by omega)
 have b2:j4 (yS k1 x.Frozen.length) k1=some k2:=by rw[e2];exact zdq x.Frozen.length k1 (by omega) (by omega) (by omega)
 have b3:ZD (YA k2 x.Cells.length) k2=some k3:=by rw[e3];exact zh6 x.Cells.length k2 (by omega) (by omega) (by omega)
 have b4:ZA (Yl k3 x.Locks.length) k3=some k4:=by rw[e4];exact zhX x.Locks.length k3 (by omega) (by omega) (by omega)
 have b5:Zs (Ym x.Helds k4) k4=some k5:=by rw[e5];exact ziH x.Helds k4 hH (by omega) (by omega)
 have b6:yC (QK k5 x.Wounded.length) k5=some k6:=by rw[e6];exact zf1 x.Wounded.length k5 (by omega) (by omega) (by omega)
 have b7:yC (QK k6 x.Ended.length) k6=some k7:=by rw[e7];exact zf1 x.Ended.length k6 (by omega) (by omega) (by omega)
 have n1:¬k1 < 0:=by omega
 have n2:¬k2 < 0:=by omega
 have n3:¬k3 < 0:=by omega
 have n4:¬k4 < 0:=by omega
 have n5:¬k5 < 0:=by omega
 have n6:¬k6 < 0:=by omega
 have n7:¬k7 < 0:=by omega
 refine⟨(k7,zo.mk x.Me (yS 1 x.Own.length) (yS k1 x.Frozen.length) (YA k2 x.Cells.length) (Yl k3 x.Locks.length) (Ym x.Helds k4) (QK k5 x.Wounded.length) (QK k6 x.Ended.length) x.Rank),?_,by simp only;omega,by simp only[Jk],by simp only[Jk],by simp only[kU],by simp only[Xg],by simp only[Xa],by simp only[xA],by simp only[xA],fun e f=> ?_⟩
 ·unfold Zu
  simp only[a1,a2,a3,a4,a5,a6,a7,Jk,kU,Xg,Xa,xA,Option.bind_some,if_true]
 ·unfold Zw
  simp only[b1,b2,b3,b4,b5,b6,b7,n1,n2,n3,n4,n5,n6,n7,Option.bind_some,if_false]
def inB(lo hi:Int)(c:zn):Bool:=qC c.Key lo (IntKind.wrap .i64 (hi - 1))
theorem zhL(a:ze)(z:Int):jU a z=some (qC z a.Lo (IntKind.wrap .i64 (a.Hi - 1))):=by
 unfold jU;simp[zaV]
theorem zaY(xs:List zn)(c0:ze)(c1:Bool)(p:zn→Bool)(hp:∀v,Ze v c0 c1=some (p v))(h:xs.length≤1048576):qS xs c0 c1=some (zcl p xs):=by
 unfold qS
 refine Qe xs p (by omega) (fun kb i hi=> ?_) (fun kb=> ?_)
 ·unfold jy
  simp only[zP hi,Option.bind_some,hp,qh i _ hi (by omega)]
  rw[if_pos (by omega)]
 ·unfold jy
  rw[if_neg (by omega)];rfl
theorem zb0(xs:List zn)(c0:ze)(c1:Bool)(p:zn→Bool)(hp:∀v,Ze v c0 c1=some (p v))(h:xs.length≤1048576):qN xs c0 c1=some (xs.filter fun x=>!p x):=by
 unfold qN
 simp only[zaY xs c0 c1 p hp h,Option.bind_some]
 split
 ·rename_i e;rw[zlh e]
 ·rename_i e
  obtain⟨k0,e1,hk,h0⟩:=zkh e
  rw[e1,qh k0 _ hk (by omega)]
  obtain⟨ys,g1,g2,g3,g4⟩:=zln (f:=qE c0 c1 qG) xs p (fun ys i=>some (ys.take i)) h k0 hk h0 (fun kb ys i j hj hij hl hx=>by
   unfold qE
   have hi:i < ys.length:=by omega
   simp only[zgR,hx,hp,Option.bind_some,qh j _ hj (by omega),qh i _ hi (by omega),Int.toNat_natCast,List.getElem?_eq_getElem hi]
   rw[if_pos (by omega)]) (fun kb ys i hi hl=>by
   unfold qE qG
   simp only[Int.toNat_natCast]
   rw[if_neg (by omega),if_pos ⟨by omega,by omega,by omega⟩,if_pos (by omega),if_pos ⟨by omega,by omega,by omega⟩,ziV _ _ (by omega)])
  rw[g4,g3]
def Xl(xs:List zn)(a:ze)(b:Bool):List zn:=if qP xs&&z8 a then xs.filter (fun c=>inB a.Lo a.Hi c == b) else[]
theorem zix(xs:List zn)(a:ze)(b:Bool):(Xl xs a b).length≤xs.length:=by
 unfold Xl
 split
 ·exact List.length_filter_le _ _
 ·simp
theorem zkk(xs:List zn)(a:ze)(b:Bool)(h:xs.length≤1048576):Ye xs a b=some (Xl xs a b):=by
 unfold Ye Xl
 by_cases hg:qP xs=true
 ·by_cases hr:z8 a=true
  ·rw[zh3 xs (fun c=>inB a.Lo a.Hi c == b) (fun ys=>some ys) h (fun kb ys i hi hy=> ?_) (fun kb ys=> ?_)]
   ·simp[hg,hr]
   ·unfold Z0
    simp only[Yr _ h,yr,hg,hr,zP hi,Option.bind_some,zcI,qh i _ hi (by omega),if_true]
    rw[if_pos (by omega)]
    by_cases c:(inB a.Lo a.Hi xs[i] == b)=true
    ·rw[if_pos c,if_pos (by unfold inB at c;exact c),if_pos (by simp;omega)]
    ·rw[if_neg c,if_neg (by unfold inB at c;exact c)]
   ·unfold Z0 ZY
    rw[if_neg (by omega)]
  ·unfold FU iter Z0 ZY
   simp[Yr _ h,yr,hg,hr]
 ·unfold FU iter Z0 ZY
  simp[Yr _ h,hg]
theorem zkZ(xs:List zn)(a:ze)(b:Bool)(h:xs.length≤1048576):xG xs a b=some (Xl xs a b):=by
 unfold xG Xl JY
 simp only[KY _ h,QE,Option.bind_some,zc2 _ h,zb0 xs a b (fun c=>(inB a.Lo a.Hi c != b)) (fun v=>by simp[Ze,zhL,inB]) h]
 cases qP xs<;>cases z8 a<;>simp<;>exact List.filter_congr fun x _=>by cases inB a.Lo a.Hi x<;>cases b<;>rfl
def za1(s:zo)(a:ze):Bool:=s.Locks.any fun l=>Qc ⟨l.Lo,l.Hi⟩ a
def za4(s:zo)(rank:Int)(a:ze):zo×Int:=
 if ¬zax s rank a=0 then(KS s (zax s rank a),zax s rank a)
 else if decide (rank=s.Rank)&&!zfs s.Own a then(s,0)
 else if Zp s.Frozen a&&!za1 s a then(if (Zn s.Own a false).2&&(Zn s.Frozen a false).2 then(⟨s.Me,(Zn s.Own a false).1,(Zn s.Frozen a false).1,Xl s.Cells a false,s.Locks,s.Helds,s.Wounded,s.Ended,rank⟩,0) else(s,6)) else(s,4)
theorem zd7(xs:List zn)(a:ze)(h:xs.length≤1048576):Ji xs a=some (Xl xs a false):=by simp[Ji,zkk _ _ _ h]
theorem zdQ(xs:List zn)(a:ze)(h:xs.length≤1048576):Ju xs a=some (Xl xs a false):=by simp[Ju,zkZ _ _ _ h]
theorem zec(s:zo)(rank:Int)(a:ze)(h:zr s≤1048576):QI s rank a=some (za4 s rank a):=by
 have hf:s.Frozen.length≤1048576:=by unfold zr at h;omega
 have ho:s.Own.length≤1048576:=by unfold zr at h;omega
 have hc:s.Cells.length≤1048576:=by unfold zr at h;omega
 have hk:s.Locks.length≤1048576:=by unfold zr at h;omega
 unfold QI za4
 simp only[zjU _ _ _ h,zhx _ _ h,zgW _ h,Option.bind_some]
 by_cases h0:zax s rank a=0
 ·obtain⟨g1,g2⟩:=zil h0
  obtain⟨k1,k2,_,k4⟩:=zcZ g1
  have loop:∀kx:Bool→Option (zo×Int),iter (ZI s a kx) FU (false,0)=kx (za1 s a):=fun kx=>by
   unfold za1
   refine qM (fun i=>((s.Locks.take i).any (fun l=>Qc ⟨l.Lo,l.Hi⟩ a),(i:Int))) _ s.Locks.length (by omega) (fun kb i hi=> ?_) (fun kb=> ?_) (by simp)
   ·unfold ZI qT
    simp only[zP hi,Option.bind_some,zbV,qh i _ hi (by omega),zdE k4 hi,g2,Bool.true_and,zhr (zdE k4 hi) g2]
    rw[if_pos (by omega),List.take_succ_eq_append_getElem hi,List.any_append]
    simp only[List.any_cons,List.any_nil,Bool.or_false]
    cases(s.Locks.take i).any (fun l=>Qc ⟨l.Lo,l.Hi⟩ a)
    ·simp only[Bool.false_eq_true,if_false,Bool.false_or]
     cases Qc ⟨s.Locks[i].Lo,s.Locks[i].Hi⟩ a<;>rfl
    ·simp
   ·unfold ZI
    rw[if_neg (by simp),List.take_length]
  have tail:∀t:Bool,yM s s a rank t=some (if t=true then(s,0) else if Zp s.Frozen a&&!za1 s a then(if (Zn s.Own a false).2&&(Zn s.Frozen a false).2 then(⟨s.Me,(Zn s.Own a false).1,(Zn s.Frozen a false).1,Xl s.Cells a false,s.Locks,s.Helds,s.Wounded,s.Ended,rank⟩,0) else(s,6)) else(s,4)):=fun t=>by
   unfold yM
   rw[loop]
   unfold QW ZM ZH
   simp only[zez hf k2 g2,K3 _ _ hf,K3 _ _ ho,zd7 _ _ hc,Option.bind_some]
   cases t<;>simp
   cases Zp s.Frozen a<;>cases za1 s a<;>simp
   cases(Zn s.Own a false).2<;>cases(Zn s.Frozen a false).2<;>simp
  simp only[h0,not_true_eq_false,if_false,zi4 _ _ ho k1 g2,Option.bind_some,tail]
  by_cases hr:rank=s.Rank
  ·simp[hr]
  ·simp[hr]
 ·simp only[h0,not_false_eq_true,if_true]
theorem zbw(xs:List zL)(a:ze)(h:xs.length≤1048576):qo xs a=some (xs.any fun l=>Qc ⟨l.Lo,l.Hi⟩ a):=by
 unfold qo jl
 rw[Qe xs (fun l=>Qc ⟨l.Lo,l.Hi⟩ a) (by omega) (fun kb i hi=> ?_) (fun kb=> ?_)]
 ·simp only[Option.bind_some,Zm]
 ·unfold je Q5 qH
  simp only[zP hi,Option.bind_some,zht,qh i _ hi (by omega)]
  rw[if_pos (by omega)]
 ·unfold je
  rw[if_neg (by simp)]
  rfl
theorem zd6(s:zo)(rank:Int)(a:ze)(h:zr s≤1048576):Zz s rank a=some (za4 s rank a):=by
 have hf:s.Frozen.length≤1048576:=by unfold zr at h;omega
 have ho:s.Own.length≤1048576:=by unfold zr at h;omega
 have hc:s.Cells.length≤1048576:=by unfold zr at h;omega
 have hk:s.Locks.length≤1048576:=by unfold zr at h;omega
 unfold Zz za4
 have tail:∀t:Bool,y0 s a rank t=some (if t=true then(s,0) else if Zp s.Frozen a&&!za1 s a then(if (Zn s.Own a false).2&&(Zn s.Frozen a false).2 then(⟨s.Me,(Zn s.Own a false).1,(Zn s.Frozen a false).1,Xl s.Cells a false,s.Locks,s.Helds,s.Wounded,s.Ended,rank⟩,0) else(s,6)) else(s,4)):=fun t=>by
  unfold y0 ZN ZL za1
  simp only[zeo _ h,zb9 _ _ hf,zbw _ _ hk,zaa _ _ hf,zaa _ _ ho,zdQ _ _ hc,Option.bind_some]
  generalize (s.Locks.any fun l=>Qc ⟨l.Lo,l.Hi⟩ a)=lb
  generalize Zp s.Frozen a=hv
  generalize (Zn s.Own a false)=t1
  generalize (Zn s.Frozen a false)=t2
  obtain⟨x1,y1⟩:=t1
  obtain⟨x2,y2⟩:=t2
  cases t<;>cases hv<;>cases lb<;>cases y1<;>cases y2<;>rfl
 simp only[zj1 _ _ _ h,zj2 _ _ h,zkA _ _ ho,Option.bind_some,tail]
 by_cases h0:zax s rank a=0
 ·simp only[h0,not_true_eq_false,if_false]
  by_cases hr:rank=s.Rank
  ·simp[hr]
  ·simp[hr]
 ·simp only[h0,not_false_eq_true,if_true]
theorem zhs(s:zo)(rank:Int)(a:ze)(h:zr s≤1048576):zr (za4 s rank a).1≤1048576:=by
 unfold za4
 split
 ·have:=zhe s (zax s rank a);simp only;omega
 ·rename_i h0
  have h0:zax s rank a=0:=Classical.byContradiction h0
  split
  ·exact h
  ·split
   ·split
    ·obtain⟨g1,g2⟩:=zil h0
     have t:=ze5 s.Frozen a false
     have t2:=ze5 s.Own a false
     have t3:=zix s.Cells a false
     have:=ziz g1
     unfold zr at h this ⊢
     simp only
     omega
    ·exact h
   ·exact h
theorem zcK(a1:zo)(a2:Int)(a3:ze)(h1:zau a1)(h2:inK .i64 a2)(h3:YY a3):yZ a1 a2 a3=some true:=by
 unfold yZ
 rw[zkF a1 h1 _ (by omega) (by omega)]
 simp only[Option.bind_some]
 split
 ·rfl
 ·rename_i hz
  have hl:zr a1≤1048576:=by omega
  have e1:=zec a1 a2 a3 hl
  have e2:=zd6 a1 a2 a3 hl
  have hr:=zhs a1 a2 a3 hl
  generalize za4 a1 a2 a3=r at e1 e2 hr
  obtain⟨m,g1,g2,g3,g4,g5,g6,g7,g8,g9,g10⟩:=zfW r.1 hr
  obtain⟨n,f1,f2,f3,f4,f5,f6,f7,f8,f9,f10⟩:=zfW a1 hl
  have q1:¬m.1 < 0:=by omega
  have q2:¬n.1 < 0:=by omega
  simp[zjT _ hl,yU,e1,e2,zgD _ _ hr,zgD _ _ hl,f1,f3,f4,f5,f6,f7,f8,f9,g1,g3,g4,g5,g6,g7,g8,g9,g10,q1,q2,jW,jv,jX]
end Go.AW
