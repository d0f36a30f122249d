/- Plain laws: what the plain functions answer. Conditions: each theorem's own. -/
import Derived.Test.YtpabbbmfcgnhdaaGreatMShardDecide
set_option linter.unusedVariables false
set_option linter.unusedSimpArgs false
set_option maxRecDepth 100000
namespace Go.AW
theorem w64{n:Int}(h1:-9223372036854775808≤n)(h2:n < 9223372036854775808):IntKind.wrap .i64 n=n:=by
 rw[IntKind.wrap_i64];omega
theorem zN{α:Type}{xs:List α}{i:Nat}(h:i < xs.length):idx xs (i:Int)=some xs[i]:=by
 unfold idx
 rw[if_pos (by omega)]
 simp[h]
theorem zdJ{α:Type}(xs:List α)(i:Nat):idx xs (i:Int)=xs[i]?:=by
 unfold idx
 rw[if_pos (by omega)]
 simp
theorem zkl{S R:Type}{f:(S→Option R)→S→Option R}(st:Nat→S)(stop:Nat→Option (Option R))(k:Option R)(n:Nat)
  (hs:∀kb i,i < n→(∀j,j < i→stop j=none)→f kb (st i)=match stop i with|some r=>r|none=>kb (st (i+1))) (he:∀kb,(∀j,j < n→stop j=none)→f kb (st n)=k):
  ∀(m i:Nat),i≤n→(∀j,j < i→stop j=none)→n - i < m→iter f m (st i)=match ((List.range n).drop i).findSome? stop with|some r=>r|none=>k
 |0,i,_,_,h=>by omega
 |m+1,i,hi,hp,h=>by
  unfold iter
  by_cases e:i=n
  ·subst e
   rw[he _ hp]
   simp[List.drop_eq_nil_of_le]
  ·have hlt:i < n:=by omega
   rw[hs _ i hlt hp,List.drop_eq_getElem_cons (by simpa using hlt)]
   simp only[List.getElem_range,List.findSome?_cons]
   cases hq:stop i with
   |some r=>rfl
   |none=>exact zkl st stop k n hs he m (i+1) (by omega) (fun j hj=>by
     by_cases e':j=i
     ·subst e';exact hq
     ·exact hp j (by omega)) (by omega)
theorem ze2{S R:Type}{f:(S→Option R)→S→Option R}(st:Nat→S)(stop:Nat→Option (Option R))(k:Option R)(n:Nat)(hn:n≤1152921504606846976)
  (hs:∀kb i,i < n→(∀j,j < i→stop j=none)→f kb (st i)=match stop i with|some r=>r|none=>kb (st (i+1))) (he:∀kb,(∀j,j < n→stop j=none)→f kb (st n)=k) {s0:S} (h0:s0=st 0):
  iter f FU s0=match (List.range n).findSome? stop with|some r=>r|none=>k:=by
 subst h0
 have:=zkl st stop k n hs he FU 0 (by omega) (fun j hj=>by omega) (by unfold FU;omega)
 simpa using this
theorem zb9{S R:Type}{f:(S→Option R)→S→Option R}(st:Nat→S)(stop:Nat→Option (Option R))(k:Option R)(n:Nat)(hn:n≤1152921504606846976)
  (hs:∀kb i,i < n→f kb (st i)=match stop i with|some r=>r|none=>kb (st (i+1))) (he:∀kb,f kb (st n)=k) {s0:S} (h0:s0=st 0):
  iter f FU s0=match (List.range n).findSome? stop with|some r=>r|none=>k:=
 ze2 st stop k n hn (fun kb i hi _=>hs kb i hi) (fun kb _=>he kb) h0
theorem qQ{S R:Type}{f:(S→Option R)→S→Option R}(st:Nat→S)(k:Option R)(n:Nat)(hn:n≤1152921504606846976)
  (hs:∀kb i,i < n→f kb (st i)=kb (st (i+1))) (he:∀kb,f kb (st n)=k) {s0:S} (h0:s0=st 0):iter f FU s0=k:=by
 rw[zb9 st (fun _=>none) k n hn (fun kb i hi=>hs kb i hi) he h0]
 have:(List.range n).findSome? (fun _=>(none:Option (Option R)))=none:=by
  rw[List.findSome?_eq_none_iff];intro x _;rfl
 rw[this]
theorem zcN{S R:Type}{f:(S→Option R)→S→Option R}(st:Nat→S)(good:Nat→Bool)(r k:Option R)(n:Nat)(hn:n≤1152921504606846976)
  (hs:∀kb i,i < n→(∀j,j < i→good j=true)→f kb (st i)=if good i=true then kb (st (i+1)) else r) (he:∀kb,(∀j,j < n→good j=true)→f kb (st n)=k) {s0:S} (h0:s0=st 0):
  iter f FU s0=if (List.range n).all good=true then k else r:=by
 have tr:∀j,(if good j=true then(none:Option (Option R)) else some r)=none→good j=true:=fun j h=>by
  split at h
  ·assumption
  ·cases h
 rw[ze2 st (fun i=>if good i=true then none else some r) k n hn (fun kb i hi hp=>by rw[hs kb i hi (fun j hj=>tr j (hp j hj))];split<;>rfl) (fun kb hp=>he kb (fun j hj=>tr j (hp j hj))) h0]
 by_cases e:(List.range n).all good=true
 ·have:(List.range n).findSome? (fun i=>if good i=true then none else some r)=none:=by
   rw[List.findSome?_eq_none_iff]
   intro x hx
   rw[List.all_eq_true] at e
   simp[e x hx]
  rw[this,if_pos e]
 ·rw[if_neg e]
  cases h:(List.range n).findSome? (fun i=>if good i=true then none else some r) with
  |none=>
   exfalso
   apply e
   rw[List.all_eq_true]
   intro x hx
   rw[List.findSome?_eq_none_iff] at h
   exact tr x (h x hx)
  |some q=>
   obtain⟨x,hx,hq⟩:=List.exists_of_findSome?_eq_some h
   split at hq
   ·cases hq
   ·cases hq;rfl
theorem jU{S R:Type}{f:(S→Option R)→S→Option R}(st:Nat→S)(good:Nat→Bool)(r k:Option R)(n:Nat)(hn:n≤1152921504606846976)
  (hs:∀kb i,i < n→f kb (st i)=if good i=true then kb (st (i+1)) else r) (he:∀kb,f kb (st n)=k) {s0:S} (h0:s0=st 0):
  iter f FU s0=if (List.range n).all good=true then k else r:=
 zcN st good r k n hn (fun kb i hi _=>hs kb i hi) (fun kb _=>he kb) h0
theorem Kv{α R:Type}{f:(List α×Int→Option R)→List α×Int→Option R}(xs:List α)(z:α)(k:List α→Option R)(hn:xs.length≤2147483648)
  (hs:∀kb (ys:List α) (i:Nat) (hi:i < xs.length),ys.length=xs.length→f kb (ys,(i:Int))=kb (ys.set i xs[i],((i+1:Nat):Int)))
  (he:∀kb (ys:List α),f kb (ys,(xs.length:Int))=k ys):iter f FU (List.replicate xs.length z,0)=k xs:=by
 refine qQ (fun i=>(xs.take i++List.replicate (xs.length - i) z,(i:Int))) _ xs.length (by omega) (fun kb i hi=> ?_) (fun kb=> ?_) (by simp)
 ·rw[hs kb _ i hi (by simp;omega)]
  congr 2
  have:xs.length - i=(xs.length - (i+1))+1:=by omega
  have hk:min i xs.length=i:=by omega
  show _=(List.take (i+1) xs++_)
  rw[this,List.replicate_succ,List.set_append_right _ _ (by simp;omega),show List.take (i+1) xs=List.take i xs++[xs[i]] from List.take_succ_eq_append_getElem hi]
  simp only[List.length_take,hk,Nat.sub_self,List.set_cons_zero]
  rw[List.append_assoc]
  rfl
 ·rw[he]
  simp
theorem YJ{α:Type}[DecidableEq α]{xs ys:List α}(h:xs.length=ys.length):(List.range xs.length).all (fun i=>decide (xs[i]? =ys[i]?))=decide (xs=ys):=by
 by_cases e:xs=ys
 ·subst e;simp
 ·rw[decide_eq_false e,List.all_eq_false]
  apply Classical.byContradiction
  intro hc
  apply e
  apply List.ext_getElem?
  intro i
  by_cases hi:i < xs.length
  ·apply Classical.byContradiction
   intro hne
   exact hc ⟨i,List.mem_range.2 hi,by simpa using hne⟩
  ·rw[List.getElem?_eq_none (by omega),List.getElem?_eq_none (by omega)]
theorem qh(i:Nat)(n:Nat)(h:i < n)(hn:n≤1152921504606846976):IntKind.wrap .i64 ((i:Int)+1)=((i+1:Nat):Int):=by
 rw[w64 (by omega) (by omega)];omega
def Kh{α:Type}(p:α→Bool)(xs:List α):Int:=match xs.findIdx? p with
 |some k=>(k:Int)
 |none=>-1
theorem QV{α:Type}(p:α→Bool)(xs:List α):decide (0≤Kh p xs)=xs.any p:=by
 unfold Kh
 cases h:xs.findIdx? p with
 |none=>
  rw[List.findIdx?_eq_none_iff] at h
  have:xs.any p=false:=by rw[List.any_eq_false];intro x hx;simp[h x hx]
  simp[this]
 |some k=>
  rw[List.findIdx?_eq_some_iff_getElem] at h
  obtain⟨hk,hp,_⟩:=h
  have:xs.any p=true:=List.any_eq_true.2 ⟨xs[k],List.getElem_mem hk,hp⟩
  simp[this]
theorem QP{α:Type}(xs:List α)(p:α→Bool){f:(Int→Option Int)→Int→Option Int}(hn:xs.length≤1152921504606846976)
  (hs:∀kb (i:Nat) (hi:i < xs.length),f kb (i:Int)=if p xs[i]=true then some (i:Int) else kb ((i+1:Nat):Int)) (he:∀kb,f kb (xs.length:Int)=some (-1)):iter f FU 0=some (Kh p xs):=by
 rw[zb9 (s0:=(0:Int)) (fun i=>(i:Int)) (fun i:Nat=>(xs[i]?).bind fun x=>if p x=true then some (some (i:Int)) else none) (some (-1)) xs.length hn (fun kb i hi=> ?_) (fun kb=>he kb) rfl]
 ·have key:∀(ys:List α) (o:Nat),(List.range ys.length).findSome? (fun i:Nat=>(ys[i]?).bind fun x=>if p x=true then some (some ((o+i:Nat):Int)) else none)=(ys.findIdx? p).map fun k=>some ((o+k:Nat):Int):=by
   intro ys
   induction ys with
   |nil=>intro o;rfl
   |cons y ys ih=>
    intro o
    rw[List.length_cons,List.range_succ_eq_map,List.findSome?_cons,List.findSome?_map,List.findIdx?_cons]
    simp only[List.getElem?_cons_zero,Option.bind_some]
    by_cases e:p y=true
    ·simp[e]
    ·simp only[e,if_false,Function.comp_def,List.getElem?_cons_succ,Bool.false_eq_true]
     have:=ih (o+1)
     rw[show(fun i:Nat=>(ys[i]?).bind fun x=>if p x=true then some (some ((o+(i+1):Nat):Int)) else none)=fun i:Nat=>(ys[i]?).bind fun x=>if p x=true then some (some ((o+1+i:Nat):Int)) else none from by funext i;rw[show o+(i+1)=o+1+i by omega]]
     rw[this]
     cases ys.findIdx? p<;>simp;omega
  have:=key xs 0
  simp only[Nat.zero_add] at this
  rw[this]
  unfold Kh
  cases xs.findIdx? p<;>rfl
 ·rw[hs kb i hi,List.getElem?_eq_getElem hi]
  simp only[Option.bind_some]
  by_cases e:p xs[i]=true<;>simp[e]
theorem zgW{α:Type}(xs:List α)(p:α→Bool):((List.range xs.length).all fun i=>((xs[i]?).map p).getD true)=xs.all p:=by
 rw[Bool.eq_iff_iff,List.all_eq_true,List.all_eq_true]
 constructor
 ·intro H x hx
  obtain⟨i,hi,rfl⟩:=List.mem_iff_getElem.1 hx
  have:=H i (List.mem_range.2 hi)
  rw[List.getElem?_eq_getElem hi] at this
  exact this
 ·intro H i hi
  have hi:=List.mem_range.1 hi
  rw[List.getElem?_eq_getElem hi]
  exact H _ (List.getElem_mem hi)
theorem ziD{α R:Type}(xs:List α)(p:α→Bool)(r k:Option R){f:(Int→Option R)→Int→Option R}(hn:xs.length≤1152921504606846976)
  (hs:∀kb (i:Nat) (hi:i < xs.length),f kb (i:Int)=if p xs[i]=true then r else kb ((i+1:Nat):Int)) (he:∀kb,f kb (xs.length:Int)=k):iter f FU 0=if xs.any p=true then r else k:=by
 rw[jU (s0:=(0:Int)) (fun i=>(i:Int)) (fun i=>((xs[i]?).map fun x=>!p x).getD true) r k xs.length hn (fun kb i hi=> ?_) (fun kb=>he kb) rfl,zgW xs fun x=>!p x]
 ·cases h:xs.any p with
  |true=>
   have:(xs.all fun x=>!p x)=false:=by
    rw[List.all_eq_false];obtain⟨x,hx,hp⟩:=List.any_eq_true.1 h;exact⟨x,hx,by simp[hp]⟩
   simp[this]
  |false=>
   have:(xs.all fun x=>!p x)=true:=by
    rw[List.all_eq_true];intro x hx;rw[List.any_eq_false] at h;simp[h x hx]
   simp[this]
 ·rw[hs kb i hi,List.getElem?_eq_getElem hi]
  cases h:p xs[i]<;>simp[h]
theorem Xv{α R:Type}(xs:List α)(p:α→Bool)(r k:Option R){f:(Int→Option R)→Int→Option R}(hn:xs.length≤1152921504606846976)
  (hs:∀kb (i:Nat) (hi:i < xs.length),f kb (i:Int)=if p xs[i]=true then kb ((i+1:Nat):Int) else r) (he:∀kb,f kb (xs.length:Int)=k):iter f FU 0=if xs.all p=true then k else r:=by
 rw[jU (s0:=(0:Int)) (fun i=>(i:Int)) (fun i=>((xs[i]?).map p).getD true) r k xs.length hn (fun kb i hi=> ?_) (fun kb=>he kb) rfl,zgW xs p]
 rw[hs kb i hi,List.getElem?_eq_getElem hi]
 rfl
def jW{α:Type}(f:α→Nat):List α→Nat
 |[]=>0
 |x::xs=>f x+jW f xs
theorem zbY{α:Type}(f:α→Nat):∀(xs ys:List α),jW f (xs++ys)=jW f xs+jW f ys
 |[],ys=>by simp[jW]
 |x::xs,ys=>by simp[jW,zbY f xs ys];omega
theorem Xj{α:Type}(f:α→Nat){xs:List α}{i:Nat}(hi:i < xs.length):jW f (xs.take (i+1))=jW f (xs.take i)+f xs[i]:=by
 rw[List.take_succ_eq_append_getElem hi,zbY]
 simp[jW]
theorem Xh{α:Type}(f:α→Nat)(xs:List α)(i:Nat):jW f (xs.take i)≤jW f xs:=by
 have:=zbY f (xs.take i) (xs.drop i)
 rw[List.take_append_drop] at this
 omega
theorem zmw{α:Type}(f:α→Nat){xs:List α}{i:Nat}(hi:i < xs.length):f xs[i]≤jW f xs:=by
 have h1:=Xj f hi
 have h2:=Xh f xs (i+1)
 omega
def qM(z lo hi:Int):Bool:=decide (lo≤z)&&decide (z≤hi)
theorem zfg(z lo hi:Int):Zg z lo hi=some (qM z lo hi):=by
 unfold Zg qM;by_cases h:lo≤z<;>simp[h]
theorem zdU(z lo hi:Int):Zf z lo hi=some (qM z lo hi):=by
 unfold Zf qM;by_cases h:lo≤z<;>simp[h]
theorem zic(z:Int):Jg z=some (qM z 0 999):=by simp[Jg,zfg]
theorem zkd(z:Int):YF z=some (qM z 0 999):=by simp[YF,zdU]
theorem zk2(z:Int):Yn z=some (qM z 0 1000000000):=by simp[Yn,zfg]
theorem zlt(z:Int):Yf z=some (qM z 0 1000000000):=by simp[Yf,zdU]
theorem zeU(z:Int):ZX z=some (qM z 1 60):=by simp[ZX,zfg]
theorem zjK(z:Int):Yd z=some (qM z 1 60):=by simp[Yd,zdU]
def qU(a:zw):Bool:=decide (0≤a.Lo)&&decide (a.Lo < a.Hi)&&decide (a.Hi≤1000)
theorem JZ(a:zw):jB a=some (qU a):=by
 unfold jB qU;by_cases h:0≤a.Lo<;>by_cases h':a.Lo < a.Hi<;>simp[h,h']
theorem KB(a:zw):ZF a=some (qU a):=by
 unfold ZF qU;by_cases h:0≤a.Lo<;>by_cases h':a.Lo < a.Hi<;>simp[h,h']
theorem zkZ(z:Int):Yb z=some (qM z 0 3):=by simp[Yb,zdU]
theorem ze0(xs:List zw)(h:xs.length≤maxLen)(z:Int)(h1:0≤z)(h2:z≤1048576):ZM xs z=some (if z < xs.length then -1 else z - xs.length):=by
 unfold ZM
 have:IntKind.wrap .i64 (z - (xs.length:Int))=z - xs.length:=by unfold maxLen at h;exact w64 (by omega) (by omega)
 rw[this]
 split<;>split<;>first|rfl|omega
theorem zfG(xs:List zw)(h:xs.length≤1048576):ZL xs=some xs:=by
 unfold ZL
 rw[if_pos ⟨by omega,by omega⟩]
 simp only[Int.toNat_natCast]
 refine Kv xs _ YS (by omega) (fun kb ys i hi hy=> ?_) (fun kb ys=> ?_)
 ·unfold Yr
  simp only[zN hi,zN (show i < ys.length by omega),kX,Option.bind_some,Int.toNat_natCast,qh i _ hi (by omega)]
  rw[if_pos (by omega)]
 ·unfold Yr
  rw[if_neg (by omega)]
theorem zk1(a b:zw):Yc a b=some (decide (a=b)):=by
 unfold Yc
 cases a;cases b
 simp only[zw.mk.injEq]
 repeat' split
 all_goals simp_all
theorem zfs(xs ys:List zw)(h:xs.length≤1048576):ZO xs ys=some (decide (xs=ys)):=by
 unfold ZO
 split
 ·rename_i hl
  have:¬xs=ys:=fun e=>hl (by rw[e])
  simp[this]
 ·rename_i hl
  have hl:xs.length=ys.length:=by omega
  rw[jU (s0:=(0:Int)) (fun i=>(i:Int)) (fun i=>decide (xs[i]? =ys[i]?)) (some false) (some true) xs.length (by omega) (fun kb i hi=> ?_) (fun kb=> ?_) rfl,YJ hl]
  ·by_cases e:xs=ys<;>simp[e]
  ·unfold YH
   simp only[zN hi,zN (show i < ys.length by omega),zk1,Option.bind_some,qh i _ hi (by omega)]
   rw[if_pos (by omega),List.getElem?_eq_getElem hi,List.getElem?_eq_getElem (show i < ys.length by omega)]
   simp
  ·unfold YH
   rw[if_neg (by omega)]
   rfl
def zb8(xs:List zw)(i:Nat):Bool:=match xs[i]? with
 |none=>true
 |some c=>qU c&&(i == 0||match xs[i - 1]? with|some p=>decide (p.Hi≤c.Lo)|none=>true)
def qK(xs:List zw):Bool:=decide (xs.length≤16)&&(List.range xs.length).all (zb8 xs)
theorem X4(xs:List zw)(h:xs.length≤1048576):y4 xs=some (qK xs):=by
 unfold y4 qK
 split
 ·rename_i h1
  have:¬xs.length≤16:=by omega
  simp[this]
 ·rename_i h1
  have:xs.length≤16:=by omega
  rw[jU (s0:=(0:Int)) (fun i=>(i:Int)) (zb8 xs) (some false) (some true) xs.length (by omega) (fun kb i hi=> ?_) (fun kb=> ?_) rfl]
  ·simp only[this,decide_true,Bool.true_and];split<;>simp_all
  ·unfold YA Zp zb8
   simp only[zN hi,JZ,Option.bind_some,qh i _ hi (by omega),List.getElem?_eq_getElem hi]
   rw[if_pos (by omega)]
   cases qU xs[i]<;>simp
   by_cases h0:0 < i
   ·have h2:IntKind.wrap .i64 ((i:Int) - 1)=((i - 1:Nat):Int):=by rw[w64 (by omega) (by omega)];omega
    have h3:i - 1 < xs.length:=by omega
    have h4:¬i=0:=by omega
    simp only[h0,if_true,h2,zN h3,Option.bind_some,List.getElem?_eq_getElem h3,h4,false_or]
    by_cases h5:xs[i].Lo < xs[i - 1].Hi
    ·have:¬xs[i - 1].Hi≤xs[i].Lo:=by omega
     simp[h5,this]
    ·have:xs[i - 1].Hi≤xs[i].Lo:=by omega
     simp[h5,this]
   ·have h4:i=0:=by omega
    simp[h4]
  ·unfold YA
   rw[if_neg (by omega)];rfl
theorem zbj(xs:List zw)(h:xs.length≤1048576):ZN xs=some (qK xs):=by
 unfold ZN qK
 rw[jU (s0:=(0:Int)) (fun i=>(i:Int)) (zb8 xs) (some false) (some<|decide (xs.length≤16)) xs.length (by omega) (fun kb i hi=> ?_) (fun kb=> ?_) rfl]
 ·split<;>simp_all
 ·unfold Yu Zj zb8
  simp only[zN hi,KB,Option.bind_some,qh i _ hi (by omega),List.getElem?_eq_getElem hi]
  rw[if_pos (by omega)]
  cases qU xs[i]<;>simp
  by_cases h0:0 < i
  ·have h2:IntKind.wrap .i64 ((i:Int) - 1)=((i - 1:Nat):Int):=by rw[w64 (by omega) (by omega)];omega
   have h3:i - 1 < xs.length:=by omega
   have h4:¬i=0:=by omega
   simp only[h0,if_true,h2,zN h3,Option.bind_some,List.getElem?_eq_getElem h3,h4,false_or]
   by_cases h5:xs[i].Lo < xs[i - 1].Hi
   ·have:¬xs[i - 1].Hi≤xs[i].Lo:=by omega
    simp[h5,this]
   ·have:xs[i - 1].Hi≤xs[i].Lo:=by omega
    simp[h5,this]
  ·have h4:i=0:=by omega
   simp[h4]
 ·unfold Yu YQ
  rw[if_neg (by omega)]
  have:((xs.length:Int)≤16)↔xs.length≤16:=by omega
  simp[this]
theorem zgG{xs:List zw}(h:qK xs=true){i:Nat}(hi:i < xs.length):qU xs[i]=true:=by
 unfold qK at h
 simp only[Bool.and_eq_true,List.all_eq_true] at h
 have:=h.2 i (List.mem_range.2 hi)
 unfold zb8 at this
 rw[List.getElem?_eq_getElem hi] at this
 simp only[Bool.and_eq_true] at this
 exact this.1
theorem zcs{xs:List zw}(h:qK xs=true):xs.length≤16:=by
 unfold qK at h;simp at h;exact h.1
def X0(xs:List zw)(z:Int):Int:=xs.foldl (fun at_ b=>if b.Lo≤at_∧at_ < b.Hi then b.Hi else at_) z
def QD(xs:List zw)(a:zw):Bool:=decide (a.Hi≤X0 xs a.Lo)
theorem zey{xs:List zw}{i:Nat}(hi:i < xs.length)(z:Int):X0 (xs.take (i+1)) z=if xs[i].Lo≤X0 (xs.take i) z∧X0 (xs.take i) z < xs[i].Hi then xs[i].Hi else X0 (xs.take i) z:=by
 unfold X0
 rw[List.take_succ_eq_append_getElem hi,List.foldl_append]
 rfl
theorem zdY(xs:List zw)(a:zw)(h:xs.length≤1048576):Zx xs a=some (QD xs a):=by
 unfold Zx QD
 refine qQ (fun i=>(X0 (xs.take i) a.Lo,(i:Int))) _ xs.length (by omega) (fun kb i hi=> ?_) (fun kb=> ?_) (by simp[X0])
 ·unfold xx Qg
  simp only[zN hi,Option.bind_some,qh i _ hi (by omega),zey hi]
  rw[if_pos (by omega)]
  generalize X0 (xs.take i) a.Lo=z
  by_cases c1:xs[i].Lo≤z<;>by_cases c2:z < xs[i].Hi<;>simp[c1,c2]
 ·unfold xx xG
  rw[if_neg (by simp)]
  simp
theorem zaY(xs:List zw)(a:zw)(h:xs.length≤1048576):yu xs a=some (qK xs&&qU a&&QD xs a):=by
 have J:yf xs a false=some (QD xs a):=by
  unfold yf QD
  rw[if_neg (by simp)]
  refine qQ (fun i=>(X0 (xs.take i) a.Lo,(i:Int))) _ xs.length (by omega) (fun kb i hi=> ?_) (fun kb=> ?_) (by simp[X0])
  ·unfold QK Zc
   simp only[zN hi,Option.bind_some,qh i _ hi (by omega),zey hi]
   rw[if_pos (by omega)]
   generalize X0 (xs.take i) a.Lo=z
   by_cases c1:xs[i].Lo≤z<;>by_cases c2:z < xs[i].Hi<;>simp[c1,c2]
  ·unfold QK QT
   rw[if_neg (by simp)]
   simp
 have J2:yf xs a true=some false:=rfl
 unfold yu
 simp only[X4 _ h,JZ,Option.bind_some]
 cases qK xs<;>cases qU a<;>simp[J,J2]
def ziA(xs:List Int)(i:Nat):Bool:=match xs[i]? with
 |none=>true
 |some c=>qM c 1 60&&(i == 0||match xs[i - 1]? with|some p=>decide (p < c)|none=>true)
def jw(xs:List Int):Bool:=(List.range xs.length).all (ziA xs)
theorem zig(xs:List Int)(h:xs.length≤1048576):Jh xs=some (jw xs):=by
 unfold Jh jw
 rw[jU (s0:=(0:Int)) (fun i=>(i:Int)) (ziA xs) (some false) (some true) xs.length (by omega) (fun kb i hi=> ?_) (fun kb=> ?_) rfl]
 ·split<;>simp_all
 ·unfold ku Qo ziA
  simp only[zN hi,zeU,Option.bind_some,qh i _ hi (by omega),List.getElem?_eq_getElem hi]
  rw[if_pos (by omega)]
  cases qM xs[i] 1 60<;>simp
  by_cases h0:0 < i
  ·have h2:IntKind.wrap .i64 ((i:Int) - 1)=((i - 1:Nat):Int):=by rw[w64 (by omega) (by omega)];omega
   have h3:i - 1 < xs.length:=by omega
   have h4:¬i=0:=by omega
   simp only[h0,if_true,h2,zN h3,Option.bind_some,List.getElem?_eq_getElem h3,h4,false_or]
   by_cases h5:xs[i]≤xs[i - 1]
   ·have:¬xs[i - 1] < xs[i]:=by omega
    simp[h5,this]
   ·have:xs[i - 1] < xs[i]:=by omega
    simp[h5,this]
  ·have h4:i=0:=by omega
   simp[h4]
 ·unfold ku
  rw[if_neg (by omega)];rfl
theorem zbq(xs:List Int)(h:xs.length≤1048576):yJ xs=some (jw xs):=by
 unfold yJ jw
 rw[jU (s0:=(0:Int)) (fun i=>(i:Int)) (ziA xs) (some false) (some true) xs.length (by omega) (fun kb i hi=> ?_) (fun kb=> ?_) rfl]
 ·split<;>simp_all
 ·unfold Ju yY ziA
  simp only[zN hi,zjK,Option.bind_some,qh i _ hi (by omega),List.getElem?_eq_getElem hi]
  rw[if_pos (by omega)]
  cases qM xs[i] 1 60<;>simp
  by_cases h0:0 < i
  ·have h2:IntKind.wrap .i64 ((i:Int) - 1)=((i - 1:Nat):Int):=by rw[w64 (by omega) (by omega)];omega
   have h3:i - 1 < xs.length:=by omega
   have h4:¬i=0:=by omega
   simp only[h0,if_true,h2,zN h3,Option.bind_some,List.getElem?_eq_getElem h3,h4,false_or]
   by_cases h5:xs[i]≤xs[i - 1]
   ·have:¬xs[i - 1] < xs[i]:=by omega
    simp[h5,this]
   ·have:xs[i - 1] < xs[i]:=by omega
    simp[h5,this]
  ·have h4:i=0:=by omega
   simp[h4]
 ·unfold Ju
  rw[if_neg (by omega)];rfl
theorem zcY{xs:List Int}(h:jw xs=true){i:Nat}(hi:i < xs.length):(1≤xs[i]∧xs[i]≤60)∧(0 < i→xs[i - 1]'(by omega) < xs[i]):=by
 unfold jw at h
 simp only[List.all_eq_true] at h
 have:=h i (List.mem_range.2 hi)
 unfold ziA qM at this
 rw[List.getElem?_eq_getElem hi] at this
 simp only[Bool.and_eq_true,decide_eq_true_eq,Bool.or_eq_true,beq_iff_eq] at this
 refine⟨this.1,fun h0=> ?_⟩
 rcases this.2 with e|e
 ·omega
 ·rw[List.getElem?_eq_getElem (show i - 1 < xs.length by omega)] at e
  simpa using e
theorem Xx{xs:List Int}(h:jw xs=true):∀{i j:Nat} (hj:j < xs.length) (hij:i < j),xs[i]'(by omega) < xs[j]
 |i,j+1,hj,hij=>by
  have h1:=(zcY h hj).2 (by omega)
  simp only[Nat.add_sub_cancel] at h1
  by_cases e:i=j
  ·subst e;exact h1
  ·have:=Xx h (i:=i) (j:=j) (by omega) (by omega)
   omega
theorem zft{xs:List Int}(h:jw xs=true):∀{j:Nat} (hj:j < xs.length),(j:Int)+1≤xs[j]
 |0,hj=>by have:=(zcY h hj).1.1;omega
 |j+1,hj=>by
  have h1:=zft h (j:=j) (by omega)
  have h2:=Xx h hj (i:=j) (by omega)
  omega
theorem zcG{xs:List Int}(h:jw xs=true):xs.length≤60:=by
 by_cases e:xs.length=0
 ·omega
 ·have h1:=zft h (j:=xs.length - 1) (by omega)
  have h2:=(zcY h (i:=xs.length - 1) (by omega)).1.2
  omega
theorem zao{xs:List Int}(h:jw xs=true):xs.Nodup:=by
 refine List.pairwise_iff_getElem.2 fun i j hi hj hij=> ?_
 have:=Xx h hj hij
 omega
theorem ziB(xs:List Int):(Go.Lib.compact xs).length=xs.length↔∀i (h:i+1 < xs.length),xs[i+1]≠xs[i]:=by
 unfold Go.Lib.compact Go.Lib.compactUpTo
 rw[List.length_map]
 have:(List.filter (Go.Lib.keeps xs.toArray)<|List.range xs.length).length=xs.length↔∀i∈List.range xs.length,Go.Lib.keeps xs.toArray i=true:=by
  have:=List.length_filter_eq_length_iff (l:=List.range xs.length) (p:=Go.Lib.keeps xs.toArray)
  rw[List.length_range] at this
  exact this
 rw[this]
 constructor
 ·intro H i hi
  have:=H (i+1) (List.mem_range.2 hi)
  unfold Go.Lib.keeps at this
  intro e
  have h1:xs.toArray[i+1]! =xs[i+1]:=by rw[getElem!_pos _ _ (by simpa using hi)];simp
  have h2:xs.toArray[i]! =xs[i]:=by rw[getElem!_pos _ _ (by simp;omega)];simp
  simp[h1,h2,e] at this
 ·intro H i hi
  have hi:=List.mem_range.1 hi
  unfold Go.Lib.keeps
  cases i with
  |zero=>simp
  |succ i=>
   have h1:xs.toArray[i+1]! =xs[i+1]:=by rw[getElem!_pos _ _ (by simpa using hi)];simp
   have h2:xs.toArray[i]! =xs[i]:=by rw[getElem!_pos _ _ (by simp;omega)];simp
   have:=H i hi
   simp[h1,h2,this]
theorem zhy{xs:List Int}(hs:xs.Pairwise (·≤·)):(∀i (h:i+1 < xs.length),xs[i+1]≠xs[i])↔xs.Nodup:=by
 constructor
 ·intro H
  have lt:∀{i j:Nat} (hj:j < xs.length) (hij:i < j),xs[i]'(by omega) < xs[j]:=by
   intro i j
   induction j with
   |zero=>intro _ h;omega
   |succ j ih=>
    intro hj hij
    have h1:=H j hj
    have h2:=List.pairwise_iff_getElem.1 hs j (j+1) (by omega) hj (by omega)
    by_cases e:i=j
    ·subst e;omega
    ·have:=ih (by omega) (by omega);omega
  refine List.pairwise_iff_getElem.2 fun i j hi hj hij=> ?_
  have:=lt hj hij
  omega
 ·intro H i hi e
  exact List.pairwise_iff_getElem.1 H i (i+1) (by omega) hi (by omega) e.symm
theorem zjr(zs:List Int):(zbT zs).Perm zs:=List.mergeSort_perm zs _
theorem zhC(zs:List Int):(zbT zs).Pairwise (·≤·):=by
 have:=List.pairwise_mergeSort (le:=fun x y:Int=>decide (x≤y)) (by intro a b c h1 h2;simp at *;omega) (by intro a b;simp;omega) zs
 exact this.imp fun h=>by simpa using h
theorem zhu(zs:List Int):(Go.Lib.compact<|zbT zs).length=zs.length↔zs.Nodup:=by
 rw[←Kx zs,ziB,zhy<|zhC zs]
 exact(zjr zs).nodup_iff
def kw{α:Type}(g:Nat→α)(xs:List α)(i:Nat):List α:=(List.range i).map g++xs.drop i
theorem Jb{α:Type}(g:Nat→α){xs:List α}{i:Nat}(h:i≤xs.length):(kw g xs i).length=xs.length:=by
 unfold kw
 simp
 omega
theorem zaB{α:Type}(g:Nat→α){xs:List α}{i:Nat}(h:i < xs.length):idx (kw g xs i) (i:Int)=some xs[i]:=by
 rw[zdJ]
 unfold kw
 rw[List.getElem?_append_right (by simp)]
 simp[h]
theorem zaG{α:Type}(g:Nat→α){xs:List α}{i:Nat}(h:i < xs.length):(kw g xs i).set i (g i)=kw g xs (i+1):=by
 unfold kw
 rw[List.set_append,if_neg (by simp),List.range_succ,List.map_append,List.append_assoc]
 congr 1
 have e:i - ((List.range i).map g).length=0:=by simp
 rw[e,List.drop_eq_getElem_cons h]
 rfl
theorem Kt{α:Type}(g:Nat→α)(xs:List α):kw g xs 0=xs:=by simp[kw]
theorem zaO{α:Type}(g:Nat→α)(xs:List α):kw g xs xs.length=(List.range xs.length).map g:=by simp[kw]
theorem Yx{α:Type}{xs:List α}{i:Nat}{a:α}(h:i < xs.length):idx (xs.set i a) (i:Int)=some a:=by
 rw[zN (by simpa using h)]
 simp
theorem Kw{α:Type}(g:Nat→α){n i:Nat}(h:i < n):idx ((List.range n).map g) (i:Int)=some (g i):=by
 rw[zN (by simpa using h)]
 simp
theorem zev{α R:Type}{f:(List α×Int→Option R)→List α×Int→Option R}(xs:List α)(q:α→Bool)(k:List α→Option R)(hn:xs.length≤1048576)
  (hs:∀kb (ys:List α) (i:Nat) (hi:i < xs.length),ys.length≤i→f kb (ys,(i:Int))=if q xs[i]=true then kb (ys++[xs[i]],((i+1:Nat):Int)) else kb (ys,((i+1:Nat):Int)))
  (he:∀kb (ys:List α),f kb (ys,(xs.length:Int))=k ys):iter f FU ([],0)=k (xs.filter q):=by
 refine qQ (fun i=>((xs.take i).filter q,(i:Int))) _ xs.length (by omega) (fun kb i hi=> ?_) (fun kb=> ?_) (by simp)
 ·rw[hs kb _ i hi (Nat.le_trans (List.length_filter_le _ _) (by simp;omega))]
  rw[List.take_succ_eq_append_getElem hi,List.filter_append]
  by_cases h:q xs[i]=true<;>simp[h]
 ·rw[he,List.take_length]
def kB{α:Type}(xs:List α)(p:α→Bool)(k0:Nat):Nat→List α×Nat
 |0=>(xs,k0)
 |n+1=>match xs[k0+1+n]? with
  |some x=>if p x then kB xs p k0 n else((kB xs p k0 n).1.set (kB xs p k0 n).2 x,(kB xs p k0 n).2+1)
  |none=>kB xs p k0 n
theorem zdK{α:Type}(xs:List α)(p:α→Bool)(k0:Nat)(hk:k0 < xs.length)(h0:(xs.take (k0+1)).filter (fun x=>!p x)=xs.take k0):∀n,k0+1+n≤xs.length→
  (kB xs p k0 n).1.length=xs.length∧(kB xs p k0 n).2 < k0+1+n∧(kB xs p k0 n).1.take (kB xs p k0 n).2=(xs.take (k0+1+n)).filter (fun x=>!p x)∧∀m,k0+1+n≤m→(kB xs p k0 n).1[m]? =xs[m]?
 |0,h=>by
  refine⟨rfl,by simp[kB],?_,fun m _=>rfl⟩
  simp only[kB,Nat.add_zero]
  rw[h0]
 |n+1,h=>by
  obtain⟨h1,h2,h3,h4⟩:=zdK xs p k0 hk h0 n (by omega)
  have hlt:k0+1+n < xs.length:=by omega
  simp only[kB,List.getElem?_eq_getElem hlt]
  have ht:(xs.take (k0+1+(n+1))).filter (fun x=>!p x)=(xs.take (k0+1+n)).filter (fun x=>!p x)++(if p xs[k0+1+n]=true then[] else[xs[k0+1+n]]):=by
   rw[show k0+1+(n+1)=(k0+1+n)+1 by omega,List.take_succ_eq_append_getElem hlt,List.filter_append]
   congr 1
   by_cases c:p xs[k0+1+n]=true<;>simp[c]
  by_cases c:p xs[k0+1+n]=true
  ·simp only[c,if_true]
   refine⟨h1,by omega,by rw[ht,c];simpa using h3,fun m hm=>h4 m (by omega)⟩
  ·simp only[c,Bool.false_eq_true,if_false]
   refine⟨by simpa using h1,by omega,?_,fun m hm=> ?_⟩
   ·rw[ht,←h3]
    rw[if_neg c,List.take_succ_eq_append_getElem (by rw[List.length_set,h1];omega),List.take_set_of_le<|Nat.le_refl _]
    simp
   ·rw[List.getElem?_set_ne (by omega)]
    exact h4 m (by omega)
theorem ziV{α R:Type}{f:(List α×Int×Int→Option R)→List α×Int×Int→Option R}(xs:List α)(p:α→Bool)(k:List α→Nat→Option R)(hn:xs.length≤1048576)(k0:Nat)(hk:k0 < xs.length)(h0:(xs.take (k0+1)).filter (fun x=>!p x)=xs.take k0)
  (hs:∀kb (ys:List α) (i j:Nat) (hj:j < xs.length),i < j→ys.length=xs.length→ys[j]? =some xs[j]→f kb (ys,(i:Int),(j:Int))=if p xs[j]=true then kb (ys,(i:Int),((j+1:Nat):Int)) else kb (ys.set i xs[j],((i+1:Nat):Int),((j+1:Nat):Int)))
  (he:∀kb (ys:List α) (i:Nat),i≤xs.length→ys.length=xs.length→f kb (ys,(i:Int),(xs.length:Int))=k ys i):
  ∃ys,ys.length=xs.length∧(xs.filter fun x=>!p x).length≤xs.length∧ys.take (xs.filter fun x=>!p x).length=xs.filter (fun x=>!p x)∧iter f FU (xs,(k0:Int),((k0+1:Nat):Int))=k ys (xs.filter fun x=>!p x).length:=by
 obtain⟨h1,h2,h3,_⟩:=zdK xs p k0 hk h0 (xs.length - (k0+1)) (by omega)
 rw[show k0+1+(xs.length - (k0+1))=xs.length by omega,List.take_length] at h3
 rw[show k0+1+(xs.length - (k0+1))=xs.length by omega] at h2
 have hl:(kB xs p k0 (xs.length - (k0+1))).2=(xs.filter fun x=>!p x).length:=by
  rw[←h3,List.length_take,h1];omega
 refine⟨_,h1,List.length_filter_le _ _,by rw[←hl];exact h3,?_⟩
 rw[←hl]
 refine qQ (fun n=>((kB xs p k0 n).1,((kB xs p k0 n).2:Int),((k0+1+n:Nat):Int))) _ (xs.length - (k0+1)) (by omega) (fun kb n hlt=> ?_) (fun kb=> ?_) (by simp[kB])
 ·obtain⟨g1,g2,g3,g4⟩:=zdK xs p k0 hk h0 n (by omega)
  have hj:k0+1+n < xs.length:=by omega
  show f kb ((kB xs p k0 n).1,((kB xs p k0 n).2:Int),((k0+1+n:Nat):Int))=kb ((kB xs p k0 (n+1)).1,((kB xs p k0 (n+1)).2:Int),((k0+1+(n+1):Nat):Int))
  rw[hs kb _ _ _ hj g2 g1 (by rw[g4 _ (Nat.le_refl _),List.getElem?_eq_getElem hj])]
  have e:kB xs p k0 (n+1)=if p xs[k0+1+n]=true then kB xs p k0 n else((kB xs p k0 n).1.set (kB xs p k0 n).2 xs[k0+1+n],(kB xs p k0 n).2+1):=by
   simp only[kB,List.getElem?_eq_getElem hj]
  rw[e]
  by_cases c:p xs[k0+1+n]=true
  ·simp only[c,if_true];rfl
  ·simp only[c,Bool.false_eq_true,if_false];rfl
 ·show f kb ((kB xs p k0 (xs.length - (k0+1))).1,((kB xs p k0 (xs.length - (k0+1))).2:Int),((k0+1+(xs.length - (k0+1)):Nat):Int))=_
  rw[show k0+1+(xs.length - (k0+1))=xs.length by omega]
  exact he kb _ _ (by omega) h1
theorem zin{α:Type}{p:α→Bool}{xs:List α}(e:Kh p xs= -1):xs.filter (fun x=>!p x)=xs:=by
 unfold Kh at e
 split at e
 ·omega
 ·rename_i h
  rw[List.findIdx?_eq_none_iff] at h
  rw[List.filter_eq_self]
  intro x hx
  simp[h x hx]
theorem zgV{α:Type}{p:α→Bool}{xs:List α}(e:¬Kh p xs= -1):∃k:Nat,Kh p xs=(k:Int)∧k < xs.length∧(xs.take (k+1)).filter (fun x=>!p x)=xs.take k:=by
 unfold Kh at e ⊢
 split
 ·rename_i k h
  rw[List.findIdx?_eq_some_iff_getElem] at h
  obtain⟨hk,hp,hb⟩:=h
  refine⟨k,rfl,hk,?_⟩
  rw[List.take_succ_eq_append_getElem hk,List.filter_append,List.filter_eq_self.2 ?_]
  ·simp[hp]
  ·intro x hx
   obtain⟨j,hj,rfl⟩:=List.getElem_of_mem hx
   have hj':j < k:=by simp at hj;omega
   have:=hb j hj'
   simp only[List.getElem_take]
   simpa using this
 ·rename_i h
  rw[h] at e
  exact absurd rfl e
theorem zf3{α:Type}{ys:List α}{i:Nat}(zs ws:List α)(h:i≤ys.length):List.take i (List.take i ys++zs++ws)=List.take i ys:=by
 rw[List.append_assoc,List.take_append_of_le_length (by simp;omega),List.take_take,Nat.min_self]
def ks(xs:List zj)(i:Nat):Bool:=match xs[i]? with
 |none=>true
 |some c=>qM c.Key 0 999&&qM c.Value 0 1000000000&&(i == 0||match xs[i - 1]? with|some p=>decide (p.Key < c.Key)|none=>true)
def qI(xs:List zj):Bool:=decide (xs.length≤60)&&(List.range xs.length).all (ks xs)
theorem KQ(xs:List zj)(h:xs.length≤1048576):Zy xs=some (qI xs):=by
 unfold Zy qI
 split
 ·rename_i h1
  have:¬xs.length≤60:=by omega
  simp[this]
 ·rename_i h1
  have:xs.length≤60:=by omega
  rw[jU (s0:=(0:Int)) (fun i=>(i:Int)) (ks xs) (some false) (some true) xs.length (by omega) (fun kb i hi=> ?_) (fun kb=> ?_) rfl]
  ·simp only[this,decide_true,Bool.true_and];split<;>simp_all
  ·unfold xv yZ ks
   simp only[zN hi,zic,zk2,Option.bind_some,qh i _ hi (by omega),List.getElem?_eq_getElem hi]
   rw[if_pos (by omega)]
   cases qM xs[i].Key 0 999<;>simp
   cases qM xs[i].Value 0 1000000000<;>simp
   by_cases h0:0 < i
   ·have h2:IntKind.wrap .i64 ((i:Int) - 1)=((i - 1:Nat):Int):=by rw[w64 (by omega) (by omega)];omega
    have h3:i - 1 < xs.length:=by omega
    have h4:¬i=0:=by omega
    simp only[h0,if_true,h2,zN h3,Option.bind_some,List.getElem?_eq_getElem h3,h4,false_or]
    by_cases h5:xs[i].Key≤xs[i - 1].Key
    ·have:¬xs[i - 1].Key < xs[i].Key:=by omega
     simp[h5,this]
    ·have:xs[i - 1].Key < xs[i].Key:=by omega
     simp[h5,this]
   ·have h4:i=0:=by omega
    simp[h4]
  ·unfold xv
   rw[if_neg (by omega)];rfl
theorem KY(xs:List zj)(h:xs.length≤1048576):Zz xs=some (qI xs):=by
 unfold Zz qI
 rw[jU (s0:=(0:Int)) (fun i=>(i:Int)) (ks xs) (some false) (some<|decide (xs.length≤60)) xs.length (by omega) (fun kb i hi=> ?_) (fun kb=> ?_) rfl]
 ·split<;>simp_all
 ·unfold xp y8 ks
  simp only[zN hi,zkd,zlt,Option.bind_some,qh i _ hi (by omega),List.getElem?_eq_getElem hi]
  rw[if_pos (by omega)]
  cases qM xs[i].Key 0 999<;>simp
  cases qM xs[i].Value 0 1000000000<;>simp
  by_cases h0:0 < i
  ·have h2:IntKind.wrap .i64 ((i:Int) - 1)=((i - 1:Nat):Int):=by rw[w64 (by omega) (by omega)];omega
   have h3:i - 1 < xs.length:=by omega
   have h4:¬i=0:=by omega
   simp only[h0,if_true,h2,zN h3,Option.bind_some,List.getElem?_eq_getElem h3,h4,false_or]
   by_cases h5:xs[i].Key≤xs[i - 1].Key
   ·have:¬xs[i - 1].Key < xs[i].Key:=by omega
    simp[h5,this]
   ·have:xs[i - 1].Key < xs[i].Key:=by omega
    simp[h5,this]
  ·have h4:i=0:=by omega
   simp[h4]
 ·unfold xp xw
  rw[if_neg (by omega)]
  have:((xs.length:Int)≤60)↔xs.length≤60:=by omega
  simp[this]
def asc(xs:List zj):Prop:=∀i j (hi:i < xs.length) (hj:j < xs.length),i < j→xs[i].Key < xs[j].Key
theorem zaU{xs:List zj}(h:qI xs=true):xs.length≤60:=by
 unfold qI at h;simp at h;exact h.1
theorem zdA{xs:List zj}(h:qI xs=true){i:Nat}(hi:i < xs.length):ks xs i=true:=by
 unfold qI at h
 simp only[Bool.and_eq_true,List.all_eq_true] at h
 exact h.2 i (List.mem_range.2 hi)
theorem zci{xs:List zj}(h:qI xs=true){i:Nat}(hi:i < xs.length):0≤xs[i].Key∧xs[i].Key≤999∧0≤xs[i].Value∧xs[i].Value≤1000000000:=by
 have:=zdA h hi
 unfold ks qM at this
 rw[List.getElem?_eq_getElem hi] at this
 simp only[Bool.and_eq_true,decide_eq_true_eq] at this
 exact⟨this.1.1.1,this.1.1.2,this.1.2.1,this.1.2.2⟩
theorem zcv{xs:List zj}(h:qI xs=true):asc xs:=by
 have step:∀i (hi:i+1 < xs.length),xs[i].Key < xs[i+1].Key:=by
  intro i hi
  have:=zdA h hi
  unfold ks at this
  rw[List.getElem?_eq_getElem hi] at this
  simp only[Bool.and_eq_true,Nat.add_sub_cancel,List.getElem?_eq_getElem (show i < xs.length by omega)] at this
  simpa using this.2
 intro i j hi hj hlt
 induction j with
 |zero=>omega
 |succ j ih=>
  by_cases e:i=j
  ·subst e;exact step i hj
  ·have:=ih (by omega) (by omega)
   have:=step j hj
   omega
theorem mid{a b:Nat}(h:a < b)(hb:b≤1048576):IntKind.wrap .i64 (Int.fdiv (IntKind.wrap .u64<|IntKind.wrap .i64 ((a:Int)+(b:Int)))<|2 ^ (min (Int.toNat 1)<|IntKind.bits .u64))=(((a+b) / 2:Nat):Int):=by
 rw[w64 (n:=(a:Int)+b) (by omega) (by omega)]
 have h1:IntKind.wrap .u64 ((a:Int)+b)=(a:Int)+b:=by
  unfold IntKind.wrap
  simp only[IntKind.bits,IntKind.signed]
  simp
  omega
 rw[h1]
 have h2:(min (Int.toNat 1)<|IntKind.bits .u64)=1:=by decide
 rw[h2]
 have h3:((a:Int)+b).fdiv (2 ^ 1)=(((a+b) / 2:Nat):Int):=by
  rw[Int.fdiv_eq_ediv_of_nonneg _ (by decide)]
  omega
 rw[h3]
 exact w64 (by omega) (by omega)
theorem zgI(xs:List zj)(k:Int)(hs:asc xs)(hl:xs.length≤1048576)(hk:∀i (hi:i < xs.length),-1000000000000≤xs[i].Key∧xs[i].Key≤1000000000000)(h1:-9000000000000000000≤k)(h2:k≤9000000000000000000):
  ∃p:Nat,p≤xs.length∧(∀i (hi:i < xs.length),i < p↔xs[i].Key < k)∧Qy xs k=some ((p:Int),decide ((xs[p]?).map (·.Key)=some k)):=by
 have hc:∀i (hi:i < xs.length),Zq xs[i] k=some (xs[i].Key - k):=fun i hi=>by
  unfold Zq
  have:=hk i hi
  rw[w64 (by omega) (by omega)]
 have loop:∀(m lo hi:Nat),lo≤hi→hi≤xs.length→hi - lo < m→(∀i (h:i < xs.length),i < lo→xs[i].Key < k)→(∀i (h:i < xs.length),hi≤i→¬xs[i].Key < k)→
   ∃p:Nat,p≤xs.length∧(∀i (hi:i < xs.length),i < p↔xs[i].Key < k)∧
    iter (z8 xs k<|zU xs k) m ((lo:Int),(hi:Int))=zU xs k (p:Int):=by
  intro m
  induction m with
  |zero=>intro lo hi _ _ h;omega
  |succ m ih=>
   intro lo hi hle hhi hm hlow hhigh
   unfold iter
   unfold z8
   by_cases e:lo=hi
   ·subst e
    refine⟨lo,hhi,fun i h=>⟨hlow i h,fun hlt=> ?_⟩,?_⟩
    ·apply Classical.byContradiction
     intro hn
     exact hhigh i h (by omega) hlt
    ·rw[if_neg (by simp)]
   ·have hlt:lo < hi:=by omega
    rw[if_pos (by simp;omega)]
    simp only[mid hlt (show hi≤1048576 by omega)]
    have hmid:(lo+hi) / 2 < xs.length:=by omega
    rw[zN hmid]
    simp only[Option.bind_some,hc _ hmid]
    by_cases hv:xs[(lo+hi) / 2].Key - k < 0
    ·rw[if_pos hv,qh ((lo+hi) / 2) (xs.length) hmid (by omega)]
     refine ih ((lo+hi) / 2+1) hi (by omega) hhi (by omega) (fun i h hi'=> ?_) hhigh
     by_cases e2:i=(lo+hi) / 2
     ·subst e2;omega
     ·have:=hs i ((lo+hi) / 2) h hmid (by omega);omega
    ·rw[if_neg hv]
     refine ih lo ((lo+hi) / 2) (by omega) (by omega) (by omega) hlow (fun i h hi'=> ?_)
     by_cases e2:i=(lo+hi) / 2
     ·subst e2;omega
     ·have:=hs ((lo+hi) / 2) i hmid h (by omega);omega
 obtain⟨p,hp,hiff,hit⟩:=loop FU 0 xs.length (by omega) (by omega) (by unfold FU;omega) (fun i h h0=>by omega) (fun i h h0=>by omega)
 refine⟨p,hp,hiff,?_⟩
 unfold Qy qz
 have hit:iter (z8 xs k<|zU xs k) FU (0,(xs.length:Int))=_:=hit
 rw[hit]
 unfold zU
 by_cases e:p < xs.length
 ·rw[if_pos (by omega),zN e]
  simp only[Option.bind_some,hc p e,List.getElem?_eq_getElem e,Option.map_some]
  congr 2
  rw[decide_eq_decide]
  simp
  omega
 ·rw[if_neg (by omega),List.getElem?_eq_none (by omega)]
  simp
theorem zbt{α β:Type}:∀(xs:List α) (g:α→Option β),(List.range xs.length).findSome? (fun i=>(xs[i]?).bind g)= xs.findSome? g
 |[],_=>rfl
 |x::xs,g=>by
  rw[List.length_cons,List.range_succ_eq_map,List.findSome?_cons,List.findSome?_cons,List.findSome?_map]
  simp only[List.getElem?_cons_zero,Option.bind_some]
  cases g x with
  |some y=>rfl
  |none=>
   simp only[Function.comp_def,List.getElem?_cons_succ]
   exact zbt xs g
def zac(xs:List zj)(k:Int):Int:=match xs.find? fun c=>decide (c.Key=k) with
 |some c=>c.Value
 |none=>-1
theorem zms(xs:List zj)(k:Int)(hl:xs.length≤1048576):Y7 xs k=some (zac xs k):=by
 unfold Y7
 rw[zb9 (s0:=(0:Int)) (fun i=>(i:Int)) (fun i:Nat=>match xs[i]? with|some c=>if c.Key=k then some (some c.Value) else none|none=>none) (some (-1)) xs.length (by omega) (fun kb i hi=> ?_) (fun kb=> ?_) rfl]
 ·have:∀ys:List zj,ys.findSome? (fun c=>if c.Key=k then some (some c.Value) else none)=(ys.find? fun c=>decide (c.Key=k)).map fun c=>some c.Value:=by
   intro ys
   induction ys with
   |nil=>rfl
   |cons y ys ih=>
    simp only[List.findSome?_cons,List.find?_cons]
    by_cases e:y.Key=k
    ·simp[e]
    ·simp[e,ih]
  have h2:(List.range xs.length).findSome? (fun i:Nat=>match xs[i]? with|some c=>if c.Key=k then some (some c.Value) else none|none=>none)= xs.findSome? (fun c=>if c.Key=k then some (some c.Value) else none):=by
   have key:∀(g:zj→Option (Option Int)),(List.range xs.length).findSome? (fun i:Nat=>match xs[i]? with|some c=>g c|none=>none)= xs.findSome? g:=fun g=>by
    have e:(fun i:Nat=>match xs[i]? with|some c=>g c|none=>none)=fun i=>(xs[i]?).bind g:=by funext i;cases xs[i]?<;>rfl
    rw[e]
    exact zbt xs g
   exact key _
  rw[h2,this]
  unfold zac
  cases xs.find? fun c=>decide (c.Key=k)<;>rfl
 ·unfold ko
  simp only[zN hi,Option.bind_some,qh i _ hi (by omega),List.getElem?_eq_getElem hi]
  rw[if_pos (by omega)]
  by_cases e:xs[i].Key=k<;>simp[e]
 ·unfold ko
  rw[if_neg (by omega)];rfl
theorem zho{xs:List zj}{k:Int}(hs:asc xs){p:Nat}(hp:p≤xs.length)(hiff:∀i (hi:i < xs.length),i < p↔xs[i].Key < k):
  zac xs k=match xs[p]? with|some c=>if c.Key=k then c.Value else -1|none=>-1:=by
 unfold zac
 by_cases e:∃h:p < xs.length,xs[p].Key=k
 ·obtain⟨h,e⟩:=e
  have:xs.find? (fun c=>decide (c.Key=k))=some xs[p]:=by
   rw[List.find?_eq_some_iff_getElem]
   refine⟨by simp[e],p,h,rfl,fun j hj=> ?_⟩
   have:=(hiff j (by omega)).1 hj
   simp;omega
  rw[this,List.getElem?_eq_getElem h]
  simp[e]
 ·have:xs.find? (fun c=>decide (c.Key=k))=none:=by
   rw[List.find?_eq_none]
   intro x hx
   obtain⟨i,hi,rfl⟩:=List.mem_iff_getElem.1 hx
   simp only[decide_eq_true_eq]
   intro hk
   apply e
   have h1:=hiff i hi
   by_cases e1:p < xs.length
   ·refine⟨e1,?_⟩
    have h2:=hiff p e1
    by_cases e2:i=p
    ·subst e2;exact hk
    ·have:¬i < p:=by omega
     have h3:=hs p i e1 hi (by omega)
     omega
   ·omega
  rw[this]
  by_cases e1:p < xs.length
  ·rw[List.getElem?_eq_getElem e1]
   have:¬xs[p].Key=k:=fun h=>e ⟨e1,h⟩
   simp[this]
  ·rw[List.getElem?_eq_none (by omega)]
theorem zkR(xs:List zj)(k:Int)(hg:qI xs=true)(h1:-9000000000000000000≤k)(h2:k≤9000000000000000000):J8 xs k=some (zac xs k):=by
 have hs:=zcv hg
 have hl:=zaU hg
 obtain⟨p,hp,hiff,hb⟩:=zgI xs k hs (by omega) (fun i hi=>by have:=zci hg hi;omega) h1 h2
 unfold J8
 rw[hb,zho hs hp hiff]
 simp only[Option.bind_some,decide_eq_true_eq]
 by_cases e:p < xs.length
 ·rw[List.getElem?_eq_getElem e]
  simp only[Option.map_some,Option.some.injEq,zN e,Option.bind_some]
  split<;>rfl
 ·rw[List.getElem?_eq_none (by omega)]
  simp
theorem zbd(xs:List zj)(h:xs.length≤1048576):qR xs=some xs:=by
 unfold qR yk
 split<;>first|(simp;done)|(simp;omega)
theorem zdl(xs:List zC)(h:xs.length≤1048576):yw xs=some xs:=by
 unfold yw yo
 split<;>first|(simp;done)|(simp;omega)
theorem zah(xs:List Int)(h:xs.length≤1048576):jP xs=some xs:=by
 unfold jP yB
 split<;>first|(simp;done)|(simp;omega)
theorem zcu(xs:List zw)(h:xs.length≤1048576):yj xs=some xs:=by
 unfold yj j4
 split<;>first|(simp;done)|(simp;omega)
theorem zgw(xs:List zj)(h:xs.length≤1048576):yR xs=some xs:=by
 unfold yR j6
 split<;>first|(simp;done)|(simp;omega)
def zeS(xs:List Int):Prop:=xs.Pairwise (· < ·)
theorem zdZ:∀{xs ys:List Int},zeS xs→zeS ys→(∀z,z∈xs↔z∈ys)→xs=ys
 |[],[],_,_,_=>rfl
 |[],b::bs,_,_,h=>by have:=(h b).2 (by simp);cases this
 |a::az,[],_,_,h=>by have:=(h a).1 (by simp);cases this
 |a::az,b::bs,h1,h2,h=>by
  unfold zeS at h1 h2
  rw[List.pairwise_cons] at h1 h2
  have e:a=b:=by
   rcases List.mem_cons.1 ((h a).1 (by simp)) with e|e
   ·exact e
   ·rcases List.mem_cons.1 ((h b).2 (by simp)) with e'|e'
    ·exact e'.symm
    ·have:=h1.1 b e';have:=h2.1 a e;omega
  subst e
  congr 1
  refine zdZ h1.2 h2.2 fun z=>⟨fun hz=> ?_,fun hz=> ?_⟩
  ·rcases List.mem_cons.1 ((h z).1 (by simp[hz])) with e|e
   ·subst e;have:=h1.1 z hz;omega
   ·exact e
  ·rcases List.mem_cons.1 ((h z).2 (by simp[hz])) with e|e
   ·subst e;have:=h2.1 z hz;omega
   ·exact e
def iL(x:Int):List Int→Bool→List Int
 |[],put=>if put then[] else[x]
 |c::cs,put=>(if (!put&&decide (x≤c))=true then[x] else[])++((if ¬c=x then[c] else[])++iL x cs (put||decide (x≤c)))
theorem zfT(x z:Int):∀(xs:List Int) (b:Bool),z∈iL x xs b↔(b=false∧z=x)∨(z∈xs∧¬z=x)
 |[],b=>by cases b<;>simp[iL]
 |c::cs,b=>by
  simp only[iL,List.mem_append,zfT x z cs,List.mem_cons]
  by_cases h1:x≤c<;>by_cases h2:c=x<;>cases b<;>simp[h1,h2]<;>by_cases h3:z=x<;>simp[h3]<;>omega
theorem zjN(x:Int):∀(xs:List Int) (b:Bool),zeS xs→zeS (iL x xs b)
 |[],b,_=>by cases b<;>simp[iL,zeS]
 |c::cs,b,h=>by
  unfold zeS at h
  rw[List.pairwise_cons] at h
  have ih:=zjN x cs (b||decide (x≤c)) h.2
  unfold zeS at ih ⊢
  simp only[iL]
  rw[List.pairwise_append,List.pairwise_append]
  refine⟨by split<;>simp,⟨by split<;>simp,ih,fun y hy z hz=> ?_⟩,fun y hy z hz=> ?_⟩
  ·split at hy
   ·simp only[List.mem_singleton] at hy
    subst hy
    rw[zfT] at hz
    rcases hz with⟨hz,rfl⟩|⟨hz,_⟩
    ·simp at hz;omega
    ·exact h.1 z hz
   ·cases hy
  ·split at hy
   ·rename_i hb
    simp only[Bool.and_eq_true,Bool.not_eq_true',decide_eq_true_eq] at hb
    simp only[List.mem_singleton] at hy
    subst hy
    rw[List.mem_append] at hz
    rcases hz with hz|hz
    ·split at hz
     ·simp only[List.mem_singleton] at hz;omega
     ·cases hz
    ·rw[zfT] at hz
     rcases hz with⟨hz,rfl⟩|⟨hz,_⟩
     ·simp[hb.2] at hz
     ·have:=h.1 z hz;omega
   ·cases hy
theorem zmA(x:Int):∀(xs:List Int) (b:Bool),(iL x xs b).length≤xs.length+(if b then 0 else 1)
 |[],b=>by cases b<;>simp[iL]
 |c::cs,b=>by
  have ih:=zmA x cs (b||decide (x≤c))
  simp only[iL,List.length_append,List.length_cons]
  by_cases h1:x≤c<;>by_cases h2:c=x<;>cases b<;>simp[h1,h2] at ih ⊢<;>omega
def zfx(x:Int):Nat→List Int→Bool
 |0,_=>false
 |n+1,xs=>zfx x n xs||match xs[n]? with|some c=>decide (x≤c)|none=>false
theorem znF(x:Int){xs:List Int}{i:Nat}(hi:i < xs.length)(b:Bool):iL x (xs.drop i) b=(if (!b&&decide (x≤xs[i]))=true then[x] else[])++((if ¬xs[i]=x then[xs[i]] else[])++iL x (xs.drop (i+1)) (b||decide (x≤xs[i]))):=by
 rw[List.drop_eq_getElem_cons hi]
 rfl
def iP(x:Int)(xs:List Int):Nat→List Int
 |0=>[]
 |i+1=>iP x xs i++(match xs[i]? with|some c=>(if (!(zfx x i xs)&&decide (x≤c))=true then[x] else[])++(if ¬c=x then[c] else[])|none=>[])
theorem zjP(x:Int)(xs:List Int):∀i,(iP x xs i).length≤2 * i
 |0=>by simp[iP]
 |i+1=>by
  have ih:=zjP x xs i
  simp only[iP,List.length_append]
  have:(match xs[i]? with|some c=>(if (!(zfx x i xs)&&decide (x≤c))=true then[x] else[])++(if ¬c=x then[c] else[])|none=>[]).length≤2:=by
   cases xs[i]? with
   |none=>simp
   |some c=>simp only[List.length_append];split<;>split<;>simp
  omega
theorem zlX(x:Int)(xs:List Int):∀i,i≤xs.length→iL x xs false=iP x xs i++iL x (xs.drop i) (zfx x i xs)
 |0,_=>by simp[iP,zfx]
 |i+1,hi=>by
  have hlt:i < xs.length:=by omega
  rw[zlX x xs i (by omega),znF x hlt]
  simp only[iP,zfx,List.getElem?_eq_getElem hlt,List.append_assoc]
theorem zlN(xs:List Int)(x:Int)(h:xs.length≤1048576):xl xs x=some (iL x xs false):=by
 unfold xl
 refine qQ (fun i=>(iP x xs i,zfx x i xs,(i:Int))) _ xs.length (by omega) (fun kb i hi=> ?_) (fun kb=> ?_) (by simp[iP,zfx])
 ·have hl:=zjP x xs i
  unfold kK Je ZP
  simp only[zN hi,Option.bind_some,qh i _ hi (by omega),iP,zfx,List.getElem?_eq_getElem hi]
  rw[if_pos (by omega)]
  generalize zfx x i xs=b
  generalize iP x xs i=acc at hl
  cases b<;>by_cases h1:x≤xs[i]<;>by_cases h2:xs[i]=x<;>simp[h1,h2]<;>first|omega|(rw[if_pos (by omega),if_pos (by omega)])
 ·have hl:=zjP x xs xs.length
  rw[zlX x xs xs.length (Nat.le_refl _)]
  unfold kK kV
  rw[if_neg (by simp)]
  simp only[List.drop_length]
  generalize zfx x xs.length xs=b
  generalize iP x xs xs.length=acc at hl
  cases b<;>simp[iL]<;>omega
theorem zjj(xs:List Int)(k:Int)(hs:zeS xs)(hl:xs.length≤1048576):
  ∃p:Nat,p≤xs.length∧(∀i (hi:i < xs.length),i < p↔xs[i] < k)∧jV xs k=some ((p:Int),decide (xs[p]? =some k)):=by
 have hs:∀i j (hi:i < xs.length) (hj:j < xs.length),i < j→xs[i] < xs[j]:=fun i j hi hj hij=>List.pairwise_iff_getElem.1 hs i j hi hj hij
 have hc:∀z,J4 z k=some (decide (z < k)):=fun z=>by simp[J4,Q4]
 have loop:∀(m lo hi:Nat),lo≤hi→hi≤xs.length→hi - lo < m→(∀i (h:i < xs.length),i < lo→xs[i] < k)→(∀i (h:i < xs.length),hi≤i→¬xs[i] < k)→
   ∃p:Nat,p≤xs.length∧(∀i (hi:i < xs.length),i < p↔xs[i] < k)∧
    iter (jH xs k<|qO xs k) m ((lo:Int),(hi:Int))=qO xs k (p:Int):=by
  intro m
  induction m with
  |zero=>intro lo hi _ _ h;omega
  |succ m ih=>
   intro lo hi hle hhi hm hlow hhigh
   unfold iter
   unfold jH
   by_cases e:lo=hi
   ·subst e
    refine⟨lo,hhi,fun i h=>⟨hlow i h,fun hlt=> ?_⟩,?_⟩
    ·apply Classical.byContradiction
     intro hn
     exact hhigh i h (by omega) hlt
    ·rw[if_neg (by simp)]
   ·have hlt:lo < hi:=by omega
    rw[if_pos (by simp;omega)]
    simp only[mid hlt (show hi≤1048576 by omega)]
    have hmid:(lo+hi) / 2 < xs.length:=by omega
    rw[zN hmid]
    rw[Option.bind_some,hc,Option.bind_some]
    by_cases hv:xs[(lo+hi) / 2] < k
    ·rw[if_pos (decide_eq_true hv),qh ((lo+hi) / 2) (xs.length) hmid (by omega)]
     refine ih ((lo+hi) / 2+1) hi (by omega) hhi (by omega) (fun i h hi'=> ?_) hhigh
     by_cases e2:i=(lo+hi) / 2
     ·subst e2;omega
     ·have:=hs i ((lo+hi) / 2) h hmid (by omega);omega
    ·rw[if_neg (by simpa using hv)]
     refine ih lo ((lo+hi) / 2) (by omega) (by omega) (by omega) hlow (fun i h hi'=> ?_)
     by_cases e2:i=(lo+hi) / 2
     ·subst e2;omega
     ·have:=hs ((lo+hi) / 2) i hmid h (by omega);omega
 obtain⟨p,hp,hiff,hit⟩:=loop FU 0 xs.length (by omega) (by omega) (by unfold FU;omega) (fun i h h0=>by omega) (fun i h h0=>by omega)
 refine⟨p,hp,hiff,?_⟩
 unfold jV
 have hit:iter (jH xs k<|qO xs k) FU (0,(xs.length:Int))=_:=hit
 rw[hit]
 unfold qO
 by_cases e:p < xs.length
 ·rw[if_pos (by omega),zN e]
  simp only[Option.bind_some,List.getElem?_eq_getElem e,ZD,not_true,decide_false,Bool.false_eq_true,if_false]
  by_cases h:xs[p]=k<;>simp[h]
 ·rw[if_neg (by omega),List.getElem?_eq_none (by omega)]
  simp
theorem zjv(xs:List Int)(x:Int)(hs:zeS xs)(hl:xs.length≤1048576):Q6 xs x=some (iL x xs false):=by
 obtain⟨p,hp,hiff,hb⟩:=zjj xs x hs hl
 unfold Q6
 simp only[hb,Option.bind_some,zah _ hl]
 by_cases hf:xs[p]? =some x
 ·simp only[hf,decide_true,if_true]
  congr 1
  refine zdZ hs (zjN x xs false hs) fun z=> ?_
  rw[zfT]
  obtain⟨hlt,e⟩:=List.getElem?_eq_some_iff.1 hf
  have hx:x∈xs:=by rw[←e];exact List.getElem_mem hlt
  by_cases hz:z=x
  ·subst hz;simp[hx]
  ·simp[hz]
 ·simp only[hf,decide_false,Bool.false_eq_true,if_false]
  unfold Y3
  rw[if_pos ⟨by omega,by omega,rfl,by omega⟩]
  simp only[Int.toNat_natCast,Option.bind_some]
  congr 1
  have hlow:∀c∈xs.take p,c < x:=fun c hc=>by
   obtain⟨i,hi,rfl⟩:=List.getElem_of_mem hc
   rw[List.getElem_take]
   exact(hiff i (by simp at hi;omega)).1 (by simp at hi;omega)
  have hhigh:∀c∈xs.drop p,x < c:=fun c hc=>by
   obtain⟨i,hi,rfl⟩:=List.getElem_of_mem hc
   rw[List.getElem_drop]
   have hlt:p+i < xs.length:=by simp at hi;omega
   have h1:=hiff (p+i) hlt
   by_cases h0:i=0
   ·subst h0
    have:¬xs[p+0]=x:=fun e=>hf (by rw[←e];simp)
    omega
   ·have h2:=List.pairwise_iff_getElem.1 hs p (p+i) (by omega) hlt (by omega)
    have h3:=hiff p (by omega)
    omega
  refine zdZ ?_ (zjN x xs false hs) fun z=> ?_
  ·unfold zeS at hs ⊢
   rw[List.pairwise_append]
   refine⟨hs.sublist<|List.take_sublist _ _,?_,fun a ha b hb=> ?_⟩
   ·rw[List.singleton_append,List.pairwise_cons]
    exact⟨hhigh,hs.sublist<|List.drop_sublist _ _⟩
   ·rw[List.singleton_append] at hb
    rcases List.mem_cons.1 hb with rfl|hb
    ·exact hlow a ha
    ·have:=hlow a ha;have:=hhigh b hb;omega
  ·rw[zfT]
   have hm:z∈xs↔z∈xs.take p∨z∈xs.drop p:=by
    conv=>lhs;rw[←List.take_append_drop p xs]
    exact List.mem_append
   rw[hm]
   simp only[List.mem_append,List.mem_singleton]
   by_cases hz:z=x
   ·simp[hz]
   ·simp[hz]
def Ke(m:Int):Bool:=decide (m=1)||decide (m=2)
theorem zkw(m:Int):J1 m=some (Ke m):=by
 unfold J1 Ke;by_cases h:m=1<;>simp[h]
theorem ziP(m:Int):Jf m=some (Ke m):=by
 unfold Jf Ke;by_cases h:m=1<;>simp[h]
def zdW(a b:zw):Bool:=decide (a.Lo < b.Hi)&&decide (b.Lo < a.Hi)
theorem zmN(a b:zw):Y0 a b=some (zdW a b):=by
 unfold Y0 zdW;by_cases h:a.Lo < b.Hi<;>simp[h]
def JN(a b:zC):Bool:=decide (¬a.Tx=b.Tx)&&(decide (a.Mode=2)||decide (b.Mode=2))&&zdW ⟨a.Lo,a.Hi⟩ ⟨b.Lo,b.Hi⟩
theorem zhk(a b:zC):kS a b=some (JN a b):=by
 unfold kS jl JN
 simp only[zmN,Option.bind_some]
 by_cases h:a.Tx=b.Tx<;>by_cases h1:a.Mode=2<;>by_cases h2:b.Mode=2<;>simp[h,h1,h2]
theorem znH(a b:Int):kW a b=some (min a b):=by
 unfold kW;split<;>congr 1<;>omega
theorem zop(a b:Int):k9 a b=some (max a b):=by
 unfold k9;split<;>congr 1<;>omega
theorem zi4(a b:zw):Qp a b=some (if qU a&&qU b&&qU ⟨max a.Lo b.Lo,min a.Hi b.Hi⟩ then(⟨max a.Lo b.Lo,min a.Hi b.Hi⟩,true) else(⟨0,0⟩,false)):=by
 unfold Qp yU
 simp only[znH,zop,JZ,Option.bind_some]
 cases qU a<;>cases qU b<;>cases qU ⟨max a.Lo b.Lo,min a.Hi b.Hi⟩<;>simp
theorem zns{a b:zw}(ha:qU a=true)(hb:qU b=true):qU ⟨max a.Lo b.Lo,min a.Hi b.Hi⟩=zdW a b:=by
 unfold qU at *
 unfold zdW
 simp only[Bool.and_eq_true,decide_eq_true_eq] at ha hb
 rw[Bool.eq_iff_iff]
 simp only[Bool.and_eq_true,decide_eq_true_eq]
 omega
theorem zjC(a b:zC)(ha:qU ⟨a.Lo,a.Hi⟩=true)(hb:qU ⟨b.Lo,b.Hi⟩=true):Q2 a b=some (JN a b):=by
 unfold Q2 jz JN
 simp only[zi4,Option.bind_some,ha,hb,Bool.true_and]
 have:=zns ha hb
 simp only at this
 rw[this]
 cases zdW ⟨a.Lo,a.Hi⟩ ⟨b.Lo,b.Hi⟩<;>by_cases h:a.Tx=b.Tx<;>by_cases h1:a.Mode=2<;>simp[h,h1]
def Xi(a:zC):Bool:=qM a.Tx 1 60&&qU ⟨a.Lo,a.Hi⟩&&Ke a.Mode
def XK(xs:List zC)(i:Nat):Bool:=match xs[i]? with
 |none=>true
 |some a=>Xi a&&(xs.take i).all fun b=>!JN a b
def qJ(xs:List zC):Bool:=decide (xs.length≤40)&&(List.range xs.length).all (XK xs)
def zjM{α:Type}(f:α→Bool):Option α→Bool
 |some b=>f b
 |none=>true
theorem zl4{α:Type}(xs:List α)(f:α→Bool)(n:Nat)(h:n≤xs.length):(xs.take n).all f=(List.range n).all fun k=>zjM f xs[k]?:=by
 rw[Bool.eq_iff_iff,List.all_eq_true,List.all_eq_true]
 constructor
 ·intro H k hk
  have hk:=List.mem_range.1 hk
  have:k < xs.length:=by omega
  rw[List.getElem?_eq_getElem this]
  show f _=true
  exact H _ (by rw[List.mem_take_iff_getElem];exact⟨k,by omega,rfl⟩)
 ·intro H x hx
  rw[List.mem_take_iff_getElem] at hx
  obtain⟨k,hk,rfl⟩:=hx
  have:=H k (List.mem_range.2 (by omega))
  rw[List.getElem?_eq_getElem (by omega)] at this
  exact this
theorem ziw{xs:List zC}{i:Nat}(h:∀k,k < i→XK xs k=true){k:Nat}(hk:k < i)(hl:k < xs.length):qU ⟨xs[k].Lo,xs[k].Hi⟩=true:=by
 have:=h k hk
 unfold XK Xi at this
 rw[List.getElem?_eq_getElem hl] at this
 simp only[Bool.and_eq_true] at this
 exact this.1.1.2
theorem ze8(xs:List zC)(h:xs.length≤1048576):JO xs=some (qJ xs):=by
 unfold JO qJ
 split
 ·have:¬xs.length≤40:=by omega
  simp[this]
 ·have:xs.length≤40:=by omega
  rw[zcN (s0:=(0:Int)) (fun i=>(i:Int)) (XK xs) (some false) (some true) xs.length (by omega) (fun kb i hi hp=> ?_) (fun kb _=> ?_) rfl]
  ·simp only[this,decide_true,Bool.true_and];split<;>simp_all
  ·unfold xO Zo XK Xi
   simp only[zN hi,zeU,zkw,JZ,jz,Option.bind_some,List.getElem?_eq_getElem hi]
   rw[if_pos (by omega)]
   generalize hg:(List.take i xs).all (fun b=>!JN xs[i] b)=g
   cases h1:qM xs[i].Tx 1 60<;>simp
   cases h2:qU ⟨xs[i].Lo,xs[i].Hi⟩<;>simp
   cases h3:Ke xs[i].Mode<;>simp
   rw[jU (s0:=(0:Int)) (fun k=>(k:Int)) (fun k=>zjM (fun b=>!JN xs[i] b) xs[k]?) (some false) (kb ((i+1:Nat):Int)) i (by omega) (fun kb' k hk=> ?_) (fun kb'=> ?_) rfl]
   ·rw[←hg,zl4 xs _ i (by omega)]
    simp only[Int.natCast_add,Int.cast_ofNat_Int]
   ·unfold YO
    have hkl:k < xs.length:=by omega
    simp only[zN hi,zN hkl,Option.bind_some,zjC _ _ h2<|ziw hp hk hkl,qh k _ hk (by omega),List.getElem?_eq_getElem hkl,zjM]
    rw[if_pos (by omega)]
    cases JN xs[i] xs[k]<;>simp
   ·unfold YO y6
    rw[if_neg (by omega),qh i _ hi (by omega)]
  ·unfold xO
   rw[if_neg (by omega)];rfl
theorem zcH(xs:List zC)(a:zC)(h:xs.length≤1048576):qE xs a=some (!xs.all fun b=>!JN a b):=by
 unfold qE jx
 have hb:∀x,Qm x a=some (JN a x):=fun x=>by simp[Qm,zhk]
 rw[zb9 (s0:=(0:Int)) (fun i=>(i:Int)) (fun i:Nat=>match xs[i]? with|some b=>if JN a b=true then some (some (i:Int)) else none|none=>none) (some (-1)) xs.length (by omega) (fun kb i hi=> ?_) (fun kb=> ?_) rfl]
 ·cases hf:(List.range xs.length).findSome? (fun i:Nat=>match xs[i]? with|some b=>if JN a b=true then some (some (i:Int)) else none|none=>none) with
  |none=>
   rw[List.findSome?_eq_none_iff] at hf
   have:(xs.all fun b=>!JN a b)=true:=by
    rw[List.all_eq_true]
    intro x hx
    obtain⟨k,hk,rfl⟩:=List.mem_iff_getElem.1 hx
    have:=hf k (List.mem_range.2 hk)
    rw[List.getElem?_eq_getElem hk] at this
    cases hc:JN a xs[k] with
    |false=>rfl
    |true=>simp[hc] at this
   simp[this]
  |some q=>
   obtain⟨x,hx,hq⟩:=List.exists_of_findSome?_eq_some hf
   have hk:=List.mem_range.1 hx
   rw[List.getElem?_eq_getElem hk] at hq
   simp only at hq
   split at hq
   ·rename_i hc
    cases hq
    have:(xs.all fun b=>!JN a b)=false:=by
     rw[List.all_eq_false]
     exact⟨xs[x],List.getElem_mem hk,by simp[hc]⟩
    simp[this]
   ·cases hq
 ·unfold jn
  simp only[zN hi,Option.bind_some,hb,qh i _ hi (by omega),List.getElem?_eq_getElem hi]
  rw[if_pos (by omega)]
  cases JN a xs[i]<;>simp
 ·unfold jn
  rw[if_neg (by omega)];rfl
theorem KL(xs:List zC)(h:xs.length≤1048576):ZB xs=some (qJ xs):=by
 unfold ZB qJ
 rw[jU (s0:=(0:Int)) (fun i=>(i:Int)) (XK xs) (some false) (some<|decide (xs.length≤40)) xs.length (by omega) (fun kb i hi=> ?_) (fun kb=> ?_) rfl]
 ·split<;>simp_all
 ·unfold xK y5 XK Xi
  have hc:cut xs 0 (i:Int)=some (xs.take i):=by
   unfold cut
   rw[if_pos ⟨by omega,by omega,by omega⟩]
   simp
  simp only[zN hi,zjK,ziP,KB,jl,Option.bind_some,List.getElem?_eq_getElem hi,hc,zcH (xs.take i) xs[i] (by simp;omega),qh i _ hi (by omega)]
  rw[if_pos (by omega)]
  generalize hg:(List.take i xs).all (fun b=>!JN xs[i] b)=g
  cases h1:qM xs[i].Tx 1 60<;>simp
  cases h2:qU ⟨xs[i].Lo,xs[i].Hi⟩<;>simp
  cases h3:Ke xs[i].Mode<;>simp
  cases g<;>simp
 ·unfold xK xA
  rw[if_neg (by omega)]
  have:((xs.length:Int)≤40)↔xs.length≤40:=by omega
  simp[this]
def KK(tx:Int)(a:zw)(mode:Int)(l:zC):Bool:=decide (l.Tx=tx)&&(decide (l.Mode=mode)||decide (l.Mode=2))&&decide (l.Lo≤a.Lo)&&decide (a.Hi≤l.Hi)
theorem zdi{xs:List zC}(h:qJ xs=true):xs.length≤40:=by
 unfold qJ at h;simp at h;exact h.1
theorem zdo{xs:List zC}(h:qJ xs=true){i:Nat}(hi:i < xs.length):Xi xs[i]=true:=by
 unfold qJ at h
 simp only[Bool.and_eq_true,List.all_eq_true] at h
 have:=h.2 i (List.mem_range.2 hi)
 unfold XK at this
 rw[List.getElem?_eq_getElem hi] at this
 simp only[Bool.and_eq_true] at this
 exact this.1
theorem ze9(a b:zw):JD a b=some (qU a&&qU b&&decide (b.Lo≤a.Lo)&&decide (a.Hi≤b.Hi)):=by
 unfold JD
 simp only[JZ,Option.bind_some]
 cases qU a<;>cases qU b<;>by_cases h:b.Lo≤a.Lo<;>simp[h]
theorem zjy(xs:List zC)(tx:Int)(a:zw)(mode:Int)(hg:qJ xs=true)(ha:qU a=true)(hm:Ke mode=true):Q3 xs tx a mode=some (xs.any<|KK tx a mode):=by
 have hl:=zdi hg
 unfold Q3
 rw[ziD xs (KK tx a mode) (some true) (some false) (by omega) (fun kb i hi=> ?_) (fun kb=> ?_)]
 ·split<;>simp_all
 ·have hgi:=zdo hg hi
  unfold Xi Ke at hgi
  unfold Ke at hm
  unfold YZ yV KK
  simp only[Bool.and_eq_true,Bool.or_eq_true,decide_eq_true_eq] at hgi hm
  simp only[zN hi,jz,ze9,Option.bind_some,qh i _ hi (by omega),ha,hgi.1.2,Bool.true_and]
  rw[if_pos (by omega)]
  by_cases h1:xs[i].Tx=tx<;>by_cases h2:xs[i].Lo≤a.Lo<;>by_cases h3:a.Hi≤xs[i].Hi<;>simp[h1,h2,h3]
  have:(mode≤xs[i].Mode)↔(xs[i].Mode=mode∨xs[i].Mode=2):=by omega
  simp[this]
 ·unfold YZ
  rw[if_neg (by omega)];rfl
theorem zgy(l:zC)(tx mode:Int)(a:zw):ZA l tx mode a=some (KK tx a mode l):=by
 unfold ZA KK
 by_cases h1:l.Tx=tx<;>by_cases h2:l.Lo≤a.Lo<;>by_cases h3:l.Mode=mode<;>by_cases h4:l.Mode=2<;>simp[h1,h2,h3,h4]
theorem zb5(xs:List zC)(tx mode:Int)(a:zw)(h:xs.length≤1048576):qp xs tx mode a=some (xs.any<|KK tx a mode):=by
 unfold qp jk
 rw[QP xs (KK tx a mode) (by omega) (fun kb i hi=> ?_) (fun kb=> ?_)]
 ·simp[QV]
 ·unfold jc
  simp only[zN hi,zgy,Option.bind_some,qh i _ hi (by omega)]
  rw[if_pos (by omega)]
 ·unfold jc
  rw[if_neg (by omega)];rfl
def kf(xs:List zC)(tx:Int)(a:zw)(mode:Int):Bool:=qJ xs&&qU a&&Ke mode&&xs.any (KK tx a mode)
theorem zd7(xs:List zC)(tx:Int)(a:zw)(mode:Int)(h:xs.length≤1048576):Qv xs tx a mode=some (kf xs tx a mode):=by
 unfold Qv kf
 simp only[KL _ h,KB,ziP,zb5 _ _ _ _ h,Option.bind_some]
 cases h1:qJ xs<;>cases h2:qU a<;>cases h3:Ke mode<;>simp
theorem K9(xs:List zC)(c0:Int)(p:zC→Bool)(hp:∀v,ye v c0=some (p v))(h:xs.length≤1048576):qH xs c0=some (Kh p xs):=by
 unfold qH
 refine QP xs p (by omega) (fun kb i hi=> ?_) (fun kb=> ?_)
 ·unfold je
  simp only[zN hi,Option.bind_some,hp,qh i _ hi (by omega)]
  rw[if_pos (by omega)]
 ·unfold je
  rw[if_neg (by omega)];rfl
theorem zaK(xs:List zC)(c0:Int)(p:zC→Bool)(hp:∀v,ye v c0=some (p v))(h:xs.length≤1048576):qB xs c0=some (xs.filter fun x=>!p x):=by
 unfold qB
 simp only[K9 xs c0 p hp h,Option.bind_some]
 split
 ·rename_i e;rw[zin e]
 ·rename_i e
  obtain⟨k0,e1,hk,h0⟩:=zgV e
  rw[e1,qh k0 _ hk (by omega)]
  obtain⟨ys,g1,g2,g3,g4⟩:=ziV (f:=qo c0 qt) xs p (fun ys i=>some (ys.take i)) h k0 hk h0 (fun kb ys i j hj hij hl hx=>by
   unfold qo
   have hi:i < ys.length:=by omega
   simp only[zdJ,hx,hp,Option.bind_some,qh j _ hj (by omega),qh i _ hi (by omega),Int.toNat_natCast,List.getElem?_eq_getElem hi]
   rw[if_pos (by omega)]) (fun kb ys i hi hl=>by
   unfold qo qt
   simp only[Int.toNat_natCast]
   rw[if_neg (by omega),if_pos ⟨by omega,by omega,by omega⟩,if_pos (by omega),if_pos ⟨by omega,by omega,by omega⟩,zf3 _ _ (by omega)])
  rw[g4,g3]
def Xp(xs:List zC)(tx:Int)(b:Bool):List zC:=if qJ xs then xs.filter (fun l=>decide (l.Tx=tx) == b) else[]
theorem zgF(xs:List zC)(a:Int)(b:Bool):(Xp xs a b).length≤xs.length:=by
 unfold Xp
 split
 ·exact List.length_filter_le _ _
 ·simp
theorem zlo(xs:List zC)(a:Int)(b:Bool)(h:xs.length≤1048576):JR xs a b=some (xs.filter (fun l=>decide (l.Tx=a) == b)):=by
 unfold JR
 rw[zev xs (fun l=>decide (l.Tx=a) == b) (fun ys=>some ys) h (fun kb ys i hi hy=> ?_) (fun kb ys=> ?_)]
 ·unfold xn
  simp only[zN hi,Option.bind_some,qh i _ hi (by omega)]
  rw[if_pos (by omega)]
  by_cases c:(decide (xs[i].Tx=a) == b)=true
  ·rw[if_pos c,if_pos c,if_pos (by simp;omega)]
  ·rw[if_neg c,if_neg c]
 ·unfold xn xE
  rw[if_neg (by omega)]
theorem zd0(xs:List zC)(a:Int)(h:xs.length≤1048576):Qn xs a=some (Xp xs a false):=by
 unfold Qn Xp
 simp only[KL _ h,Option.bind_some,zdl _ h,zaK xs a (fun l=>decide (l.Tx=a)) (fun v=>by simp[ye]) h]
 cases qJ xs<;>simp
theorem zaI(xs:List Int)(x:Int)(h:xs.length≤1048576):yt xs x=some (xs.contains x):=by
 unfold yt
 rw[ziD xs (fun c=>decide (c=x)) (some true) (some false) (by omega) (fun kb i hi=> ?_) (fun kb=> ?_)]
 ·have e:xs.any (fun c=>decide (c=x))=xs.contains x:=by
   rw[Bool.eq_iff_iff,List.any_eq_true,List.contains_iff_mem]
   simp
  rw[e]
  cases xs.contains x<;>rfl
 ·unfold kD
  simp only[zN hi,Option.bind_some,qh i _ hi (by omega)]
  rw[if_pos (by omega)]
  by_cases e:xs[i]=x<;>simp[e]
 ·unfold kD kQ
  rw[if_neg (by omega)]
theorem zbs(xs:List Int)(x:Int)(h:xs.length≤1048576):j5 xs x=some (xs.contains x):=by
 unfold j5 yh
 rw[QP xs (fun c=>decide (x=c)) (by omega) (fun kb i hi=> ?_) (fun kb=> ?_)]
 ·simp only[Option.bind_some,QV]
  congr 1
  rw[Bool.eq_iff_iff,List.any_eq_true,List.contains_iff_mem]
  simp
 ·unfold yy
  simp only[zN hi,Option.bind_some,qh i _ hi (by omega)]
  rw[if_pos (by omega)]
  by_cases e:x=xs[i]<;>simp[e]
 ·unfold yy
  rw[if_neg (by omega)];rfl
theorem zku{xs:List zC}(hg:qJ xs=true){i:Nat}(hi:i < xs.length):qU ⟨xs[i].Lo,xs[i].Hi⟩=true:=by
 have:=zdo hg hi
 unfold Xi at this
 simp only[Bool.and_eq_true] at this
 exact this.1.2
theorem zkM(xs:List zj)(h:xs.length≤maxLen)(z:Int)(h1:0≤z)(h2:z≤1048576):JF xs z=some (if z < xs.length then -1 else z - xs.length):=by
 unfold JF
 have:IntKind.wrap .i64 (z - (xs.length:Int))=z - xs.length:=by unfold maxLen at h;exact w64 (by omega) (by omega)
 rw[this]
 split<;>split<;>first|rfl|omega
theorem zlg(xs:List zj)(h:xs.length≤1048576):Yl xs=some xs:=by
 unfold Yl
 rw[if_pos ⟨by omega,by omega⟩]
 simp only[Int.toNat_natCast]
 refine Kv xs _ xz (by omega) (fun kb ys i hi hy=> ?_) (fun kb ys=> ?_)
 ·unfold xq
  simp only[zN hi,zN (show i < ys.length by omega),XF,Option.bind_some,Int.toNat_natCast,qh i _ hi (by omega)]
  rw[if_pos (by omega)]
 ·unfold xq
  rw[if_neg (by omega)]
theorem zlW(a b:zj):xg a b=some (decide (a=b)):=by
 unfold xg
 cases a;cases b
 simp only[zj.mk.injEq]
 repeat' split
 all_goals simp_all
theorem zlm(xs ys:List zj)(h:xs.length≤1048576):JT xs ys=some (decide (xs=ys)):=by
 unfold JT
 split
 ·rename_i hl
  have:¬xs=ys:=fun e=>hl (by rw[e])
  simp[this]
 ·rename_i hl
  have hl:xs.length=ys.length:=by omega
  rw[jU (s0:=(0:Int)) (fun i=>(i:Int)) (fun i=>decide (xs[i]? =ys[i]?)) (some false) (some true) xs.length (by omega) (fun kb i hi=> ?_) (fun kb=> ?_) rfl,YJ hl]
  ·by_cases e:xs=ys<;>simp[e]
  ·unfold xV
   simp only[zN hi,zN (show i < ys.length by omega),zlW,Option.bind_some,qh i _ hi (by omega)]
   rw[if_pos (by omega),List.getElem?_eq_getElem hi,List.getElem?_eq_getElem (show i < ys.length by omega)]
   simp
  ·unfold xV
   rw[if_neg (by omega)]
   rfl
theorem zjs(xs:List zj)(h:xs.length≤maxLen)(z:Int)(h1:0≤z)(h2:z≤1048576):Jd xs z=some (if z < xs.length then -1 else z - xs.length):=by
 unfold Jd
 have:IntKind.wrap .i64 (z - (xs.length:Int))=z - xs.length:=by unfold maxLen at h;exact w64 (by omega) (by omega)
 rw[this]
 split<;>split<;>first|rfl|omega
theorem zjp(xs:List zj)(h:xs.length≤1048576):Q0 xs=some xs:=by
 unfold Q0
 rw[if_pos ⟨by omega,by omega⟩]
 simp only[Int.toNat_natCast]
 refine Kv xs _ YG (by omega) (fun kb ys i hi hy=> ?_) (fun kb ys=> ?_)
 ·unfold YP
  simp only[zN hi,zN (show i < ys.length by omega),kC,Option.bind_some,Int.toNat_natCast,qh i _ hi (by omega)]
  rw[if_pos (by omega)]
 ·unfold YP
  rw[if_neg (by omega)]
theorem zkT(a b:zj):JK a b=some (decide (a=b)):=by
 unfold JK
 cases a;cases b
 simp only[zj.mk.injEq]
 repeat' split
 all_goals simp_all
theorem zjX(xs ys:List zj)(h:xs.length≤1048576):Q8 xs ys=some (decide (xs=ys)):=by
 unfold Q8
 split
 ·rename_i hl
  have:¬xs=ys:=fun e=>hl (by rw[e])
  simp[this]
 ·rename_i hl
  have hl:xs.length=ys.length:=by omega
  rw[jU (s0:=(0:Int)) (fun i=>(i:Int)) (fun i=>decide (xs[i]? =ys[i]?)) (some false) (some true) xs.length (by omega) (fun kb i hi=> ?_) (fun kb=> ?_) rfl,YJ hl]
  ·by_cases e:xs=ys<;>simp[e]
  ·unfold YR
   simp only[zN hi,zN (show i < ys.length by omega),zkT,Option.bind_some,qh i _ hi (by omega)]
   rw[if_pos (by omega),List.getElem?_eq_getElem hi,List.getElem?_eq_getElem (show i < ys.length by omega)]
   simp
  ·unfold YR
   rw[if_neg (by omega)]
   rfl
theorem zju(z:Int):Q7 z=some (qM z (-1) 1000000000):=by simp[Q7,zdU]
def Ku(xs:List zj)(i:Nat):Bool:=match xs[i]? with
 |none=>true
 |some c=>qM c.Key 0 999&&qM c.Value (-1) 1000000000&&(i == 0||match xs[i - 1]? with|some p=>decide (p.Key < c.Key)|none=>true)
def qV(xs:List zj):Bool:=decide (xs.length≤60)&&(List.range xs.length).all (Ku xs)
theorem XZ(xs:List zj)(h:xs.length≤1048576):yD xs=some (qV xs):=by
 unfold yD qV
 split
 ·rename_i h1
  have:¬xs.length≤60:=by omega
  simp[this]
 ·rename_i h1
  have:xs.length≤60:=by omega
  rw[jU (s0:=(0:Int)) (fun i=>(i:Int)) (Ku xs) (some false) (some true) xs.length (by omega) (fun kb i hi=> ?_) (fun kb=> ?_) rfl]
  ·simp only[this,decide_true,Bool.true_and];split<;>simp_all
  ·unfold YX yI Ku
   simp only[zN hi,zic,zfg,Option.bind_some,qh i _ hi (by omega),List.getElem?_eq_getElem hi]
   rw[if_pos (by omega)]
   cases qM xs[i].Key 0 999<;>simp
   cases qM xs[i].Value (-1) 1000000000<;>simp
   by_cases h0:0 < i
   ·have h2:IntKind.wrap .i64 ((i:Int) - 1)=((i - 1:Nat):Int):=by rw[w64 (by omega) (by omega)];omega
    have h3:i - 1 < xs.length:=by omega
    have h4:¬i=0:=by omega
    simp only[h0,if_true,h2,zN h3,Option.bind_some,List.getElem?_eq_getElem h3,h4,false_or]
    by_cases h5:xs[i].Key≤xs[i - 1].Key
    ·have:¬xs[i - 1].Key < xs[i].Key:=by omega
     simp[h5,this]
    ·have:xs[i - 1].Key < xs[i].Key:=by omega
     simp[h5,this]
   ·have h4:i=0:=by omega
    simp[h4]
  ·unfold YX
   rw[if_neg (by omega)];rfl
theorem Ka(xs:List zj)(h:xs.length≤1048576):y0 xs=some (qV xs):=by
 unfold y0 qV
 rw[jU (s0:=(0:Int)) (fun i=>(i:Int)) (Ku xs) (some false) (some<|decide (xs.length≤60)) xs.length (by omega) (fun kb i hi=> ?_) (fun kb=> ?_) rfl]
 ·split<;>simp_all
 ·unfold Yy yK Ku
  simp only[zN hi,zkd,zju,Option.bind_some,qh i _ hi (by omega),List.getElem?_eq_getElem hi]
  rw[if_pos (by omega)]
  cases qM xs[i].Key 0 999<;>simp
  cases qM xs[i].Value (-1) 1000000000<;>simp
  by_cases h0:0 < i
  ·have h2:IntKind.wrap .i64 ((i:Int) - 1)=((i - 1:Nat):Int):=by rw[w64 (by omega) (by omega)];omega
   have h3:i - 1 < xs.length:=by omega
   have h4:¬i=0:=by omega
   simp only[h0,if_true,h2,zN h3,Option.bind_some,List.getElem?_eq_getElem h3,h4,false_or]
   by_cases h5:xs[i].Key≤xs[i - 1].Key
   ·have:¬xs[i - 1].Key < xs[i].Key:=by omega
    simp[h5,this]
   ·have:xs[i - 1].Key < xs[i].Key:=by omega
    simp[h5,this]
  ·have h4:i=0:=by omega
   simp[h4]
 ·unfold Yy Ys
  rw[if_neg (by omega)]
  have:((xs.length:Int)≤60)↔xs.length≤60:=by omega
  simp[this]
theorem Y8{xs:List zj}(h:qV xs=true){i:Nat}(hi:i < xs.length):-1≤xs[i].Value∧0≤xs[i].Key∧xs[i].Key≤999:=by
 unfold qV at h
 simp only[Bool.and_eq_true,List.all_eq_true] at h
 have:=h.2 i (List.mem_range.2 hi)
 unfold Ku qM at this
 rw[List.getElem?_eq_getElem hi] at this
 simp only[Bool.and_eq_true,decide_eq_true_eq] at this
 exact⟨this.1.2.1,this.1.1.1,this.1.1.2⟩
theorem XB{xs:List zj}(h:qV xs=true):xs.length≤60:=by
 unfold qV at h;simp at h;exact h.1
def zdx(xs:List zj)(w:zj):Bool:=decide (0≤w.Value)&&decide (zac xs w.Key < 0)
def ky(xs ws:List zj):Int:=if qI xs&&qV ws then((ws.filter<|zdx xs).length:Int) else -1
theorem zgL{α:Type}{ws:List α}{p:α→Bool}{i:Nat}(hi:i < ws.length):((ws.take (i+1)).filter p).length=((ws.take i).filter p).length+if p ws[i]=true then 1 else 0:=by
 rw[List.take_succ_eq_append_getElem hi,List.filter_append,List.length_append]
 congr 1
 by_cases h:p ws[i]=true<;>simp[h]
theorem zeP(xs ws:List zj)(h:xs.length≤1048576)(h':ws.length≤1048576):Ja xs ws=some (ky xs ws):=by
 unfold Ja ky Qq
 simp only[KQ _ h,XZ _ h',Option.bind_some]
 cases hg:qI xs<;>simp
 cases hw:qV ws<;>simp
 rw[qQ (s0:=((0:Int),(0:Int))) (fun i=>((((ws.take i).filter<|zdx xs).length:Int),(i:Int))) (some ((ws.filter<|zdx xs).length:Int)) ws.length (by omega) (fun kb i hi=> ?_) (fun kb=> ?_) (by simp)]
 ·unfold Yw Z0
  have hle:((ws.take i).filter<|zdx xs).length≤ws.length:=Nat.le_trans (List.length_filter_le _ _) (by simp;omega)
  have e:=qh i _ hi (by omega)
  have e3:IntKind.wrap .i64 ((((ws.take i).filter<|zdx xs).length:Int)+1)=((((ws.take i).filter<|zdx xs).length+1:Nat):Int):=by rw[w64 (by omega) (by omega)];omega
  simp only[zN hi,Option.bind_some,zms _ _ h,e,e3]
  rw[if_pos (by omega),zgL hi]
  unfold zdx
  by_cases h0:0≤ws[i].Value<;>by_cases h1:zac xs ws[i].Key < 0<;>simp[h0,h1]
 ·unfold Yw YT
  rw[if_neg (by simp)]
  simp
theorem zeD(xs ws:List zj)(h:xs.length≤1048576)(h':ws.length≤1048576):Q5 xs ws=some (ky xs ws):=by
 unfold Q5 ky Qi
 simp only[KY _ h,Ka _ h',Option.bind_some]
 cases hg:qI xs<;>simp
 cases hw:qV ws<;>simp
 rw[qQ (s0:=((0:Int),(0:Int))) (fun i=>((((ws.take i).filter<|zdx xs).length:Int),(i:Int))) (some ((ws.filter<|zdx xs).length:Int)) ws.length (by omega) (fun kb i hi=> ?_) (fun kb=> ?_) (by simp)]
 ·unfold YC ZR
  have hle:((ws.take i).filter<|zdx xs).length≤ws.length:=Nat.le_trans (List.length_filter_le _ _) (by simp;omega)
  have e:=qh i _ hi (by omega)
  have e3:IntKind.wrap .i64 ((((ws.take i).filter<|zdx xs).length:Int)+1)=((((ws.take i).filter<|zdx xs).length+1:Nat):Int):=by rw[w64 (by omega) (by omega)];omega
  have hv:=Y8 hw hi
  simp only[zN hi,Option.bind_some,zkR xs _ hg (show -9000000000000000000≤ws[i].Key by omega) (by omega),e,e3]
  rw[if_pos (by omega),zgL hi]
  unfold zdx
  by_cases h0:0≤ws[i].Value
  ·have:¬ws[i].Value= -1:=by omega
   by_cases h1:zac xs ws[i].Key < 0<;>simp[h0,h1,this]
  ·have:ws[i].Value= -1:=by omega
   simp[this]
 ·unfold YC YN
  rw[if_neg (by simp)]
  simp
theorem zkE(xs:List zC)(h:xs.length≤maxLen)(z:Int)(h1:0≤z)(h2:z≤1048576):Yg xs z=some (if z < xs.length then -1 else z - xs.length):=by
 unfold Yg
 have:IntKind.wrap .i64 (z - (xs.length:Int))=z - xs.length:=by unfold maxLen at h;exact w64 (by omega) (by omega)
 rw[this]
 split<;>split<;>first|rfl|omega
theorem zln(xs:List zC)(h:xs.length≤1048576):JH xs=some xs:=by
 unfold JH
 rw[if_pos ⟨by omega,by omega⟩]
 simp only[Int.toNat_natCast]
 refine Kv xs _ xB (by omega) (fun kb ys i hi hy=> ?_) (fun kb ys=> ?_)
 ·unfold xF
  simp only[zN hi,zN (show i < ys.length by omega),XD,Option.bind_some,Int.toNat_natCast,qh i _ hi (by omega)]
  rw[if_pos (by omega)]
 ·unfold xF
  rw[if_neg (by omega)]
theorem zmE(a b:zC):xf a b=some (decide (a=b)):=by
 unfold xf
 cases a;cases b
 simp only[zC.mk.injEq]
 repeat' split
 all_goals simp_all
theorem zlc(xs ys:List zC)(h:xs.length≤1048576):Yk xs ys=some (decide (xs=ys)):=by
 unfold Yk
 split
 ·rename_i hl
  have:¬xs=ys:=fun e=>hl (by rw[e])
  simp[this]
 ·rename_i hl
  have hl:xs.length=ys.length:=by omega
  rw[jU (s0:=(0:Int)) (fun i=>(i:Int)) (fun i=>decide (xs[i]? =ys[i]?)) (some false) (some true) xs.length (by omega) (fun kb i hi=> ?_) (fun kb=> ?_) rfl,YJ hl]
  ·by_cases e:xs=ys<;>simp[e]
  ·unfold xU
   simp only[zN hi,zN (show i < ys.length by omega),zmE,Option.bind_some,qh i _ hi (by omega)]
   rw[if_pos (by omega),List.getElem?_eq_getElem hi,List.getElem?_eq_getElem (show i < ys.length by omega)]
   simp
  ·unfold xU
   rw[if_neg (by omega)]
   rfl
def jf(x:zL):Nat:=x.Writes.length
theorem zmg(x:zL)(h:XS x)(z:Int)(h1:0≤z)(h2:z≤1048576):xd x z=some (if z < (jf x:Int) then -1 else z - (jf x:Int)):=by
 unfold XS at h
 obtain⟨o0,o1⟩:=h
 unfold xd jf
 rw[zjs x.Writes o1.1 _ (by omega) (by omega)]
 simp only[Option.bind_some]
 by_cases c0:z < (x.Writes.length:Int)
 ·rw[if_pos c0,if_pos (by omega)];try rw[if_pos (by omega)]
 rw[if_neg c0,if_neg (by omega)]
 try rw[if_neg (by omega)]
 try (congr 1;omega)
theorem zmj(x:zL)(h:jf x≤1048576):xi x=some x:=by simp[xi,zjp _ (show x.Writes.length≤1048576 by unfold jf at h;omega)]
theorem zlI(x y:zL)(h:jf x≤1048576):xj x y=some (decide (x=y)):=by
 unfold xj
 simp only[zjX _ _ (show x.Writes.length≤1048576 by unfold jf at h;omega),Option.bind_some]
 cases x;cases y
 simp only[zL.mk.injEq]
 repeat' split
 all_goals simp_all
def z6(xs:(List zL)):Nat:=xs.length+jW (fun y:zL=>jf y) xs
theorem zlk(xs:(List zL))(h:(okS XS) xs)(z:Int)(h1:0≤z)(h2:z≤1048576):Ye xs z=some (if z < (z6 xs:Int) then -1 else z - (z6 xs:Int)):=by
 unfold Ye
 have hm:=h.1
 have hw:IntKind.wrap .i64 (z - (xs.length:Int))=z - xs.length:=by unfold maxLen at hm;exact w64 (by omega) (by omega)
 rw[hw]
 have hsz:(z6 xs:Int)=xs.length+(jW (fun y:zL=>jf y) xs:Nat):=by unfold z6;omega
 rw[hsz]
 by_cases c:z < xs.length
 ·rw[if_pos (by omega),if_pos (by omega)]
 rw[if_neg (by omega)]
 rw[zcN (fun i=>(z - (xs.length:Int) - (jW (fun y:zL=>jf y) (xs.take i):Nat),(i:Int))) (fun i=>decide ((jW (fun y:zL=>jf y) (xs.take (i+1)):Int)≤z - xs.length)) (some (-1)) (some (z - (xs.length:Int) - (jW (fun y:zL=>jf y) xs:Nat))) xs.length (by omega) (fun kb i hi hp=> ?_) (fun kb hp=> ?_) (by simp[jW])]
 ·by_cases c2:z < xs.length+(jW (fun y:zL=>jf y) xs:Nat)
  ·rw[if_pos c2,if_neg]
   rw[Bool.not_eq_true,List.all_eq_false]
   cases hn:xs.length with
   |zero=>
    have:xs=[]:=List.eq_nil_of_length_eq_zero hn
    subst this
    simp[jW] at c2 c
    omega
   |succ n=>
    refine⟨n,by simp,?_⟩
    have:xs.take (n+1)=xs:=by rw[←hn];simp
    rw[this,decide_eq_true_eq]
    omega
  ·rw[if_neg c2,if_pos]
   ·congr 1;omega
   ·rw[List.all_eq_true]
    intro i hi
    have:=Xh (fun y:zL=>jf y) xs (i+1)
    simp only[decide_eq_true_eq]
    omega
 ·have h0:(jW (fun y:zL=>jf y) (xs.take i):Int)≤z - xs.length:=by
   cases i with
   |zero=>simp[jW];omega
   |succ j=>have:=hp j (by omega);simpa using this
  unfold xT
  simp only[zN hi,Option.bind_some,qh i _ hi (by omega)]
  rw[if_pos (by omega),zmg xs[i] (h.2 _<|List.getElem_mem hi) _ (by omega) (by omega),Xj (fun y:zL=>jf y) hi]
  simp only[Option.bind_some,Int.natCast_add]
  by_cases c3:z - (xs.length:Int) - (jW (fun y:zL=>jf y) (xs.take i):Nat) < (jf (xs[i]):Nat)
  ·rw[if_pos c3,if_pos (by omega),if_neg (by simp;omega)]
  ·rw[if_neg c3,if_neg (by omega),if_pos (by simp;omega)]
   congr 2
   omega
 ·unfold xT xW
  rw[if_neg (by simp)]
  simp
theorem zai{xs:(List zL)}(h:z6 xs≤1048576):xs.length≤1048576∧∀i (hi:i < xs.length),jf (xs[i])≤1048576:=by
 unfold z6 at h
 refine⟨by omega,fun i hi=> ?_⟩
 have:=zmw (fun y:zL=>jf y) hi
 omega
theorem zkP(xs:(List zL))(h:z6 xs≤1048576):J3 xs=some xs:=by
 obtain⟨hl,hs⟩:=zai h
 unfold J3
 rw[if_pos ⟨by omega,by omega⟩]
 simp only[Int.toNat_natCast]
 refine Kv xs _ xt (by omega) (fun kb ys i hi hy=> ?_) (fun kb ys=> ?_)
 ·unfold xC
  simp only[zN hi,zN (show i < ys.length by omega),zmj _<|hs i hi,Option.bind_some,Int.toNat_natCast,qh i _ hi (by omega)]
  rw[if_pos (by omega)]
 ·unfold xC
  rw[if_neg (by omega)]
theorem zlf(xs ys:(List zL))(h:z6 xs≤1048576):JS xs ys=some (decide (xs=ys)):=by
 obtain⟨hl,hs⟩:=zai h
 unfold JS
 split
 ·rename_i hl
  have:¬xs=ys:=fun e=>hl (by rw[e])
  simp[this]
 ·rename_i hl
  have hl:xs.length=ys.length:=by omega
  rw[jU (s0:=(0:Int)) (fun i=>(i:Int)) (fun i=>decide (xs[i]? =ys[i]?)) (some false) (some true) xs.length (by omega) (fun kb i hi=> ?_) (fun kb=> ?_) rfl,YJ hl]
  ·by_cases e:xs=ys<;>simp[e]
  ·unfold xJ
   simp only[zN hi,zN (show i < ys.length by omega),zlI _ _<|hs i hi,Option.bind_some,qh i _ hi (by omega)]
   rw[if_pos (by omega),List.getElem?_eq_getElem hi,List.getElem?_eq_getElem (show i < ys.length by omega)]
   simp
  ·unfold xJ
   rw[if_neg (by omega)]
   rfl
theorem zjb(xs:List Int)(h:xs.length≤maxLen)(z:Int)(h1:0≤z)(h2:z≤1048576):Ji xs z=some (if z < xs.length then -1 else z - xs.length):=by
 unfold Ji
 have:IntKind.wrap .i64 (z - (xs.length:Int))=z - xs.length:=by unfold maxLen at h;exact w64 (by omega) (by omega)
 rw[this]
 split<;>split<;>first|rfl|omega
theorem zhZ(xs:List Int)(h:xs.length≤1048576):Jk xs=some xs:=by
 unfold Jk
 rw[if_pos ⟨by omega,by omega⟩]
 simp only[Int.toNat_natCast]
 refine Kv xs _ kt (by omega) (fun kb ys i hi hy=> ?_) (fun kb ys=> ?_)
 ·unfold kU
  simp only[zN hi,zN (show i < ys.length by omega),Option.bind_some,Int.toNat_natCast,qh i _ hi (by omega)]
  rw[if_pos (by omega)]
 ·unfold kU
  rw[if_neg (by omega)]
theorem ziy(xs ys:List Int)(h:xs.length≤1048576):Jj xs ys=some (decide (xs=ys)):=by
 unfold Jj
 split
 ·rename_i hl
  have:¬xs=ys:=fun e=>hl (by rw[e])
  simp[this]
 ·rename_i hl
  have hl:xs.length=ys.length:=by omega
  rw[jU (s0:=(0:Int)) (fun i=>(i:Int)) (fun i=>decide (xs[i]? =ys[i]?)) (some false) (some true) xs.length (by omega) (fun kb i hi=> ?_) (fun kb=> ?_) rfl,YJ hl]
  ·by_cases e:xs=ys<;>simp[e]
  ·unfold kF
   simp only[zN hi,zN (show i < ys.length by omega),Option.bind_some,qh i _ hi (by omega)]
   rw[if_pos (by omega),List.getElem?_eq_getElem hi,List.getElem?_eq_getElem (show i < ys.length by omega)]
   simp
  ·unfold kF
   rw[if_neg (by omega)]
   rfl
def zu(x:zp):Nat:=x.Own.length+x.Frozen.length+x.Cells.length+x.Locks.length+z6 x.Helds+x.Wounded.length+x.Ended.length
theorem zkH(x:zp)(h:zay x)(z:Int)(h1:0≤z)(h2:z≤1048576):JI x z=some (if z < (zu x:Int) then -1 else z - (zu x:Int)):=by
 unfold zay at h
 obtain⟨o0,o1,o2,o3,o4,o5,o6,o7,o8⟩:=h
 unfold JI zu
 rw[ze0 x.Own o1.1 _ (by omega) (by omega)]
 simp only[Option.bind_some]
 by_cases c0:z < (x.Own.length:Int)
 ·rw[if_pos c0,if_pos (by omega)];try rw[if_pos (by omega)]
 rw[if_neg c0,if_neg (by omega)]
 rw[ze0 x.Frozen o2.1 _ (by omega) (by omega)]
 simp only[Option.bind_some]
 by_cases c1:z - (x.Own.length:Int) < (x.Frozen.length:Int)
 ·rw[if_pos c1,if_pos (by omega)];try rw[if_pos (by omega)]
 rw[if_neg c1,if_neg (by omega)]
 rw[zkM x.Cells o3.1 _ (by omega) (by omega)]
 simp only[Option.bind_some]
 by_cases c2:z - (x.Own.length:Int) - (x.Frozen.length:Int) < (x.Cells.length:Int)
 ·rw[if_pos c2,if_pos (by omega)];try rw[if_pos (by omega)]
 rw[if_neg c2,if_neg (by omega)]
 rw[zkE x.Locks o4.1 _ (by omega) (by omega)]
 simp only[Option.bind_some]
 by_cases c3:z - (x.Own.length:Int) - (x.Frozen.length:Int) - (x.Cells.length:Int) < (x.Locks.length:Int)
 ·rw[if_pos c3,if_pos (by omega)];try rw[if_pos (by omega)]
 rw[if_neg c3,if_neg (by omega)]
 rw[zlk x.Helds o5 _ (by omega) (by omega)]
 simp only[Option.bind_some]
 by_cases c4:z - (x.Own.length:Int) - (x.Frozen.length:Int) - (x.Cells.length:Int) - (x.Locks.length:Int) < (z6 x.Helds:Int)
 ·rw[if_pos c4,if_pos (by omega)];try rw[if_pos (by omega)]
 rw[if_neg c4,if_neg (by omega)]
 rw[zjb x.Wounded o6.1 _ (by omega) (by omega)]
 simp only[Option.bind_some]
 by_cases c5:z - (x.Own.length:Int) - (x.Frozen.length:Int) - (x.Cells.length:Int) - (x.Locks.length:Int) - (z6 x.Helds:Int) < (x.Wounded.length:Int)
 ·rw[if_pos c5,if_pos (by omega)];try rw[if_pos (by omega)]
 rw[if_neg c5,if_neg (by omega)]
 rw[zjb x.Ended o7.1 _ (by omega) (by omega)]
 simp only[Option.bind_some]
 by_cases c6:z - (x.Own.length:Int) - (x.Frozen.length:Int) - (x.Cells.length:Int) - (x.Locks.length:Int) - (z6 x.Helds:Int) - (x.Wounded.length:Int) < (x.Ended.length:Int)
 ·rw[if_pos c6,if_pos (by omega)];try rw[if_pos (by omega)]
 rw[if_neg c6,if_neg (by omega)]
 try rw[if_neg (by omega)]
 try (congr 1;omega)
theorem zkI(x:zp)(h:zu x≤1048576):yQ x=some x:=by simp[yQ,zfG _ (show x.Own.length≤1048576 by unfold zu at h;omega),zfG _ (show x.Frozen.length≤1048576 by unfold zu at h;omega),zlg _ (show x.Cells.length≤1048576 by unfold zu at h;omega),zln _ (show x.Locks.length≤1048576 by unfold zu at h;omega),zkP _ (show z6 x.Helds≤1048576 by unfold zu at h;omega),zhZ _ (show x.Wounded.length≤1048576 by unfold zu at h;omega),zhZ _ (show x.Ended.length≤1048576 by unfold zu at h;omega)]
theorem zhf(x y:zp)(h:zu x≤1048576):yN x y=some (decide (x=y)):=by
 unfold yN
 simp only[zfs _ _ (show x.Own.length≤1048576 by unfold zu at h;omega),zfs _ _ (show x.Frozen.length≤1048576 by unfold zu at h;omega),zlm _ _ (show x.Cells.length≤1048576 by unfold zu at h;omega),zlc _ _ (show x.Locks.length≤1048576 by unfold zu at h;omega),zlf _ _ (show z6 x.Helds≤1048576 by unfold zu at h;omega),ziy _ _ (show x.Wounded.length≤1048576 by unfold zu at h;omega),ziy _ _ (show x.Ended.length≤1048576 by unfold zu at h;omega),Option.bind_some]
 cases x;cases y
 simp only[zp.mk.injEq]
 repeat' split
 all_goals simp_all
def zbp(k:Int):zw:=zw.mk k (IntKind.wrap .i64 (k+1))
theorem ziu(k:Int):xb k=some (zbp k):=rfl
theorem zoX(k:Int):KX k=some (zbp k):=rfl
theorem zhJ{k:Int}(h:0≤k∧k≤999):qU (zbp k)=true:=by
 unfold zbp qU
 rw[w64 (by omega) (by omega)]
 simp
 omega
theorem zhK(xs:List zL)(h:xs.length≤1048576):QF xs=some (xs.map (·.Tx)):=by
 unfold QF
 refine qQ (fun i=>((xs.take i).map (·.Tx),(i:Int))) _ xs.length (by omega) (fun kb i hi=> ?_) (fun kb=> ?_) (by simp)
 ·unfold XH
  simp only[zN hi,Option.bind_some,qh i _ hi (by omega)]
  rw[if_pos (by omega),if_pos (by simp;omega),List.take_succ_eq_append_getElem hi,List.map_append]
  rfl
 ·unfold XH XJ
  rw[if_neg (by simp)]
  simp
theorem zhD(xs:List (List Int))(h:xs.length≤1048576)(hs:jW List.length xs≤100000000):Zd xs=some xs.flatten:=by
 unfold Zd
 have hst:=fun i=>Xh List.length xs i
 refine qQ (fun i=>(((jW List.length (xs.take i):Nat):Int),(i:Int))) _ xs.length (by omega) (fun kb i hi=> ?_) (fun kb=> ?_) (by simp[jW])
 ·unfold ZJ
  have h1:=hst (i+1)
  have h2:=Xj List.length hi
  have e:IntKind.wrap .i64 (((jW List.length (xs.take i):Nat):Int)+(xs[i].length:Int))=((jW List.length (xs.take (i+1)):Nat):Int):=by rw[w64 (by omega) (by omega),h2];omega
  simp only[zN hi,Option.bind_some,qh i _ hi (by omega),e]
  rw[if_pos (by omega),if_neg (by omega)]
 ·unfold ZJ ZT kz
  rw[if_neg (by simp)]
  have h1:=hst xs.length
  simp only
  rw[if_pos (by omega)]
  simp only[Option.bind_some]
  refine qQ (fun i=>((xs.take i).flatten,(i:Int))) _ xs.length (by omega) (fun kb i hi=> ?_) (fun kb=> ?_) (by simp)
  ·unfold ZY
   have h3:=hst (i+1)
   have hf:∀ys:List (List Int),ys.flatten.length=jW List.length ys:=fun ys=>by
    induction ys with
    |nil=>rfl
    |cons y ys ih=>simp only[List.flatten_cons,List.length_append,jW,ih]
   have h2:=Xj List.length hi
   have e:(xs.take (i+1)).flatten=(xs.take i).flatten++xs[i]:=by rw[List.take_succ_eq_append_getElem hi,List.flatten_append];simp
   simp only[zN hi,Option.bind_some,qh i _ hi (by omega)]
   rw[if_pos (by omega),if_pos (by rw[←e,hf];omega),e]
  ·unfold ZY Z6
   rw[if_neg (by simp)]
   simp
def kY(xs:List zj)(hs:List zL):Int:=(hs.map fun h=>ky xs h.Writes).sum
theorem zid(xs ws:List zj):-1≤ky xs ws∧ky xs ws≤ws.length:=by
 unfold ky
 have:=List.length_filter_le (zdx xs) ws
 split<;>omega
theorem zcd(xs:List zj):∀hs:List zL,-(hs.length:Int)≤kY xs hs∧kY xs hs≤(jW (fun h:zL=>h.Writes.length) hs:Nat)
 |[]=>by simp[kY,jW]
 |h::hs=>by
  have:=zcd xs hs
  have h2:=zid xs h.Writes
  unfold kY at this ⊢
  simp only[List.map_cons,List.sum_cons,jW,List.length_cons]
  omega
theorem zal(xs:List zj){hs:List zL}{i:Nat}(hi:i < hs.length):kY xs (hs.take (i+1))=kY xs (hs.take i)+ky xs hs[i].Writes:=by
 unfold kY
 rw[List.take_succ_eq_append_getElem hi,List.map_append,List.sum_append]
 simp
theorem yL(hs:List zL):z6 hs=hs.length+jW (fun h:zL=>h.Writes.length) hs:=rfl
theorem XU{hs:List zL}(h:z6 hs≤1048576){i:Nat}(hi:i < hs.length):hs[i].Writes.length≤1048576:=by
 rw[yL] at h
 have h1:=Xj (fun h:zL=>h.Writes.length) hi
 have h2:=Xh (fun h:zL=>h.Writes.length) hs (i+1)
 omega
theorem zlA(s:zp)(h:zu s≤1048576):xh s=some (kY s.Cells s.Helds):=by
 have hc:s.Cells.length≤1048576:=by unfold zu at h;omega
 have hh:z6 s.Helds≤1048576:=by unfold zu at h;omega
 have hh2:=hh
 rw[yL] at hh2
 unfold xh
 refine qQ (fun i=>(kY s.Cells<|s.Helds.take i,(i:Int))) _ s.Helds.length (by omega) (fun kb i hi=> ?_) (fun kb=> ?_) (by simp[kY])
 ·unfold kN
  have b1:=zcd s.Cells (s.Helds.take (i+1))
  have b2:=Xh (fun h:zL=>h.Writes.length) s.Helds (i+1)
  have b3:(s.Helds.take (i+1)).length≤s.Helds.length:=by simp;omega
  rw[zal s.Cells hi] at b1
  simp only[zN hi,zeP _ _ hc<|XU hh hi,Option.bind_some,qh i _ hi (by omega),zal s.Cells hi]
  rw[if_pos (by omega),w64 (by omega) (by omega)]
 ·unfold kN k8
  rw[if_neg (by simp)]
  simp
theorem zpx(s:zp)(h:zu s≤1048576):XL s=some ((s.Cells.length:Int)+kY s.Cells s.Helds):=by
 have hc:s.Cells.length≤1048576:=by unfold zu at h;omega
 have hh:z6 s.Helds≤1048576:=by unfold zu at h;omega
 have hh2:=hh
 rw[yL] at hh2
 unfold XL
 refine qQ (fun i=>((s.Cells.length:Int)+kY s.Cells (s.Helds.take i),(i:Int))) _ s.Helds.length (by omega) (fun kb i hi=> ?_) (fun kb=> ?_) (by simp[kY])
 ·unfold Kp
  have b1:=zcd s.Cells (s.Helds.take (i+1))
  have b2:=Xh (fun h:zL=>h.Writes.length) s.Helds (i+1)
  have b3:(s.Helds.take (i+1)).length≤s.Helds.length:=by simp;omega
  rw[zal s.Cells hi] at b1
  simp only[zN hi,zeD _ _ hc<|XU hh hi,Option.bind_some,qh i _ hi (by omega),zal s.Cells hi]
  rw[if_pos (by omega),w64 (by omega) (by omega),Int.add_assoc]
 ·unfold Kp Km
  rw[if_neg (by simp)]
  simp
def kM(s:zp)(h:zL):Bool:=h.Writes.all fun w=>s.Locks.any (KK h.Tx (zbp w.Key) 2)
theorem zir(w:zj)(s:zp)(h:zL)(hs:s.Locks.length≤1048576):Qe w s h=some (!kf s.Locks h.Tx (zbp w.Key) 2):=by
 unfold Qe
 simp only[zoX,zd7 _ _ _ _ hs,Option.bind_some]
theorem zcL(ws:List zj)(s:zp)(h:zL)(hs:s.Locks.length≤1048576)(hw:ws.length≤1048576):qu ws s h=some (ws.any fun w=>!kf s.Locks h.Tx (zbp w.Key) 2):=by
 unfold qu jo
 rw[QP ws (fun w=>!kf s.Locks h.Tx (zbp w.Key) 2) (by omega) (fun kb i hi=> ?_) (fun kb=> ?_)]
 ·simp only[Option.bind_some,QV]
 ·unfold jj
  simp only[zN hi,zir _ _ _ hs,Option.bind_some,qh i _ hi (by omega)]
  rw[if_pos (by omega)]
 ·unfold jj
  rw[if_neg (by omega)];rfl
theorem zmF{s:zp}{h:zL}(hg:qJ s.Locks=true)(hw:qV h.Writes=true):(h.Writes.any fun w=>!kf s.Locks h.Tx (zbp w.Key) 2)= !kM s h:=by
 have:∀w∈h.Writes,(!kf s.Locks h.Tx (zbp w.Key) 2)= !(s.Locks.any<|KK h.Tx (zbp w.Key) 2):=fun w hm=>by
  obtain⟨i,hi,rfl⟩:=List.mem_iff_getElem.1 hm
  have hk:=(Y8 hw hi).2
  unfold kf
  rw[hg,zhJ hk]
  rfl
 unfold kM
 rw[List.not_all_eq_any_not]
 rw[Bool.eq_iff_iff,List.any_eq_true,List.any_eq_true]
 constructor<;>rintro⟨w,hm,e⟩<;>refine⟨w,hm,?_⟩
 ·rw[←this w hm];exact e
 ·rw[this w hm];exact e
def zck(s:zp)(h:zL):Bool:=qV h.Writes&&kM s h
theorem zkv(s:zp)(h:zu s≤1048576)(hg:qJ s.Locks=true):JX s=some (s.Helds.all (zck s)&&jw (s.Helds.map (·.Tx))):=by
 have hl:s.Locks.length≤1048576:=by unfold zu at h;omega
 have hh:z6 s.Helds≤1048576:=by unfold zu at h;omega
 have hn:s.Helds.length≤1048576:=by rw[yL] at hh;omega
 unfold JX
 rw[Xv s.Helds (zck s) (some false) (some (jw (s.Helds.map (·.Tx)))) (by omega) (fun kb i hi=> ?_) (fun kb=> ?_)]
 ·cases s.Helds.all (zck s)<;>simp
 ·unfold xN Qs zck
  have hw:=XU hh hi
  simp only[zN hi,Ka _ hw,zcL _ _ _ hl hw,Option.bind_some,qh i _ hi (by omega)]
  rw[if_pos (by omega)]
  cases hwg:qV s.Helds[i].Writes
  ·simp
  ·rw[zmF hg hwg]
   cases kM s s.Helds[i]<;>simp
 ·unfold xN xP
  rw[if_neg (by omega)]
  simp only[zhK _ hn,zbq _ (show(s.Helds.map (·.Tx)).length≤1048576 by simpa using hn),Option.bind_some]
def Yj(s:zp)(i:Nat):Bool:=match s.Helds[i]? with
 |none=>true
 |some h=>qM h.Tx 1 60&&(i == 0||match s.Helds[i - 1]? with|some p=>decide (p.Tx < h.Tx)|none=>true)&&qV h.Writes&&kM s h&&!s.Wounded.contains h.Tx&&!s.Ended.contains h.Tx
theorem zlu(s:zp)(hd:zL)(kx:Unit→Option Bool)(h:zu s≤1048576)(hw:hd.Writes.length≤1048576)(hg:qJ s.Locks=true)(hwg:qV hd.Writes=true):ji hd s kx false=if kM s hd=true then(if (!s.Wounded.contains hd.Tx&&!s.Ended.contains hd.Tx)=true then kx () else some false) else some false:=by
 have hW:s.Wounded.length≤1048576:=by unfold zu at h;omega
 have hE:s.Ended.length≤1048576:=by unfold zu at h;omega
 unfold ji kM
 rw[if_neg (by simp)]
 refine Xv hd.Writes (fun w=>s.Locks.any (KK hd.Tx (zbp w.Key) 2)) (some false) _ (by omega) (fun kb i hi=> ?_) (fun kb=> ?_)
 ·unfold Qc
  have hk:=(Y8 hwg hi).2
  simp only[zN hi,ziu,zjy _ hd.Tx _ 2 hg (zhJ hk) (by decide),Option.bind_some,qh i _ hi (by omega)]
  rw[if_pos (by omega)]
 ·unfold Qc Qd Zb
  rw[if_neg (by omega)]
  simp only[zaI _ _ hW,zaI _ _ hE,Option.bind_some]
  cases s.Wounded.contains hd.Tx<;>cases s.Ended.contains hd.Tx<;>simp
theorem zhq(s:zp)(h:zu s≤1048576)(hg:qJ s.Locks=true):ZS s=some ((List.range s.Helds.length).all<|Yj s):=by
 have hh:z6 s.Helds≤1048576:=by unfold zu at h;omega
 have hn:s.Helds.length≤1048576:=by rw[yL] at hh;omega
 unfold ZS
 rw[jU (s0:=(0:Int)) (fun i=>(i:Int)) (Yj s) (some false) (some true) s.Helds.length (by omega) (fun kb i hi=> ?_) (fun kb=> ?_) rfl]
 ·split<;>simp_all
 ·have hw:=XU hh hi
  have J:∀kx,ji s.Helds[i] s kx true=some false:=fun kx=>rfl
  unfold QL Yj
  simp only[zN hi,zeU,XZ _ hw,Option.bind_some,List.getElem?_eq_getElem hi]
  rw[if_pos (by omega)]
  cases hwg:qV s.Helds[i].Writes
  ·cases qM s.Helds[i].Tx 1 60<;>simp[J]
   intro h0
   have h2:IntKind.wrap .i64 ((i:Int) - 1)=((i - 1:Nat):Int):=by rw[w64 (by omega) (by omega)];omega
   have h3:i - 1 < s.Helds.length:=by omega
   simp only[h2,zN h3,Option.bind_some]
  ·simp only[Bool.not_true,zlu s s.Helds[i] _ h hw hg hwg]
   unfold qZ
   rw[qh i _ hi (by omega)]
   cases qM s.Helds[i].Tx 1 60<;>simp[J]
   by_cases h0:0 < i
   ·have h2:IntKind.wrap .i64 ((i:Int) - 1)=((i - 1:Nat):Int):=by rw[w64 (by omega) (by omega)];omega
    have h3:i - 1 < s.Helds.length:=by omega
    have h4:¬i=0:=by omega
    simp only[h0,if_true,h2,zN h3,Option.bind_some,List.getElem?_eq_getElem h3,h4,false_or]
    by_cases h5:s.Helds[i].Tx≤s.Helds[i - 1].Tx
    ·have:¬s.Helds[i - 1].Tx < s.Helds[i].Tx:=by omega
     simp[h5,this]
    ·have:s.Helds[i - 1].Tx < s.Helds[i].Tx:=by omega
     simp[h5,this]
     cases kM s s.Helds[i]<;>simp
   ·have h4:i=0:=by omega
    subst h4
    simp
    cases kM s s.Helds[0]<;>simp
 ·unfold QL
  rw[if_neg (by omega)];rfl
theorem zi2(s:zp)(a:zw)(h:s.Own.length≤1048576):Qz a s=some (!QD s.Own a):=by
 unfold Qz
 simp only[zdY _ _ h,Option.bind_some]
theorem ziq(s:zp)(a:zj)(h:s.Own.length≤1048576):Ql a s=some (!QD s.Own (zbp a.Key)):=by
 unfold Ql
 simp only[zoX,zdY _ _ h,Option.bind_some]
theorem zhO(s:zp)(l:zC)(g:List Int)(h:s.Own.length≤1048576)(hg:g.length≤1048576):Qt l s g=some (!QD s.Own ⟨l.Lo,l.Hi⟩||g.contains l.Tx):=by
 unfold Qt jl
 simp only[zdY _ _ h,zbs _ _ hg,Option.bind_some]
 cases QD s.Own ⟨l.Lo,l.Hi⟩<;>simp
theorem zdh(xs:List zw)(s:zp)(h:s.Own.length≤1048576)(hx:xs.length≤1048576):qw xs s=some (xs.any fun a=>!QD s.Own a):=by
 unfold qw js
 rw[QP xs (fun a=>!QD s.Own a) (by omega) (fun kb i hi=> ?_) (fun kb=> ?_)]
 ·simp only[Option.bind_some,QV]
 ·unfold jh
  simp only[zN hi,zi2 _ _ h,Option.bind_some,qh i _ hi (by omega)]
  rw[if_pos (by omega)]
 ·unfold jh
  rw[if_neg (by omega)];rfl
theorem zc0(xs:List zj)(s:zp)(h:s.Own.length≤1048576)(hx:xs.length≤1048576):qC xs s=some (xs.any fun a=>!QD s.Own (zbp a.Key)):=by
 unfold qC jy
 rw[QP xs (fun a=>!QD s.Own (zbp a.Key)) (by omega) (fun kb i hi=> ?_) (fun kb=> ?_)]
 ·simp only[Option.bind_some,QV]
 ·unfold jr
  simp only[zN hi,ziq _ _ h,Option.bind_some,qh i _ hi (by omega)]
  rw[if_pos (by omega)]
 ·unfold jr
  rw[if_neg (by omega)];rfl
theorem zc2(xs:List zC)(s:zp)(g:List Int)(h:s.Own.length≤1048576)(hg:g.length≤1048576)(hx:xs.length≤1048576):qD xs s g=some (xs.any fun l=>!QD s.Own ⟨l.Lo,l.Hi⟩||g.contains l.Tx):=by
 unfold qD jv
 rw[QP xs (fun l=>!QD s.Own ⟨l.Lo,l.Hi⟩||g.contains l.Tx) (by omega) (fun kb i hi=> ?_) (fun kb=> ?_)]
 ·simp only[Option.bind_some,QV]
 ·unfold jp
  simp only[zN hi,zhO _ _ _ h hg,Option.bind_some,qh i _ hi (by omega)]
  rw[if_pos (by omega)]
 ·unfold jp
  rw[if_neg (by omega)];rfl
def zdm(s:zp):Bool:=s.Frozen.all (QD s.Own)
def zcU(s:zp):Bool:=s.Cells.all fun c=>QD s.Own (zbp c.Key)
def XV(s:zp):Bool:=s.Locks.all fun l=>QD s.Own ⟨l.Lo,l.Hi⟩&&(!s.Wounded.contains l.Tx&&!s.Ended.contains l.Tx)
def zar(s:zp):Bool:=s.Wounded.all fun t=>!s.Ended.contains t
def zaj(s:zp):Bool:=decide ((s.Cells.length:Int)+kY s.Cells s.Helds≤60)
def zg5(s:zp):Bool:=zdm s&&zcU s&&XV s&&zar s&&(List.range s.Helds.length).all (Yj s)&&zaj s
theorem zAG(s:zp)(h:zu s≤1048576)(hg:qJ s.Locks=true):QA s ()=some ((List.range s.Helds.length).all (Yj s)&&zaj s):=by
 have hc:s.Cells.length≤1048576:=by unfold zu at h;omega
 have hh:z6 s.Helds≤1048576:=by unfold zu at h;omega
 rw[yL] at hh
 have hb:=zcd s.Cells s.Helds
 unfold QA zaj
 simp only[zhq s h hg,zlA s h,Option.bind_some]
 rw[w64 (by omega) (by omega)]
 cases(List.range s.Helds.length).all (Yj s)<;>simp
theorem zsp(s:zp)(h:zu s≤1048576)(hg:qJ s.Locks=true):Qh s ()=some (zar s&&((List.range s.Helds.length).all (Yj s)&&zaj s)):=by
 have hW:s.Wounded.length≤1048576:=by unfold zu at h;omega
 have hE:s.Ended.length≤1048576:=by unfold zu at h;omega
 unfold Qh zar
 rw[Xv s.Wounded (fun t=>!s.Ended.contains t) (some false) (some ((List.range s.Helds.length).all (Yj s)&&zaj s)) (by omega) (fun kb i hi=> ?_) (fun kb=> ?_)]
 ·cases s.Wounded.all _<;>simp
 ·unfold Yv
  simp only[zN hi,zaI _ _ hE,Option.bind_some,qh i _ hi (by omega)]
  rw[if_pos (by omega)]
  cases s.Ended.contains s.Wounded[i]<;>simp
 ·unfold Yv
  rw[if_neg (by omega)]
  exact zAG s h hg
theorem zxK(s:zp)(h:zu s≤1048576)(hg:qJ s.Locks=true)(ho:qK s.Own=true):QB s ()=some (XV s&&(zar s&&((List.range s.Helds.length).all (Yj s)&&zaj s))):=by
 have hO:s.Own.length≤1048576:=by unfold zu at h;omega
 have hL:s.Locks.length≤1048576:=by unfold zu at h;omega
 have hW:s.Wounded.length≤1048576:=by unfold zu at h;omega
 have hE:s.Ended.length≤1048576:=by unfold zu at h;omega
 unfold QB XV
 rw[Xv s.Locks (fun l=>QD s.Own ⟨l.Lo,l.Hi⟩&&(!s.Wounded.contains l.Tx&&!s.Ended.contains l.Tx)) (some false) (some (zar s&&((List.range s.Helds.length).all (Yj s)&&zaj s))) (by omega) (fun kb i hi=> ?_) (fun kb=> ?_)]
 ·cases s.Locks.all _<;>simp
 ·unfold Yp Zl jz
  simp only[zN hi,zaY _ _ hO,ho,zku hg hi,zaI _ _ hE,zaI _ _ hW,Option.bind_some,qh i _ hi (by omega),Bool.true_and]
  rw[if_pos (by omega)]
  cases QD s.Own ⟨s.Locks[i].Lo,s.Locks[i].Hi⟩<;>cases s.Wounded.contains s.Locks[i].Tx<;>cases s.Ended.contains s.Locks[i].Tx<;>simp
 ·unfold Yp
  rw[if_neg (by omega)]
  exact zsp s h hg
theorem zmf{xs:List zj}(hg:qI xs=true){i:Nat}(hi:i < xs.length):0≤xs[i].Key∧xs[i].Key≤999:=by
 unfold qI at hg
 simp only[Bool.and_eq_true,List.all_eq_true] at hg
 have:=hg.2 i (List.mem_range.2 hi)
 unfold ks qM at this
 rw[List.getElem?_eq_getElem hi] at this
 simp only[Bool.and_eq_true,decide_eq_true_eq] at this
 exact this.1.1
theorem zEP(s:zp)(h:zu s≤1048576)(hg:qJ s.Locks=true)(ho:qK s.Own=true)(hs:qI s.Cells=true):Q1 s ()=some (zcU s&&(XV s&&(zar s&&((List.range s.Helds.length).all (Yj s)&&zaj s)))):=by
 have hO:s.Own.length≤1048576:=by unfold zu at h;omega
 have hC:s.Cells.length≤1048576:=by unfold zu at h;omega
 unfold Q1 zcU
 rw[Xv s.Cells (fun c=>QD s.Own (zbp c.Key)) (some false) (some (XV s&&(zar s&&((List.range s.Helds.length).all (Yj s)&&zaj s)))) (by omega) (fun kb i hi=> ?_) (fun kb=> ?_)]
 ·cases s.Cells.all _<;>simp
 ·unfold Yt
  simp only[zN hi,ziu,zaY _ _ hO,ho,zhJ<|zmf hs hi,Option.bind_some,qh i _ hi (by omega),Bool.true_and]
  rw[if_pos (by omega)]
 ·unfold Yt
  rw[if_neg (by omega)]
  exact zxK s h hg ho
theorem zDi(s:zp)(h:zu s≤1048576)(hg:qJ s.Locks=true)(ho:qK s.Own=true)(hf:qK s.Frozen=true)(hs:qI s.Cells=true):jQ s false=some (zg5 s):=by
 have hO:s.Own.length≤1048576:=by unfold zu at h;omega
 have hC:s.Frozen.length≤1048576:=by unfold zu at h;omega
 unfold jQ zg5 zdm
 rw[if_neg (by simp)]
 rw[Xv s.Frozen (QD s.Own) (some false) (some (zcU s&&(XV s&&(zar s&&((List.range s.Helds.length).all (Yj s)&&zaj s))))) (by omega) (fun kb i hi=> ?_) (fun kb=> ?_)]
 ·cases s.Frozen.all _<;>simp[Bool.and_assoc]
 ·unfold YM
  simp only[zN hi,zaY _ _ hO,ho,zgG hf hi,Option.bind_some,qh i _ hi (by omega),Bool.true_and]
  rw[if_pos (by omega)]
 ·unfold YM
  rw[if_neg (by omega)]
  exact zEP s h hg ho hs
def XP(s:zp):Bool:=qM s.Me 0 3&&qK s.Own&&qK s.Frozen&&qI s.Cells&&qJ s.Locks&&qM s.Rank 0 1000000&&(decide (s.Helds.length≤60)&&decide (s.Wounded.length≤60)&&decide (s.Ended.length≤60)&&jw s.Wounded&&jw s.Ended)&&zg5 s
theorem zeK(s:zp)(h:zu s≤1048576):J6 s=some (XP s):=by
 have hO:s.Own.length≤1048576:=by unfold zu at h;omega
 have hF:s.Frozen.length≤1048576:=by unfold zu at h;omega
 have hC:s.Cells.length≤1048576:=by unfold zu at h;omega
 have hL:s.Locks.length≤1048576:=by unfold zu at h;omega
 have hW:s.Wounded.length≤1048576:=by unfold zu at h;omega
 have hE:s.Ended.length≤1048576:=by unfold zu at h;omega
 have J2:jR s true=some false:=rfl
 have J5:jQ s true=some false:=rfl
 unfold J6 XP
 simp only[zfg,X4 _ hO,X4 _ hF,KQ _ hC,ze8 _ hL,Option.bind_some]
 cases qM s.Me 0 3
 ·simp[J2]
 cases ho:qK s.Own
 ·simp[J2]
 cases hf:qK s.Frozen
 ·simp[J2]
 cases hs:qI s.Cells
 ·simp[J2]
 cases hg:qJ s.Locks
 ·simp[J2]
 cases qM s.Rank 0 1000000
 ·simp[J2]
 simp only[if_true,Bool.not_true,Bool.true_and]
 unfold jR
 simp only[zig _ hW,zig _ hE,Option.bind_some,Bool.false_eq_true,if_false,J5]
 by_cases c1:60 < (s.Helds.length:Int)
 ·have:¬s.Helds.length≤60:=by omega
  simp[c1,this]
 by_cases c2:60 < (s.Wounded.length:Int)
 ·have:¬s.Wounded.length≤60:=by omega
  simp[c1,c2,this]
 by_cases c3:60 < (s.Ended.length:Int)
 ·have:¬s.Ended.length≤60:=by omega
  simp[c1,c2,c3,this]
 have d1:s.Helds.length≤60:=by omega
 have d2:s.Wounded.length≤60:=by omega
 have d3:s.Ended.length≤60:=by omega
 simp only[c1,c2,c3,if_false,d1,d2,d3,decide_true,Bool.true_and]
 cases jw s.Wounded<;>cases jw s.Ended<;>simp[J5,zDi s h hg ho hf hs]
def zaq(s:zp):List Int:=s.Helds.map (·.Tx)
def zd5(s:zp):Bool:=decide (zaq s++(s.Wounded++s.Ended)).Nodup
def zkm(s:zp):Bool:=qM s.Me 0 3&&qK s.Own&&qK s.Frozen&&qI s.Cells&&qJ s.Locks&&(s.Helds.all (zck s)&&jw (zaq s))&&jw s.Wounded&&jw s.Ended&&qM s.Rank 0 1000000&&(zdm s&&zcU s&&XV s&&zd5 s&&zaj s)
theorem zEY(s:zp)(h:zu s≤1048576):y9 s false=some (XV s&&zd5 s&&zaj s):=by
 have hO:s.Own.length≤1048576:=by unfold zu at h;omega
 have hL:s.Locks.length≤1048576:=by unfold zu at h;omega
 have hWE:s.Wounded.length+s.Ended.length≤1048576:=by unfold zu at h;omega
 have hh:z6 s.Helds+s.Wounded.length+s.Ended.length≤1048576:=by unfold zu at h;omega
 rw[yL] at hh
 have hn:s.Helds.length≤1048576:=by omega
 have hfl:[s.Wounded,s.Ended].flatten=s.Wounded++s.Ended:=by simp
 unfold y9
 rw[if_neg (by simp),zhD _ (by simp) (by simp[jW];omega),hfl]
 simp only[zc2 _ _ _ hO (show(s.Wounded++s.Ended).length≤1048576 by simpa using hWE) hL,zhK _ hn,Option.bind_some]
 have eL:(s.Locks.any fun l=>!QD s.Own ⟨l.Lo,l.Hi⟩||(s.Wounded++s.Ended).contains l.Tx)= !XV s:=by
  unfold XV
  rw[List.not_all_eq_any_not]
  congr 1
  funext l
  rw[List.contains_append]
  cases QD s.Own ⟨l.Lo,l.Hi⟩<;>cases s.Wounded.contains l.Tx<;>cases s.Ended.contains l.Tx<;>rfl
 rw[eL]
 cases XV s
 ·simp
 ·simp only[Bool.not_true,Bool.false_eq_true,if_false,Bool.true_and]
  have hlen:(List.map (fun x=>x.Tx) s.Helds++(s.Wounded++s.Ended)).length≤1048576:=by simp;omega
  rw[if_pos (by omega)]
  unfold kO Ym
  rw[if_pos (by omega)]
  simp only[Option.bind_some]
  rw[if_pos (Kx _),zah _ (by rw[Kx];omega)]
  simp only[Option.bind_some]
  rw[if_pos (by rw[Kx];omega)]
  simp only[Option.bind_some,zpx s h]
  have e:=zhu (List.map (fun x=>x.Tx) s.Helds++(s.Wounded++s.Ended))
  unfold zd5 zaq zaj
  by_cases c:(List.map (fun x=>x.Tx) s.Helds++(s.Wounded++s.Ended)).Nodup
  ·rw[if_pos (by have:=e.2 c;omega)]
   simp[c]
  ·rw[if_neg (fun k=>c (e.1 (by omega)))]
   simp[c]
theorem zeG(s:zp)(h:zu s≤1048576):Qf s=some (zkm s):=by
 have hO:s.Own.length≤1048576:=by unfold zu at h;omega
 have hF:s.Frozen.length≤1048576:=by unfold zu at h;omega
 have hC:s.Cells.length≤1048576:=by unfold zu at h;omega
 have hL:s.Locks.length≤1048576:=by unfold zu at h;omega
 have hW:s.Wounded.length≤1048576:=by unfold zu at h;omega
 have hE:s.Ended.length≤1048576:=by unfold zu at h;omega
 have J2:qN s true=some false:=rfl
 have J5:y9 s true=some false:=rfl
 have K2:qN s false=some (zdm s&&zcU s&&XV s&&zd5 s&&zaj s):=by
  unfold qN zdm zcU
  rw[if_neg (by simp)]
  simp only[zdh _ _ hO hF,zc0 _ _ hO hC,Option.bind_some]
  rw[←List.not_all_eq_any_not,←List.not_all_eq_any_not]
  cases s.Frozen.all fun a=>QD s.Own a<;>cases s.Cells.all fun a=>QD s.Own (zbp a.Key)<;>simp[J5,zEY s h]
 unfold Qf zkm zaq
 simp only[zkZ,zbj _ hO,zbj _ hF,KY _ hC,KL _ hL,Option.bind_some]
 cases qM s.Me 0 3
 ·simp[J2]
 cases ho:qK s.Own
 ·simp[J2]
 cases hf:qK s.Frozen
 ·simp[J2]
 cases hs:qI s.Cells
 ·simp[J2]
 cases hg:qJ s.Locks
 ·simp[J2]
 simp only[zkv s h hg,zbq _ hW,zbq _ hE,zdU,Option.bind_some,if_true,Bool.true_and]
 cases s.Helds.all (zck s)
 ·simp[J2]
 cases jw (s.Helds.map (·.Tx))
 ·simp[J2]
 cases jw s.Wounded
 ·simp[J2]
 cases jw s.Ended
 ·simp[J2]
 cases qM s.Rank 0 1000000<;>simp[J2,K2]
theorem zdS(s:zp){i:Nat}(hi:i < s.Helds.length):Yj s i=(ziA (zaq s) i&&zck s s.Helds[i]&&(!s.Wounded.contains s.Helds[i].Tx&&!s.Ended.contains s.Helds[i].Tx)):=by
 unfold Yj ziA zck zaq
 simp only[List.getElem?_map,List.getElem?_eq_getElem hi,Option.map_some]
 by_cases h0:i=0
 ·subst h0
  simp[Bool.and_assoc]
 ·have h3:i - 1 < s.Helds.length:=by omega
  simp[List.getElem?_eq_getElem h3,h0,Bool.and_assoc]
theorem zgQ(s:zp):(List.range s.Helds.length).all (Yj s)=(s.Helds.all (zck s)&&jw (zaq s)&&(zaq s).all fun t=>!s.Wounded.contains t&&!s.Ended.contains t):=by
 rw[Bool.eq_iff_iff]
 unfold jw
 simp only[Bool.and_eq_true,List.all_eq_true,List.mem_range]
 have hl:(zaq s).length=s.Helds.length:=by unfold zaq;simp
 constructor
 ·intro H
  have H':∀i (hi:i < s.Helds.length),_:=fun i hi=>by have:=H i hi;rw[zdS s hi] at this;simpa only[Bool.and_eq_true] using this
  refine⟨⟨fun x hx=> ?_,fun i hi=>(H' i (by omega)).1.1⟩,fun t ht=> ?_⟩
  ·obtain⟨i,hi,rfl⟩:=List.mem_iff_getElem.1 hx
   exact(H' i hi).1.2
  ·unfold zaq at ht
   obtain⟨x,hx,rfl⟩:=List.mem_map.1 ht
   obtain⟨i,hi,rfl⟩:=List.mem_iff_getElem.1 hx
   exact(H' i hi).2
 ·rintro⟨⟨h1,h2⟩,h3⟩ i hi
  rw[zdS s hi]
  simp only[Bool.and_eq_true]
  exact⟨⟨h2 i (by omega),h1 _<|List.getElem_mem hi⟩,h3 _ (by unfold zaq;exact List.mem_map.2 ⟨_,List.getElem_mem hi,rfl⟩)⟩
theorem zlF(s:zp):XP s=zkm s:=by
 unfold XP zkm zg5
 rw[zgQ]
 rw[Bool.eq_iff_iff]
 simp only[Bool.and_eq_true,decide_eq_true_eq]
 have hl:(zaq s).length=s.Helds.length:=by unfold zaq;simp
 have ap:jw (zaq s)=true→jw s.Wounded=true→jw s.Ended=true→(zd5 s=true↔(zar s=true∧((zaq s).all fun t=>!s.Wounded.contains t&&!s.Ended.contains t)=true)):=by
  intro g1 g2 g3
  unfold zd5 zar
  simp only[decide_eq_true_eq,List.nodup_append,List.all_eq_true,Bool.and_eq_true,Bool.not_eq_true',List.mem_append]
  have nc:∀(xs:List Int) (z:Int),xs.contains z=false↔z∉xs:=fun xs z=>by
   rw[←List.contains_iff_mem]
   cases xs.contains z<;>simp
  simp only[nc]
  constructor
  ·rintro⟨_,⟨_,_,d1⟩,d2⟩
   exact⟨fun t ht he=>d1 t ht t he rfl,fun t ht=>⟨fun hw=>d2 t ht t (.inl hw) rfl,fun he=>d2 t ht t (.inr he) rfl⟩⟩
  ·rintro⟨w,d⟩
   refine⟨zao g1,⟨zao g2,zao g3,fun a ha b hb e=>w a ha (e▸hb)⟩,fun a ha b hb e=> ?_⟩
   subst e
   rcases hb with hb|hb
   ·exact(d a ha).1 hb
   ·exact(d a ha).2 hb
 constructor
 ·rintro⟨⟨⟨⟨⟨⟨⟨a1,a2⟩,a3⟩,a4⟩,a5⟩,a6⟩,⟨⟨⟨b1,b2⟩,b3⟩,b4⟩,b5⟩,⟨⟨⟨⟨c1,c2⟩,c3⟩,c4⟩,⟨c5,c6⟩,c7⟩,c8⟩
  exact⟨⟨⟨⟨⟨⟨⟨⟨⟨a1,a2⟩,a3⟩,a4⟩,a5⟩,c5,c6⟩,b4⟩,b5⟩,a6⟩,⟨⟨⟨c1,c2⟩,c3⟩,(ap c6 b4 b5).2 ⟨c4,c7⟩⟩,c8⟩
 ·rintro⟨⟨⟨⟨⟨⟨⟨⟨⟨a1,a2⟩,a3⟩,a4⟩,a5⟩,c5,c6⟩,b4⟩,b5⟩,a6⟩,⟨⟨⟨c1,c2⟩,c3⟩,c4⟩,c8⟩
  have k:=(ap c6 b4 b5).1 c4
  exact⟨⟨⟨⟨⟨⟨⟨a1,a2⟩,a3⟩,a4⟩,a5⟩,a6⟩,⟨⟨⟨by have:=zcG c6;omega,zcG b4⟩,zcG b5⟩,b4⟩,b5⟩,⟨⟨⟨⟨c1,c2⟩,c3⟩,k.1⟩,⟨c5,c6⟩,k.2⟩,c8⟩
theorem zfz(s:zp)(h:zu s≤1048576):Qf s=some (XP s):=by rw[zlF];exact zeG s h
def hb(f:Nat→Bool):List Bool:=(List.range 1001).map f
theorem zim(s:zp)(h:zu s≤1048576):Qu s=some s:=by
 have hh:s.Helds.length≤1048576:=by unfold zu z6 at h;omega
 have hH:z6 s.Helds≤1048576:=by unfold zu at h;omega
 have hs:s.Own.length≤1048576∧s.Frozen.length≤1048576∧s.Cells.length≤1048576∧s.Locks.length≤1048576∧s.Wounded.length≤1048576∧s.Ended.length≤1048576:=by unfold zu at h;omega
 unfold Qu
 simp only[zcu _ hs.1,zcu _ hs.2.1,zbd _ hs.2.2.1,zdl _ hs.2.2.2.1,zah _ hs.2.2.2.2.1,zah _ hs.2.2.2.2.2,Option.bind_some]
 refine qQ (fun i=>((i:Int),s.Helds.take i)) _ s.Helds.length (by omega) (fun kb i hi=> ?_) (fun kb=> ?_) (by simp)
 ·unfold QR
  simp only[zN hi,Option.bind_some,zgw _<|XU hH hi,qh i _ hi (by omega),List.take_succ_eq_append_getElem hi]
  rw[if_pos (by omega),if_pos (by simp;omega)]
 ·unfold QR QH
  rw[if_neg (by simp),List.take_length]
theorem zlr(s:zp)(h:zu s≤1048576):JQ s=some s:=by
 have hh:s.Helds.length≤1048576:=by unfold zu z6 at h;omega
 have hH:z6 s.Helds≤1048576:=by unfold zu at h;omega
 have hs:s.Own.length≤1048576∧s.Frozen.length≤1048576∧s.Cells.length≤1048576∧s.Locks.length≤1048576∧s.Wounded.length≤1048576∧s.Ended.length≤1048576:=by unfold zu at h;omega
 unfold JQ
 rw[if_pos (by omega),if_pos (by omega),if_pos (by omega),if_pos (by omega)]
 refine qQ (fun i=>((i:Int),s.Helds.take i)) _ s.Helds.length (by omega) (fun kb i hi=> ?_) (fun kb=> ?_) (by simp)
 ·have hw:=XU hH hi
  unfold YI
  simp only[zN hi,Option.bind_some,qh i _ hi (by omega),List.take_succ_eq_append_getElem hi]
  rw[if_pos (by omega),if_pos (by omega),if_pos (by simp;omega)]
 ·unfold YI xo
  rw[if_neg (by simp),List.take_length,if_pos (by omega),if_pos (by omega)]
def zb7:zp:=⟨0,[],[],[],[],[],[],[],0⟩
theorem zdu{s:zp}(h:XP s=true):qK s.Own=true∧qK s.Frozen=true∧qI s.Cells=true∧qJ s.Locks=true:=by
 unfold XP at h
 simp only[Bool.and_eq_true] at h
 exact⟨h.1.1.1.1.1.1.2,h.1.1.1.1.1.2,h.1.1.1.1.2,h.1.1.1.2⟩
theorem zj6{α:Type}(f:α→Nat)(b:Nat):∀(xs:List α),(∀x∈xs,f x≤b)→jW f xs≤b * xs.length
 |[],_=>by simp[jW]
 |x::xs,H=>by
  have:=zj6 f b xs fun y hy=>H y (List.mem_cons_of_mem _ hy)
  have:=H x List.mem_cons_self
  simp only[jW,List.length_cons,Nat.mul_add,Nat.mul_one]
  omega
theorem zhV{s:zp}(h:XP s=true):zu s≤5000:=by
 obtain⟨k1,k2,k3,k4⟩:=zdu h
 have l1:=zcs k1
 have l2:=zcs k2
 have l3:=zaU k3
 have l4:=zdi k4
 unfold XP zg5 at h
 simp only[Bool.and_eq_true,decide_eq_true_eq] at h
 have h1:=h.1.2.1.1.1.1
 have h2:=h.1.2.1.1.1.2
 have h3:=h.1.2.1.1.2
 have hh:=h.2.1.2
 have hw:∀x∈s.Helds,x.Writes.length≤60:=fun x hx=>by
  obtain⟨i,hi,rfl⟩:=List.getElem_of_mem hx
  rw[List.all_eq_true] at hh
  have:=hh i (List.mem_range.2 hi)
  rw[zdS s hi] at this
  unfold zck at this
  simp only[Bool.and_eq_true] at this
  exact XB this.1.2.1
 have hs:=zj6 (fun x:zL=>x.Writes.length) 60 s.Helds hw
 unfold zu
 rw[yL]
 omega
def JW(k:Int):zj:=⟨k,k+1⟩
def ke(k:Int)(n:Nat):List zj:=(List.range n).map fun(i:Nat)=>JW (k+2 * (i:Int))
theorem zbm(k:Int)(n:Nat):(ke k n).length=n:=by simp[ke]
theorem zhG(xs:List zj)(k:Int)(h:xs.length≤1048576)(hk:0≤k)(hk':k≤1000000000000):Z7 xs k=some (k+2 * (xs.length:Int),ke k xs.length):=by
 unfold Z7
 refine qQ (fun i=>(kw (fun(i:Nat)=>JW (k+2 * (i:Int))) xs i,k+2 * (i:Int),(i:Int))) _ xs.length (by omega) (fun kb i hi=> ?_) (fun kb=> ?_) (by simp[Kt])
 ·unfold QU
  have hl:=Jb (fun(i:Nat)=>JW (k+2 * (i:Int))) (Nat.le_of_lt hi)
  have w1:IntKind.wrap .i64 (k+2 * (i:Int)+1)=k+2 * (i:Int)+1:=w64 (by omega) (by omega)
  have w2:IntKind.wrap .i64 (k+2 * (i:Int)+1+1)=k+2 * (i:Int)+2:=by rw[w64 (by omega) (by omega)];omega
  have e:k+2 * ((i+1:Nat):Int)=k+2 * (i:Int)+2:=by omega
  have hs:=zaG (fun(i:Nat)=>JW (k+2 * (i:Int))) hi
  have hx:=zaB (fun(i:Nat)=>JW (k+2 * (i:Int))) hi
  show _=kb (kw (fun(i:Nat)=>JW (k+2 * (i:Int))) xs (i+1),k+2 * ((i+1:Nat):Int),((i+1:Nat):Int))
  rw[←hs,e]
  generalize kw (fun(i:Nat)=>JW (k+2 * (i:Int))) xs i=row at hl hx
  have hii:i < row.length:=by rw[hl];exact hi
  simp only[hx,Option.bind_some,Int.toNat_natCast,Yx hii,List.set_set,qh i _ hi (by omega),w1,w2,hl,JW]
  rw[if_pos (by omega)]
 ·unfold QU QM
  have hl:=Jb (fun(i:Nat)=>JW (k+2 * (i:Int))) (Nat.le_refl xs.length)
  rw[if_neg (by simp only[hl];omega),if_pos hl,zaO]
  rfl
theorem zhH(n:Nat)(k:Int)(h:n≤1048576)(hk:0≤k)(hk':k≤1000000000000):ZW (ke k n) k=some (k+2 * (n:Int)):=by
 unfold ZW
 refine qQ (fun i=>(k+2 * (i:Int),(i:Int))) _ n (by omega) (fun kb i hi=> ?_) (fun kb=> ?_) (by simp)
 ·unfold QS
  have w1:IntKind.wrap .i64 (k+2 * (i:Int)+1)=k+2 * (i:Int)+1:=w64 (by omega) (by omega)
  have w2:IntKind.wrap .i64 (k+2 * (i:Int)+1+1)=k+2 * (i:Int)+2:=by rw[w64 (by omega) (by omega)];omega
  have e:k+2 * ((i+1:Nat):Int)=k+2 * (i:Int)+2:=by omega
  have hx:idx (ke k n) (i:Int)=some (JW (k+2 * (i:Int))):=Kw _ hi
  simp only[hx,Option.bind_some,qh i _ hi (by omega),w1,w2,JW,zbm,not_true,if_false,e]
  rw[if_pos (by omega)]
 ·unfold QS QZ
  rw[if_neg (by simp only[zbm];omega)]
def QE(x:zL):Nat:=1+2 * x.Writes.length
def zhz(x:zL)(k:Int):zL:=zL.mk k (ke (k+1) x.Writes.length)
def zbu(xs:List zL)(k:Int)(i:Nat):zL:=match xs[i]? with
 |some x=>zhz x (k+(jW QE (xs.take i):Nat))
 |none=>zL.mk 0 []
theorem zjc(xs:List zL)(k:Int){i:Nat}(hi:i < xs.length):zbu xs k i=zhz xs[i] (k+(jW QE (xs.take i):Nat)):=by
 unfold zbu
 rw[List.getElem?_eq_getElem hi]
def Ya(xs:List zL)(k:Int):List zL:=(List.range xs.length).map (zbu xs k)
theorem kH(xs:List zL)(k:Int):(Ya xs k).length=xs.length:=by simp[Ya]
theorem zg7:∀(xs:List zL),jW QE xs=xs.length+2 * jW (fun y:zL=>jf y) xs
 |[]=>rfl
 |x::xs=>by
  have ih:=zg7 xs
  simp only[jW,List.length_cons,ih,QE,jf]
  omega
theorem zbM{xs:List zL}(h:z6 xs≤1048576)(i:Nat):jW QE (xs.take i)≤4194304:=by
 have h1:=Xh QE xs i
 have h2:=zg7 xs
 unfold z6 at h
 omega
theorem ziv(xs:List zL)(k:Int)(h:z6 xs≤1048576)(hk:0≤k)(hk':k≤100000000):Zs xs k=some (k+(jW QE xs:Nat),Ya xs k):=by
 obtain⟨hl0,hs0⟩:=zai h
 unfold Zs
 refine qQ (fun i=>(kw (zbu xs k) xs i,k+(jW QE (xs.take i):Nat),(i:Int))) _ xs.length (by omega) (fun kb i hi=> ?_) (fun kb=> ?_) (by simp[Kt,jW])
 ·unfold Jo
  have hl:=Jb (zbu xs k) (Nat.le_of_lt hi)
  have hs:=zaG (zbu xs k) hi
  have hx:=zaB (zbu xs k) hi
  have hb:=zbM h i
  have hsz:=hs0 i hi
  unfold jf at hsz
  have e:k+((jW QE (xs.take (i+1)):Nat):Int)=k+(jW QE (xs.take i):Nat)+1+2 * (xs[i].Writes.length:Int):=by
   rw[Xj QE hi];unfold QE;omega
  show _=kb (kw (zbu xs k) xs (i+1),k+((jW QE (xs.take (i+1)):Nat):Int),((i+1:Nat):Int))
  rw[←hs,e,zjc xs k hi]
  have hkk:0≤k+((jW QE (xs.take i):Nat):Int)∧k+((jW QE (xs.take i):Nat):Int)≤110000000:=by omega
  generalize k+((jW QE (xs.take i):Nat):Int)=kk at hkk ⊢
  generalize kw (zbu xs k) xs i=row at hl hx ⊢
  have hii:i < row.length:=by rw[hl];exact hi
  have w1:IntKind.wrap .i64 (kk+1)=kk+1:=w64 (by omega) (by omega)
  have hS:=zhG xs[i].Writes (kk+1) (by omega) (by omega) (by omega)
  simp only[hx,Option.bind_some,Int.toNat_natCast,Yx hii,List.set_set,qh i _ hi (by omega),w1,hS,hl,zhz]
  rw[if_pos (by omega)]
 ·unfold Jo Jz
  have hl:=Jb (zbu xs k) (Nat.le_refl xs.length)
  rw[if_neg (by simp only[hl];omega),if_pos hl,zaO,List.take_length]
  rfl
theorem zih(xs:List zL)(k:Int)(h:z6 xs≤1048576)(hk:0≤k)(hk':k≤100000000):Zh (Ya xs k) k=some (k+(jW QE xs:Nat)):=by
 obtain⟨hl0,hs0⟩:=zai h
 unfold Zh
 refine qQ (fun i=>(k+(jW QE (xs.take i):Nat),(i:Int))) _ xs.length (by omega) (fun kb i hi=> ?_) (fun kb=> ?_) (by simp[jW])
 ·unfold Jw
  have hx:idx (Ya xs k) (i:Int)=some (zbu xs k i):=Kw _ hi
  have hb:=zbM h i
  have hsz:=hs0 i hi
  unfold jf at hsz
  have e:k+((jW QE (xs.take (i+1)):Nat):Int)=k+(jW QE (xs.take i):Nat)+1+2 * (xs[i].Writes.length:Int):=by
   rw[Xj QE hi];unfold QE;omega
  rw[e]
  rw[zjc xs k hi] at hx
  have hkk:0≤k+((jW QE (xs.take i):Nat):Int)∧k+((jW QE (xs.take i):Nat):Int)≤110000000:=by omega
  generalize k+((jW QE (xs.take i):Nat):Int)=kk at hkk hx ⊢
  have w1:IntKind.wrap .i64 (kk+1)=kk+1:=w64 (by omega) (by omega)
  have hS:=zhH xs[i].Writes.length (kk+1) (by omega) (by omega) (by omega)
  simp only[hx,Option.bind_some,qh i _ hi (by omega),w1,hS,kH,zhz,not_true,if_false]
  rw[if_pos (by omega),if_neg (by omega)]
 ·unfold Jw Jn
  rw[if_neg (by simp only[kH];omega),List.take_length]
def JV(k:Int):zw:=⟨k,k+1⟩
def yS(k:Int)(n:Nat):List zw:=(List.range n).map fun(i:Nat)=>JV (k+2 * (i:Int))
theorem Jc(k:Int)(n:Nat):(yS k n).length=n:=by simp[yS]
theorem zc1(xs:List zw)(k:Int)(h:xs.length≤1048576)(hk:0≤k)(hk':k≤1000000000000):jZ xs k=some (k+2 * (xs.length:Int),yS k xs.length):=by
 unfold jZ
 refine qQ (fun i=>(kw (fun(i:Nat)=>JV (k+2 * (i:Int))) xs i,k+2 * (i:Int),(i:Int))) _ xs.length (by omega) (fun kb i hi=> ?_) (fun kb=> ?_) (by simp[Kt])
 ·unfold QG
  have hl:=Jb (fun(i:Nat)=>JV (k+2 * (i:Int))) (Nat.le_of_lt hi)
  have w1:IntKind.wrap .i64 (k+2 * (i:Int)+1)=k+2 * (i:Int)+1:=w64 (by omega) (by omega)
  have w2:IntKind.wrap .i64 (k+2 * (i:Int)+1+1)=k+2 * (i:Int)+2:=by rw[w64 (by omega) (by omega)];omega
  have e:k+2 * ((i+1:Nat):Int)=k+2 * (i:Int)+2:=by omega
  have hs:=zaG (fun(i:Nat)=>JV (k+2 * (i:Int))) hi
  have hx:=zaB (fun(i:Nat)=>JV (k+2 * (i:Int))) hi
  show _=kb (kw (fun(i:Nat)=>JV (k+2 * (i:Int))) xs (i+1),k+2 * ((i+1:Nat):Int),((i+1:Nat):Int))
  rw[←hs,e]
  generalize kw (fun(i:Nat)=>JV (k+2 * (i:Int))) xs i=row at hl hx
  have hii:i < row.length:=by rw[hl];exact hi
  simp only[hx,Option.bind_some,Int.toNat_natCast,Yx hii,List.set_set,qh i _ hi (by omega),w1,w2,hl,JV]
  rw[if_pos (by omega)]
 ·unfold QG QO
  have hl:=Jb (fun(i:Nat)=>JV (k+2 * (i:Int))) (Nat.le_refl xs.length)
  rw[if_neg (by simp only[hl];omega),if_pos hl,zaO]
  rfl
theorem zc8(n:Nat)(k:Int)(h:n≤1048576)(hk:0≤k)(hk':k≤1000000000000):j0 (yS k n) k=some (k+2 * (n:Int)):=by
 unfold j0
 refine qQ (fun i=>(k+2 * (i:Int),(i:Int))) _ n (by omega) (fun kb i hi=> ?_) (fun kb=> ?_) (by simp)
 ·unfold QI
  have w1:IntKind.wrap .i64 (k+2 * (i:Int)+1)=k+2 * (i:Int)+1:=w64 (by omega) (by omega)
  have w2:IntKind.wrap .i64 (k+2 * (i:Int)+1+1)=k+2 * (i:Int)+2:=by rw[w64 (by omega) (by omega)];omega
  have e:k+2 * ((i+1:Nat):Int)=k+2 * (i:Int)+2:=by omega
  have hx:idx (yS k n) (i:Int)=some (JV (k+2 * (i:Int))):=Kw _ hi
  simp only[hx,Option.bind_some,qh i _ hi (by omega),w1,w2,JV,Jc,not_true,if_false,e]
  rw[if_pos (by omega)]
 ·unfold QI QN
  rw[if_neg (by simp only[Jc];omega)]
def kE(k:Int):zj:=⟨k,k+1⟩
def JY(k:Int)(n:Nat):List zj:=(List.range n).map fun(i:Nat)=>kE (k+2 * (i:Int))
theorem km(k:Int)(n:Nat):(JY k n).length=n:=by simp[JY]
theorem zi7(xs:List zj)(k:Int)(h:xs.length≤1048576)(hk:0≤k)(hk':k≤1000000000000):Zi xs k=some (k+2 * (xs.length:Int),JY k xs.length):=by
 unfold Zi
 refine qQ (fun i=>(kw (fun(i:Nat)=>kE (k+2 * (i:Int))) xs i,k+2 * (i:Int),(i:Int))) _ xs.length (by omega) (fun kb i hi=> ?_) (fun kb=> ?_) (by simp[Kt])
 ·unfold Js
  have hl:=Jb (fun(i:Nat)=>kE (k+2 * (i:Int))) (Nat.le_of_lt hi)
  have w1:IntKind.wrap .i64 (k+2 * (i:Int)+1)=k+2 * (i:Int)+1:=w64 (by omega) (by omega)
  have w2:IntKind.wrap .i64 (k+2 * (i:Int)+1+1)=k+2 * (i:Int)+2:=by rw[w64 (by omega) (by omega)];omega
  have e:k+2 * ((i+1:Nat):Int)=k+2 * (i:Int)+2:=by omega
  have hs:=zaG (fun(i:Nat)=>kE (k+2 * (i:Int))) hi
  have hx:=zaB (fun(i:Nat)=>kE (k+2 * (i:Int))) hi
  show _=kb (kw (fun(i:Nat)=>kE (k+2 * (i:Int))) xs (i+1),k+2 * ((i+1:Nat):Int),((i+1:Nat):Int))
  rw[←hs,e]
  generalize kw (fun(i:Nat)=>kE (k+2 * (i:Int))) xs i=row at hl hx
  have hii:i < row.length:=by rw[hl];exact hi
  simp only[hx,Option.bind_some,Int.toNat_natCast,Yx hii,List.set_set,qh i _ hi (by omega),w1,w2,hl,kE]
  rw[if_pos (by omega)]
 ·unfold Js Jr
  have hl:=Jb (fun(i:Nat)=>kE (k+2 * (i:Int))) (Nat.le_refl xs.length)
  rw[if_neg (by simp only[hl];omega),if_pos hl,zaO]
  rfl
theorem zhR(n:Nat)(k:Int)(h:n≤1048576)(hk:0≤k)(hk':k≤1000000000000):Zr (JY k n) k=some (k+2 * (n:Int)):=by
 unfold Zr
 refine qQ (fun i=>(k+2 * (i:Int),(i:Int))) _ n (by omega) (fun kb i hi=> ?_) (fun kb=> ?_) (by simp)
 ·unfold Jt
  have w1:IntKind.wrap .i64 (k+2 * (i:Int)+1)=k+2 * (i:Int)+1:=w64 (by omega) (by omega)
  have w2:IntKind.wrap .i64 (k+2 * (i:Int)+1+1)=k+2 * (i:Int)+2:=by rw[w64 (by omega) (by omega)];omega
  have e:k+2 * ((i+1:Nat):Int)=k+2 * (i:Int)+2:=by omega
  have hx:idx (JY k n) (i:Int)=some (kE (k+2 * (i:Int))):=Kw _ hi
  simp only[hx,Option.bind_some,qh i _ hi (by omega),w1,w2,kE,km,not_true,if_false,e]
  rw[if_pos (by omega)]
 ·unfold Jt Jv
  rw[if_neg (by simp only[km];omega)]
def kI(k:Int):zC:=⟨k,k+1,k+2,k+3⟩
def Yi(k:Int)(n:Nat):List zC:=(List.range n).map fun(i:Nat)=>kI (k+4 * (i:Int))
theorem kA(k:Int)(n:Nat):(Yi k n).length=n:=by simp[Yi]
theorem zhS(xs:List zC)(k:Int)(h:xs.length≤1048576)(hk:0≤k)(hk':k≤1000000000000):Zm xs k=some (k+4 * (xs.length:Int),Yi k xs.length):=by
 unfold Zm
 refine qQ (fun i=>(kw (fun(i:Nat)=>kI (k+4 * (i:Int))) xs i,k+4 * (i:Int),(i:Int))) _ xs.length (by omega) (fun kb i hi=> ?_) (fun kb=> ?_) (by simp[Kt])
 ·unfold Jx
  have hl:=Jb (fun(i:Nat)=>kI (k+4 * (i:Int))) (Nat.le_of_lt hi)
  have w1:IntKind.wrap .i64 (k+4 * (i:Int)+1)=k+4 * (i:Int)+1:=w64 (by omega) (by omega)
  have w2:IntKind.wrap .i64 (k+4 * (i:Int)+1+1)=k+4 * (i:Int)+2:=by rw[w64 (by omega) (by omega)];omega
  have w3:IntKind.wrap .i64 (k+4 * (i:Int)+2+1)=k+4 * (i:Int)+3:=by rw[w64 (by omega) (by omega)];omega
  have w4:IntKind.wrap .i64 (k+4 * (i:Int)+3+1)=k+4 * (i:Int)+4:=by rw[w64 (by omega) (by omega)];omega
  have e:k+4 * ((i+1:Nat):Int)=k+4 * (i:Int)+4:=by omega
  have hs:=zaG (fun(i:Nat)=>kI (k+4 * (i:Int))) hi
  have hx:=zaB (fun(i:Nat)=>kI (k+4 * (i:Int))) hi
  show _=kb (kw (fun(i:Nat)=>kI (k+4 * (i:Int))) xs (i+1),k+4 * ((i+1:Nat):Int),((i+1:Nat):Int))
  rw[←hs,e]
  generalize kw (fun(i:Nat)=>kI (k+4 * (i:Int))) xs i=row at hl hx
  have hii:i < row.length:=by rw[hl];exact hi
  simp only[hx,Option.bind_some,Int.toNat_natCast,Yx hii,List.set_set,qh i _ hi (by omega),w1,w2,w3,w4,hl,kI]
  rw[if_pos (by omega)]
 ·unfold Jx Jm
  have hl:=Jb (fun(i:Nat)=>kI (k+4 * (i:Int))) (Nat.le_refl xs.length)
  rw[if_neg (by simp only[hl];omega),if_pos hl,zaO]
  rfl
theorem zhW(n:Nat)(k:Int)(h:n≤1048576)(hk:0≤k)(hk':k≤1000000000000):Zw (Yi k n) k=some (k+4 * (n:Int)):=by
 unfold Zw
 refine qQ (fun i=>(k+4 * (i:Int),(i:Int))) _ n (by omega) (fun kb i hi=> ?_) (fun kb=> ?_) (by simp)
 ·unfold Jp
  have w1:IntKind.wrap .i64 (k+4 * (i:Int)+1)=k+4 * (i:Int)+1:=w64 (by omega) (by omega)
  have w2:IntKind.wrap .i64 (k+4 * (i:Int)+1+1)=k+4 * (i:Int)+2:=by rw[w64 (by omega) (by omega)];omega
  have w3:IntKind.wrap .i64 (k+4 * (i:Int)+2+1)=k+4 * (i:Int)+3:=by rw[w64 (by omega) (by omega)];omega
  have w4:IntKind.wrap .i64 (k+4 * (i:Int)+3+1)=k+4 * (i:Int)+4:=by rw[w64 (by omega) (by omega)];omega
  have e:k+4 * ((i+1:Nat):Int)=k+4 * (i:Int)+4:=by omega
  have hx:idx (Yi k n) (i:Int)=some (kI (k+4 * (i:Int))):=Kw _ hi
  simp only[hx,Option.bind_some,qh i _ hi (by omega),w1,w2,w3,w4,kI,kA,not_true,if_false,e]
  rw[if_pos (by omega)]
 ·unfold Jp JA
  rw[if_neg (by simp only[kA];omega)]
def KG(k:Int):Int:=k
def Qj(k:Int)(n:Nat):List Int:=(List.range n).map fun(i:Nat)=>KG (k+1 * (i:Int))
theorem xe(k:Int)(n:Nat):(Qj k n).length=n:=by simp[Qj]
theorem zgd(xs:List Int)(k:Int)(h:xs.length≤1048576)(hk:0≤k)(hk':k≤1000000000000):yF xs k=some (k+1 * (xs.length:Int),Qj k xs.length):=by
 unfold yF
 refine qQ (fun i=>(kw (fun(i:Nat)=>KG (k+1 * (i:Int))) xs i,k+1 * (i:Int),(i:Int))) _ xs.length (by omega) (fun kb i hi=> ?_) (fun kb=> ?_) (by simp[Kt])
 ·unfold YL
  have hl:=Jb (fun(i:Nat)=>KG (k+1 * (i:Int))) (Nat.le_of_lt hi)
  have w1:IntKind.wrap .i64 (k+1 * (i:Int)+1)=k+1 * (i:Int)+1:=w64 (by omega) (by omega)
  have e:k+1 * ((i+1:Nat):Int)=k+1 * (i:Int)+1:=by omega
  have hs:=zaG (fun(i:Nat)=>KG (k+1 * (i:Int))) hi
  have hx:=zaB (fun(i:Nat)=>KG (k+1 * (i:Int))) hi
  show _=kb (kw (fun(i:Nat)=>KG (k+1 * (i:Int))) xs (i+1),k+1 * ((i+1:Nat):Int),((i+1:Nat):Int))
  rw[←hs,e]
  generalize kw (fun(i:Nat)=>KG (k+1 * (i:Int))) xs i=row at hl hx
  have hii:i < row.length:=by rw[hl];exact hi
  simp only[hx,Option.bind_some,Int.toNat_natCast,Yx hii,List.set_set,qh i _ hi (by omega),w1,hl,KG]
  rw[if_pos (by omega)]
 ·unfold YL YY
  have hl:=Jb (fun(i:Nat)=>KG (k+1 * (i:Int))) (Nat.le_refl xs.length)
  rw[if_neg (by simp only[hl];omega),if_pos hl,zaO]
  rfl
theorem zfJ(n:Nat)(k:Int)(h:n≤1048576)(hk:0≤k)(hk':k≤1000000000000):yE (Qj k n) k=some (k+1 * (n:Int)):=by
 unfold yE
 refine qQ (fun i=>(k+1 * (i:Int),(i:Int))) _ n (by omega) (fun kb i hi=> ?_) (fun kb=> ?_) (by simp)
 ·unfold YE
  have w1:IntKind.wrap .i64 (k+1 * (i:Int)+1)=k+1 * (i:Int)+1:=w64 (by omega) (by omega)
  have e:k+1 * ((i+1:Nat):Int)=k+1 * (i:Int)+1:=by omega
  have hx:idx (Qj k n) (i:Int)=some (KG (k+1 * (i:Int))):=Kw _ hi
  simp only[hx,Option.bind_some,qh i _ hi (by omega),w1,KG,xe,not_true,if_false,e]
  rw[if_pos (by omega)]
 ·unfold YE YB
  rw[if_neg (by simp only[xe];omega)]
theorem zfk(x:zp)(h:zu x≤1048576):∃r:Int×zp,Zt x 1=some r∧0≤r.1∧r.2.Own.length=x.Own.length∧r.2.Frozen.length=x.Frozen.length∧r.2.Cells.length=x.Cells.length∧r.2.Locks.length=x.Locks.length∧r.2.Helds.length=x.Helds.length∧r.2.Wounded.length=x.Wounded.length∧r.2.Ended.length=x.Ended.length∧
  ∀e f,Zv (zp.mk e r.2.Own r.2.Frozen r.2.Cells r.2.Locks r.2.Helds r.2.Wounded r.2.Ended f) 1=some r.1:=by
 have hh:=h
 unfold zu at hh
 have hH:z6 x.Helds≤1048576:=by omega
 have hb:=zbM hH x.Helds.length
 rw[List.take_length] at hb
 obtain⟨k1,e1⟩:∃k,k=1+2 * (x.Own.length:Int):=⟨_,rfl⟩
 obtain⟨k2,e2⟩:∃k,k=k1+2 * (x.Frozen.length:Int):=⟨_,rfl⟩
 obtain⟨k3,e3⟩:∃k,k=k2+2 * (x.Cells.length:Int):=⟨_,rfl⟩
 obtain⟨k4,e4⟩:∃k,k=k3+4 * (x.Locks.length:Int):=⟨_,rfl⟩
 obtain⟨k5,e5⟩:∃k,k=k4+((jW QE x.Helds:Nat):Int):=⟨_,rfl⟩
 obtain⟨k6,e6⟩:∃k,k=k5+1 * (x.Wounded.length:Int):=⟨_,rfl⟩
 obtain⟨k7,e7⟩:∃k,k=k6+1 * (x.Ended.length:Int):=⟨_,rfl⟩
 have a1:jZ x.Own 1=some (k1,yS 1 x.Own.length):=by rw[e1];exact zc1 x.Own 1 (by omega) (by omega) (by omega)
 have a2:jZ x.Frozen k1=some (k2,yS k1 x.Frozen.length):=by rw[e2];exact zc1 x.Frozen k1 (by omega) (by omega) (by omega)
 have a3:Zi x.Cells k2=some (k3,JY k2 x.Cells.length):=by rw[e3];exact zi7 x.Cells k2 (by omega) (by omega) (by omega)
 have a4:Zm x.Locks k3=some (k4,Yi k3 x.Locks.length):=by rw[e4];exact zhS x.Locks k3 (by omega) (by omega) (by omega)
 have a5:Zs x.Helds k4=some (k5,Ya x.Helds k4):=by rw[e5];exact ziv x.Helds k4 hH (by omega) (by omega)
 have a6:yF x.Wounded k5=some (k6,Qj k5 x.Wounded.length):=by rw[e6];exact zgd x.Wounded k5 (by omega) (by omega) (by omega)
 have a7:yF x.Ended k6=some (k7,Qj k6 x.Ended.length):=by rw[e7];exact zgd x.Ended k6 (by omega) (by omega) (by omega)
 have b1:j0 (yS 1 x.Own.length) 1=some k1:=by rw[e1];exact zc8 x.Own.length 1 (by omega) (by omega) (by omega)
 have b2:j0 (yS k1 x.Frozen.length) k1=some k2:=by rw[e2];exact zc8 x.Frozen.length k1 (by omega) (by omega) (by omega)
 have b3:Zr (JY k2 x.Cells.length) k2=some k3:=by rw[e3];exact zhR x.Cells.length k2 (by omega) (by omega) (by omega)
 have b4:Zw (Yi k3 x.Locks.length) k3=some k4:=by rw[e4];exact zhW x.Locks.length k3 (by omega) (by omega) (by omega)
 have b5:Zh (Ya x.Helds k4) k4=some k5:=by rw[e5];exact zih x.Helds k4 hH (by omega) (by omega)
 have b6:yE (Qj k5 x.Wounded.length) k5=some k6:=by rw[e6];exact zfJ x.Wounded.length k5 (by omega) (by omega) (by omega)
 have b7:yE (Qj k6 x.Ended.length) k6=some k7:=by rw[e7];exact zfJ x.Ended.length k6 (by omega) (by omega) (by omega)
 have n1:¬k1 < 0:=by omega
 have n2:¬k2 < 0:=by omega
 have n3:¬k3 < 0:=by omega
 have n4:¬k4 < 0:=by omega
 have n5:¬k5 < 0:=by omega
 have n6:¬k6 < 0:=by omega
 have n7:¬k7 < 0:=by omega
 refine⟨(k7,zp.mk x.Me (yS 1 x.Own.length) (yS k1 x.Frozen.length) (JY k2 x.Cells.length) (Yi k3 x.Locks.length) (Ya x.Helds k4) (Qj k5 x.Wounded.length) (Qj k6 x.Ended.length) x.Rank),?_,by simp only;omega,by simp only[Jc],by simp only[Jc],by simp only[km],by simp only[kA],by simp only[kH],by simp only[xe],by simp only[xe],fun e f=> ?_⟩
 ·unfold Zt
  simp only[a1,a2,a3,a4,a5,a6,a7,Jc,km,kA,kH,xe,Option.bind_some,if_true]
 ·unfold Zv
  simp only[b1,b2,b3,b4,b5,b6,b7,n1,n2,n3,n4,n5,n6,n7,Option.bind_some,if_false]
def l2L(k v:Int):List zj→Bool→List zj
 |[],put=>if put then[] else[zj.mk k v]
 |c::cs,put=>(if (!put&&decide (k≤c.Key))=true then[zj.mk k v] else[])++((if ¬c.Key=k then[c] else[])++l2L k v cs (put||decide (k≤c.Key)))
def zbW(k:Int)(keep:Bool):Nat→List zj→Bool
 |0,_=>!keep
 |n+1,xs=>zbW k keep n xs||match xs[n]? with|some c=>decide (k≤c.Key)|none=>false
theorem zfn(k v:Int){xs:List zj}{i:Nat}(hi:i < xs.length)(b:Bool):l2L k v (xs.drop i) b=(if (!b&&decide (k≤xs[i].Key))=true then[zj.mk k v] else[])++((if ¬xs[i].Key=k then[xs[i]] else[])++l2L k v (xs.drop (i+1)) (b||decide (k≤xs[i].Key))):=by
 rw[List.drop_eq_getElem_cons hi]
 rfl
theorem zfa(k v:Int):∀(xs:List zj),l2L k v xs true=xs.filter (fun c=>decide (¬c.Key=k))
 |[]=>rfl
 |c::cs=>by
  simp only[l2L,Bool.not_true,Bool.false_and,Bool.false_eq_true,if_false,List.nil_append,Bool.true_or,zfa k v cs,List.filter_cons]
  by_cases h:c.Key=k<;>simp[h]
theorem zn8(k v:Int)(xs:List zj)(hs:asc xs):∀(n p:Nat),n≤p→p≤xs.length→p - n=p - n→(∀i (hi:i < xs.length),i < p↔xs[i].Key < k)→l2L k v (xs.drop n) false=(xs.drop n).take (p - n)++(zj.mk k v::(xs.drop p).filter (fun c=>decide (¬c.Key=k))):=by
 intro n p hn hp _ hiff
 induction hd:p - n generalizing n with
 |zero=>
  have:n=p:=by omega
  subst this
  by_cases hl:n < xs.length
  ·have hk:¬xs[n].Key < k:=fun h=>by have:=(hiff n hl).2 h;omega
   rw[zfn k v hl]
   have hk':k≤xs[n].Key:=by omega
   simp only[hk',decide_true,Bool.not_false,Bool.and_self,if_true,Bool.or_true,zfa]
   conv=>rhs;rw[List.drop_eq_getElem_cons hl]
   simp only[List.take_zero,List.nil_append,List.filter_cons]
   by_cases h:xs[n].Key=k<;>simp[h]
  ·rw[List.drop_eq_nil_of_le (by omega)]
   simp[l2L]
 |succ d ih=>
  have hl:n < xs.length:=by omega
  have hk:xs[n].Key < k:=(hiff n hl).1 (by omega)
  have hk':¬k≤xs[n].Key:=by omega
  have hk2:¬xs[n].Key=k:=by omega
  rw[zfn k v hl]
  simp only[hk',hk2,decide_false,Bool.not_false,Bool.and_false,Bool.false_eq_true,if_false,not_false_eq_true,if_true,List.nil_append,Bool.or_self]
  rw[ih (n+1) (by omega) rfl (by omega),List.drop_eq_getElem_cons hl]
  rfl
def zeL(k v:Int)(keep:Bool)(xs:List zj):Nat→List zj
 |0=>[]
 |i+1=>zeL k v keep xs i++(match xs[i]? with|some c=>(if (!(zbW k keep i xs)&&decide (k≤c.Key))=true then[zj.mk k v] else[])++(if ¬c.Key=k then[c] else[])|none=>[])
theorem ze7(k v:Int)(keep:Bool)(xs:List zj):∀i,(zeL k v keep xs i).length≤2 * i
 |0=>by simp[zeL]
 |i+1=>by
  have ih:=ze7 k v keep xs i
  simp only[zeL,List.length_append]
  have:(match xs[i]? with|some c=>(if (!(zbW k keep i xs)&&decide (k≤c.Key))=true then[zj.mk k v] else[])++(if ¬c.Key=k then[c] else[])|none=>[]).length≤2:=by
   cases xs[i]? with
   |none=>simp
   |some c=>simp only[List.length_append];split<;>split<;>simp
  omega
theorem ziF(k v:Int)(keep:Bool)(xs:List zj):∀i,i≤xs.length→l2L k v xs (!keep)=zeL k v keep xs i++l2L k v (xs.drop i) (zbW k keep i xs)
 |0,_=>by simp[zeL,zbW]
 |i+1,hi=>by
  have hlt:i < xs.length:=by omega
  rw[ziF k v keep xs i (by omega),zfn k v hlt]
  simp only[zeL,zbW,List.getElem?_eq_getElem hlt,List.append_assoc]
theorem zkW(xs:List zj)(k v:Int)(keep:Bool)(h:xs.length≤1048576):JU xs k v keep=some (l2L k v xs (!keep)):=by
 unfold JU
 refine qQ (fun i=>(zeL k v keep xs i,zbW k keep i xs,(i:Int))) _ xs.length (by omega) (fun kb i hi=> ?_) (fun kb=> ?_) (by simp[zeL,zbW])
 ·have hl:=ze7 k v keep xs i
  unfold xD Qk Zu
  simp only[zN hi,Option.bind_some,qh i _ hi (by omega),zeL,zbW,List.getElem?_eq_getElem hi]
  rw[if_pos (by omega)]
  generalize zbW k keep i xs=b
  generalize zeL k v keep xs i=acc at hl
  cases b<;>by_cases h1:k≤xs[i].Key<;>by_cases h2:xs[i].Key=k<;>simp[h1,h2]<;>first|omega|(rw[if_pos (by omega),if_pos (by omega)])
 ·have hl:=ze7 k v keep xs xs.length
  rw[ziF k v keep xs xs.length (Nat.le_refl _)]
  unfold xD xu
  rw[if_neg (by simp)]
  simp only[List.drop_length]
  generalize zbW k keep xs.length xs=b
  generalize zeL k v keep xs xs.length=acc at hl
  cases b<;>simp[l2L]<;>omega
theorem zlU{xs:List zj}:asc xs↔xs.Pairwise (fun a b=>a.Key < b.Key):=by
 rw[List.pairwise_iff_getElem]
 constructor
 ·intro h i j hi hj hij;exact h i j hi hj hij
 ·intro h i j hi hj hij;exact h i j hi hj hij
def zfw(xs:List zj):Prop:=∀c∈xs,-1000000000000≤c.Key∧c.Key≤1000000000000
def zdB(xs:List zj)(w:zj):List zj:=l2L w.Key w.Value xs (!decide (0≤w.Value))
theorem zoI(xs:List zj)(w:zj)(hs:asc xs)(hk:zfw xs)(hl:xs.length≤1000)(h1:-1000000000000≤w.Key∧w.Key≤1000000000000)(h2:-1≤w.Value):
  KF xs w.Key w.Value=some (zdB xs w)∧asc (zdB xs w)∧zfw (zdB xs w)∧(zdB xs w).length≤xs.length+1:=by
 obtain⟨k,v⟩:=w
 simp only at h1 h2
 obtain⟨p,hp,hiff,hc⟩:=zgI xs k hs (by omega) (fun i hi=>hk _ (List.getElem_mem hi)) (by omega) (by omega)
 have hpw:=zlU.1 hs
 have hlow:∀c∈xs.take p,c.Key < k:=fun c hc=>by
  obtain⟨i,hi,rfl⟩:=List.getElem_of_mem hc
  rw[List.getElem_take]
  exact(hiff i (by simp at hi;omega)).1 (by simp at hi;omega)
 have hhigh:∀c∈xs.drop p,k≤c.Key:=fun c hc=>by
  obtain⟨i,hi,rfl⟩:=List.getElem_of_mem hc
  rw[List.getElem_drop]
  have:=hiff (p+i) (by simp at hi;omega)
  omega
 have hgt:∀c∈(xs.drop p).filter (fun c=>decide (¬c.Key=k)),k < c.Key:=fun c hc=>by
  rw[List.mem_filter] at hc
  have:=hhigh c hc.1
  have h3:¬c.Key=k:=by simpa using hc.2
  omega
 have hsub:(xs.take p++(xs.drop p).filter (fun c=>decide (¬c.Key=k))).Sublist xs:=by
  conv=>rhs;rw[←List.take_append_drop p xs]
  exact List.Sublist.append (List.Sublist.refl _) List.filter_sublist
 have hw:zdB xs ⟨k,v⟩=if 0≤v then xs.take p++(zj.mk k v::(xs.drop p).filter (fun c=>decide (¬c.Key=k))) else xs.take p++(xs.drop p).filter (fun c=>decide (¬c.Key=k)):=by
  unfold zdB
  by_cases h0:0≤v
  ·have:=zn8 k v xs hs 0 p (by omega) hp rfl hiff
   simp only[h0,decide_true,Bool.not_true,if_true]
   simpa using this
  ·simp only[h0,decide_false,Bool.not_false,if_false,zfa]
   conv=>lhs;rw[←List.take_append_drop p xs]
   rw[List.filter_append]
   congr 1
   rw[List.filter_eq_self]
   intro c hc
   have:=hlow c hc
   simp;omega
 have hrest:∀c,xs[p]? =some c→(if c.Key=k then(xs.drop p).filter (fun c=>decide (¬c.Key=k))=xs.drop (p+1) else(xs.drop p).filter (fun c=>decide (¬c.Key=k))=xs.drop p):=fun c hc=>by
  obtain⟨hlt,rfl⟩:=List.getElem?_eq_some_iff.1 hc
  rw[List.drop_eq_getElem_cons hlt,List.filter_cons]
  have hr:(xs.drop (p+1)).filter (fun c=>decide (¬c.Key=k))=xs.drop (p+1):=by
   rw[List.filter_eq_self]
   intro c hc
   obtain⟨i,hi,rfl⟩:=List.getElem_of_mem hc
   rw[List.getElem_drop]
   have h3:=hs p (p+1+i) hlt (by simp at hi;omega) (by omega)
   have h4:=hiff p hlt
   simp;omega
  rw[hr]
  by_cases h:xs[p].Key=k<;>simp[h]
 refine⟨?_,?_,?_,?_⟩
 ·unfold KF XM
  simp only[hc,Option.bind_some,zbd xs (by omega)]
  rw[hw]
  cases hx:xs[p]? with
  |none=>
   have hpl:p=xs.length:=by have:=List.getElem?_eq_none_iff.1 hx;omega
   have hd:(xs.drop p).filter (fun c=>decide (¬c.Key=k))=[]:=by rw[List.drop_eq_nil_of_le (by omega)];rfl
   simp only[Option.map_none,reduceCtorEq,decide_false,hd]
   by_cases h0:v= -1
   ·subst h0
    simp[hpl]
   ·have h0':0≤v:=by omega
    simp only[h0,h0',if_true,if_false,Bool.false_eq_true]
    unfold ZZ
    rw[if_pos ⟨by omega,by omega,rfl,by omega⟩]
    simp[hpl]
  |some c=>
   have hr:=hrest c hx
   obtain⟨hlt,hce⟩:=List.getElem?_eq_some_iff.1 hx
   by_cases hck:c.Key=k
   ·rw[if_pos hck] at hr
    simp only[Option.map_some,hck,decide_true,hr]
    by_cases h0:v= -1
    ·subst h0
     have e1:IntKind.wrap .i64 ((p:Int)+1)=((p+1:Nat):Int):=by rw[w64 (by omega) (by omega)];omega
     simp only[if_true,e1]
     unfold JM
     rw[if_pos ⟨by omega,by omega,by omega,by omega⟩]
     simp
    ·have h0':0≤v:=by omega
     simp only[h0,h0',if_true,if_false,Bool.false_eq_true,zN hlt,Option.bind_some,Int.toNat_natCast]
     rw[List.set_eq_take_append_cons_drop,if_pos hlt,hce,hck]
   ·rw[if_neg hck] at hr
    have hne:¬(some c.Key=some k):=fun e=>hck (Option.some.inj e)
    simp only[Option.map_some,hne,decide_false,hr]
    by_cases h0:v= -1
    ·subst h0
     simp
    ·have h0':0≤v:=by omega
     simp only[h0,h0',if_true,if_false,Bool.false_eq_true]
     unfold ZZ
     rw[if_pos ⟨by omega,by omega,rfl,by omega⟩]
     simp
 ·rw[hw,zlU]
  split
  ·rw[List.pairwise_append]
   refine⟨hpw.sublist<|List.take_sublist _ _,?_,fun a ha b hb=> ?_⟩
   ·rw[List.pairwise_cons]
    exact⟨hgt,hpw.sublist<|(List.filter_sublist).trans<|List.drop_sublist _ _⟩
   ·rcases List.mem_cons.1 hb with rfl|hb
    ·exact hlow a ha
    ·have:=hlow a ha;have:=hgt b hb;omega
  ·exact hpw.sublist hsub
 ·rw[hw]
  split
  ·intro c hc
   rcases List.mem_append.1 hc with hc|hc
   ·exact hk c (List.mem_of_mem_take hc)
   ·rcases List.mem_cons.1 hc with rfl|hc
    ·exact h1
    ·exact hk c (List.mem_of_mem_drop (List.mem_filter.1 hc).1)
  ·intro c hc
   exact hk c (hsub.subset hc)
 ·rw[hw]
  have:=hsub.length_le
  split
  ·simp only[List.length_append,List.length_cons] at this ⊢;omega
  ·omega
def jC(xs ws:List zj):List zj:=ws.foldl zdB xs
theorem zhl(xs:List zj)(hs:asc xs)(hk:zfw xs)(hl:xs.length≤60):∀(ws:List zj),ws.length≤60→(∀w∈ws,(-1000000000000≤w.Key∧w.Key≤1000000000000)∧-1≤w.Value)→∀i,i≤ws.length→
  asc (jC xs<|ws.take i)∧zfw (jC xs<|ws.take i)∧(jC xs<|ws.take i).length≤60+i:=fun ws hw hok i hi=>by
 induction i with
 |zero=>exact⟨by simpa[jC] using hs,by simpa[jC] using hk,by simpa[jC] using hl⟩
 |succ i ih=>
  obtain⟨g1,g2,g3⟩:=ih (by omega)
  have hlt:i < ws.length:=by omega
  obtain⟨o1,o2⟩:=hok _ (List.getElem_mem hlt)
  obtain⟨_,k1,k2,k3⟩:=zoI (jC xs<|ws.take i) ws[i] g1 g2 (by omega) o1 o2
  have e:jC xs (ws.take (i+1))=zdB (jC xs<|ws.take i) ws[i]:=by
   unfold jC
   rw[List.take_succ_eq_append_getElem hlt,List.foldl_append]
   rfl
  rw[e]
  exact⟨k1,k2,by omega⟩
theorem zcw(xs:List zj){ws:List zj}{i:Nat}(hlt:i < ws.length):jC xs (ws.take (i+1))=zdB (jC xs<|ws.take i) ws[i]:=by
 unfold jC
 rw[List.take_succ_eq_append_getElem hlt,List.foldl_append]
 rfl
def Kr(xs ws:List zj):List zj×Bool:=if qI xs&&qV ws then(if 60 < ((jC xs ws).length:Int) then([],false) else(jC xs ws,true)) else([],false)
theorem zgS{xs ws:List zj}(hx:qI xs=true)(hw:qV ws=true)(i:Nat)(hi:i≤ws.length):asc (jC xs<|ws.take i)∧zfw (jC xs<|ws.take i)∧(jC xs<|ws.take i).length≤60+i:=by
 refine zhl xs (zcv hx) (fun c hc=> ?_) (zaU hx) ws (XB hw) (fun w hwm=> ?_) i hi
 ·obtain⟨i,hi,rfl⟩:=List.getElem_of_mem hc
  have:=zci hx hi
  omega
 ·obtain⟨i,hi,rfl⟩:=List.getElem_of_mem hwm
  have:=Y8 hw hi
  omega
theorem zdC(xs ws:List zj)(h:xs.length≤1048576)(h':ws.length≤1048576):ZV xs ws=some (Kr xs ws):=by
 unfold ZV ZC Kr
 simp only[KQ _ h,XZ _ h',Option.bind_some]
 cases hx:qI xs
 ·simp
 cases hw:qV ws
 ·simp
 simp only[if_true,Bool.not_true,Bool.false_eq_true,if_false,Bool.and_self]
 rw[if_pos (by omega)]
 have hlw:=XB hw
 refine qQ (fun i=>(jC xs<|ws.take i,(i:Int))) _ ws.length (by omega) (fun kb i hi=> ?_) (fun kb=> ?_) (by simp[jC])
 ·unfold Qb
  obtain⟨_,_,g3⟩:=zgS hx hw i (by omega)
  simp only[zN hi,Option.bind_some,qh i _ hi (by omega),zkW _ _ _ _ (show(jC xs<|ws.take i).length≤1048576 by omega),zcw xs hi]
  rw[if_pos (by omega)]
  rfl
 ·unfold Qb QY
  rw[if_neg (by omega),List.take_length]
  simp only
  split<;>rfl
theorem zky(xs ws:List zj)(hx:qI xs=true)(hw:qV ws=true):JG xs ws=some (jC xs ws):=by
 unfold JG
 have hlw:=XB hw
 refine qQ (fun i=>(jC xs<|ws.take i,(i:Int))) _ ws.length (by omega) (fun kb i hi=> ?_) (fun kb=> ?_) (by simp[jC])
 ·unfold xr
  obtain⟨g1,g2,g3⟩:=zgS hx hw i (by omega)
  have hv:=Y8 hw hi
  obtain⟨k1,_,_,_⟩:=zoI (jC xs<|ws.take i) ws[i] g1 g2 (by omega) (by omega) (by omega)
  simp only[zN hi,Option.bind_some,qh i _ hi (by omega),k1,zcw xs hi]
  rw[if_pos (by omega)]
 ·unfold xr xL
  rw[if_neg (by omega),List.take_length]
theorem zdk(xs ws:List zj)(h:xs.length≤1048576)(h':ws.length≤1048576):Z2 xs ws=some (Kr xs ws):=by
 unfold Z2 ZH Kr
 simp only[KY _ h,Ka _ h',Option.bind_some]
 cases hx:qI xs
 ·simp
 cases hw:qV ws
 ·simp
 simp only[if_true,Bool.not_true,Bool.false_eq_true,if_false,Bool.and_self,zbd _ h,Option.bind_some,zky xs ws hx hw]
 split<;>rfl
theorem zie(xs ws:List zj):(Kr xs ws).1.length≤60:=by
 unfold Kr
 split
 ·split
  ·simp
  ·simp only;omega
 ·simp
theorem KT(xs:List Int)(c0:Int)(p:Int→Bool)(hp:∀v,jN v c0=some (p v))(h:xs.length≤1048576):qA xs c0=some (Kh p xs):=by
 unfold qA
 refine QP xs p (by omega) (fun kb i hi=> ?_) (fun kb=> ?_)
 ·unfold qX
  simp only[zN hi,Option.bind_some,hp,qh i _ hi (by omega)]
  rw[if_pos (by omega)]
 ·unfold qX
  rw[if_neg (by omega)];rfl
theorem zap(xs:List Int)(c0:Int)(p:Int→Bool)(hp:∀v,jN v c0=some (p v))(h:xs.length≤1048576):qx xs c0=some (xs.filter fun x=>!p x):=by
 unfold qx
 simp only[KT xs c0 p hp h,Option.bind_some]
 split
 ·rename_i e;rw[zin e]
 ·rename_i e
  obtain⟨k0,e1,hk,h0⟩:=zgV e
  rw[e1,qh k0 _ hk (by omega)]
  obtain⟨ys,g1,g2,g3,g4⟩:=ziV (f:=qm c0 qq) xs p (fun ys i=>some (ys.take i)) h k0 hk h0 (fun kb ys i j hj hij hl hx=>by
   unfold qm
   have hi:i < ys.length:=by omega
   simp only[zdJ,hx,hp,Option.bind_some,qh j _ hj (by omega),qh i _ hi (by omega),Int.toNat_natCast,List.getElem?_eq_getElem hi]
   rw[if_pos (by omega)]) (fun kb ys i hi hl=>by
   unfold qm qq
   simp only[Int.toNat_natCast]
   rw[if_neg (by omega),if_pos ⟨by omega,by omega,by omega⟩,if_pos (by omega),if_pos ⟨by omega,by omega,by omega⟩,zf3 _ _ (by omega)])
  rw[g4,g3]
def ZU(tx:Int)(h:zL):Bool:=decide (h.Tx=tx)
def xc(s:zp)(tx:Int)(yes:Bool):List zj:=if yes then(match s.Helds.find? (ZU tx) with|some h=>(Kr s.Cells h.Writes).1|none=>s.Cells) else s.Cells
def za6(s:zp)(tx:Int)(yes:Bool):zp×Int:=
 if XP s&&qM tx 1 60 then
  (if s.Ended.contains tx then(s,2) else
   (⟨s.Me,s.Own,s.Frozen,xc s tx yes,Xp s.Locks tx false,s.Helds.filter (fun h=>!ZU tx h),s.Wounded.filter (fun n=>!decide (n=tx)),iL tx s.Ended false,s.Rank⟩,0))
 else(zb7,1)
def xX(s:zp)(tx:Int)(yes:Bool):Nat→List zj
 |0=>s.Cells
 |i+1=>match s.Helds[i]? with
  |some h=>if ZU tx h&&yes then(Kr s.Cells h.Writes).1 else xX s tx yes i
  |none=>xX s tx yes i
theorem zcX(s:zp)(tx:Int)(yes:Bool):∀i,(∀j (hj:j < s.Helds.length),j < i→ZU tx s.Helds[j]=false)→xX s tx yes i=s.Cells
 |0,_=>rfl
 |i+1,H=>by
  unfold xX
  cases e:s.Helds[i]? with
  |none=>exact zcX s tx yes i fun j hj hi=>H j hj (by omega)
  |some h=>
   obtain⟨hl,rfl⟩:=List.getElem?_eq_some_iff.1 e
   simp only[H i hl (by omega),Bool.false_and,Bool.false_eq_true,if_false]
   exact zcX s tx yes i fun j hj hi=>H j hj (by omega)
theorem zbr(s:zp)(tx:Int){k:Nat}(hk:k < s.Helds.length)(hp:ZU tx s.Helds[k]=true):∀i,k < i→(∀j (hj:j < s.Helds.length),k < j→ZU tx s.Helds[j]=false)→xX s tx true i=(Kr s.Cells s.Helds[k].Writes).1
 |0,h,_=>by omega
 |i+1,h,H=>by
  unfold xX
  by_cases e:i=k
  ·subst e
   rw[List.getElem?_eq_getElem hk]
   simp only[hp,Bool.and_self,if_true]
  ·cases e1:s.Helds[i]? with
   |none=>exact zbr s tx hk hp i (by omega) H
   |some h=>
    obtain⟨hl,rfl⟩:=List.getElem?_eq_some_iff.1 e1
    simp only[H i hl (by omega),Bool.false_and,Bool.false_eq_true,if_false]
    exact zbr s tx hk hp i (by omega) H
theorem zb2(s:zp)(tx:Int):∀i,xX s tx false i=s.Cells
 |0=>rfl
 |i+1=>by
  unfold xX
  cases s.Helds[i]? with
  |none=>exact zb2 s tx i
  |some h=>simp only[Bool.and_false,Bool.false_eq_true,if_false];exact zb2 s tx i
theorem zgJ{s:zp}(h:XP s=true):jw (zaq s)=true∧jw s.Wounded=true∧jw s.Ended=true:=by
 unfold XP zg5 at h
 simp only[Bool.and_eq_true] at h
 have hh:=h.2.1.2
 have:(List.range s.Helds.length).all (Yj s)=true:=hh
 rw[zgQ] at this
 simp only[Bool.and_eq_true] at this
 exact⟨this.1.2,h.1.2.1.2,h.1.2.2⟩
theorem zfc{s:zp}(h:XP s=true){tx:Int}{i j:Nat}(hi:i < s.Helds.length)(hj:j < s.Helds.length)(h1:ZU tx s.Helds[i]=true)(h2:ZU tx s.Helds[j]=true):i=j:=by
 have hg:=(zgJ h).1
 unfold ZU at h1 h2
 have h1:=of_decide_eq_true h1
 have h2:=of_decide_eq_true h2
 have hl:(zaq s).length=s.Helds.length:=by unfold zaq;simp
 have e:∀k (hk:k < s.Helds.length),(zaq s)[k]'(by omega)=s.Helds[k].Tx:=fun k hk=>by unfold zaq;simp
 rcases Nat.lt_trichotomy i j with h|h|h
 ·have:=Xx hg (by omega) h
  rw[e i hi,e j hj] at this
  omega
 ·exact h
 ·have:=Xx hg (by omega) h
  rw[e i hi,e j hj] at this
  omega
theorem zjJ{α:Type}(p:α→Bool){xs:List α}{k:Nat}(hk:k < xs.length)(hp:p xs[k]=true)(hn:∀j (hj:j < xs.length),p xs[j]=true→j=k):xs.filter (fun x=>!p x)=xs.take k++xs.drop (k+1):=by
 have e:xs=xs.take k++xs[k]::xs.drop (k+1):=by rw[←List.drop_eq_getElem_cons hk,List.take_append_drop]
 have h1:(xs.take k).filter (fun x=>!p x)=xs.take k:=by
  rw[List.filter_eq_self]
  intro x hx
  obtain⟨j,hj,rfl⟩:=List.getElem_of_mem hx
  rw[List.getElem_take]
  simp only[List.length_take] at hj
  cases h:p xs[j] with
  |false=>rfl
  |true=>have:=hn j (by omega) h;omega
 have h2:(xs.drop (k+1)).filter (fun x=>!p x)=xs.drop (k+1):=by
  rw[List.filter_eq_self]
  intro x hx
  obtain⟨j,hj,rfl⟩:=List.getElem_of_mem hx
  rw[List.getElem_drop]
  simp only[List.length_drop] at hj
  cases h:p xs[k+1+j] with
  |false=>rfl
  |true=>have:=hn _ (by omega) h;omega
 conv=>lhs;rw[e]
 rw[List.filter_append,List.filter_cons,hp,h1,h2]
 rfl
theorem zny{s:zp}(h:XP s=true){tx:Int}{k:Nat}(hk:k < s.Helds.length)(hp:ZU tx s.Helds[k]=true):s.Helds.find? (ZU tx)=some s.Helds[k]:=by
 rw[List.find?_eq_some_iff_getElem]
 refine⟨hp,k,hk,rfl,fun j hj=> ?_⟩
 cases e:ZU tx s.Helds[j] with
 |false=>rfl
 |true=>have:=zfc h (by omega) hk e hp;omega
theorem ziZ{s:zp}(h:XP s=true)(tx:Int)(yes:Bool):xX s tx yes s.Helds.length=xc s tx yes:=by
 unfold xc
 cases yes with
 |false=>simpa using zb2 s tx _
 |true=>
  simp only[if_true]
  cases e:s.Helds.find? (ZU tx) with
  |none=>
   rw[List.find?_eq_none] at e
   exact zcX s tx true _ fun j hj _=>by
    have:=e s.Helds[j] (List.getElem_mem hj)
    simpa using this
  |some x=>
   rw[List.find?_eq_some_iff_getElem] at e
   obtain⟨hp,k,hk,rfl,_⟩:=e
   exact zbr s tx hk hp _ hk fun j hj hkj=>by
    cases e:ZU tx s.Helds[j] with
    |false=>rfl
    |true=>have:=zfc h hj hk e hp;omega
theorem zkX(xs:List Int)(x:Int)(h:xs.length≤1048576):J9 xs x=some (xs.filter (fun n=>!decide (n=x))):=by
 unfold J9
 rw[zev xs (fun n=>!decide (n=x)) (fun ys=>some ys) h (fun kb ys i hi hy=> ?_) (fun kb ys=> ?_)]
 ·unfold xS
  simp only[zN hi,Option.bind_some,qh i _ hi (by omega)]
  rw[if_pos (by omega)]
  by_cases c:xs[i]=x
  ·simp[c]
  ·simp only[c,not_false_eq_true,if_true,decide_false,Bool.not_false]
   rw[if_pos (by simp;omega)]
 ·unfold xS xM
  rw[if_neg (by omega)]
theorem znE{xs:List Int}(h:jw xs=true):zeS xs:=List.pairwise_iff_getElem.2 fun i j hi hj hij=>Xx h hj hij
theorem zcF(s:zp)(tx:Int)(yes:Bool)(h:zu s≤1048576):ZG s tx yes=some (za6 s tx yes):=by
 have hc:s.Cells.length≤1048576:=by unfold zu at h;omega
 have hk:s.Locks.length≤1048576:=by unfold zu at h;omega
 have hw:s.Wounded.length≤1048576:=by unfold zu at h;omega
 have he:s.Ended.length≤1048576:=by unfold zu at h;omega
 have hH:z6 s.Helds≤1048576:=by unfold zu at h;omega
 have hh:s.Helds.length≤1048576:=by unfold z6 at hH;omega
 unfold ZG za6
 have J:yA s tx yes true=some (zb7,1):=rfl
 simp only[zeK _ h,zeU,Option.bind_some]
 cases hs:XP s with
 |false=>simpa using J
 |true=>
  cases hx:qM tx 1 60 with
  |false=>simpa using J
  |true=>
   simp only[if_true,Bool.not_true,Bool.and_self]
   unfold yA
   rw[if_neg (by simp)]
   simp only[zlr _ h,zaI _ _ he,Option.bind_some]
   cases s.Ended.contains tx with
   |true=>simp only[if_true]
   |false=>
    simp only[Bool.false_eq_true,if_false]
    refine qQ (fun i=>((s.Helds.take i).filter (fun h=>!ZU tx h),(i:Int),xX s tx yes i)) _ s.Helds.length (by omega) (fun kb i hi=> ?_) (fun kb=> ?_) (by simp[xX])
    ·have hl:=List.length_filter_le (fun h=>!ZU tx h) (s.Helds.take i)
     have hwl:=XU hH hi
     simp only[List.length_take] at hl
     unfold Z1
     simp only[zN hi,Option.bind_some,qh i _ hi (by omega),List.take_succ_eq_append_getElem hi,List.filter_append,xX,List.getElem?_eq_getElem hi,zdC _ _ hc hwl]
     rw[if_pos (by omega)]
     by_cases e:s.Helds[i].Tx=tx
     ·have e1:ZU tx s.Helds[i]=true:=decide_eq_true e
      cases yes<;>simp[e,e1]
     ·have e1:ZU tx s.Helds[i]=false:=decide_eq_false e
      have e2:[s.Helds[i]].filter (fun h=>!ZU tx h)=[s.Helds[i]]:=by simp[e1]
      rw[if_pos e,e2,if_pos (by simp only[List.length_append,List.length_singleton];omega)]
      simp only[e1,Bool.false_and,Bool.false_eq_true,if_false]
    ·unfold Z1 Z4
     have hg:=(zdu hs).2.2.2
     rw[if_neg (by simp),List.take_length]
     simp only[zlo _ _ _ hk,zkX _ _ hw,zlN _ _ he,Option.bind_some,ziZ hs,Xp,hg,if_true]
theorem zi1(xs:List Int)(z:Int)(h:xs.length≤1048576):yh xs z=some (Kh (fun y=>decide (z=y)) xs):=by
 unfold yh
 rw[QP xs (fun y=>decide (z=y)) (by omega) (fun kb i hi=> ?_) (fun kb=> ?_)]
 ·unfold yy
  simp only[zN hi,Option.bind_some,qh i _ hi (by omega)]
  rw[if_pos (by omega)]
  simp
 ·unfold yy
  rw[if_neg (by omega)];rfl
theorem zcE(s:zp)(tx:Int)(yes:Bool)(h:zu s≤1048576):yH s tx yes=some (za6 s tx yes):=by
 have hc:s.Cells.length≤1048576:=by unfold zu at h;omega
 have hk:s.Locks.length≤1048576:=by unfold zu at h;omega
 have hw:s.Wounded.length≤1048576:=by unfold zu at h;omega
 have he:s.Ended.length≤1048576:=by unfold zu at h;omega
 have hH:z6 s.Helds≤1048576:=by unfold zu at h;omega
 have hh:s.Helds.length≤1048576:=by unfold z6 at hH;omega
 unfold yH za6
 have J:yx s tx yes true=some (zb7,1):=rfl
 simp only[zfz _ h,zjK,Option.bind_some]
 cases hs:XP s with
 |false=>simpa using J
 |true=>
  cases hx:qM tx 1 60 with
  |false=>simpa using J
  |true=>
   simp only[if_true,Bool.not_true,Bool.and_self]
   unfold yx
   rw[if_neg (by simp)]
   have hml:(s.Helds.map (·.Tx)).length≤1048576:=by simpa using hh
   simp only[zim _ h,zbs _ _ he,zhK _ hh,zi1 _ _ hml,Option.bind_some]
   have fin:∀cs hs',cs=xc s tx yes→hs'=s.Helds.filter (fun h=>!ZU tx h)→jt s tx (cs,hs')=some ((⟨s.Me,s.Own,s.Frozen,xc s tx yes,Xp s.Locks tx false,s.Helds.filter (fun h=>!ZU tx h),s.Wounded.filter (fun n=>!decide (n=tx)),iL tx s.Ended false,s.Rank⟩:zp),(0:Int)):=by
    intro cs hs' e1 e2
    subst e1;subst e2
    unfold jt
    have hasc:=znE (zgJ hs).2.2
    simp only[zd0 _ _ hk,zap s.Wounded tx (fun n=>decide (n=tx)) (fun v=>by simp[jN]) hw,zjv _ _ hasc he,Option.bind_some]
   cases s.Ended.contains tx with
   |true=>simp only[if_true]
   |false=>
    simp only[Bool.false_eq_true,if_false]
    have hex:=QV (fun y=>decide (tx=y)) (s.Helds.map (·.Tx))
    cases hi:(s.Helds.map (·.Tx)).findIdx? (fun y=>decide (tx=y)) with
    |none=>
     have e0:Kh (fun y=>decide (tx=y)) (s.Helds.map (·.Tx))= -1:=by unfold Kh;rw[hi]
     rw[e0,if_neg (by omega)]
     rw[List.findIdx?_eq_none_iff] at hi
     have hno:∀x∈s.Helds,ZU tx x=false:=fun x hx=>by
      have:=hi x.Tx (List.mem_map_of_mem hx)
      unfold ZU
      have h1:¬tx=x.Tx:=of_decide_eq_false this
      exact decide_eq_false (fun e=>h1 e.symm)
     refine fin _ _ ?_ ?_
     ·unfold xc
      have:s.Helds.find? (ZU tx)=none:=by rw[List.find?_eq_none];intro x hx;simp[hno x hx]
      rw[this]
      simp
     ·symm
      rw[List.filter_eq_self]
      intro x hx
      simp[hno x hx]
    |some k=>
     have e0:Kh (fun y=>decide (tx=y)) (s.Helds.map (·.Tx))=(k:Int):=by unfold Kh;rw[hi]
     rw[List.findIdx?_eq_some_iff_getElem] at hi
     obtain⟨hkl,hp,_⟩:=hi
     have hkl:k < s.Helds.length:=by simpa using hkl
     have hp:ZU tx s.Helds[k]=true:=by
      have h1:=of_decide_eq_true hp
      rw[List.getElem_map] at h1
      exact decide_eq_true h1.symm
     have hcut:=zjJ (ZU tx) hkl hp fun j hj hpj=>zfc hs hj hkl hpj hp
     have hwl:=XU hH hkl
     have hdel:ZQ s.Helds (k:Int) (IntKind.wrap .i64 ((k:Int)+1))=some (s.Helds.filter (fun h=>!ZU tx h)):=by
      unfold ZQ
      rw[qh k _ hkl (by omega),if_pos ⟨by omega,by omega,by omega,by omega⟩,Int.toNat_natCast,Int.toNat_natCast,hcut]
     rw[e0,if_pos (by omega)]
     have hf:=zny hs hkl hp
     cases yes with
     |false=>
      simp only[Bool.false_eq_true,if_false]
      unfold yl
      rw[hdel,Option.bind_some]
      exact fin _ _ (by unfold xc;simp) rfl
     |true=>
      simp only[if_true,zN hkl,Option.bind_some,zdk _ _ hc hwl]
      unfold yl
      rw[hdel,Option.bind_some]
      exact fin _ _ (by unfold xc;rw[hf];simp) rfl
theorem zgi(p:zL→Bool):∀xs:List zL,jW (fun x:zL=>x.Writes.length) (xs.filter p)≤jW (fun x:zL=>x.Writes.length) xs
 |[]=>by simp
 |x::xs=>by
  have:=zgi p xs
  rw[List.filter_cons]
  split
  ·simp only[jW];omega
  ·simp only[jW];omega
theorem zhx(s:zp)(tx:Int)(yes:Bool)(h:zu s≤1048576):zu (za6 s tx yes).1≤1048576:=by
 unfold za6
 split
 ·rename_i hc
  simp only[Bool.and_eq_true] at hc
  split
  ·exact h
  ·have:=zhV hc.1
   have h1:(xc s tx yes).length≤s.Cells.length+60:=by
    unfold xc
    split
    ·split
     ·rename_i x _
      have:=zie s.Cells x.Writes
      omega
     ·omega
    ·omega
   have h2:=zgF s.Locks tx false
   have h3:=List.length_filter_le (fun h=>!ZU tx h) s.Helds
   have h4:=List.length_filter_le (fun n:Int=>!decide (n=tx)) s.Wounded
   have h5:=zmA tx s.Ended false
   have h6:=zgi (fun h=>!ZU tx h) s.Helds
   unfold zu at this ⊢
   rw[yL] at this ⊢
   simp only[Bool.false_eq_true,if_false] at h5
   simp only
   omega
 ·simp[zb7,zu,z6,jW]
theorem zb0(a1:zp)(a2:Int)(a3:Bool)(h1:zay a1)(h2:inK .i64 a2)(h3:True):yG a1 a2 a3=some true:=by
 unfold yG
 rw[zkH a1 h1 _ (by omega) (by omega)]
 simp only[Option.bind_some]
 split
 ·rfl
 ·rename_i hz
  have hl:zu a1≤1048576:=by omega
  have e1:=zcF a1 a2 a3 hl
  have e2:=zcE a1 a2 a3 hl
  have hr:=zhx a1 a2 a3 hl
  generalize za6 a1 a2 a3=r at e1 e2 hr
  obtain⟨m,g1,g2,g3,g4,g5,g6,g7,g8,g9,g10⟩:=zfk r.1 hr
  obtain⟨n,f1,f2,f3,f4,f5,f6,f7,f8,f9,f10⟩:=zfk a1 hl
  have q1:¬m.1 < 0:=by omega
  have q2:¬n.1 < 0:=by omega
  simp[zkI _ hl,e1,e2,zhf _ _ hr,zhf _ _ hl,f1,f3,f4,f5,f6,f7,f8,f9,g1,g3,g4,g5,g6,g7,g8,g9,g10,q1,q2,jE,jd,jG]
end Go.AW
