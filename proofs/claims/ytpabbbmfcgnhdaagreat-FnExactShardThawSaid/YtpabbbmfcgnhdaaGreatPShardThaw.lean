/- Plain laws: what the plain functions answer. Conditions: each theorem's own. -/
import Derived.Test.YtpabbbmfcgnhdaaGreatMShardThaw
set_option linter.unusedVariables false
set_option linter.unusedSimpArgs false
set_option maxRecDepth 100000
namespace Go.AW
theorem w64{n:Int}(h1:-9223372036854775808≤n)(h2:n < 9223372036854775808):IntKind.wrap .i64 n=n:=by
 rw[IntKind.wrap_i64];omega
theorem zO{α:Type}{xs:List α}{i:Nat}(h:i < xs.length):idx xs (i:Int)=some xs[i]:=by
 unfold idx
 rw[if_pos (by omega)]
 simp[h]
theorem zju{α:Type}(xs:List α)(i:Nat):idx xs (i:Int)=xs[i]?:=by
 unfold idx
 rw[if_pos (by omega)]
 simp
theorem zi3{S R:Type}{f:(S→Option R)→S→Option R}(st:Nat→S)(stop:Nat→Option (Option R))(k:Option R)(n:Nat)
  (hs:∀kb i,i < n→(∀j,j < i→stop j=none)→f kb (st i)=match stop i with|some r=>r|none=>kb (st (i+1))) (he:∀kb,(∀j,j < n→stop j=none)→f kb (st n)=k):
  ∀(m i:Nat),i≤n→(∀j,j < i→stop j=none)→n - i < m→iter f m (st i)=match ((List.range n).drop i).findSome? stop with|some r=>r|none=>k
 |0,i,_,_,h=>by omega
 |m+1,i,hi,hp,h=>by
  unfold iter
  by_cases e:i=n
  ·subst e
   rw[he _ hp]
   simp[List.drop_eq_nil_of_le]
  ·have hlt:i < n:=by omega
   rw[hs _ i hlt hp,List.drop_eq_getElem_cons (by simpa using hlt)]
   simp only[List.getElem_range,List.findSome?_cons]
   cases hq:stop i with
   |some r=>rfl
   |none=>exact zi3 st stop k n hs he m (i+1) (by omega) (fun j hj=>by
     by_cases e':j=i
     ·subst e';exact hq
     ·exact hp j (by omega)) (by omega)
theorem zeS{S R:Type}{f:(S→Option R)→S→Option R}(st:Nat→S)(stop:Nat→Option (Option R))(k:Option R)(n:Nat)(hn:n≤1152921504606846976)
  (hs:∀kb i,i < n→(∀j,j < i→stop j=none)→f kb (st i)=match stop i with|some r=>r|none=>kb (st (i+1))) (he:∀kb,(∀j,j < n→stop j=none)→f kb (st n)=k) {s0:S} (h0:s0=st 0):
  iter f FU s0=match (List.range n).findSome? stop with|some r=>r|none=>k:=by
 subst h0
 have:=zi3 st stop k n hs he FU 0 (by omega) (fun j hj=>by omega) (by unfold FU;omega)
 simpa using this
theorem zbn{S R:Type}{f:(S→Option R)→S→Option R}(st:Nat→S)(stop:Nat→Option (Option R))(k:Option R)(n:Nat)(hn:n≤1152921504606846976)
  (hs:∀kb i,i < n→f kb (st i)=match stop i with|some r=>r|none=>kb (st (i+1))) (he:∀kb,f kb (st n)=k) {s0:S} (h0:s0=st 0):
  iter f FU s0=match (List.range n).findSome? stop with|some r=>r|none=>k:=
 zeS st stop k n hn (fun kb i hi _=>hs kb i hi) (fun kb _=>he kb) h0
theorem qS{S R:Type}{f:(S→Option R)→S→Option R}(st:Nat→S)(k:Option R)(n:Nat)(hn:n≤1152921504606846976)
  (hs:∀kb i,i < n→f kb (st i)=kb (st (i+1))) (he:∀kb,f kb (st n)=k) {s0:S} (h0:s0=st 0):iter f FU s0=k:=by
 rw[zbn st (fun _=>none) k n hn (fun kb i hi=>hs kb i hi) he h0]
 have:(List.range n).findSome? (fun _=>(none:Option (Option R)))=none:=by
  rw[List.findSome?_eq_none_iff];intro x _;rfl
 rw[this]
theorem zcf{S R:Type}{f:(S→Option R)→S→Option R}(st:Nat→S)(good:Nat→Bool)(r k:Option R)(n:Nat)(hn:n≤1152921504606846976)
  (hs:∀kb i,i < n→(∀j,j < i→good j=true)→f kb (st i)=if good i=true then kb (st (i+1)) else r) (he:∀kb,(∀j,j < n→good j=true)→f kb (st n)=k) {s0:S} (h0:s0=st 0):
  iter f FU s0=if (List.range n).all good=true then k else r:=by
 have tr:∀j,(if good j=true then(none:Option (Option R)) else some r)=none→good j=true:=fun j h=>by
  split at h
  ·assumption
  ·cases h
 rw[zeS st (fun i=>if good i=true then none else some r) k n hn (fun kb i hi hp=>by rw[hs kb i hi (fun j hj=>tr j (hp j hj))];split<;>rfl) (fun kb hp=>he kb (fun j hj=>tr j (hp j hj))) h0]
 by_cases e:(List.range n).all good=true
 ·have:(List.range n).findSome? (fun i=>if good i=true then none else some r)=none:=by
   rw[List.findSome?_eq_none_iff]
   intro x hx
   rw[List.all_eq_true] at e
   simp[e x hx]
  rw[this,if_pos e]
 ·rw[if_neg e]
  cases h:(List.range n).findSome? (fun i=>if good i=true then none else some r) with
  |none=>
   exfalso
   apply e
   rw[List.all_eq_true]
   intro x hx
   rw[List.findSome?_eq_none_iff] at h
   exact tr x (h x hx)
  |some q=>
   obtain⟨x,hx,hq⟩:=List.exists_of_findSome?_eq_some h
   split at hq
   ·cases hq
   ·cases hq;rfl
theorem jF{S R:Type}{f:(S→Option R)→S→Option R}(st:Nat→S)(good:Nat→Bool)(r k:Option R)(n:Nat)(hn:n≤1152921504606846976)
  (hs:∀kb i,i < n→f kb (st i)=if good i=true then kb (st (i+1)) else r) (he:∀kb,f kb (st n)=k) {s0:S} (h0:s0=st 0):
  iter f FU s0=if (List.range n).all good=true then k else r:=
 zcf st good r k n hn (fun kb i hi _=>hs kb i hi) (fun kb _=>he kb) h0
theorem X2{α R:Type}{f:(List α×Int→Option R)→List α×Int→Option R}(xs:List α)(z:α)(k:List α→Option R)(hn:xs.length≤2147483648)
  (hs:∀kb (ys:List α) (i:Nat) (hi:i < xs.length),ys.length=xs.length→f kb (ys,(i:Int))=kb (ys.set i xs[i],((i+1:Nat):Int)))
  (he:∀kb (ys:List α),f kb (ys,(xs.length:Int))=k ys):iter f FU (List.replicate xs.length z,0)=k xs:=by
 refine qS (fun i=>(xs.take i++List.replicate (xs.length - i) z,(i:Int))) _ xs.length (by omega) (fun kb i hi=> ?_) (fun kb=> ?_) (by simp)
 ·rw[hs kb _ i hi (by simp;omega)]
  congr 2
  have:xs.length - i=(xs.length - (i+1))+1:=by omega
  have hk:min i xs.length=i:=by omega
  show _=(List.take (i+1) xs++_)
  rw[this,List.replicate_succ,List.set_append_right _ _ (by simp;omega),show List.take (i+1) xs=List.take i xs++[xs[i]] from List.take_succ_eq_append_getElem hi]
  simp only[List.length_take,hk,Nat.sub_self,List.set_cons_zero]
  rw[List.append_assoc]
  rfl
 ·rw[he]
  simp
theorem YM{α:Type}[DecidableEq α]{xs ys:List α}(h:xs.length=ys.length):(List.range xs.length).all (fun i=>decide (xs[i]? =ys[i]?))=decide (xs=ys):=by
 by_cases e:xs=ys
 ·subst e;simp
 ·rw[decide_eq_false e,List.all_eq_false]
  apply Classical.byContradiction
  intro hc
  apply e
  apply List.ext_getElem?
  intro i
  by_cases hi:i < xs.length
  ·apply Classical.byContradiction
   intro hne
   exact hc ⟨i,List.mem_range.2 hi,by simpa using hne⟩
  ·rw[List.getElem?_eq_none (by omega),List.getElem?_eq_none (by omega)]
theorem qm(i:Nat)(n:Nat)(h:i < n)(hn:n≤1152921504606846976):IntKind.wrap .i64 ((i:Int)+1)=((i+1:Nat):Int):=by
 rw[w64 (by omega) (by omega)];omega
def ziE{α:Type}(p:α→Bool)(xs:List α):Int:=match xs.findIdx? p with
 |some k=>(k:Int)
 |none=>-1
theorem ZC{α:Type}(p:α→Bool)(xs:List α):decide (0≤ziE p xs)=xs.any p:=by
 unfold ziE
 cases h:xs.findIdx? p with
 |none=>
  rw[List.findIdx?_eq_none_iff] at h
  have:xs.any p=false:=by rw[List.any_eq_false];intro x hx;simp[h x hx]
  simp[this]
 |some k=>
  rw[List.findIdx?_eq_some_iff_getElem] at h
  obtain⟨hk,hp,_⟩:=h
  have:xs.any p=true:=List.any_eq_true.2 ⟨xs[k],List.getElem_mem hk,hp⟩
  simp[this]
theorem JV{α:Type}(xs:List α)(p:α→Bool){f:(Int→Option Int)→Int→Option Int}(hn:xs.length≤1152921504606846976)
  (hs:∀kb (i:Nat) (hi:i < xs.length),f kb (i:Int)=if p xs[i]=true then some (i:Int) else kb ((i+1:Nat):Int)) (he:∀kb,f kb (xs.length:Int)=some (-1)):iter f FU 0=some (ziE p xs):=by
 rw[zbn (s0:=(0:Int)) (fun i=>(i:Int)) (fun i:Nat=>(xs[i]?).bind fun x=>if p x=true then some (some (i:Int)) else none) (some (-1)) xs.length hn (fun kb i hi=> ?_) (fun kb=>he kb) rfl]
 ·have key:∀(ys:List α) (o:Nat),(List.range ys.length).findSome? (fun i:Nat=>(ys[i]?).bind fun x=>if p x=true then some (some ((o+i:Nat):Int)) else none)=(ys.findIdx? p).map fun k=>some ((o+k:Nat):Int):=by
   intro ys
   induction ys with
   |nil=>intro o;rfl
   |cons y ys ih=>
    intro o
    rw[List.length_cons,List.range_succ_eq_map,List.findSome?_cons,List.findSome?_map,List.findIdx?_cons]
    simp only[List.getElem?_cons_zero,Option.bind_some]
    by_cases e:p y=true
    ·simp[e]
    ·simp only[e,if_false,Function.comp_def,List.getElem?_cons_succ,Bool.false_eq_true]
     have:=ih (o+1)
     rw[show(fun i:Nat=>(ys[i]?).bind fun x=>if p x=true then some (some ((o+(i+1):Nat):Int)) else none)=fun i:Nat=>(ys[i]?).bind fun x=>if p x=true then some (some ((o+1+i:Nat):Int)) else none from by funext i;rw[show o+(i+1)=o+1+i by omega]]
     rw[this]
     cases ys.findIdx? p<;>simp;omega
  have:=key xs 0
  simp only[Nat.zero_add] at this
  rw[this]
  unfold ziE
  cases xs.findIdx? p<;>rfl
 ·rw[hs kb i hi,List.getElem?_eq_getElem hi]
  simp only[Option.bind_some]
  by_cases e:p xs[i]=true<;>simp[e]
theorem zge{α:Type}(xs:List α)(p:α→Bool):((List.range xs.length).all fun i=>((xs[i]?).map p).getD true)=xs.all p:=by
 rw[Bool.eq_iff_iff,List.all_eq_true,List.all_eq_true]
 constructor
 ·intro H x hx
  obtain⟨i,hi,rfl⟩:=List.mem_iff_getElem.1 hx
  have:=H i (List.mem_range.2 hi)
  rw[List.getElem?_eq_getElem hi] at this
  exact this
 ·intro H i hi
  have hi:=List.mem_range.1 hi
  rw[List.getElem?_eq_getElem hi]
  exact H _ (List.getElem_mem hi)
theorem zfr{α R:Type}(xs:List α)(p:α→Bool)(r k:Option R){f:(Int→Option R)→Int→Option R}(hn:xs.length≤1152921504606846976)
  (hs:∀kb (i:Nat) (hi:i < xs.length),f kb (i:Int)=if p xs[i]=true then r else kb ((i+1:Nat):Int)) (he:∀kb,f kb (xs.length:Int)=k):iter f FU 0=if xs.any p=true then r else k:=by
 rw[jF (s0:=(0:Int)) (fun i=>(i:Int)) (fun i=>((xs[i]?).map fun x=>!p x).getD true) r k xs.length hn (fun kb i hi=> ?_) (fun kb=>he kb) rfl,zge xs fun x=>!p x]
 ·cases h:xs.any p with
  |true=>
   have:(xs.all fun x=>!p x)=false:=by
    rw[List.all_eq_false];obtain⟨x,hx,hp⟩:=List.any_eq_true.1 h;exact⟨x,hx,by simp[hp]⟩
   simp[this]
  |false=>
   have:(xs.all fun x=>!p x)=true:=by
    rw[List.all_eq_true];intro x hx;rw[List.any_eq_false] at h;simp[h x hx]
   simp[this]
 ·rw[hs kb i hi,List.getElem?_eq_getElem hi]
  cases h:p xs[i]<;>simp[h]
theorem Xg{α R:Type}(xs:List α)(p:α→Bool)(r k:Option R){f:(Int→Option R)→Int→Option R}(hn:xs.length≤1152921504606846976)
  (hs:∀kb (i:Nat) (hi:i < xs.length),f kb (i:Int)=if p xs[i]=true then kb ((i+1:Nat):Int) else r) (he:∀kb,f kb (xs.length:Int)=k):iter f FU 0=if xs.all p=true then k else r:=by
 rw[jF (s0:=(0:Int)) (fun i=>(i:Int)) (fun i=>((xs[i]?).map p).getD true) r k xs.length hn (fun kb i hi=> ?_) (fun kb=>he kb) rfl,zge xs p]
 rw[hs kb i hi,List.getElem?_eq_getElem hi]
 rfl
def j3{α:Type}(f:α→Nat):List α→Nat
 |[]=>0
 |x::xs=>f x+j3 f xs
theorem zbj{α:Type}(f:α→Nat):∀(xs ys:List α),j3 f (xs++ys)=j3 f xs+j3 f ys
 |[],ys=>by simp[j3]
 |x::xs,ys=>by simp[j3,zbj f xs ys];omega
theorem Xb{α:Type}(f:α→Nat){xs:List α}{i:Nat}(hi:i < xs.length):j3 f (xs.take (i+1))=j3 f (xs.take i)+f xs[i]:=by
 rw[List.take_succ_eq_append_getElem hi,zbj]
 simp[j3]
theorem kX{α:Type}(f:α→Nat)(xs:List α)(i:Nat):j3 f (xs.take i)≤j3 f xs:=by
 have:=zbj f (xs.take i) (xs.drop i)
 rw[List.take_append_drop] at this
 omega
theorem zkv{α:Type}(f:α→Nat){xs:List α}{i:Nat}(hi:i < xs.length):f xs[i]≤j3 f xs:=by
 have h1:=Xb f hi
 have h2:=kX f xs (i+1)
 omega
def qB(z lo hi:Int):Bool:=decide (lo≤z)&&decide (z≤hi)
theorem zdp(z lo hi:Int):yu z lo hi=some (qB z lo hi):=by
 unfold yu qB;by_cases h:lo≤z<;>simp[h]
theorem za8(z lo hi:Int):yj z lo hi=some (qB z lo hi):=by
 unfold yj qB;by_cases h:lo≤z<;>simp[h]
theorem zhr(z:Int):Q6 z=some (qB z 0 999):=by simp[Q6,zdp]
theorem ziB(z:Int):Ys z=some (qB z 0 999):=by simp[Ys,za8]
theorem zjE(z:Int):JU z=some (qB z 0 1000000000):=by simp[JU,zdp]
theorem zjo(z:Int):JT z=some (qB z 0 1000000000):=by simp[JT,za8]
theorem zgh(z:Int):QB z=some (qB z 1 60):=by simp[QB,zdp]
theorem zkW(z:Int):xT z=some (qB z 1 60):=by simp[xT,za8]
def qa(a:ze):Bool:=decide (0≤a.Lo)&&decide (a.Lo < a.Hi)&&decide (a.Hi≤1000)
theorem Zp(a:ze):qN a=some (qa a):=by
 unfold qN qa;by_cases h:0≤a.Lo<;>by_cases h':a.Lo < a.Hi<;>simp[h,h']
theorem Yc(a:ze):yf a=some (qa a):=by
 unfold yf qa;by_cases h:0≤a.Lo<;>by_cases h':a.Lo < a.Hi<;>simp[h,h']
theorem zji(z:Int):J4 z=some (qB z 0 3):=by simp[J4,za8]
theorem zei(xs:List ze)(h:xs.length≤maxLen)(z:Int)(h1:0≤z)(h2:z≤1048576):Zv xs z=some (if z < xs.length then -1 else z - xs.length):=by
 unfold Zv
 have:IntKind.wrap .i64 (z - (xs.length:Int))=z - xs.length:=by unfold maxLen at h;exact w64 (by omega) (by omega)
 rw[this]
 split<;>split<;>first|rfl|omega
theorem zeB(xs:List ze)(h:xs.length≤1048576):Zx xs=some xs:=by
 unfold Zx
 rw[if_pos ⟨by omega,by omega⟩]
 simp only[Int.toNat_natCast]
 refine X2 xs _ Yi (by omega) (fun kb ys i hi hy=> ?_) (fun kb ys=> ?_)
 ·unfold YW
  simp only[zO hi,zO (show i < ys.length by omega),yC,Option.bind_some,Int.toNat_natCast,qm i _ hi (by omega)]
  rw[if_pos (by omega)]
 ·unfold YW
  rw[if_neg (by omega)]
theorem zjk(a b:ze):Jy a b=some (decide (a=b)):=by
 unfold Jy
 cases a;cases b
 simp only[ze.mk.injEq]
 repeat' split
 all_goals simp_all
theorem ze8(xs ys:List ze)(h:xs.length≤1048576):Zw xs ys=some (decide (xs=ys)):=by
 unfold Zw
 split
 ·rename_i hl
  have:¬xs=ys:=fun e=>hl (by rw[e])
  simp[this]
 ·rename_i hl
  have hl:xs.length=ys.length:=by omega
  rw[jF (s0:=(0:Int)) (fun i=>(i:Int)) (fun i=>decide (xs[i]? =ys[i]?)) (some false) (some true) xs.length (by omega) (fun kb i hi=> ?_) (fun kb=> ?_) rfl,YM hl]
  ·by_cases e:xs=ys<;>simp[e]
  ·unfold YR
   simp only[zO hi,zO (show i < ys.length by omega),zjk,Option.bind_some,qm i _ hi (by omega)]
   rw[if_pos (by omega),List.getElem?_eq_getElem hi,List.getElem?_eq_getElem (show i < ys.length by omega)]
   simp
  ·unfold YR
   rw[if_neg (by omega)]
   rfl
def zbv(xs:List ze)(i:Nat):Bool:=match xs[i]? with
 |none=>true
 |some c=>qa c&&(i == 0||match xs[i - 1]? with|some p=>decide (p.Hi≤c.Lo)|none=>true)
def qf(xs:List ze):Bool:=decide (xs.length≤16)&&(List.range xs.length).all (zbv xs)
theorem xx(xs:List ze)(h:xs.length≤1048576):yh xs=some (qf xs):=by
 unfold yh qf
 split
 ·rename_i h1
  have:¬xs.length≤16:=by omega
  simp[this]
 ·rename_i h1
  have:xs.length≤16:=by omega
  rw[jF (s0:=(0:Int)) (fun i=>(i:Int)) (zbv xs) (some false) (some true) xs.length (by omega) (fun kb i hi=> ?_) (fun kb=> ?_) rfl]
  ·simp only[this,decide_true,Bool.true_and];split<;>simp_all
  ·unfold Yy Zi zbv
   simp only[zO hi,Zp,Option.bind_some,qm i _ hi (by omega),List.getElem?_eq_getElem hi]
   rw[if_pos (by omega)]
   cases qa xs[i]<;>simp
   by_cases h0:0 < i
   ·have h2:IntKind.wrap .i64 ((i:Int) - 1)=((i - 1:Nat):Int):=by rw[w64 (by omega) (by omega)];omega
    have h3:i - 1 < xs.length:=by omega
    have h4:¬i=0:=by omega
    simp only[h0,if_true,h2,zO h3,Option.bind_some,List.getElem?_eq_getElem h3,h4,false_or]
    by_cases h5:xs[i].Lo < xs[i - 1].Hi
    ·have:¬xs[i - 1].Hi≤xs[i].Lo:=by omega
     simp[h5,this]
    ·have:xs[i - 1].Hi≤xs[i].Lo:=by omega
     simp[h5,this]
   ·have h4:i=0:=by omega
    simp[h4]
  ·unfold Yy
   rw[if_neg (by omega)];rfl
theorem Xz(xs:List ze)(h:xs.length≤1048576):yP xs=some (qf xs):=by
 unfold yP qf
 rw[jF (s0:=(0:Int)) (fun i=>(i:Int)) (zbv xs) (some false) (some (decide (xs.length≤16))) xs.length (by omega) (fun kb i hi=> ?_) (fun kb=> ?_) rfl]
 ·split<;>simp_all
 ·unfold Yt Zn zbv
  simp only[zO hi,Yc,Option.bind_some,qm i _ hi (by omega),List.getElem?_eq_getElem hi]
  rw[if_pos (by omega)]
  cases qa xs[i]<;>simp
  by_cases h0:0 < i
  ·have h2:IntKind.wrap .i64 ((i:Int) - 1)=((i - 1:Nat):Int):=by rw[w64 (by omega) (by omega)];omega
   have h3:i - 1 < xs.length:=by omega
   have h4:¬i=0:=by omega
   simp only[h0,if_true,h2,zO h3,Option.bind_some,List.getElem?_eq_getElem h3,h4,false_or]
   by_cases h5:xs[i].Lo < xs[i - 1].Hi
   ·have:¬xs[i - 1].Hi≤xs[i].Lo:=by omega
    simp[h5,this]
   ·have:xs[i - 1].Hi≤xs[i].Lo:=by omega
    simp[h5,this]
  ·have h4:i=0:=by omega
   simp[h4]
 ·unfold Yt Yw
  rw[if_neg (by omega)]
  have:((xs.length:Int)≤16)↔xs.length≤16:=by omega
  simp[this]
theorem Q5{xs:List ze}(h:qf xs=true){i:Nat}(hi:i < xs.length):qa xs[i]=true:=by
 unfold qf at h
 simp only[Bool.and_eq_true,List.all_eq_true] at h
 have:=h.2 i (List.mem_range.2 hi)
 unfold zbv at this
 rw[List.getElem?_eq_getElem hi] at this
 simp only[Bool.and_eq_true] at this
 exact this.1
theorem Xq{xs:List ze}(h:qf xs=true):xs.length≤16:=by
 unfold qf at h;simp at h;exact h.1
def XH(xs:List ze)(z:Int):Int:=xs.foldl (fun at_ b=>if b.Lo≤at_∧at_ < b.Hi then b.Hi else at_) z
def yZ(xs:List ze)(a:ze):Bool:=decide (a.Hi≤XH xs a.Lo)
theorem zdI{xs:List ze}{i:Nat}(hi:i < xs.length)(z:Int):XH (xs.take (i+1)) z=if xs[i].Lo≤XH (xs.take i) z∧XH (xs.take i) z < xs[i].Hi then xs[i].Hi else XH (xs.take i) z:=by
 unfold XH
 rw[List.take_succ_eq_append_getElem hi,List.foldl_append]
 rfl
theorem zbs(xs:List ze)(a:ze)(h:xs.length≤1048576):yz xs a=some (yZ xs a):=by
 unfold yz yZ
 refine qS (fun i=>(XH (xs.take i) a.Lo,(i:Int))) _ xs.length (by omega) (fun kb i hi=> ?_) (fun kb=> ?_) (by simp[XH])
 ·unfold xh ZY
  simp only[zO hi,Option.bind_some,qm i _ hi (by omega),zdI hi]
  rw[if_pos (by omega)]
  generalize XH (xs.take i) a.Lo=z
  by_cases c1:xs[i].Lo≤z<;>by_cases c2:z < xs[i].Hi<;>simp[c1,c2]
 ·unfold xh xt
  rw[if_neg (by simp)]
  simp
theorem XT(xs:List ze)(a:ze)(h:xs.length≤1048576):jt xs a=some (qf xs&&qa a&&yZ xs a):=by
 have J:j4 xs a false=some (yZ xs a):=by
  unfold j4 yZ
  rw[if_neg (by simp)]
  refine qS (fun i=>(XH (xs.take i) a.Lo,(i:Int))) _ xs.length (by omega) (fun kb i hi=> ?_) (fun kb=> ?_) (by simp[XH])
  ·unfold QG yW
   simp only[zO hi,Option.bind_some,qm i _ hi (by omega),zdI hi]
   rw[if_pos (by omega)]
   generalize XH (xs.take i) a.Lo=z
   by_cases c1:xs[i].Lo≤z<;>by_cases c2:z < xs[i].Hi<;>simp[c1,c2]
  ·unfold QG QK
   rw[if_neg (by simp)]
   simp
 have J2:j4 xs a true=some false:=rfl
 unfold jt
 simp only[xx _ h,Zp,Option.bind_some]
 cases qf xs<;>cases qa a<;>simp[J,J2]
def zhh(xs:List Int)(i:Nat):Bool:=match xs[i]? with
 |none=>true
 |some c=>qB c 1 60&&(i == 0||match xs[i - 1]? with|some p=>decide (p < c)|none=>true)
def jD(xs:List Int):Bool:=(List.range xs.length).all (zhh xs)
theorem zgW(xs:List Int)(h:xs.length≤1048576):Ja xs=some (jD xs):=by
 unfold Ja jD
 rw[jF (s0:=(0:Int)) (fun i=>(i:Int)) (zhh xs) (some false) (some true) xs.length (by omega) (fun kb i hi=> ?_) (fun kb=> ?_) rfl]
 ·split<;>simp_all
 ·unfold kc ZV zhh
  simp only[zO hi,zgh,Option.bind_some,qm i _ hi (by omega),List.getElem?_eq_getElem hi]
  rw[if_pos (by omega)]
  cases qB xs[i] 1 60<;>simp
  by_cases h0:0 < i
  ·have h2:IntKind.wrap .i64 ((i:Int) - 1)=((i - 1:Nat):Int):=by rw[w64 (by omega) (by omega)];omega
   have h3:i - 1 < xs.length:=by omega
   have h4:¬i=0:=by omega
   simp only[h0,if_true,h2,zO h3,Option.bind_some,List.getElem?_eq_getElem h3,h4,false_or]
   by_cases h5:xs[i]≤xs[i - 1]
   ·have:¬xs[i - 1] < xs[i]:=by omega
    simp[h5,this]
   ·have:xs[i - 1] < xs[i]:=by omega
    simp[h5,this]
  ·have h4:i=0:=by omega
   simp[h4]
 ·unfold kc
  rw[if_neg (by omega)];rfl
theorem za3(xs:List Int)(h:xs.length≤1048576):yq xs=some (jD xs):=by
 unfold yq jD
 rw[jF (s0:=(0:Int)) (fun i=>(i:Int)) (zhh xs) (some false) (some true) xs.length (by omega) (fun kb i hi=> ?_) (fun kb=> ?_) rfl]
 ·split<;>simp_all
 ·unfold Jc yI zhh
  simp only[zO hi,zkW,Option.bind_some,qm i _ hi (by omega),List.getElem?_eq_getElem hi]
  rw[if_pos (by omega)]
  cases qB xs[i] 1 60<;>simp
  by_cases h0:0 < i
  ·have h2:IntKind.wrap .i64 ((i:Int) - 1)=((i - 1:Nat):Int):=by rw[w64 (by omega) (by omega)];omega
   have h3:i - 1 < xs.length:=by omega
   have h4:¬i=0:=by omega
   simp only[h0,if_true,h2,zO h3,Option.bind_some,List.getElem?_eq_getElem h3,h4,false_or]
   by_cases h5:xs[i]≤xs[i - 1]
   ·have:¬xs[i - 1] < xs[i]:=by omega
    simp[h5,this]
   ·have:xs[i - 1] < xs[i]:=by omega
    simp[h5,this]
  ·have h4:i=0:=by omega
   simp[h4]
 ·unfold Jc
  rw[if_neg (by omega)];rfl
theorem zcb{xs:List Int}(h:jD xs=true){i:Nat}(hi:i < xs.length):(1≤xs[i]∧xs[i]≤60)∧(0 < i→xs[i - 1]'(by omega) < xs[i]):=by
 unfold jD at h
 simp only[List.all_eq_true] at h
 have:=h i (List.mem_range.2 hi)
 unfold zhh qB at this
 rw[List.getElem?_eq_getElem hi] at this
 simp only[Bool.and_eq_true,decide_eq_true_eq,Bool.or_eq_true,beq_iff_eq] at this
 refine⟨this.1,fun h0=> ?_⟩
 rcases this.2 with e|e
 ·omega
 ·rw[List.getElem?_eq_getElem (show i - 1 < xs.length by omega)] at e
  simpa using e
theorem zcc{xs:List Int}(h:jD xs=true):∀{i j:Nat} (hj:j < xs.length) (hij:i < j),xs[i]'(by omega) < xs[j]
 |i,j+1,hj,hij=>by
  have h1:=(zcb h hj).2 (by omega)
  simp only[Nat.add_sub_cancel] at h1
  by_cases e:i=j
  ·subst e;exact h1
  ·have:=zcc h (i:=i) (j:=j) (by omega) (by omega)
   omega
theorem zeK{xs:List Int}(h:jD xs=true):∀{j:Nat} (hj:j < xs.length),(j:Int)+1≤xs[j]
 |0,hj=>by have:=(zcb h hj).1.1;omega
 |j+1,hj=>by
  have h1:=zeK h (j:=j) (by omega)
  have h2:=zcc h hj (i:=j) (by omega)
  omega
theorem zbT{xs:List Int}(h:jD xs=true):xs.length≤60:=by
 by_cases e:xs.length=0
 ·omega
 ·have h1:=zeK h (j:=xs.length - 1) (by omega)
  have h2:=(zcb h (i:=xs.length - 1) (by omega)).1.2
  omega
theorem KF{xs:List Int}(h:jD xs=true):xs.Nodup:=by
 refine List.pairwise_iff_getElem.2 fun i j hi hj hij=> ?_
 have:=zcc h hj hij
 omega
theorem zgO(xs:List Int):(Go.Lib.compact xs).length=xs.length↔∀i (h:i+1 < xs.length),xs[i+1]≠xs[i]:=by
 unfold Go.Lib.compact Go.Lib.compactUpTo
 rw[List.length_map]
 have:(List.filter (Go.Lib.keeps xs.toArray) (List.range xs.length)).length=xs.length↔∀i∈List.range xs.length,Go.Lib.keeps xs.toArray i=true:=by
  have:=List.length_filter_eq_length_iff (l:=List.range xs.length) (p:=Go.Lib.keeps xs.toArray)
  rw[List.length_range] at this
  exact this
 rw[this]
 constructor
 ·intro H i hi
  have:=H (i+1) (List.mem_range.2 hi)
  unfold Go.Lib.keeps at this
  intro e
  have h1:xs.toArray[i+1]! =xs[i+1]:=by rw[getElem!_pos _ _ (by simpa using hi)];simp
  have h2:xs.toArray[i]! =xs[i]:=by rw[getElem!_pos _ _ (by simp;omega)];simp
  simp[h1,h2,e] at this
 ·intro H i hi
  have hi:=List.mem_range.1 hi
  unfold Go.Lib.keeps
  cases i with
  |zero=>simp
  |succ i=>
   have h1:xs.toArray[i+1]! =xs[i+1]:=by rw[getElem!_pos _ _ (by simpa using hi)];simp
   have h2:xs.toArray[i]! =xs[i]:=by rw[getElem!_pos _ _ (by simp;omega)];simp
   have:=H i hi
   simp[h1,h2,this]
theorem zgC{xs:List Int}(hs:xs.Pairwise (·≤·)):(∀i (h:i+1 < xs.length),xs[i+1]≠xs[i])↔xs.Nodup:=by
 constructor
 ·intro H
  have lt:∀{i j:Nat} (hj:j < xs.length) (hij:i < j),xs[i]'(by omega) < xs[j]:=by
   intro i j
   induction j with
   |zero=>intro _ h;omega
   |succ j ih=>
    intro hj hij
    have h1:=H j hj
    have h2:=List.pairwise_iff_getElem.1 hs j (j+1) (by omega) hj (by omega)
    by_cases e:i=j
    ·subst e;omega
    ·have:=ih (by omega) (by omega);omega
  refine List.pairwise_iff_getElem.2 fun i j hi hj hij=> ?_
  have:=lt hj hij
  omega
 ·intro H i hi e
  exact List.pairwise_iff_getElem.1 H i (i+1) (by omega) hi (by omega) e.symm
theorem zic(zs:List Int):(zbg zs).Perm zs:=List.mergeSort_perm zs _
theorem zgi(zs:List Int):(zbg zs).Pairwise (·≤·):=by
 have:=List.pairwise_mergeSort (le:=fun x y:Int=>decide (x≤y)) (by intro a b c h1 h2;simp at *;omega) (by intro a b;simp;omega) zs
 exact this.imp fun h=>by simpa using h
theorem zgt(zs:List Int):(Go.Lib.compact (zbg zs)).length=zs.length↔zs.Nodup:=by
 rw[←XY zs,zgO,zgC (zgi zs)]
 exact(zic zs).nodup_iff
def kL{α:Type}(g:Nat→α)(xs:List α)(i:Nat):List α:=(List.range i).map g++xs.drop i
theorem Q2{α:Type}(g:Nat→α){xs:List α}{i:Nat}(h:i≤xs.length):(kL g xs i).length=xs.length:=by
 unfold kL
 simp
 omega
theorem K3{α:Type}(g:Nat→α){xs:List α}{i:Nat}(h:i < xs.length):idx (kL g xs i) (i:Int)=some xs[i]:=by
 rw[zju]
 unfold kL
 rw[List.getElem?_append_right (by simp)]
 simp[h]
theorem KM{α:Type}(g:Nat→α){xs:List α}{i:Nat}(h:i < xs.length):(kL g xs i).set i (g i)=kL g xs (i+1):=by
 unfold kL
 rw[List.set_append,if_neg (by simp),List.range_succ,List.map_append,List.append_assoc]
 congr 1
 have e:i - ((List.range i).map g).length=0:=by simp
 rw[e,List.drop_eq_getElem_cons h]
 rfl
theorem X0{α:Type}(g:Nat→α)(xs:List α):kL g xs 0=xs:=by simp[kL]
theorem KO{α:Type}(g:Nat→α)(xs:List α):kL g xs xs.length=(List.range xs.length).map g:=by simp[kL]
theorem YC{α:Type}{xs:List α}{i:Nat}{a:α}(h:i < xs.length):idx (xs.set i a) (i:Int)=some a:=by
 rw[zO (by simpa using h)]
 simp
theorem X1{α:Type}(g:Nat→α){n i:Nat}(h:i < n):idx ((List.range n).map g) (i:Int)=some (g i):=by
 rw[zO (by simpa using h)]
 simp
def zj2{α:Type}(xs:List α)(p:α→Bool)(k0:Nat):Nat→List α×Nat
 |0=>(xs,k0)
 |n+1=>match xs[k0+1+n]? with
  |some x=>if p x then zj2 xs p k0 n else((zj2 xs p k0 n).1.set (zj2 xs p k0 n).2 x,(zj2 xs p k0 n).2+1)
  |none=>zj2 xs p k0 n
def kC(xs:List zu)(i:Nat):Bool:=match xs[i]? with
 |none=>true
 |some c=>qB c.Key 0 999&&qB c.Value 0 1000000000&&(i == 0||match xs[i - 1]? with|some p=>decide (p.Key < c.Key)|none=>true)
def jb(xs:List zu):Bool:=decide (xs.length≤60)&&(List.range xs.length).all (kC xs)
theorem zaG(xs:List zu)(h:xs.length≤1048576):Qd xs=some (jb xs):=by
 unfold Qd jb
 split
 ·rename_i h1
  have:¬xs.length≤60:=by omega
  simp[this]
 ·rename_i h1
  have:xs.length≤60:=by omega
  rw[jF (s0:=(0:Int)) (fun i=>(i:Int)) (kC xs) (some false) (some true) xs.length (by omega) (fun kb i hi=> ?_) (fun kb=> ?_) rfl]
  ·simp only[this,decide_true,Bool.true_and];split<;>simp_all
  ·unfold xu yR kC
   simp only[zO hi,zhr,zjE,Option.bind_some,qm i _ hi (by omega),List.getElem?_eq_getElem hi]
   rw[if_pos (by omega)]
   cases qB xs[i].Key 0 999<;>simp
   cases qB xs[i].Value 0 1000000000<;>simp
   by_cases h0:0 < i
   ·have h2:IntKind.wrap .i64 ((i:Int) - 1)=((i - 1:Nat):Int):=by rw[w64 (by omega) (by omega)];omega
    have h3:i - 1 < xs.length:=by omega
    have h4:¬i=0:=by omega
    simp only[h0,if_true,h2,zO h3,Option.bind_some,List.getElem?_eq_getElem h3,h4,false_or]
    by_cases h5:xs[i].Key≤xs[i - 1].Key
    ·have:¬xs[i - 1].Key < xs[i].Key:=by omega
     simp[h5,this]
    ·have:xs[i - 1].Key < xs[i].Key:=by omega
     simp[h5,this]
   ·have h4:i=0:=by omega
    simp[h4]
  ·unfold xu
   rw[if_neg (by omega)];rfl
theorem za4(xs:List zu)(h:xs.length≤1048576):Qh xs=some (jb xs):=by
 unfold Qh jb
 rw[jF (s0:=(0:Int)) (fun i=>(i:Int)) (kC xs) (some false) (some (decide (xs.length≤60))) xs.length (by omega) (fun kb i hi=> ?_) (fun kb=> ?_) rfl]
 ·split<;>simp_all
 ·unfold xE yS kC
  simp only[zO hi,ziB,zjo,Option.bind_some,qm i _ hi (by omega),List.getElem?_eq_getElem hi]
  rw[if_pos (by omega)]
  cases qB xs[i].Key 0 999<;>simp
  cases qB xs[i].Value 0 1000000000<;>simp
  by_cases h0:0 < i
  ·have h2:IntKind.wrap .i64 ((i:Int) - 1)=((i - 1:Nat):Int):=by rw[w64 (by omega) (by omega)];omega
   have h3:i - 1 < xs.length:=by omega
   have h4:¬i=0:=by omega
   simp only[h0,if_true,h2,zO h3,Option.bind_some,List.getElem?_eq_getElem h3,h4,false_or]
   by_cases h5:xs[i].Key≤xs[i - 1].Key
   ·have:¬xs[i - 1].Key < xs[i].Key:=by omega
    simp[h5,this]
   ·have:xs[i - 1].Key < xs[i].Key:=by omega
    simp[h5,this]
  ·have h4:i=0:=by omega
   simp[h4]
 ·unfold xE xn
  rw[if_neg (by omega)]
  have:((xs.length:Int)≤60)↔xs.length≤60:=by omega
  simp[this]
def asc(xs:List zu):Prop:=∀i j (hi:i < xs.length) (hj:j < xs.length),i < j→xs[i].Key < xs[j].Key
theorem zcU{xs:List zu}(h:jb xs=true):xs.length≤60:=by
 unfold jb at h;simp at h;exact h.1
theorem zcv{xs:List zu}(h:jb xs=true){i:Nat}(hi:i < xs.length):kC xs i=true:=by
 unfold jb at h
 simp only[Bool.and_eq_true,List.all_eq_true] at h
 exact h.2 i (List.mem_range.2 hi)
theorem zfz{xs:List zu}(h:jb xs=true){i:Nat}(hi:i < xs.length):0≤xs[i].Key∧xs[i].Key≤999∧0≤xs[i].Value∧xs[i].Value≤1000000000:=by
 have:=zcv h hi
 unfold kC qB at this
 rw[List.getElem?_eq_getElem hi] at this
 simp only[Bool.and_eq_true,decide_eq_true_eq] at this
 exact⟨this.1.1.1,this.1.1.2,this.1.2.1,this.1.2.2⟩
theorem zfG{xs:List zu}(h:jb xs=true):asc xs:=by
 have step:∀i (hi:i+1 < xs.length),xs[i].Key < xs[i+1].Key:=by
  intro i hi
  have:=zcv h hi
  unfold kC at this
  rw[List.getElem?_eq_getElem hi] at this
  simp only[Bool.and_eq_true,Nat.add_sub_cancel,List.getElem?_eq_getElem (show i < xs.length by omega)] at this
  simpa using this.2
 intro i j hi hj hlt
 induction j with
 |zero=>omega
 |succ j ih=>
  by_cases e:i=j
  ·subst e;exact step i hj
  ·have:=ih (by omega) (by omega)
   have:=step j hj
   omega
theorem mid{a b:Nat}(h:a < b)(hb:b≤1048576):IntKind.wrap .i64 (Int.fdiv (IntKind.wrap .u64 (IntKind.wrap .i64 ((a:Int)+(b:Int)))) (2 ^ (min (Int.toNat 1) (IntKind.bits .u64))))=(((a+b) / 2:Nat):Int):=by
 rw[w64 (n:=(a:Int)+b) (by omega) (by omega)]
 have h1:IntKind.wrap .u64 ((a:Int)+b)=(a:Int)+b:=by
  unfold IntKind.wrap
  simp only[IntKind.bits,IntKind.signed]
  simp
  omega
 rw[h1]
 have h2:(min (Int.toNat 1) (IntKind.bits .u64))=1:=by decide
 rw[h2]
 have h3:((a:Int)+b).fdiv (2 ^ 1)=(((a+b) / 2:Nat):Int):=by
  rw[Int.fdiv_eq_ediv_of_nonneg _ (by decide)]
  omega
 rw[h3]
 exact w64 (by omega) (by omega)
theorem zjx(xs:List zu)(k:Int)(hs:asc xs)(hl:xs.length≤1048576)(hk:∀i (hi:i < xs.length),-1000000000000≤xs[i].Key∧xs[i].Key≤1000000000000)(h1:-9000000000000000000≤k)(h2:k≤9000000000000000000):
  ∃p:Nat,p≤xs.length∧(∀i (hi:i < xs.length),i < p↔xs[i].Key < k)∧JL xs k=some ((p:Int),decide ((xs[p]?).map (·.Key)=some k)):=by
 have hc:∀i (hi:i < xs.length),Zf xs[i] k=some (xs[i].Key - k):=fun i hi=>by
  unfold Zf
  have:=hk i hi
  rw[w64 (by omega) (by omega)]
 have loop:∀(m lo hi:Nat),lo≤hi→hi≤xs.length→hi - lo < m→(∀i (h:i < xs.length),i < lo→xs[i].Key < k)→(∀i (h:i < xs.length),hi≤i→¬xs[i].Key < k)→
   ∃p:Nat,p≤xs.length∧(∀i (hi:i < xs.length),i < p↔xs[i].Key < k)∧
    iter (z6 xs k (zW xs k)) m ((lo:Int),(hi:Int))=zW xs k (p:Int):=by
  intro m
  induction m with
  |zero=>intro lo hi _ _ h;omega
  |succ m ih=>
   intro lo hi hle hhi hm hlow hhigh
   unfold iter
   unfold z6
   by_cases e:lo=hi
   ·subst e
    refine⟨lo,hhi,fun i h=>⟨hlow i h,fun hlt=> ?_⟩,?_⟩
    ·apply Classical.byContradiction
     intro hn
     exact hhigh i h (by omega) hlt
    ·rw[if_neg (by simp)]
   ·have hlt:lo < hi:=by omega
    rw[if_pos (by simp;omega)]
    simp only[mid hlt (show hi≤1048576 by omega)]
    have hmid:(lo+hi) / 2 < xs.length:=by omega
    rw[zO hmid]
    simp only[Option.bind_some,hc _ hmid]
    by_cases hv:xs[(lo+hi) / 2].Key - k < 0
    ·rw[if_pos hv,qm ((lo+hi) / 2) (xs.length) hmid (by omega)]
     refine ih ((lo+hi) / 2+1) hi (by omega) hhi (by omega) (fun i h hi'=> ?_) hhigh
     by_cases e2:i=(lo+hi) / 2
     ·subst e2;omega
     ·have:=hs i ((lo+hi) / 2) h hmid (by omega);omega
    ·rw[if_neg hv]
     refine ih lo ((lo+hi) / 2) (by omega) (by omega) (by omega) hlow (fun i h hi'=> ?_)
     by_cases e2:i=(lo+hi) / 2
     ·subst e2;omega
     ·have:=hs ((lo+hi) / 2) i hmid h (by omega);omega
 obtain⟨p,hp,hiff,hit⟩:=loop FU 0 xs.length (by omega) (by omega) (by unfold FU;omega) (fun i h h0=>by omega) (fun i h h0=>by omega)
 refine⟨p,hp,hiff,?_⟩
 unfold JL qu
 have hit:iter (z6 xs k (zW xs k)) FU (0,(xs.length:Int))=_:=hit
 rw[hit]
 unfold zW
 by_cases e:p < xs.length
 ·rw[if_pos (by omega),zO e]
  simp only[Option.bind_some,hc p e,List.getElem?_eq_getElem e,Option.map_some]
  congr 2
  rw[decide_eq_decide]
  simp
  omega
 ·rw[if_neg (by omega),List.getElem?_eq_none (by omega)]
  simp
theorem za0{α β:Type}:∀(xs:List α) (g:α→Option β),(List.range xs.length).findSome? (fun i=>(xs[i]?).bind g)= xs.findSome? g
 |[],_=>rfl
 |x::xs,g=>by
  rw[List.length_cons,List.range_succ_eq_map,List.findSome?_cons,List.findSome?_cons,List.findSome?_map]
  simp only[List.getElem?_cons_zero,Option.bind_some]
  cases g x with
  |some y=>rfl
  |none=>
   simp only[Function.comp_def,List.getElem?_cons_succ]
   exact za0 xs g
def Kp(xs:List zu)(k:Int):Int:=match xs.find? fun c=>decide (c.Key=k) with
 |some c=>c.Value
 |none=>-1
theorem zkf(xs:List zu)(k:Int)(hl:xs.length≤1048576):xb xs k=some (Kp xs k):=by
 unfold xb
 rw[zbn (s0:=(0:Int)) (fun i=>(i:Int)) (fun i:Nat=>match xs[i]? with|some c=>if c.Key=k then some (some c.Value) else none|none=>none) (some (-1)) xs.length (by omega) (fun kb i hi=> ?_) (fun kb=> ?_) rfl]
 ·have:∀ys:List zu,ys.findSome? (fun c=>if c.Key=k then some (some c.Value) else none)=(ys.find? fun c=>decide (c.Key=k)).map fun c=>some c.Value:=by
   intro ys
   induction ys with
   |nil=>rfl
   |cons y ys ih=>
    simp only[List.findSome?_cons,List.find?_cons]
    by_cases e:y.Key=k
    ·simp[e]
    ·simp[e,ih]
  have h2:(List.range xs.length).findSome? (fun i:Nat=>match xs[i]? with|some c=>if c.Key=k then some (some c.Value) else none|none=>none)= xs.findSome? (fun c=>if c.Key=k then some (some c.Value) else none):=by
   have key:∀(g:zu→Option (Option Int)),(List.range xs.length).findSome? (fun i:Nat=>match xs[i]? with|some c=>g c|none=>none)= xs.findSome? g:=fun g=>by
    have e:(fun i:Nat=>match xs[i]? with|some c=>g c|none=>none)=fun i=>(xs[i]?).bind g:=by funext i;cases xs[i]?<;>rfl
    rw[e]
    exact za0 xs g
   exact key _
  rw[h2,this]
  unfold Kp
  cases xs.find? fun c=>decide (c.Key=k)<;>rfl
 ·unfold kF
  simp only[zO hi,Option.bind_some,qm i _ hi (by omega),List.getElem?_eq_getElem hi]
  rw[if_pos (by omega)]
  by_cases e:xs[i].Key=k<;>simp[e]
 ·unfold kF
  rw[if_neg (by omega)];rfl
theorem zgp{xs:List zu}{k:Int}(hs:asc xs){p:Nat}(hp:p≤xs.length)(hiff:∀i (hi:i < xs.length),i < p↔xs[i].Key < k):
  Kp xs k=match xs[p]? with|some c=>if c.Key=k then c.Value else -1|none=>-1:=by
 unfold Kp
 by_cases e:∃h:p < xs.length,xs[p].Key=k
 ·obtain⟨h,e⟩:=e
  have:xs.find? (fun c=>decide (c.Key=k))=some xs[p]:=by
   rw[List.find?_eq_some_iff_getElem]
   refine⟨by simp[e],p,h,rfl,fun j hj=> ?_⟩
   have:=(hiff j (by omega)).1 hj
   simp;omega
  rw[this,List.getElem?_eq_getElem h]
  simp[e]
 ·have:xs.find? (fun c=>decide (c.Key=k))=none:=by
   rw[List.find?_eq_none]
   intro x hx
   obtain⟨i,hi,rfl⟩:=List.mem_iff_getElem.1 hx
   simp only[decide_eq_true_eq]
   intro hk
   apply e
   have h1:=hiff i hi
   by_cases e1:p < xs.length
   ·refine⟨e1,?_⟩
    have h2:=hiff p e1
    by_cases e2:i=p
    ·subst e2;exact hk
    ·have:¬i < p:=by omega
     have h3:=hs p i e1 hi (by omega)
     omega
   ·omega
  rw[this]
  by_cases e1:p < xs.length
  ·rw[List.getElem?_eq_getElem e1]
   have:¬xs[p].Key=k:=fun h=>e ⟨e1,h⟩
   simp[this]
  ·rw[List.getElem?_eq_none (by omega)]
theorem zjA(xs:List zu)(k:Int)(hg:jb xs=true)(h1:-9000000000000000000≤k)(h2:k≤9000000000000000000):Jv xs k=some (Kp xs k):=by
 have hs:=zfG hg
 have hl:=zcU hg
 obtain⟨p,hp,hiff,hb⟩:=zjx xs k hs (by omega) (fun i hi=>by have:=zfz hg hi;omega) h1 h2
 unfold Jv
 rw[hb,zgp hs hp hiff]
 simp only[Option.bind_some,decide_eq_true_eq]
 by_cases e:p < xs.length
 ·rw[List.getElem?_eq_getElem e]
  simp only[Option.map_some,Option.some.injEq,zO e,Option.bind_some]
  split<;>rfl
 ·rw[List.getElem?_eq_none (by omega)]
  simp
theorem zgz(xs:List zu)(h:xs.length≤1048576):yU xs=some xs:=by
 unfold yU yb
 split<;>first|(simp;done)|(simp;omega)
theorem zgD(xs:List zK)(h:xs.length≤1048576):yY xs=some xs:=by
 unfold yY j8
 split<;>first|(simp;done)|(simp;omega)
theorem zaN(xs:List Int)(h:xs.length≤1048576):j5 xs=some xs:=by
 unfold j5 yg
 split<;>first|(simp;done)|(simp;omega)
theorem zbE(xs:List ze)(h:xs.length≤1048576):j6 xs=some xs:=by
 unfold j6 jT
 split<;>first|(simp;done)|(simp;omega)
theorem zft(xs:List zu)(h:xs.length≤1048576):yt xs=some xs:=by
 unfold yt jS
 split<;>first|(simp;done)|(simp;omega)
def iL(x:Int):List Int→Bool→List Int
 |[],put=>if put then[] else[x]
 |c::cs,put=>(if (!put&&decide (x≤c))=true then[x] else[])++((if ¬c=x then[c] else[])++iL x cs (put||decide (x≤c)))
theorem zpk(x z:Int):∀(xs:List Int) (b:Bool),z∈iL x xs b↔(b=false∧z=x)∨(z∈xs∧¬z=x)
 |[],b=>by cases b<;>simp[iL]
 |c::cs,b=>by
  simp only[iL,List.mem_append,zpk x z cs,List.mem_cons]
  by_cases h1:x≤c<;>by_cases h2:c=x<;>cases b<;>simp[h1,h2]<;>by_cases h3:z=x<;>simp[h3]<;>omega
def zqp(x:Int):Nat→List Int→Bool
 |0,_=>false
 |n+1,xs=>zqp x n xs||match xs[n]? with|some c=>decide (x≤c)|none=>false
def iP(x:Int)(xs:List Int):Nat→List Int
 |0=>[]
 |i+1=>iP x xs i++(match xs[i]? with|some c=>(if (!(zqp x i xs)&&decide (x≤c))=true then[x] else[])++(if ¬c=x then[c] else[])|none=>[])
theorem zo8(x:Int)(xs:List Int):∀i,(iP x xs i).length≤2 * i
 |0=>by simp[iP]
 |i+1=>by
  have ih:=zo8 x xs i
  simp only[iP,List.length_append]
  have:(match xs[i]? with|some c=>(if (!(zqp x i xs)&&decide (x≤c))=true then[x] else[])++(if ¬c=x then[c] else[])|none=>[]).length≤2:=by
   cases xs[i]? with
   |none=>simp
   |some c=>simp only[List.length_append];split<;>split<;>simp
  omega
def XJ(m:Int):Bool:=decide (m=1)||decide (m=2)
theorem zi5(m:Int):JR m=some (XJ m):=by
 unfold JR XJ;by_cases h:m=1<;>simp[h]
theorem zgV(m:Int):Q7 m=some (XJ m):=by
 unfold Q7 XJ;by_cases h:m=1<;>simp[h]
def x9(a b:ze):Bool:=decide (a.Lo < b.Hi)&&decide (b.Lo < a.Hi)
theorem ziC(a b:ze):QO a b=some (x9 a b):=by
 unfold QO x9;by_cases h:a.Lo < b.Hi<;>simp[h]
def JW(a b:zK):Bool:=decide (¬a.Tx=b.Tx)&&(decide (a.Mode=2)||decide (b.Mode=2))&&x9 ⟨a.Lo,a.Hi⟩ ⟨b.Lo,b.Hi⟩
theorem zgJ(a b:zK):kl a b=some (JW a b):=by
 unfold kl qZ JW
 simp only[ziC,Option.bind_some]
 by_cases h:a.Tx=b.Tx<;>by_cases h1:a.Mode=2<;>by_cases h2:b.Mode=2<;>simp[h,h1,h2]
theorem zlv(a b:Int):ki a b=some (min a b):=by
 unfold ki;split<;>congr 1<;>omega
theorem zmo(a b:Int):kE a b=some (max a b):=by
 unfold kE;split<;>congr 1<;>omega
theorem zdG(a b:ze):y7 a b=some (if qa a&&qa b&&qa ⟨max a.Lo b.Lo,min a.Hi b.Hi⟩ then(⟨max a.Lo b.Lo,min a.Hi b.Hi⟩,true) else(⟨0,0⟩,false)):=by
 unfold y7 yG
 simp only[zlv,zmo,Zp,Option.bind_some]
 cases qa a<;>cases qa b<;>cases qa ⟨max a.Lo b.Lo,min a.Hi b.Hi⟩<;>simp
theorem zi2{a b:ze}(ha:qa a=true)(hb:qa b=true):qa ⟨max a.Lo b.Lo,min a.Hi b.Hi⟩=x9 a b:=by
 unfold qa at *
 unfold x9
 simp only[Bool.and_eq_true,decide_eq_true_eq] at ha hb
 rw[Bool.eq_iff_iff]
 simp only[Bool.and_eq_true,decide_eq_true_eq]
 omega
theorem zh8(a b:zK)(ha:qa ⟨a.Lo,a.Hi⟩=true)(hb:qa ⟨b.Lo,b.Hi⟩=true):QZ a b=some (JW a b):=by
 unfold QZ jp JW
 simp only[zdG,Option.bind_some,ha,hb,Bool.true_and]
 have:=zi2 ha hb
 simp only at this
 rw[this]
 cases x9 ⟨a.Lo,a.Hi⟩ ⟨b.Lo,b.Hi⟩<;>by_cases h:a.Tx=b.Tx<;>by_cases h1:a.Mode=2<;>simp[h,h1]
def Xa(a:zK):Bool:=qB a.Tx 1 60&&qa ⟨a.Lo,a.Hi⟩&&XJ a.Mode
def Xy(xs:List zK)(i:Nat):Bool:=match xs[i]? with
 |none=>true
 |some a=>Xa a&&(xs.take i).all fun b=>!JW a b
def qF(xs:List zK):Bool:=decide (xs.length≤40)&&(List.range xs.length).all (Xy xs)
def zh4{α:Type}(f:α→Bool):Option α→Bool
 |some b=>f b
 |none=>true
theorem zkB{α:Type}(xs:List α)(f:α→Bool)(n:Nat)(h:n≤xs.length):(xs.take n).all f=(List.range n).all fun k=>zh4 f xs[k]?:=by
 rw[Bool.eq_iff_iff,List.all_eq_true,List.all_eq_true]
 constructor
 ·intro H k hk
  have hk:=List.mem_range.1 hk
  have:k < xs.length:=by omega
  rw[List.getElem?_eq_getElem this]
  show f _=true
  exact H _ (by rw[List.mem_take_iff_getElem];exact⟨k,by omega,rfl⟩)
 ·intro H x hx
  rw[List.mem_take_iff_getElem] at hx
  obtain⟨k,hk,rfl⟩:=hx
  have:=H k (List.mem_range.2 (by omega))
  rw[List.getElem?_eq_getElem (by omega)] at this
  exact this
theorem zg2{xs:List zK}{i:Nat}(h:∀k,k < i→Xy xs k=true){k:Nat}(hk:k < i)(hl:k < xs.length):qa ⟨xs[k].Lo,xs[k].Hi⟩=true:=by
 have:=h k hk
 unfold Xy Xa at this
 rw[List.getElem?_eq_getElem hl] at this
 simp only[Bool.and_eq_true] at this
 exact this.1.1.2
theorem zeh(xs:List zK)(h:xs.length≤1048576):J0 xs=some (qF xs):=by
 unfold J0 qF
 split
 ·have:¬xs.length≤40:=by omega
  simp[this]
 ·have:xs.length≤40:=by omega
  rw[zcf (s0:=(0:Int)) (fun i=>(i:Int)) (Xy xs) (some false) (some true) xs.length (by omega) (fun kb i hi hp=> ?_) (fun kb _=> ?_) rfl]
  ·simp only[this,decide_true,Bool.true_and];split<;>simp_all
  ·unfold xJ Zm Xy Xa
   simp only[zO hi,zgh,zi5,Zp,jp,Option.bind_some,List.getElem?_eq_getElem hi]
   rw[if_pos (by omega)]
   generalize hg:(List.take i xs).all (fun b=>!JW xs[i] b)=g
   cases h1:qB xs[i].Tx 1 60<;>simp
   cases h2:qa ⟨xs[i].Lo,xs[i].Hi⟩<;>simp
   cases h3:XJ xs[i].Mode<;>simp
   rw[jF (s0:=(0:Int)) (fun k=>(k:Int)) (fun k=>zh4 (fun b=>!JW xs[i] b) xs[k]?) (some false) (kb ((i+1:Nat):Int)) i (by omega) (fun kb' k hk=> ?_) (fun kb'=> ?_) rfl]
   ·rw[←hg,zkB xs _ i (by omega)]
    simp only[Int.natCast_add,Int.cast_ofNat_Int]
   ·unfold YI
    have hkl:k < xs.length:=by omega
    simp only[zO hi,zO hkl,Option.bind_some,zh8 _ _ h2 (zg2 hp hk hkl),qm k _ hk (by omega),List.getElem?_eq_getElem hkl,zh4]
    rw[if_pos (by omega)]
    cases JW xs[i] xs[k]<;>simp
   ·unfold YI yO
    rw[if_neg (by omega),qm i _ hi (by omega)]
  ·unfold xJ
   rw[if_neg (by omega)];rfl
theorem zce(xs:List zK)(a:zK)(h:xs.length≤1048576):qw xs a=some (!xs.all fun b=>!JW a b):=by
 unfold qw jl
 have hb:∀x,Z9 x a=some (JW a x):=fun x=>by simp[Z9,zgJ]
 rw[zbn (s0:=(0:Int)) (fun i=>(i:Int)) (fun i:Nat=>match xs[i]? with|some b=>if JW a b=true then some (some (i:Int)) else none|none=>none) (some (-1)) xs.length (by omega) (fun kb i hi=> ?_) (fun kb=> ?_) rfl]
 ·cases hf:(List.range xs.length).findSome? (fun i:Nat=>match xs[i]? with|some b=>if JW a b=true then some (some (i:Int)) else none|none=>none) with
  |none=>
   rw[List.findSome?_eq_none_iff] at hf
   have:(xs.all fun b=>!JW a b)=true:=by
    rw[List.all_eq_true]
    intro x hx
    obtain⟨k,hk,rfl⟩:=List.mem_iff_getElem.1 hx
    have:=hf k (List.mem_range.2 hk)
    rw[List.getElem?_eq_getElem hk] at this
    cases hc:JW a xs[k] with
    |false=>rfl
    |true=>simp[hc] at this
   simp[this]
  |some q=>
   obtain⟨x,hx,hq⟩:=List.exists_of_findSome?_eq_some hf
   have hk:=List.mem_range.1 hx
   rw[List.getElem?_eq_getElem hk] at hq
   simp only at hq
   split at hq
   ·rename_i hc
    cases hq
    have:(xs.all fun b=>!JW a b)=false:=by
     rw[List.all_eq_false]
     exact⟨xs[x],List.getElem_mem hk,by simp[hc]⟩
    simp[this]
   ·cases hq
 ·unfold jd
  simp only[zO hi,Option.bind_some,hb,qm i _ hi (by omega),List.getElem?_eq_getElem hi]
  rw[if_pos (by omega)]
  cases JW a xs[i]<;>simp
 ·unfold jd
  rw[if_neg (by omega)];rfl
theorem zaZ(xs:List zK)(h:xs.length≤1048576):ZW xs=some (qF xs):=by
 unfold ZW qF
 rw[jF (s0:=(0:Int)) (fun i=>(i:Int)) (Xy xs) (some false) (some (decide (xs.length≤40))) xs.length (by omega) (fun kb i hi=> ?_) (fun kb=> ?_) rfl]
 ·split<;>simp_all
 ·unfold xr yM Xy Xa
  have hc:cut xs 0 (i:Int)=some (xs.take i):=by
   unfold cut
   rw[if_pos ⟨by omega,by omega,by omega⟩]
   simp
  simp only[zO hi,zkW,zgV,Yc,qZ,Option.bind_some,List.getElem?_eq_getElem hi,hc,zce (xs.take i) xs[i] (by simp;omega),qm i _ hi (by omega)]
  rw[if_pos (by omega)]
  generalize hg:(List.take i xs).all (fun b=>!JW xs[i] b)=g
  cases h1:qB xs[i].Tx 1 60<;>simp
  cases h2:qa ⟨xs[i].Lo,xs[i].Hi⟩<;>simp
  cases h3:XJ xs[i].Mode<;>simp
  cases g<;>simp
 ·unfold xr xp
  rw[if_neg (by omega)]
  have:((xs.length:Int)≤40)↔xs.length≤40:=by omega
  simp[this]
def Kj(tx:Int)(a:ze)(mode:Int)(l:zK):Bool:=decide (l.Tx=tx)&&(decide (l.Mode=mode)||decide (l.Mode=2))&&decide (l.Lo≤a.Lo)&&decide (a.Hi≤l.Hi)
theorem zcX{xs:List zK}(h:qF xs=true):xs.length≤40:=by
 unfold qF at h;simp at h;exact h.1
theorem zck{xs:List zK}(h:qF xs=true){i:Nat}(hi:i < xs.length):Xa xs[i]=true:=by
 unfold qF at h
 simp only[Bool.and_eq_true,List.all_eq_true] at h
 have:=h.2 i (List.mem_range.2 hi)
 unfold Xy at this
 rw[List.getElem?_eq_getElem hi] at this
 simp only[Bool.and_eq_true] at this
 exact this.1
theorem zeW(a b:ze):J8 a b=some (qa a&&qa b&&decide (b.Lo≤a.Lo)&&decide (a.Hi≤b.Hi)):=by
 unfold J8
 simp only[Zp,Option.bind_some]
 cases qa a<;>cases qa b<;>by_cases h:b.Lo≤a.Lo<;>simp[h]
theorem zhZ(xs:List zK)(tx:Int)(a:ze)(mode:Int)(hg:qF xs=true)(ha:qa a=true)(hm:XJ mode=true):QW xs tx a mode=some (xs.any (Kj tx a mode)):=by
 have hl:=zcX hg
 unfold QW
 rw[zfr xs (Kj tx a mode) (some true) (some false) (by omega) (fun kb i hi=> ?_) (fun kb=> ?_)]
 ·split<;>simp_all
 ·have hgi:=zck hg hi
  unfold Xa XJ at hgi
  unfold XJ at hm
  unfold YA yF Kj
  simp only[Bool.and_eq_true,Bool.or_eq_true,decide_eq_true_eq] at hgi hm
  simp only[zO hi,jp,zeW,Option.bind_some,qm i _ hi (by omega),ha,hgi.1.2,Bool.true_and]
  rw[if_pos (by omega)]
  by_cases h1:xs[i].Tx=tx<;>by_cases h2:xs[i].Lo≤a.Lo<;>by_cases h3:a.Hi≤xs[i].Hi<;>simp[h1,h2,h3]
  have:(mode≤xs[i].Mode)↔(xs[i].Mode=mode∨xs[i].Mode=2):=by omega
  simp[this]
 ·unfold YA
  rw[if_neg (by omega)];rfl
theorem zfA(l:zK)(tx mode:Int)(a:ze):Zr l tx mode a=some (Kj tx a mode l):=by
 unfold Zr Kj
 by_cases h1:l.Tx=tx<;>by_cases h2:l.Lo≤a.Lo<;>by_cases h3:l.Mode=mode<;>by_cases h4:l.Mode=2<;>simp[h1,h2,h3,h4]
theorem zaH(xs:List zK)(tx mode:Int)(a:ze)(h:xs.length≤1048576):qo xs tx mode a=some (xs.any (Kj tx a mode)):=by
 unfold qo qU
 rw[JV xs (Kj tx a mode) (by omega) (fun kb i hi=> ?_) (fun kb=> ?_)]
 ·simp[ZC]
 ·unfold qR
  simp only[zO hi,zfA,Option.bind_some,qm i _ hi (by omega)]
  rw[if_pos (by omega)]
 ·unfold qR
  rw[if_neg (by omega)];rfl
def xS(xs:List zK)(tx:Int)(a:ze)(mode:Int):Bool:=qF xs&&qa a&&XJ mode&&xs.any (Kj tx a mode)
theorem zc5(xs:List zK)(tx:Int)(a:ze)(mode:Int)(h:xs.length≤1048576):Z3 xs tx a mode=some (xS xs tx a mode):=by
 unfold Z3 xS
 simp only[zaZ _ h,Yc,zgV,zaH _ _ _ _ h,Option.bind_some]
 cases h1:qF xs<;>cases h2:qa a<;>cases h3:XJ mode<;>simp
theorem zaP(xs:List Int)(x:Int)(h:xs.length≤1048576):yr xs x=some (xs.contains x):=by
 unfold yr
 rw[zfr xs (fun c=>decide (c=x)) (some true) (some false) (by omega) (fun kb i hi=> ?_) (fun kb=> ?_)]
 ·have e:xs.any (fun c=>decide (c=x))=xs.contains x:=by
   rw[Bool.eq_iff_iff,List.any_eq_true,List.contains_iff_mem]
   simp
  rw[e]
  cases xs.contains x<;>rfl
 ·unfold kp
  simp only[zO hi,Option.bind_some,qm i _ hi (by omega)]
  rw[if_pos (by omega)]
  by_cases e:xs[i]=x<;>simp[e]
 ·unfold kp kw
  rw[if_neg (by omega)]
theorem ze9(xs:List Int)(x:Int)(h:xs.length≤1048576):ym xs x=some (xs.contains x):=by
 unfold ym QF
 rw[JV xs (fun c=>decide (x=c)) (by omega) (fun kb i hi=> ?_) (fun kb=> ?_)]
 ·simp only[Option.bind_some,ZC]
  congr 1
  rw[Bool.eq_iff_iff,List.any_eq_true,List.contains_iff_mem]
  simp
 ·unfold ZR
  simp only[zO hi,Option.bind_some,qm i _ hi (by omega)]
  rw[if_pos (by omega)]
  by_cases e:x=xs[i]<;>simp[e]
 ·unfold ZR
  rw[if_neg (by omega)];rfl
theorem zjv{xs:List zK}(hg:qF xs=true){i:Nat}(hi:i < xs.length):qa ⟨xs[i].Lo,xs[i].Hi⟩=true:=by
 have:=zck hg hi
 unfold Xa at this
 simp only[Bool.and_eq_true] at this
 exact this.1.2
theorem zjD(xs:List zu)(h:xs.length≤maxLen)(z:Int)(h1:0≤z)(h2:z≤1048576):JS xs z=some (if z < xs.length then -1 else z - xs.length):=by
 unfold JS
 have:IntKind.wrap .i64 (z - (xs.length:Int))=z - xs.length:=by unfold maxLen at h;exact w64 (by omega) (by omega)
 rw[this]
 split<;>split<;>first|rfl|omega
theorem zjS(xs:List zu)(h:xs.length≤1048576):J6 xs=some xs:=by
 unfold J6
 rw[if_pos ⟨by omega,by omega⟩]
 simp only[Int.toNat_natCast]
 refine X2 xs _ xD (by omega) (fun kb ys i hi hy=> ?_) (fun kb ys=> ?_)
 ·unfold xm
  simp only[zO hi,zO (show i < ys.length by omega),Xj,Option.bind_some,Int.toNat_natCast,qm i _ hi (by omega)]
  rw[if_pos (by omega)]
 ·unfold xm
  rw[if_neg (by omega)]
theorem zkj(a b:zu):xg a b=some (decide (a=b)):=by
 unfold xg
 cases a;cases b
 simp only[zu.mk.injEq]
 repeat' split
 all_goals simp_all
theorem zjW(xs ys:List zu)(h:xs.length≤1048576):Jx xs ys=some (decide (xs=ys)):=by
 unfold Jx
 split
 ·rename_i hl
  have:¬xs=ys:=fun e=>hl (by rw[e])
  simp[this]
 ·rename_i hl
  have hl:xs.length=ys.length:=by omega
  rw[jF (s0:=(0:Int)) (fun i=>(i:Int)) (fun i=>decide (xs[i]? =ys[i]?)) (some false) (some true) xs.length (by omega) (fun kb i hi=> ?_) (fun kb=> ?_) rfl,YM hl]
  ·by_cases e:xs=ys<;>simp[e]
  ·unfold xF
   simp only[zO hi,zO (show i < ys.length by omega),zkj,Option.bind_some,qm i _ hi (by omega)]
   rw[if_pos (by omega),List.getElem?_eq_getElem hi,List.getElem?_eq_getElem (show i < ys.length by omega)]
   simp
  ·unfold xF
   rw[if_neg (by omega)]
   rfl
theorem zh5(xs:List zu)(h:xs.length≤maxLen)(z:Int)(h1:0≤z)(h2:z≤1048576):QS xs z=some (if z < xs.length then -1 else z - xs.length):=by
 unfold QS
 have:IntKind.wrap .i64 (z - (xs.length:Int))=z - xs.length:=by unfold maxLen at h;exact w64 (by omega) (by omega)
 rw[this]
 split<;>split<;>first|rfl|omega
theorem zid(xs:List zu)(h:xs.length≤1048576):QY xs=some xs:=by
 unfold QY
 rw[if_pos ⟨by omega,by omega⟩]
 simp only[Int.toNat_natCast]
 refine X2 xs _ Yf (by omega) (fun kb ys i hi hy=> ?_) (fun kb ys=> ?_)
 ·unfold Yk
  simp only[zO hi,zO (show i < ys.length by omega),xZ,Option.bind_some,Int.toNat_natCast,qm i _ hi (by omega)]
  rw[if_pos (by omega)]
 ·unfold Yk
  rw[if_neg (by omega)]
theorem zjc(a b:zu):JE a b=some (decide (a=b)):=by
 unfold JE
 cases a;cases b
 simp only[zu.mk.injEq]
 repeat' split
 all_goals simp_all
theorem zh2(xs ys:List zu)(h:xs.length≤1048576):QX xs ys=some (decide (xs=ys)):=by
 unfold QX
 split
 ·rename_i hl
  have:¬xs=ys:=fun e=>hl (by rw[e])
  simp[this]
 ·rename_i hl
  have hl:xs.length=ys.length:=by omega
  rw[jF (s0:=(0:Int)) (fun i=>(i:Int)) (fun i=>decide (xs[i]? =ys[i]?)) (some false) (some true) xs.length (by omega) (fun kb i hi=> ?_) (fun kb=> ?_) rfl,YM hl]
  ·by_cases e:xs=ys<;>simp[e]
  ·unfold YE
   simp only[zO hi,zO (show i < ys.length by omega),zjc,Option.bind_some,qm i _ hi (by omega)]
   rw[if_pos (by omega),List.getElem?_eq_getElem hi,List.getElem?_eq_getElem (show i < ys.length by omega)]
   simp
  ·unfold YE
   rw[if_neg (by omega)]
   rfl
theorem zhX(z:Int):Q3 z=some (qB z (-1) 1000000000):=by simp[Q3,za8]
def XZ(xs:List zu)(i:Nat):Bool:=match xs[i]? with
 |none=>true
 |some c=>qB c.Key 0 999&&qB c.Value (-1) 1000000000&&(i == 0||match xs[i - 1]? with|some p=>decide (p.Key < c.Key)|none=>true)
def jx(xs:List zu):Bool:=decide (xs.length≤60)&&(List.range xs.length).all (XZ xs)
theorem zap(xs:List zu)(h:xs.length≤1048576):yQ xs=some (jx xs):=by
 unfold yQ jx
 split
 ·rename_i h1
  have:¬xs.length≤60:=by omega
  simp[this]
 ·rename_i h1
  have:xs.length≤60:=by omega
  rw[jF (s0:=(0:Int)) (fun i=>(i:Int)) (XZ xs) (some false) (some true) xs.length (by omega) (fun kb i hi=> ?_) (fun kb=> ?_) rfl]
  ·simp only[this,decide_true,Bool.true_and];split<;>simp_all
  ·unfold YK yp XZ
   simp only[zO hi,zhr,zdp,Option.bind_some,qm i _ hi (by omega),List.getElem?_eq_getElem hi]
   rw[if_pos (by omega)]
   cases qB xs[i].Key 0 999<;>simp
   cases qB xs[i].Value (-1) 1000000000<;>simp
   by_cases h0:0 < i
   ·have h2:IntKind.wrap .i64 ((i:Int) - 1)=((i - 1:Nat):Int):=by rw[w64 (by omega) (by omega)];omega
    have h3:i - 1 < xs.length:=by omega
    have h4:¬i=0:=by omega
    simp only[h0,if_true,h2,zO h3,Option.bind_some,List.getElem?_eq_getElem h3,h4,false_or]
    by_cases h5:xs[i].Key≤xs[i - 1].Key
    ·have:¬xs[i - 1].Key < xs[i].Key:=by omega
     simp[h5,this]
    ·have:xs[i - 1].Key < xs[i].Key:=by omega
     simp[h5,this]
   ·have h4:i=0:=by omega
    simp[h4]
  ·unfold YK
   rw[if_neg (by omega)];rfl
theorem zat(xs:List zu)(h:xs.length≤1048576):Zu xs=some (jx xs):=by
 unfold Zu jx
 rw[jF (s0:=(0:Int)) (fun i=>(i:Int)) (XZ xs) (some false) (some (decide (xs.length≤60))) xs.length (by omega) (fun kb i hi=> ?_) (fun kb=> ?_) rfl]
 ·split<;>simp_all
 ·unfold YD yo XZ
  simp only[zO hi,ziB,zhX,Option.bind_some,qm i _ hi (by omega),List.getElem?_eq_getElem hi]
  rw[if_pos (by omega)]
  cases qB xs[i].Key 0 999<;>simp
  cases qB xs[i].Value (-1) 1000000000<;>simp
  by_cases h0:0 < i
  ·have h2:IntKind.wrap .i64 ((i:Int) - 1)=((i - 1:Nat):Int):=by rw[w64 (by omega) (by omega)];omega
   have h3:i - 1 < xs.length:=by omega
   have h4:¬i=0:=by omega
   simp only[h0,if_true,h2,zO h3,Option.bind_some,List.getElem?_eq_getElem h3,h4,false_or]
   by_cases h5:xs[i].Key≤xs[i - 1].Key
   ·have:¬xs[i - 1].Key < xs[i].Key:=by omega
    simp[h5,this]
   ·have:xs[i - 1].Key < xs[i].Key:=by omega
    simp[h5,this]
  ·have h4:i=0:=by omega
   simp[h4]
 ·unfold YD Yo
  rw[if_neg (by omega)]
  have:((xs.length:Int)≤60)↔xs.length≤60:=by omega
  simp[this]
theorem KH{xs:List zu}(h:jx xs=true){i:Nat}(hi:i < xs.length):-1≤xs[i].Value∧0≤xs[i].Key∧xs[i].Key≤999:=by
 unfold jx at h
 simp only[Bool.and_eq_true,List.all_eq_true] at h
 have:=h.2 i (List.mem_range.2 hi)
 unfold XZ qB at this
 rw[List.getElem?_eq_getElem hi] at this
 simp only[Bool.and_eq_true,decide_eq_true_eq] at this
 exact⟨this.1.2.1,this.1.1.1,this.1.1.2⟩
theorem zfI{xs:List zu}(h:jx xs=true):xs.length≤60:=by
 unfold jx at h;simp at h;exact h.1
def zcw(xs:List zu)(w:zu):Bool:=decide (0≤w.Value)&&decide (Kp xs w.Key < 0)
def ko(xs ws:List zu):Int:=if jb xs&&jx ws then((ws.filter (zcw xs)).length:Int) else -1
theorem zfY{α:Type}{ws:List α}{p:α→Bool}{i:Nat}(hi:i < ws.length):((ws.take (i+1)).filter p).length=((ws.take i).filter p).length+if p ws[i]=true then 1 else 0:=by
 rw[List.take_succ_eq_append_getElem hi,List.filter_append,List.length_append]
 congr 1
 by_cases h:p ws[i]=true<;>simp[h]
theorem zd8(xs ws:List zu)(h:xs.length≤1048576)(h':ws.length≤1048576):QV xs ws=some (ko xs ws):=by
 unfold QV ko Qf
 simp only[zaG _ h,zap _ h',Option.bind_some]
 cases hg:jb xs<;>simp
 cases hw:jx ws<;>simp
 rw[qS (s0:=((0:Int),(0:Int))) (fun i=>((((ws.take i).filter (zcw xs)).length:Int),(i:Int))) (some ((ws.filter (zcw xs)).length:Int)) ws.length (by omega) (fun kb i hi=> ?_) (fun kb=> ?_) (by simp)]
 ·unfold YT ZI
  have hle:((ws.take i).filter (zcw xs)).length≤ws.length:=Nat.le_trans (List.length_filter_le _ _) (by simp;omega)
  have e:=qm i _ hi (by omega)
  have e3:IntKind.wrap .i64 ((((ws.take i).filter (zcw xs)).length:Int)+1)=((((ws.take i).filter (zcw xs)).length+1:Nat):Int):=by rw[w64 (by omega) (by omega)];omega
  simp only[zO hi,Option.bind_some,zkf _ _ h,e,e3]
  rw[if_pos (by omega),zfY hi]
  unfold zcw
  by_cases h0:0≤ws[i].Value<;>by_cases h1:Kp xs ws[i].Key < 0<;>simp[h0,h1]
 ·unfold YT YO
  rw[if_neg (by simp)]
  simp
theorem zd2(xs ws:List zu)(h:xs.length≤1048576)(h':ws.length≤1048576):Q1 xs ws=some (ko xs ws):=by
 unfold Q1 ko Qq
 simp only[za4 _ h,zat _ h',Option.bind_some]
 cases hg:jb xs<;>simp
 cases hw:jx ws<;>simp
 rw[qS (s0:=((0:Int),(0:Int))) (fun i=>((((ws.take i).filter (zcw xs)).length:Int),(i:Int))) (some ((ws.filter (zcw xs)).length:Int)) ws.length (by omega) (fun kb i hi=> ?_) (fun kb=> ?_) (by simp)]
 ·unfold YL ZH
  have hle:((ws.take i).filter (zcw xs)).length≤ws.length:=Nat.le_trans (List.length_filter_le _ _) (by simp;omega)
  have e:=qm i _ hi (by omega)
  have e3:IntKind.wrap .i64 ((((ws.take i).filter (zcw xs)).length:Int)+1)=((((ws.take i).filter (zcw xs)).length+1:Nat):Int):=by rw[w64 (by omega) (by omega)];omega
  have hv:=KH hw hi
  simp only[zO hi,Option.bind_some,zjA xs _ hg (show -9000000000000000000≤ws[i].Key by omega) (by omega),e,e3]
  rw[if_pos (by omega),zfY hi]
  unfold zcw
  by_cases h0:0≤ws[i].Value
  ·have:¬ws[i].Value= -1:=by omega
   by_cases h1:Kp xs ws[i].Key < 0<;>simp[h0,h1,this]
  ·have:ws[i].Value= -1:=by omega
   simp[this]
 ·unfold YL YQ
  rw[if_neg (by simp)]
  simp
theorem zjy(xs:List zK)(h:xs.length≤maxLen)(z:Int)(h1:0≤z)(h2:z≤1048576):JP xs z=some (if z < xs.length then -1 else z - xs.length):=by
 unfold JP
 have:IntKind.wrap .i64 (z - (xs.length:Int))=z - xs.length:=by unfold maxLen at h;exact w64 (by omega) (by omega)
 rw[this]
 split<;>split<;>first|rfl|omega
theorem zjU(xs:List zK)(h:xs.length≤1048576):JQ xs=some xs:=by
 unfold JQ
 rw[if_pos ⟨by omega,by omega⟩]
 simp only[Int.toNat_natCast]
 refine X2 xs _ xl (by omega) (fun kb ys i hi hy=> ?_) (fun kb ys=> ?_)
 ·unfold xz
  simp only[zO hi,zO (show i < ys.length by omega),Xp,Option.bind_some,Int.toNat_natCast,qm i _ hi (by omega)]
  rw[if_pos (by omega)]
 ·unfold xz
  rw[if_neg (by omega)]
theorem zkE(a b:zK):xd a b=some (decide (a=b)):=by
 unfold xd
 cases a;cases b
 simp only[zK.mk.injEq]
 repeat' split
 all_goals simp_all
theorem zje(xs ys:List zK)(h:xs.length≤1048576):JX xs ys=some (decide (xs=ys)):=by
 unfold JX
 split
 ·rename_i hl
  have:¬xs=ys:=fun e=>hl (by rw[e])
  simp[this]
 ·rename_i hl
  have hl:xs.length=ys.length:=by omega
  rw[jF (s0:=(0:Int)) (fun i=>(i:Int)) (fun i=>decide (xs[i]? =ys[i]?)) (some false) (some true) xs.length (by omega) (fun kb i hi=> ?_) (fun kb=> ?_) rfl,YM hl]
  ·by_cases e:xs=ys<;>simp[e]
  ·unfold xC
   simp only[zO hi,zO (show i < ys.length by omega),zkE,Option.bind_some,qm i _ hi (by omega)]
   rw[if_pos (by omega),List.getElem?_eq_getElem hi,List.getElem?_eq_getElem (show i < ys.length by omega)]
   simp
  ·unfold xC
   rw[if_neg (by omega)]
   rfl
def qP(x:zL):Nat:=x.Writes.length
theorem zki(x:zL)(h:Xu x)(z:Int)(h1:0≤z)(h2:z≤1048576):xe x z=some (if z < (qP x:Int) then -1 else z - (qP x:Int)):=by
 unfold Xu at h
 obtain⟨o0,o1⟩:=h
 unfold xe qP
 rw[zh5 x.Writes o1.1 _ (by omega) (by omega)]
 simp only[Option.bind_some]
 by_cases c0:z < (x.Writes.length:Int)
 ·rw[if_pos c0,if_pos (by omega)];try rw[if_pos (by omega)]
 rw[if_neg c0,if_neg (by omega)]
 try rw[if_neg (by omega)]
 try (congr 1;omega)
theorem zkg(x:zL)(h:qP x≤1048576):Y6 x=some x:=by simp[Y6,zid _ (show x.Writes.length≤1048576 by unfold qP at h;omega)]
theorem zkX(x y:zL)(h:qP x≤1048576):Y2 x y=some (decide (x=y)):=by
 unfold Y2
 simp only[zh2 _ _ (show x.Writes.length≤1048576 by unfold qP at h;omega),Option.bind_some]
 cases x;cases y
 simp only[zL.mk.injEq]
 repeat' split
 all_goals simp_all
def z8(xs:(List zL)):Nat:=xs.length+j3 (fun y:zL=>qP y) xs
theorem zjN(xs:(List zL))(h:(okS Xu) xs)(z:Int)(h1:0≤z)(h2:z≤1048576):JZ xs z=some (if z < (z8 xs:Int) then -1 else z - (z8 xs:Int)):=by
 unfold JZ
 have hm:=h.1
 have hw:IntKind.wrap .i64 (z - (xs.length:Int))=z - xs.length:=by unfold maxLen at hm;exact w64 (by omega) (by omega)
 rw[hw]
 have hsz:(z8 xs:Int)=xs.length+(j3 (fun y:zL=>qP y) xs:Nat):=by unfold z8;omega
 rw[hsz]
 by_cases c:z < xs.length
 ·rw[if_pos (by omega),if_pos (by omega)]
 rw[if_neg (by omega)]
 rw[zcf (fun i=>(z - (xs.length:Int) - (j3 (fun y:zL=>qP y) (xs.take i):Nat),(i:Int))) (fun i=>decide ((j3 (fun y:zL=>qP y) (xs.take (i+1)):Int)≤z - xs.length)) (some (-1)) (some (z - (xs.length:Int) - (j3 (fun y:zL=>qP y) xs:Nat))) xs.length (by omega) (fun kb i hi hp=> ?_) (fun kb hp=> ?_) (by simp[j3])]
 ·by_cases c2:z < xs.length+(j3 (fun y:zL=>qP y) xs:Nat)
  ·rw[if_pos c2,if_neg]
   rw[Bool.not_eq_true,List.all_eq_false]
   cases hn:xs.length with
   |zero=>
    have:xs=[]:=List.eq_nil_of_length_eq_zero hn
    subst this
    simp[j3] at c2 c
    omega
   |succ n=>
    refine⟨n,by simp,?_⟩
    have:xs.take (n+1)=xs:=by rw[←hn];simp
    rw[this,decide_eq_true_eq]
    omega
  ·rw[if_neg c2,if_pos]
   ·congr 1;omega
   ·rw[List.all_eq_true]
    intro i hi
    have:=kX (fun y:zL=>qP y) xs (i+1)
    simp only[decide_eq_true_eq]
    omega
 ·have h0:(j3 (fun y:zL=>qP y) (xs.take i):Int)≤z - xs.length:=by
   cases i with
   |zero=>simp[j3];omega
   |succ j=>have:=hp j (by omega);simpa using this
  unfold xw
  simp only[zO hi,Option.bind_some,qm i _ hi (by omega)]
  rw[if_pos (by omega),zki xs[i] (h.2 _ (List.getElem_mem hi)) _ (by omega) (by omega),Xb (fun y:zL=>qP y) hi]
  simp only[Option.bind_some,Int.natCast_add]
  by_cases c3:z - (xs.length:Int) - (j3 (fun y:zL=>qP y) (xs.take i):Nat) < (qP (xs[i]):Nat)
  ·rw[if_pos c3,if_pos (by omega),if_neg (by simp;omega)]
  ·rw[if_neg c3,if_neg (by omega),if_pos (by simp;omega)]
   congr 2
   omega
 ·unfold xw xq
  rw[if_neg (by simp)]
  simp
theorem Kv{xs:(List zL)}(h:z8 xs≤1048576):xs.length≤1048576∧∀i (hi:i < xs.length),qP (xs[i])≤1048576:=by
 unfold z8 at h
 refine⟨by omega,fun i hi=> ?_⟩
 have:=zkv (fun y:zL=>qP y) hi
 omega
theorem zjl(xs:(List zL))(h:z8 xs≤1048576):JA xs=some xs:=by
 obtain⟨hl,hs⟩:=Kv h
 unfold JA
 rw[if_pos ⟨by omega,by omega⟩]
 simp only[Int.toNat_natCast]
 refine X2 xs _ xj (by omega) (fun kb ys i hi hy=> ?_) (fun kb ys=> ?_)
 ·unfold xH
  simp only[zO hi,zO (show i < ys.length by omega),zkg _ (hs i hi),Option.bind_some,Int.toNat_natCast,qm i _ hi (by omega)]
  rw[if_pos (by omega)]
 ·unfold xH
  rw[if_neg (by omega)]
theorem zjr(xs ys:(List zL))(h:z8 xs≤1048576):JM xs ys=some (decide (xs=ys)):=by
 obtain⟨hl,hs⟩:=Kv h
 unfold JM
 split
 ·rename_i hl
  have:¬xs=ys:=fun e=>hl (by rw[e])
  simp[this]
 ·rename_i hl
  have hl:xs.length=ys.length:=by omega
  rw[jF (s0:=(0:Int)) (fun i=>(i:Int)) (fun i=>decide (xs[i]? =ys[i]?)) (some false) (some true) xs.length (by omega) (fun kb i hi=> ?_) (fun kb=> ?_) rfl,YM hl]
  ·by_cases e:xs=ys<;>simp[e]
  ·unfold xo
   simp only[zO hi,zO (show i < ys.length by omega),zkX _ _ (hs i hi),Option.bind_some,qm i _ hi (by omega)]
   rw[if_pos (by omega),List.getElem?_eq_getElem hi,List.getElem?_eq_getElem (show i < ys.length by omega)]
   simp
  ·unfold xo
   rw[if_neg (by omega)]
   rfl
theorem zhz(xs:List Int)(h:xs.length≤maxLen)(z:Int)(h1:0≤z)(h2:z≤1048576):Q8 xs z=some (if z < xs.length then -1 else z - xs.length):=by
 unfold Q8
 have:IntKind.wrap .i64 (z - (xs.length:Int))=z - xs.length:=by unfold maxLen at h;exact w64 (by omega) (by omega)
 rw[this]
 split<;>split<;>first|rfl|omega
theorem zho(xs:List Int)(h:xs.length≤1048576):Q4 xs=some xs:=by
 unfold Q4
 rw[if_pos ⟨by omega,by omega⟩]
 simp only[Int.toNat_natCast]
 refine X2 xs _ ku (by omega) (fun kb ys i hi hy=> ?_) (fun kb ys=> ?_)
 ·unfold kz
  simp only[zO hi,zO (show i < ys.length by omega),Option.bind_some,Int.toNat_natCast,qm i _ hi (by omega)]
  rw[if_pos (by omega)]
 ·unfold kz
  rw[if_neg (by omega)]
theorem zhd(xs ys:List Int)(h:xs.length≤1048576):Q9 xs ys=some (decide (xs=ys)):=by
 unfold Q9
 split
 ·rename_i hl
  have:¬xs=ys:=fun e=>hl (by rw[e])
  simp[this]
 ·rename_i hl
  have hl:xs.length=ys.length:=by omega
  rw[jF (s0:=(0:Int)) (fun i=>(i:Int)) (fun i=>decide (xs[i]? =ys[i]?)) (some false) (some true) xs.length (by omega) (fun kb i hi=> ?_) (fun kb=> ?_) rfl,YM hl]
  ·by_cases e:xs=ys<;>simp[e]
  ·unfold kd
   simp only[zO hi,zO (show i < ys.length by omega),Option.bind_some,qm i _ hi (by omega)]
   rw[if_pos (by omega),List.getElem?_eq_getElem hi,List.getElem?_eq_getElem (show i < ys.length by omega)]
   simp
  ·unfold kd
   rw[if_neg (by omega)]
   rfl
def zr(x:zn):Nat:=x.Own.length+x.Frozen.length+x.Cells.length+x.Locks.length+z8 x.Helds+x.Wounded.length+x.Ended.length
theorem zjK(x:zn)(h:KS x)(z:Int)(h1:0≤z)(h2:z≤1048576):JJ x z=some (if z < (zr x:Int) then -1 else z - (zr x:Int)):=by
 unfold KS at h
 obtain⟨o0,o1,o2,o3,o4,o5,o6,o7,o8⟩:=h
 unfold JJ zr
 rw[zei x.Own o1.1 _ (by omega) (by omega)]
 simp only[Option.bind_some]
 by_cases c0:z < (x.Own.length:Int)
 ·rw[if_pos c0,if_pos (by omega)];try rw[if_pos (by omega)]
 rw[if_neg c0,if_neg (by omega)]
 rw[zei x.Frozen o2.1 _ (by omega) (by omega)]
 simp only[Option.bind_some]
 by_cases c1:z - (x.Own.length:Int) < (x.Frozen.length:Int)
 ·rw[if_pos c1,if_pos (by omega)];try rw[if_pos (by omega)]
 rw[if_neg c1,if_neg (by omega)]
 rw[zjD x.Cells o3.1 _ (by omega) (by omega)]
 simp only[Option.bind_some]
 by_cases c2:z - (x.Own.length:Int) - (x.Frozen.length:Int) < (x.Cells.length:Int)
 ·rw[if_pos c2,if_pos (by omega)];try rw[if_pos (by omega)]
 rw[if_neg c2,if_neg (by omega)]
 rw[zjy x.Locks o4.1 _ (by omega) (by omega)]
 simp only[Option.bind_some]
 by_cases c3:z - (x.Own.length:Int) - (x.Frozen.length:Int) - (x.Cells.length:Int) < (x.Locks.length:Int)
 ·rw[if_pos c3,if_pos (by omega)];try rw[if_pos (by omega)]
 rw[if_neg c3,if_neg (by omega)]
 rw[zjN x.Helds o5 _ (by omega) (by omega)]
 simp only[Option.bind_some]
 by_cases c4:z - (x.Own.length:Int) - (x.Frozen.length:Int) - (x.Cells.length:Int) - (x.Locks.length:Int) < (z8 x.Helds:Int)
 ·rw[if_pos c4,if_pos (by omega)];try rw[if_pos (by omega)]
 rw[if_neg c4,if_neg (by omega)]
 rw[zhz x.Wounded o6.1 _ (by omega) (by omega)]
 simp only[Option.bind_some]
 by_cases c5:z - (x.Own.length:Int) - (x.Frozen.length:Int) - (x.Cells.length:Int) - (x.Locks.length:Int) - (z8 x.Helds:Int) < (x.Wounded.length:Int)
 ·rw[if_pos c5,if_pos (by omega)];try rw[if_pos (by omega)]
 rw[if_neg c5,if_neg (by omega)]
 rw[zhz x.Ended o7.1 _ (by omega) (by omega)]
 simp only[Option.bind_some]
 by_cases c6:z - (x.Own.length:Int) - (x.Frozen.length:Int) - (x.Cells.length:Int) - (x.Locks.length:Int) - (z8 x.Helds:Int) - (x.Wounded.length:Int) < (x.Ended.length:Int)
 ·rw[if_pos c6,if_pos (by omega)];try rw[if_pos (by omega)]
 rw[if_neg c6,if_neg (by omega)]
 try rw[if_neg (by omega)]
 try (congr 1;omega)
theorem zjb(x:zn)(h:zr x≤1048576):yB x=some x:=by simp[yB,zeB _ (show x.Own.length≤1048576 by unfold zr at h;omega),zeB _ (show x.Frozen.length≤1048576 by unfold zr at h;omega),zjS _ (show x.Cells.length≤1048576 by unfold zr at h;omega),zjU _ (show x.Locks.length≤1048576 by unfold zr at h;omega),zjl _ (show z8 x.Helds≤1048576 by unfold zr at h;omega),zho _ (show x.Wounded.length≤1048576 by unfold zr at h;omega),zho _ (show x.Ended.length≤1048576 by unfold zr at h;omega)]
theorem zfS(x y:zn)(h:zr x≤1048576):yD x y=some (decide (x=y)):=by
 unfold yD
 simp only[ze8 _ _ (show x.Own.length≤1048576 by unfold zr at h;omega),ze8 _ _ (show x.Frozen.length≤1048576 by unfold zr at h;omega),zjW _ _ (show x.Cells.length≤1048576 by unfold zr at h;omega),zje _ _ (show x.Locks.length≤1048576 by unfold zr at h;omega),zjr _ _ (show z8 x.Helds≤1048576 by unfold zr at h;omega),zhd _ _ (show x.Wounded.length≤1048576 by unfold zr at h;omega),zhd _ _ (show x.Ended.length≤1048576 by unfold zr at h;omega),Option.bind_some]
 cases x;cases y
 simp only[zn.mk.injEq]
 repeat' split
 all_goals simp_all
def zay(k:Int):ze:=ze.mk k (IntKind.wrap .i64 (k+1))
theorem zgR(k:Int):xf k=some (zay k):=rfl
theorem zmN(k:Int):Kh k=some (zay k):=rfl
theorem zgn{k:Int}(h:0≤k∧k≤999):qa (zay k)=true:=by
 unfold zay qa
 rw[w64 (by omega) (by omega)]
 simp
 omega
theorem ziQ(xs:List zL)(h:xs.length≤1048576):YU xs=some (xs.map (·.Tx)):=by
 unfold YU
 refine qS (fun i=>((xs.take i).map (·.Tx),(i:Int))) _ xs.length (by omega) (fun kb i hi=> ?_) (fun kb=> ?_) (by simp)
 ·unfold Xm
  simp only[zO hi,Option.bind_some,qm i _ hi (by omega)]
  rw[if_pos (by omega),if_pos (by simp;omega),List.take_succ_eq_append_getElem hi,List.map_append]
  rfl
 ·unfold Xm Xl
  rw[if_neg (by simp)]
  simp
theorem zgu(xs:List (List Int))(h:xs.length≤1048576)(hs:j3 List.length xs≤100000000):yX xs=some xs.flatten:=by
 unfold yX
 have hst:=fun i=>kX List.length xs i
 refine qS (fun i=>(((j3 List.length (xs.take i):Nat):Int),(i:Int))) _ xs.length (by omega) (fun kb i hi=> ?_) (fun kb=> ?_) (by simp[j3])
 ·unfold Zt
  have h1:=hst (i+1)
  have h2:=Xb List.length hi
  have e:IntKind.wrap .i64 (((j3 List.length (xs.take i):Nat):Int)+(xs[i].length:Int))=((j3 List.length (xs.take (i+1)):Nat):Int):=by rw[w64 (by omega) (by omega),h2];omega
  simp only[zO hi,Option.bind_some,qm i _ hi (by omega),e]
  rw[if_pos (by omega),if_neg (by omega)]
 ·unfold Zt ZB kB
  rw[if_neg (by simp)]
  have h1:=hst xs.length
  simp only
  rw[if_pos (by omega)]
  simp only[Option.bind_some]
  refine qS (fun i=>((xs.take i).flatten,(i:Int))) _ xs.length (by omega) (fun kb i hi=> ?_) (fun kb=> ?_) (by simp)
  ·unfold ZA
   have h3:=hst (i+1)
   have hf:∀ys:List (List Int),ys.flatten.length=j3 List.length ys:=fun ys=>by
    induction ys with
    |nil=>rfl
    |cons y ys ih=>simp only[List.flatten_cons,List.length_append,j3,ih]
   have h2:=Xb List.length hi
   have e:(xs.take (i+1)).flatten=(xs.take i).flatten++xs[i]:=by rw[List.take_succ_eq_append_getElem hi,List.flatten_append];simp
   simp only[zO hi,Option.bind_some,qm i _ hi (by omega)]
   rw[if_pos (by omega),if_pos (by rw[←e,hf];omega),e]
  ·unfold ZA ZF
   rw[if_neg (by simp)]
   simp
def kg(xs:List zu)(hs:List zL):Int:=(hs.map fun h=>ko xs h.Writes).sum
theorem zhj(xs ws:List zu):-1≤ko xs ws∧ko xs ws≤ws.length:=by
 unfold ko
 have:=List.length_filter_le (zcw xs) ws
 split<;>omega
theorem zbt(xs:List zu):∀hs:List zL,-(hs.length:Int)≤kg xs hs∧kg xs hs≤(j3 (fun h:zL=>h.Writes.length) hs:Nat)
 |[]=>by simp[kg,j3]
 |h::hs=>by
  have:=zbt xs hs
  have h2:=zhj xs h.Writes
  unfold kg at this ⊢
  simp only[List.map_cons,List.sum_cons,j3,List.length_cons]
  omega
theorem Ky(xs:List zu){hs:List zL}{i:Nat}(hi:i < hs.length):kg xs (hs.take (i+1))=kg xs (hs.take i)+ko xs hs[i].Writes:=by
 unfold kg
 rw[List.take_succ_eq_append_getElem hi,List.map_append,List.sum_append]
 simp
theorem y4(hs:List zL):z8 hs=hs.length+j3 (fun h:zL=>h.Writes.length) hs:=rfl
theorem KT{hs:List zL}(h:z8 hs≤1048576){i:Nat}(hi:i < hs.length):hs[i].Writes.length≤1048576:=by
 rw[y4] at h
 have h1:=Xb (fun h:zL=>h.Writes.length) hi
 have h2:=kX (fun h:zL=>h.Writes.length) hs (i+1)
 omega
theorem zkk(s:zn)(h:zr s≤1048576):Y1 s=some (kg s.Cells s.Helds):=by
 have hc:s.Cells.length≤1048576:=by unfold zr at h;omega
 have hh:z8 s.Helds≤1048576:=by unfold zr at h;omega
 have hh2:=hh
 rw[y4] at hh2
 unfold Y1
 refine qS (fun i=>(kg s.Cells (s.Helds.take i),(i:Int))) _ s.Helds.length (by omega) (fun kb i hi=> ?_) (fun kb=> ?_) (by simp[kg])
 ·unfold xY
  have b1:=zbt s.Cells (s.Helds.take (i+1))
  have b2:=kX (fun h:zL=>h.Writes.length) s.Helds (i+1)
  have b3:(s.Helds.take (i+1)).length≤s.Helds.length:=by simp;omega
  rw[Ky s.Cells hi] at b1
  simp only[zO hi,zd8 _ _ hc (KT hh hi),Option.bind_some,qm i _ hi (by omega),Ky s.Cells hi]
  rw[if_pos (by omega),w64 (by omega) (by omega)]
 ·unfold xY ky
  rw[if_neg (by simp)]
  simp
theorem zrB(s:zn)(h:zr s≤1048576):Xv s=some ((s.Cells.length:Int)+kg s.Cells s.Helds):=by
 have hc:s.Cells.length≤1048576:=by unfold zr at h;omega
 have hh:z8 s.Helds≤1048576:=by unfold zr at h;omega
 have hh2:=hh
 rw[y4] at hh2
 unfold Xv
 refine qS (fun i=>((s.Cells.length:Int)+kg s.Cells (s.Helds.take i),(i:Int))) _ s.Helds.length (by omega) (fun kb i hi=> ?_) (fun kb=> ?_) (by simp[kg])
 ·unfold XU
  have b1:=zbt s.Cells (s.Helds.take (i+1))
  have b2:=kX (fun h:zL=>h.Writes.length) s.Helds (i+1)
  have b3:(s.Helds.take (i+1)).length≤s.Helds.length:=by simp;omega
  rw[Ky s.Cells hi] at b1
  simp only[zO hi,zd2 _ _ hc (KT hh hi),Option.bind_some,qm i _ hi (by omega),Ky s.Cells hi]
  rw[if_pos (by omega),w64 (by omega) (by omega),Int.add_assoc]
 ·unfold XU XQ
  rw[if_neg (by simp)]
  simp
def kt(s:zn)(h:zL):Bool:=h.Writes.all fun w=>s.Locks.any (Kj h.Tx (zay w.Key) 2)
theorem zhR(w:zu)(s:zn)(h:zL)(hs:s.Locks.length≤1048576):Qg w s h=some (!xS s.Locks h.Tx (zay w.Key) 2):=by
 unfold Qg
 simp only[zmN,zc5 _ _ _ _ hs,Option.bind_some]
theorem zbR(ws:List zu)(s:zn)(h:zL)(hs:s.Locks.length≤1048576)(hw:ws.length≤1048576):qt ws s h=some (ws.any fun w=>!xS s.Locks h.Tx (zay w.Key) 2):=by
 unfold qt jc
 rw[JV ws (fun w=>!xS s.Locks h.Tx (zay w.Key) 2) (by omega) (fun kb i hi=> ?_) (fun kb=> ?_)]
 ·simp only[Option.bind_some,ZC]
 ·unfold qV
  simp only[zO hi,zhR _ _ _ hs,Option.bind_some,qm i _ hi (by omega)]
  rw[if_pos (by omega)]
 ·unfold qV
  rw[if_neg (by omega)];rfl
theorem zkO{s:zn}{h:zL}(hg:qF s.Locks=true)(hw:jx h.Writes=true):(h.Writes.any fun w=>!xS s.Locks h.Tx (zay w.Key) 2)= !kt s h:=by
 have:∀w∈h.Writes,(!xS s.Locks h.Tx (zay w.Key) 2)= !(s.Locks.any (Kj h.Tx (zay w.Key) 2)):=fun w hm=>by
  obtain⟨i,hi,rfl⟩:=List.mem_iff_getElem.1 hm
  have hk:=(KH hw hi).2
  unfold xS
  rw[hg,zgn hk]
  rfl
 unfold kt
 rw[List.not_all_eq_any_not]
 rw[Bool.eq_iff_iff,List.any_eq_true,List.any_eq_true]
 constructor<;>rintro⟨w,hm,e⟩<;>refine⟨w,hm,?_⟩
 ·rw[←this w hm];exact e
 ·rw[this w hm];exact e
def zbL(s:zn)(h:zL):Bool:=jx h.Writes&&kt s h
theorem zjw(s:zn)(h:zr s≤1048576)(hg:qF s.Locks=true):Jw s=some (s.Helds.all (zbL s)&&jD (s.Helds.map (·.Tx))):=by
 have hl:s.Locks.length≤1048576:=by unfold zr at h;omega
 have hh:z8 s.Helds≤1048576:=by unfold zr at h;omega
 have hn:s.Helds.length≤1048576:=by rw[y4] at hh;omega
 unfold Jw
 rw[Xg s.Helds (zbL s) (some false) (some (jD (s.Helds.map (·.Tx)))) (by omega) (fun kb i hi=> ?_) (fun kb=> ?_)]
 ·cases s.Helds.all (zbL s)<;>simp
 ·unfold xI Qo zbL
  have hw:=KT hh hi
  simp only[zO hi,zat _ hw,zbR _ _ _ hl hw,Option.bind_some,qm i _ hi (by omega)]
  rw[if_pos (by omega)]
  cases hwg:jx s.Helds[i].Writes
  ·simp
  ·rw[zkO hg hwg]
   cases kt s s.Helds[i]<;>simp
 ·unfold xI xi
  rw[if_neg (by omega)]
  simp only[ziQ _ hn,za3 _ (show(s.Helds.map (·.Tx)).length≤1048576 by simpa using hn),Option.bind_some]
def YY(s:zn)(i:Nat):Bool:=match s.Helds[i]? with
 |none=>true
 |some h=>qB h.Tx 1 60&&(i == 0||match s.Helds[i - 1]? with|some p=>decide (p.Tx < h.Tx)|none=>true)&&jx h.Writes&&kt s h&&!s.Wounded.contains h.Tx&&!s.Ended.contains h.Tx
theorem zjX(s:zn)(hd:zL)(kx:Unit→Option Bool)(h:zr s≤1048576)(hw:hd.Writes.length≤1048576)(hg:qF s.Locks=true)(hwg:jx hd.Writes=true):qY hd s kx false=if kt s hd=true then(if (!s.Wounded.contains hd.Tx&&!s.Ended.contains hd.Tx)=true then kx () else some false) else some false:=by
 have hW:s.Wounded.length≤1048576:=by unfold zr at h;omega
 have hE:s.Ended.length≤1048576:=by unfold zr at h;omega
 unfold qY kt
 rw[if_neg (by simp)]
 refine Xg hd.Writes (fun w=>s.Locks.any (Kj hd.Tx (zay w.Key) 2)) (some false) _ (by omega) (fun kb i hi=> ?_) (fun kb=> ?_)
 ·unfold ZS
  have hk:=(KH hwg hi).2
  simp only[zO hi,zgR,zhZ _ hd.Tx _ 2 hg (zgn hk) (by decide),Option.bind_some,qm i _ hi (by omega)]
  rw[if_pos (by omega)]
 ·unfold ZS ZT yV
  rw[if_neg (by omega)]
  simp only[zaP _ _ hW,zaP _ _ hE,Option.bind_some]
  cases s.Wounded.contains hd.Tx<;>cases s.Ended.contains hd.Tx<;>simp
theorem zgF(s:zn)(h:zr s≤1048576)(hg:qF s.Locks=true):ZE s=some ((List.range s.Helds.length).all (YY s)):=by
 have hh:z8 s.Helds≤1048576:=by unfold zr at h;omega
 have hn:s.Helds.length≤1048576:=by rw[y4] at hh;omega
 unfold ZE
 rw[jF (s0:=(0:Int)) (fun i=>(i:Int)) (YY s) (some false) (some true) s.Helds.length (by omega) (fun kb i hi=> ?_) (fun kb=> ?_) rfl]
 ·split<;>simp_all
 ·have hw:=KT hh hi
  have J:∀kx,qY s.Helds[i] s kx true=some false:=fun kx=>rfl
  unfold QI YY
  simp only[zO hi,zgh,zap _ hw,Option.bind_some,List.getElem?_eq_getElem hi]
  rw[if_pos (by omega)]
  cases hwg:jx s.Helds[i].Writes
  ·cases qB s.Helds[i].Tx 1 60<;>simp[J]
   intro h0
   have h2:IntKind.wrap .i64 ((i:Int) - 1)=((i - 1:Nat):Int):=by rw[w64 (by omega) (by omega)];omega
   have h3:i - 1 < s.Helds.length:=by omega
   simp only[h2,zO h3,Option.bind_some]
  ·simp only[Bool.not_true,zjX s s.Helds[i] _ h hw hg hwg]
   unfold qO
   rw[qm i _ hi (by omega)]
   cases qB s.Helds[i].Tx 1 60<;>simp[J]
   by_cases h0:0 < i
   ·have h2:IntKind.wrap .i64 ((i:Int) - 1)=((i - 1:Nat):Int):=by rw[w64 (by omega) (by omega)];omega
    have h3:i - 1 < s.Helds.length:=by omega
    have h4:¬i=0:=by omega
    simp only[h0,if_true,h2,zO h3,Option.bind_some,List.getElem?_eq_getElem h3,h4,false_or]
    by_cases h5:s.Helds[i].Tx≤s.Helds[i - 1].Tx
    ·have:¬s.Helds[i - 1].Tx < s.Helds[i].Tx:=by omega
     simp[h5,this]
    ·have:s.Helds[i - 1].Tx < s.Helds[i].Tx:=by omega
     simp[h5,this]
     cases kt s s.Helds[i]<;>simp
   ·have h4:i=0:=by omega
    subst h4
    simp
    cases kt s s.Helds[0]<;>simp
 ·unfold QI
  rw[if_neg (by omega)];rfl
theorem zg5(s:zn)(a:ze)(h:s.Own.length≤1048576):ZZ a s=some (!yZ s.Own a):=by
 unfold ZZ
 simp only[zbs _ _ h,Option.bind_some]
theorem zg0(s:zn)(a:zu)(h:s.Own.length≤1048576):Z4 a s=some (!yZ s.Own (zay a.Key)):=by
 unfold Z4
 simp only[zmN,zbs _ _ h,Option.bind_some]
theorem zhD(s:zn)(l:zK)(g:List Int)(h:s.Own.length≤1048576)(hg:g.length≤1048576):Qi l s g=some (!yZ s.Own ⟨l.Lo,l.Hi⟩||g.contains l.Tx):=by
 unfold Qi qZ
 simp only[zbs _ _ h,ze9 _ _ hg,Option.bind_some]
 cases yZ s.Own ⟨l.Lo,l.Hi⟩<;>simp
theorem zcN(xs:List ze)(s:zn)(h:s.Own.length≤1048576)(hx:xs.length≤1048576):qq xs s=some (xs.any fun a=>!yZ s.Own a):=by
 unfold qq jh
 rw[JV xs (fun a=>!yZ s.Own a) (by omega) (fun kb i hi=> ?_) (fun kb=> ?_)]
 ·simp only[Option.bind_some,ZC]
 ·unfold qX
  simp only[zO hi,zg5 _ _ h,Option.bind_some,qm i _ hi (by omega)]
  rw[if_pos (by omega)]
 ·unfold qX
  rw[if_neg (by omega)];rfl
theorem zcI(xs:List zu)(s:zn)(h:s.Own.length≤1048576)(hx:xs.length≤1048576):qx xs s=some (xs.any fun a=>!yZ s.Own (zay a.Key)):=by
 unfold qx jk
 rw[JV xs (fun a=>!yZ s.Own (zay a.Key)) (by omega) (fun kb i hi=> ?_) (fun kb=> ?_)]
 ·simp only[Option.bind_some,ZC]
 ·unfold je
  simp only[zO hi,zg0 _ _ h,Option.bind_some,qm i _ hi (by omega)]
  rw[if_pos (by omega)]
 ·unfold je
  rw[if_neg (by omega)];rfl
theorem zcR(xs:List zK)(s:zn)(g:List Int)(h:s.Own.length≤1048576)(hg:g.length≤1048576)(hx:xs.length≤1048576):qy xs s g=some (xs.any fun l=>!yZ s.Own ⟨l.Lo,l.Hi⟩||g.contains l.Tx):=by
 unfold qy jn
 rw[JV xs (fun l=>!yZ s.Own ⟨l.Lo,l.Hi⟩||g.contains l.Tx) (by omega) (fun kb i hi=> ?_) (fun kb=> ?_)]
 ·simp only[Option.bind_some,ZC]
 ·unfold jg
  simp only[zO hi,zhD _ _ _ h hg,Option.bind_some,qm i _ hi (by omega)]
  rw[if_pos (by omega)]
 ·unfold jg
  rw[if_neg (by omega)];rfl
def zcs(s:zn):Bool:=s.Frozen.all (yZ s.Own)
def zcd(s:zn):Bool:=s.Cells.all fun c=>yZ s.Own (zay c.Key)
def XF(s:zn):Bool:=s.Locks.all fun l=>yZ s.Own ⟨l.Lo,l.Hi⟩&&(!s.Wounded.contains l.Tx&&!s.Ended.contains l.Tx)
def KD(s:zn):Bool:=s.Wounded.all fun t=>!s.Ended.contains t
def Kt(s:zn):Bool:=decide ((s.Cells.length:Int)+kg s.Cells s.Helds≤60)
def zgY(s:zn):Bool:=zcs s&&zcd s&&XF s&&KD s&&(List.range s.Helds.length).all (YY s)&&Kt s
theorem zvE(s:zn)(h:zr s≤1048576)(hg:qF s.Locks=true):Z0 s ()=some ((List.range s.Helds.length).all (YY s)&&Kt s):=by
 have hc:s.Cells.length≤1048576:=by unfold zr at h;omega
 have hh:z8 s.Helds≤1048576:=by unfold zr at h;omega
 rw[y4] at hh
 have hb:=zbt s.Cells s.Helds
 unfold Z0 Kt
 simp only[zgF s h hg,zkk s h,Option.bind_some]
 rw[w64 (by omega) (by omega)]
 cases(List.range s.Helds.length).all (YY s)<;>simp
theorem zoT(s:zn)(h:zr s≤1048576)(hg:qF s.Locks=true):Z5 s ()=some (KD s&&((List.range s.Helds.length).all (YY s)&&Kt s)):=by
 have hW:s.Wounded.length≤1048576:=by unfold zr at h;omega
 have hE:s.Ended.length≤1048576:=by unfold zr at h;omega
 unfold Z5 KD
 rw[Xg s.Wounded (fun t=>!s.Ended.contains t) (some false) (some ((List.range s.Helds.length).all (YY s)&&Kt s)) (by omega) (fun kb i hi=> ?_) (fun kb=> ?_)]
 ·cases s.Wounded.all _<;>simp
 ·unfold Yp
  simp only[zO hi,zaP _ _ hE,Option.bind_some,qm i _ hi (by omega)]
  rw[if_pos (by omega)]
  cases s.Ended.contains s.Wounded[i]<;>simp
 ·unfold Yp
  rw[if_neg (by omega)]
  exact zvE s h hg
theorem zpJ(s:zn)(h:zr s≤1048576)(hg:qF s.Locks=true)(ho:qf s.Own=true):Qm s ()=some (XF s&&(KD s&&((List.range s.Helds.length).all (YY s)&&Kt s))):=by
 have hO:s.Own.length≤1048576:=by unfold zr at h;omega
 have hL:s.Locks.length≤1048576:=by unfold zr at h;omega
 have hW:s.Wounded.length≤1048576:=by unfold zr at h;omega
 have hE:s.Ended.length≤1048576:=by unfold zr at h;omega
 unfold Qm XF
 rw[Xg s.Locks (fun l=>yZ s.Own ⟨l.Lo,l.Hi⟩&&(!s.Wounded.contains l.Tx&&!s.Ended.contains l.Tx)) (some false) (some (KD s&&((List.range s.Helds.length).all (YY s)&&Kt s))) (by omega) (fun kb i hi=> ?_) (fun kb=> ?_)]
 ·cases s.Locks.all _<;>simp
 ·unfold YJ Zl jp
  simp only[zO hi,XT _ _ hO,ho,zjv hg hi,zaP _ _ hE,zaP _ _ hW,Option.bind_some,qm i _ hi (by omega),Bool.true_and]
  rw[if_pos (by omega)]
  cases yZ s.Own ⟨s.Locks[i].Lo,s.Locks[i].Hi⟩<;>cases s.Wounded.contains s.Locks[i].Tx<;>cases s.Ended.contains s.Locks[i].Tx<;>simp
 ·unfold YJ
  rw[if_neg (by omega)]
  exact zoT s h hg
theorem zkp{xs:List zu}(hg:jb xs=true){i:Nat}(hi:i < xs.length):0≤xs[i].Key∧xs[i].Key≤999:=by
 unfold jb at hg
 simp only[Bool.and_eq_true,List.all_eq_true] at hg
 have:=hg.2 i (List.mem_range.2 hi)
 unfold kC qB at this
 rw[List.getElem?_eq_getElem hi] at this
 simp only[Bool.and_eq_true,decide_eq_true_eq] at this
 exact this.1.1
theorem zAp(s:zn)(h:zr s≤1048576)(hg:qF s.Locks=true)(ho:qf s.Own=true)(hs:jb s.Cells=true):QR s ()=some (zcd s&&(XF s&&(KD s&&((List.range s.Helds.length).all (YY s)&&Kt s)))):=by
 have hO:s.Own.length≤1048576:=by unfold zr at h;omega
 have hC:s.Cells.length≤1048576:=by unfold zr at h;omega
 unfold QR zcd
 rw[Xg s.Cells (fun c=>yZ s.Own (zay c.Key)) (some false) (some (XF s&&(KD s&&((List.range s.Helds.length).all (YY s)&&Kt s)))) (by omega) (fun kb i hi=> ?_) (fun kb=> ?_)]
 ·cases s.Cells.all _<;>simp
 ·unfold YS
  simp only[zO hi,zgR,XT _ _ hO,ho,zgn (zkp hs hi),Option.bind_some,qm i _ hi (by omega),Bool.true_and]
  rw[if_pos (by omega)]
 ·unfold YS
  rw[if_neg (by omega)]
  exact zpJ s h hg ho
theorem zCC(s:zn)(h:zr s≤1048576)(hg:qF s.Locks=true)(ho:qf s.Own=true)(hf:qf s.Frozen=true)(hs:jb s.Cells=true):jA s false=some (zgY s):=by
 have hO:s.Own.length≤1048576:=by unfold zr at h;omega
 have hC:s.Frozen.length≤1048576:=by unfold zr at h;omega
 unfold jA zgY zcs
 rw[if_neg (by simp)]
 rw[Xg s.Frozen (yZ s.Own) (some false) (some (zcd s&&(XF s&&(KD s&&((List.range s.Helds.length).all (YY s)&&Kt s))))) (by omega) (fun kb i hi=> ?_) (fun kb=> ?_)]
 ·cases s.Frozen.all _<;>simp[Bool.and_assoc]
 ·unfold Yz
  simp only[zO hi,XT _ _ hO,ho,Q5 hf hi,Option.bind_some,qm i _ hi (by omega),Bool.true_and]
  rw[if_pos (by omega)]
 ·unfold Yz
  rw[if_neg (by omega)]
  exact zAp s h hg ho hs
def K9(s:zn):Bool:=qB s.Me 0 3&&qf s.Own&&qf s.Frozen&&jb s.Cells&&qF s.Locks&&qB s.Rank 0 1000000&&(decide (s.Helds.length≤60)&&decide (s.Wounded.length≤60)&&decide (s.Ended.length≤60)&&jD s.Wounded&&jD s.Ended)&&zgY s
theorem zdZ(s:zn)(h:zr s≤1048576):Ya s=some (K9 s):=by
 have hO:s.Own.length≤1048576:=by unfold zr at h;omega
 have hF:s.Frozen.length≤1048576:=by unfold zr at h;omega
 have hC:s.Cells.length≤1048576:=by unfold zr at h;omega
 have hL:s.Locks.length≤1048576:=by unfold zr at h;omega
 have hW:s.Wounded.length≤1048576:=by unfold zr at h;omega
 have hE:s.Ended.length≤1048576:=by unfold zr at h;omega
 have J2:jz s true=some false:=rfl
 have J5:jA s true=some false:=rfl
 unfold Ya K9
 simp only[zdp,xx _ hO,xx _ hF,zaG _ hC,zeh _ hL,Option.bind_some]
 cases qB s.Me 0 3
 ·simp[J2]
 cases ho:qf s.Own
 ·simp[J2]
 cases hf:qf s.Frozen
 ·simp[J2]
 cases hs:jb s.Cells
 ·simp[J2]
 cases hg:qF s.Locks
 ·simp[J2]
 cases qB s.Rank 0 1000000
 ·simp[J2]
 simp only[if_true,Bool.not_true,Bool.true_and]
 unfold jz
 simp only[zgW _ hW,zgW _ hE,Option.bind_some,Bool.false_eq_true,if_false,J5]
 by_cases c1:60 < (s.Helds.length:Int)
 ·have:¬s.Helds.length≤60:=by omega
  simp[c1,this]
 by_cases c2:60 < (s.Wounded.length:Int)
 ·have:¬s.Wounded.length≤60:=by omega
  simp[c1,c2,this]
 by_cases c3:60 < (s.Ended.length:Int)
 ·have:¬s.Ended.length≤60:=by omega
  simp[c1,c2,c3,this]
 have d1:s.Helds.length≤60:=by omega
 have d2:s.Wounded.length≤60:=by omega
 have d3:s.Ended.length≤60:=by omega
 simp only[c1,c2,c3,if_false,d1,d2,d3,decide_true,Bool.true_and]
 cases jD s.Wounded<;>cases jD s.Ended<;>simp[J5,zCC s h hg ho hf hs]
def zbx(s:zn):List Int:=s.Helds.map (·.Tx)
def zc9(s:zn):Bool:=decide (zbx s++(s.Wounded++s.Ended)).Nodup
def ziF(s:zn):Bool:=qB s.Me 0 3&&qf s.Own&&qf s.Frozen&&jb s.Cells&&qF s.Locks&&(s.Helds.all (zbL s)&&jD (zbx s))&&jD s.Wounded&&jD s.Ended&&qB s.Rank 0 1000000&&(zcs s&&zcd s&&XF s&&zc9 s&&Kt s)
theorem zDI(s:zn)(h:zr s≤1048576):yN s false=some (XF s&&zc9 s&&Kt s):=by
 have hO:s.Own.length≤1048576:=by unfold zr at h;omega
 have hL:s.Locks.length≤1048576:=by unfold zr at h;omega
 have hWE:s.Wounded.length+s.Ended.length≤1048576:=by unfold zr at h;omega
 have hh:z8 s.Helds+s.Wounded.length+s.Ended.length≤1048576:=by unfold zr at h;omega
 rw[y4] at hh
 have hn:s.Helds.length≤1048576:=by omega
 have hfl:[s.Wounded,s.Ended].flatten=s.Wounded++s.Ended:=by simp
 unfold yN
 rw[if_neg (by simp),zgu _ (by simp) (by simp[j3];omega),hfl]
 simp only[zcR _ _ _ hO (show(s.Wounded++s.Ended).length≤1048576 by simpa using hWE) hL,ziQ _ hn,Option.bind_some]
 have eL:(s.Locks.any fun l=>!yZ s.Own ⟨l.Lo,l.Hi⟩||(s.Wounded++s.Ended).contains l.Tx)= !XF s:=by
  unfold XF
  rw[List.not_all_eq_any_not]
  congr 1
  funext l
  rw[List.contains_append]
  cases yZ s.Own ⟨l.Lo,l.Hi⟩<;>cases s.Wounded.contains l.Tx<;>cases s.Ended.contains l.Tx<;>rfl
 rw[eL]
 cases XF s
 ·simp
 ·simp only[Bool.not_true,Bool.false_eq_true,if_false,Bool.true_and]
  have hlen:(List.map (fun x=>x.Tx) s.Helds++(s.Wounded++s.Ended)).length≤1048576:=by simp;omega
  rw[if_pos (by omega)]
  unfold kh J7
  rw[if_pos (by omega)]
  simp only[Option.bind_some]
  rw[if_pos (XY _),zaN _ (by rw[XY];omega)]
  simp only[Option.bind_some]
  rw[if_pos (by rw[XY];omega)]
  simp only[Option.bind_some,zrB s h]
  have e:=zgt (List.map (fun x=>x.Tx) s.Helds++(s.Wounded++s.Ended))
  unfold zc9 zbx Kt
  by_cases c:(List.map (fun x=>x.Tx) s.Helds++(s.Wounded++s.Ended)).Nodup
  ·rw[if_pos (by have:=e.2 c;omega)]
   simp[c]
  ·rw[if_neg (fun k=>c (e.1 (by omega)))]
   simp[c]
theorem zd5(s:zn)(h:zr s≤1048576):Z1 s=some (ziF s):=by
 have hO:s.Own.length≤1048576:=by unfold zr at h;omega
 have hF:s.Frozen.length≤1048576:=by unfold zr at h;omega
 have hC:s.Cells.length≤1048576:=by unfold zr at h;omega
 have hL:s.Locks.length≤1048576:=by unfold zr at h;omega
 have hW:s.Wounded.length≤1048576:=by unfold zr at h;omega
 have hE:s.Ended.length≤1048576:=by unfold zr at h;omega
 have J2:qD s true=some false:=rfl
 have J5:yN s true=some false:=rfl
 have K2:qD s false=some (zcs s&&zcd s&&XF s&&zc9 s&&Kt s):=by
  unfold qD zcs zcd
  rw[if_neg (by simp)]
  simp only[zcN _ _ hO hF,zcI _ _ hO hC,Option.bind_some]
  rw[←List.not_all_eq_any_not,←List.not_all_eq_any_not]
  cases s.Frozen.all fun a=>yZ s.Own a<;>cases s.Cells.all fun a=>yZ s.Own (zay a.Key)<;>simp[J5,zDI s h]
 unfold Z1 ziF zbx
 simp only[zji,Xz _ hO,Xz _ hF,za4 _ hC,zaZ _ hL,Option.bind_some]
 cases qB s.Me 0 3
 ·simp[J2]
 cases ho:qf s.Own
 ·simp[J2]
 cases hf:qf s.Frozen
 ·simp[J2]
 cases hs:jb s.Cells
 ·simp[J2]
 cases hg:qF s.Locks
 ·simp[J2]
 simp only[zjw s h hg,za3 _ hW,za3 _ hE,za8,Option.bind_some,if_true,Bool.true_and]
 cases s.Helds.all (zbL s)
 ·simp[J2]
 cases jD (s.Helds.map (·.Tx))
 ·simp[J2]
 cases jD s.Wounded
 ·simp[J2]
 cases jD s.Ended
 ·simp[J2]
 cases qB s.Rank 0 1000000<;>simp[J2,K2]
theorem zdb(s:zn){i:Nat}(hi:i < s.Helds.length):YY s i=(zhh (zbx s) i&&zbL s s.Helds[i]&&(!s.Wounded.contains s.Helds[i].Tx&&!s.Ended.contains s.Helds[i].Tx)):=by
 unfold YY zhh zbL zbx
 simp only[List.getElem?_map,List.getElem?_eq_getElem hi,Option.map_some]
 by_cases h0:i=0
 ·subst h0
  simp[Bool.and_assoc]
 ·have h3:i - 1 < s.Helds.length:=by omega
  simp[List.getElem?_eq_getElem h3,h0,Bool.and_assoc]
theorem zjq(s:zn):(List.range s.Helds.length).all (YY s)=(s.Helds.all (zbL s)&&jD (zbx s)&&(zbx s).all fun t=>!s.Wounded.contains t&&!s.Ended.contains t):=by
 rw[Bool.eq_iff_iff]
 unfold jD
 simp only[Bool.and_eq_true,List.all_eq_true,List.mem_range]
 have hl:(zbx s).length=s.Helds.length:=by unfold zbx;simp
 constructor
 ·intro H
  have H':∀i (hi:i < s.Helds.length),_:=fun i hi=>by have:=H i hi;rw[zdb s hi] at this;simpa only[Bool.and_eq_true] using this
  refine⟨⟨fun x hx=> ?_,fun i hi=>(H' i (by omega)).1.1⟩,fun t ht=> ?_⟩
  ·obtain⟨i,hi,rfl⟩:=List.mem_iff_getElem.1 hx
   exact(H' i hi).1.2
  ·unfold zbx at ht
   obtain⟨x,hx,rfl⟩:=List.mem_map.1 ht
   obtain⟨i,hi,rfl⟩:=List.mem_iff_getElem.1 hx
   exact(H' i hi).2
 ·rintro⟨⟨h1,h2⟩,h3⟩ i hi
  rw[zdb s hi]
  simp only[Bool.and_eq_true]
  exact⟨⟨h2 i (by omega),h1 _ (List.getElem_mem hi)⟩,h3 _ (by unfold zbx;exact List.mem_map.2 ⟨_,List.getElem_mem hi,rfl⟩)⟩
theorem zkV(s:zn):K9 s=ziF s:=by
 unfold K9 ziF zgY
 rw[zjq]
 rw[Bool.eq_iff_iff]
 simp only[Bool.and_eq_true,decide_eq_true_eq]
 have hl:(zbx s).length=s.Helds.length:=by unfold zbx;simp
 have ap:jD (zbx s)=true→jD s.Wounded=true→jD s.Ended=true→(zc9 s=true↔(KD s=true∧((zbx s).all fun t=>!s.Wounded.contains t&&!s.Ended.contains t)=true)):=by
  intro g1 g2 g3
  unfold zc9 KD
  simp only[decide_eq_true_eq,List.nodup_append,List.all_eq_true,Bool.and_eq_true,Bool.not_eq_true',List.mem_append]
  have nc:∀(xs:List Int) (z:Int),xs.contains z=false↔z∉xs:=fun xs z=>by
   rw[←List.contains_iff_mem]
   cases xs.contains z<;>simp
  simp only[nc]
  constructor
  ·rintro⟨_,⟨_,_,d1⟩,d2⟩
   exact⟨fun t ht he=>d1 t ht t he rfl,fun t ht=>⟨fun hw=>d2 t ht t (.inl hw) rfl,fun he=>d2 t ht t (.inr he) rfl⟩⟩
  ·rintro⟨w,d⟩
   refine⟨KF g1,⟨KF g2,KF g3,fun a ha b hb e=>w a ha (e▸hb)⟩,fun a ha b hb e=> ?_⟩
   subst e
   rcases hb with hb|hb
   ·exact(d a ha).1 hb
   ·exact(d a ha).2 hb
 constructor
 ·rintro⟨⟨⟨⟨⟨⟨⟨a1,a2⟩,a3⟩,a4⟩,a5⟩,a6⟩,⟨⟨⟨b1,b2⟩,b3⟩,b4⟩,b5⟩,⟨⟨⟨⟨c1,c2⟩,c3⟩,c4⟩,⟨c5,c6⟩,c7⟩,c8⟩
  exact⟨⟨⟨⟨⟨⟨⟨⟨⟨a1,a2⟩,a3⟩,a4⟩,a5⟩,c5,c6⟩,b4⟩,b5⟩,a6⟩,⟨⟨⟨c1,c2⟩,c3⟩,(ap c6 b4 b5).2 ⟨c4,c7⟩⟩,c8⟩
 ·rintro⟨⟨⟨⟨⟨⟨⟨⟨⟨a1,a2⟩,a3⟩,a4⟩,a5⟩,c5,c6⟩,b4⟩,b5⟩,a6⟩,⟨⟨⟨c1,c2⟩,c3⟩,c4⟩,c8⟩
  have k:=(ap c6 b4 b5).1 c4
  exact⟨⟨⟨⟨⟨⟨⟨a1,a2⟩,a3⟩,a4⟩,a5⟩,a6⟩,⟨⟨⟨by have:=zbT c6;omega,zbT b4⟩,zbT b5⟩,b4⟩,b5⟩,⟨⟨⟨⟨c1,c2⟩,c3⟩,k.1⟩,⟨c5,c6⟩,k.2⟩,c8⟩
theorem zee(s:zn)(h:zr s≤1048576):Z1 s=some (K9 s):=by rw[zkV];exact zd5 s h
def hb(f:Nat→Bool):List Bool:=(List.range 1001).map f
theorem zuJ(f:Nat→Bool):(hb f).length=1001:=by simp[hb]
theorem zkU(f:Nat→Bool){k:Nat}(h:k < 1001):idx (hb f) (k:Int)=some (f k):=by
 rw[zO (by rw[zuJ];exact h)]
 simp[hb]
theorem zsZ(f:Nat→Bool){k:Nat}(h:k < 1001)(v:Bool):(hb f).set k v=hb (fun j=>if j=k then v else f j):=by
 apply List.ext_getElem
 ·simp[hb]
 ·intro i h1 h2
  rw[List.getElem_set]
  simp only[hb,List.getElem_map,List.getElem_range]
  by_cases e:k=i
  ·subst e;simp
  ·rw[if_neg e,if_neg (Ne.symm e)]
theorem zct{f g:Nat→Bool}(h:∀j,j < 1001→f j=g j):hb f=hb g:=by
 unfold hb
 apply List.map_congr_left
 intro j hj
 exact h j (List.mem_range.1 hj)
def zbe(a:ze)(k:Nat):Bool:=decide (a.Lo≤(k:Int))&&decide ((k:Int) < a.Hi)
def ZX(xs:List ze)(a:ze)(w:Bool)(k:Nat):Bool:=if zbe a k then w else xs.any fun b=>zbe b k
theorem kY{a:ze}(h:qa a=true):0≤a.Lo∧a.Lo < a.Hi∧a.Hi≤1000:=by
 unfold qa at h
 simp only[Bool.and_eq_true,decide_eq_true_eq] at h
 exact⟨h.1.1,h.1.2,h.2⟩
def rI(is:Nat→Bool):Nat→List ze
 |0=>[]
 |n+1=>if is n=true then(match (rI is n).getLast? with|some r=>if r.Hi=(n:Int) then(rI is n).dropLast++[⟨r.Lo,((n+1:Nat):Int)⟩] else rI is n++[⟨(n:Int),((n+1:Nat):Int)⟩]|none=>[⟨(n:Int),((n+1:Nat):Int)⟩]) else rI is n
theorem zko(is:Nat→Bool):∀n,(rI is n).length≤n
 |0=>by simp[rI]
 |n+1=>by
  have ih:=zko is n
  unfold rI
  split
  ·split
   ·rename_i r hr
    split
    ·have:(rI is n).dropLast.length=(rI is n).length - 1:=List.length_dropLast
     simp only[List.length_append,List.length_cons,List.length_nil];omega
    ·simp only[List.length_append,List.length_cons,List.length_nil];omega
   ·simp
  ·omega
def rS(is:Nat→Bool):Nat→List ze×Int
 |0=>([],-1)
 |n+1=>if is n=true then((rS is n).1,if (rS is n).2 < 0 then(n:Int) else(rS is n).2) else if 0≤(rS is n).2 then((rS is n).1++[⟨(rS is n).2,(n:Int)⟩],-1) else((rS is n).1,(rS is n).2)
theorem zkJ(is:Nat→Bool):∀n,(rS is n).1.length≤n
 |0=>by simp[rS]
 |n+1=>by
  have ih:=zkJ is n
  unfold rS
  split
  ·simp only;omega
  ·split
   ·simp only[List.length_append,List.length_cons,List.length_nil];omega
   ·simp only;omega
theorem zke(is:Nat→Bool):∀n:Nat,rI is n=(rS is n).1++(if 0≤(rS is n).2 then[⟨(rS is n).2,(n:Int)⟩] else[])∧(∀r∈(rS is n).1,r.Hi < (n:Int))∧-1≤(rS is n).2
 |0=>by simp[rI,rS]
 |n+1=>by
  obtain⟨h1,h2,h3⟩:=zke is n
  generalize hS:rS is n=S at h1 h2 h3
  obtain⟨out,fr⟩:=S
  simp only at h1 h2 h3
  cases hi:is n with
  |true=>
   have e2:rS is (n+1)=(out,if fr < 0 then(n:Int) else fr):=by simp[rS,hi,hS]
   rw[e2]
   by_cases h0:0≤fr
   ·have hn:¬fr < 0:=by omega
    rw[if_pos h0] at h1
    simp only[hn,h0,if_true,if_false]
    refine⟨?_,fun r hr=>by have:=h2 r hr;omega,h3⟩
    unfold rI
    rw[if_pos hi,h1]
    simp
   ·have hn:fr < 0:=by omega
    rw[if_neg h0,List.append_nil] at h1
    simp only[hn,if_true]
    have hnn:(0:Int)≤(n:Int):=by omega
    rw[if_pos hnn]
    refine⟨?_,fun r hr=>by have:=h2 r hr;omega,by omega⟩
    unfold rI
    rw[if_pos hi,h1]
    cases hl:out.getLast? with
    |none=>
     have:out=[]:=List.getLast?_eq_none_iff.1 hl
     simp[this]
    |some r=>
     have hm:r∈out:=List.mem_of_getLast? hl
     have:=h2 r hm
     simp only
     rw[if_neg (by omega)]
  |false=>
   have hr:rI is (n+1)=rI is n:=by simp[rI,hi]
   rw[hr,h1]
   by_cases h0:0≤fr
   ·have e2:rS is (n+1)=(out++[⟨fr,(n:Int)⟩],-1):=by simp[rS,hi,hS,h0]
    rw[e2]
    simp only[h0,if_true]
    refine⟨by simp,fun r hr=> ?_,by omega⟩
    rcases List.mem_append.1 hr with hr|hr
    ·have:=h2 r hr;omega
    ·rw[List.mem_singleton] at hr;subst hr;simp only;omega
   ·have e2:rS is (n+1)=(out,fr):=by simp[rS,hi,hS,h0]
    rw[e2]
    simp only[h0,if_false]
    exact⟨by first|trivial|rfl,fun r hr=>by have:=h2 r hr;omega,h3⟩
theorem zr1(is:Nat→Bool)(n:Nat)(h:is n=false):(rS is (n+1)).1=rI is n:=by
 obtain⟨h1,_,_⟩:=zke is n
 rw[h1]
 simp only[rS,h,Bool.false_eq_true,if_false]
 split<;>simp
def kK(xs:List ze)(a:ze)(w:Bool):List ze×Bool:=if qf xs&&qa a then(if 16 < ((rI (ZX xs a w) 1000).length:Int) then([],false) else(rI (ZX xs a w) 1000,true)) else([],false)
theorem ziI(a:ze)(k:Nat)(h:-1000000≤a.Hi∧a.Hi≤1000000):Zd a (k:Int)=some (zbe a k):=by
 unfold Zd zbe
 rw[w64 (by omega) (by omega)]
 simp only[za8,Option.bind_some,qB]
 congr 2
 rw[decide_eq_decide]
 omega
theorem zg1(xs:List ze)(a:ze)(w:Bool)(k:Nat)(hx:qf xs=true)(ha:qa a=true):Z6 (k:Int) a w xs=some (ZX xs a w k):=by
 have hl:=Xq hx
 have hb:=kY ha
 have hc:ql xs (k:Int)=some (xs.any fun b=>zbe b k):=by
  unfold ql qQ
  rw[JV xs (fun b=>zbe b k) (by omega) (fun kb i hi=> ?_) (fun kb=> ?_)]
  ·simp only[Option.bind_some]
   rw[ZC]
  ·have hbi:=kY (Q5 hx hi)
   unfold qM QH
   simp only[zO hi,Option.bind_some,ziI xs[i] k (by omega),qm i _ hi (by omega)]
   rw[if_pos (by omega)]
  ·unfold qM
   rw[if_neg (by simp)]
   rfl
 unfold Z6 ZX
 simp only[ziI a k (by omega),Option.bind_some,hc]
 split<;>rfl
theorem ziy(xs:List ze)(a:ze)(w:Bool)(hx:qf xs=true)(ha:qa a=true):jy a w xs=some (rI (ZX xs a w) 1000):=by
 unfold jy
 refine qS (fun i=>(rI (ZX xs a w) i,(i:Int))) _ 1000 (by omega) (fun kb i hi=> ?_) (fun kb=> ?_) (by simp[rI])
 ·have hle:=zko (ZX xs a w) i
  unfold yd jr
  simp only[zg1 xs a w i hx ha,Option.bind_some,qm i 1000 hi (by omega)]
  rw[if_pos (by omega)]
  have hrw:rI (ZX xs a w) (i+1)=if ZX xs a w i=true then(match (rI (ZX xs a w) i).getLast? with|some r=>if r.Hi=(i:Int) then(rI (ZX xs a w) i).dropLast++[⟨r.Lo,((i+1:Nat):Int)⟩] else rI (ZX xs a w) i++[⟨(i:Int),((i+1:Nat):Int)⟩]|none=>[⟨(i:Int),((i+1:Nat):Int)⟩]) else rI (ZX xs a w) i:=rfl
  rw[hrw]
  cases hi1:ZX xs a w i with
  |false=>simp
  |true=>
   simp only[if_true]
   generalize rI (ZX xs a w) i=out at hle
   cases ho:out.getLast? with
   |none=>
    have:out=[]:=List.getLast?_eq_none_iff.1 ho
    subst this
    simp
   |some r=>
    have hne:out≠[]:=fun e=>by subst e;simp at ho
    have hpos:0 < out.length:=List.length_pos_iff.2 hne
    have hlast:out.length - 1 < out.length:=by omega
    have hr:out[out.length - 1]=r:=by
     rw[List.getLast?_eq_getElem?,List.getElem?_eq_getElem hlast] at ho
     exact Option.some.inj ho
    have e1:IntKind.wrap .i64 (((out.length:Nat):Int) - 1)=((out.length - 1:Nat):Int):=by rw[w64 (by omega) (by omega)];omega
    rw[if_pos (by omega)]
    simp only[e1,zO hlast,Option.bind_some,hr]
    by_cases hh:r.Hi=(i:Int)
    ·simp only[hh,decide_true,if_true,e1,zO hlast,Option.bind_some,hr,Int.toNat_natCast,qm i 1000 hi (by omega)]
     have e2:out.set (out.length - 1) (ze.mk r.Lo ((i+1:Nat):Int))=out.dropLast++[ze.mk r.Lo ((i+1:Nat):Int)]:=by
      obtain⟨ys,rfl⟩:=List.getLast?_eq_some_iff.1 ho
      rw[List.set_append_right _ _ (by simp)]
      simp
     rw[←e2]
    ·simp only[hh,decide_false,Bool.false_eq_true,if_false]
     rw[if_pos (by simp;omega)]
 ·unfold yd yc
  rw[if_neg (by simp)]
theorem zjF(xs:List ze)(a:ze)(w:Bool)(h:xs.length≤1048576):Yb xs a w=some (kK xs a w):=by
 unfold Yb QQ kK
 simp only[Xz _ h,Yc,Option.bind_some]
 cases hx:qf xs
 ·simp
 cases ha:qa a
 ·simp
 simp only[if_true,Bool.not_true,Bool.false_eq_true,if_false,Bool.and_self,ziy xs a w hx ha,Option.bind_some]
 split<;>rfl
theorem zfN{R:Type}{f:(List Bool×Int→Option R)→List Bool×Int→Option R}(g:Nat→Bool)(v:Bool)(lo n:Nat)(k:List Bool→Option R)(hn:lo+n≤1000)
  (hs:∀kb (ys:List Bool) (j:Nat),lo≤j→j < lo+n→(∃b,idx ys (j:Int)=some b)→f kb (ys,(j:Int))=kb (ys.set j v,((j+1:Nat):Int)))
  (he:∀kb (ys:List Bool),f kb (ys,((lo+n:Nat):Int))=k ys) {s0:Int} (h0:s0=(lo:Int)):iter f FU (hb g,s0)=k (hb fun j=>if lo≤j∧j < lo+n then v else g j):=by
 subst h0
 refine qS (fun i=>(hb (fun j=>if lo≤j∧j < lo+i then v else g j),((lo+i:Nat):Int))) _ n (by omega) (fun kb i hi=> ?_) (fun kb=> ?_) ?_
 ·rw[hs kb _ (lo+i) (by omega) (by omega) ⟨_,zkU _ (by omega)⟩,zsZ _ (by omega)]
  congr 1
  congr 1
  refine zct fun j _=> ?_
  by_cases e:j=lo+i
  ·subst e;simp
  ·rw[if_neg e]
   by_cases h1:lo≤j∧j < lo+i
   ·rw[if_pos h1,if_pos ⟨h1.1,by omega⟩]
   ·rw[if_neg h1,if_neg (fun h=>h1 ⟨h.1,by omega⟩)]
 ·exact he kb _
 ·congr 1
  refine zct fun j _=> ?_
  rw[if_neg (by omega)]
theorem zks{a:ze}(h:qa a=true)(j:Nat):(a.Lo.toNat≤j∧j < a.Lo.toNat+(a.Hi - a.Lo).toNat)↔zbe a j=true:=by
 have:=kY h
 unfold zbe
 simp only[Bool.and_eq_true,decide_eq_true_eq]
 omega
theorem zi7(xs:List ze)(a:ze)(w:Bool)(h:xs.length≤1048576):Yd xs a w=some (kK xs a w):=by
 unfold Yd kK
 simp only[xx _ h,Zp,Option.bind_some]
 cases hx:qf xs
 ·simp[yL]
 cases ha:qa a
 ·simp[yL]
 simp only[if_true,Bool.not_true,Bool.and_self]
 have hl:=Xq hx
 have hab:=kY ha
 unfold yL
 rw[if_neg (by simp),if_pos (by omega)]
 have hz:List.replicate (Int.toNat 1001) false=hb fun _=>false:=by
  unfold hb
  rw[List.map_const',List.length_range]
  rfl
 have fill:∀(r:ze),qa r=true→∃lo n:Nat,r.Lo=(lo:Int)∧r.Hi=((lo+n:Nat):Int)∧lo+n≤1000∧(∀j:Nat,(lo≤j∧j < lo+n)↔zbe r j=true):=fun r hr=>by
  have hb:=kY hr
  exact⟨r.Lo.toNat,(r.Hi - r.Lo).toNat,by omega,by omega,by omega,fun j=>zks hr j⟩
 have main:∀kx:List Bool→Option (List ze×Bool),iter (ZU xs kx) FU (hb (fun _=>false),0)=kx (hb fun j=>xs.any fun b=>zbe b j):=fun kx=>by
  refine qS (fun i=>(hb (fun j=>(xs.take i).any fun b=>zbe b j),(i:Int))) _ xs.length (by omega) (fun kb i hi=> ?_) (fun kb=> ?_) (by simp)
  ·obtain⟨lo,n,e1,e2,e3,e4⟩:=fill xs[i] (Q5 hx hi)
   unfold ZU
   simp only[zO hi,Option.bind_some]
   rw[if_pos (by omega),zfN _ true lo n (Z2 kb (hb (fun j=>(xs.take i).any fun b=>zbe b j),(i:Int))) e3 (fun kb ys j h1 h2 hb'=> ?_) (fun kb ys=> ?_) e1]
   ·unfold Z2
    simp only[qm i _ hi (by omega)]
    congr 1
    congr 1
    refine zct fun j _=> ?_
    rw[List.take_succ_eq_append_getElem hi,List.any_append]
    simp only[List.any_cons,List.any_nil,Bool.or_false]
    by_cases hh:lo≤j∧j < lo+n
    ·rw[if_pos hh,(e4 j).1 hh,Bool.or_true]
    ·rw[if_neg hh]
     have:zbe xs[i] j=false:=by
      rw[Bool.eq_false_iff];exact fun h=>hh ((e4 j).2 h)
     rw[this,Bool.or_false]
   ·unfold Yu
    obtain⟨b,hb'⟩:=hb'
    simp only[zO hi,Option.bind_some,hb',Int.toNat_natCast,qm j (lo+n) h2 (by omega)]
    rw[if_pos (by omega)]
   ·unfold Yu
    simp only[zO hi,Option.bind_some]
    rw[if_neg (by omega)]
  ·unfold ZU
   rw[if_neg (by simp),List.take_length]
 rw[hz,main]
 unfold xk
 obtain⟨lo,n,e1,e2,e3,e4⟩:=fill a ha
 rw[zfN _ w lo n Ql e3 (fun kb ys j h1 h2 hb'=> ?_) (fun kb ys=> ?_) e1]
 ·have hcc:(hb fun j=>if lo≤j∧j < lo+n then w else xs.any fun b=>zbe b j)=hb (ZX xs a w):=by
   refine zct fun j _=> ?_
   unfold ZX
   by_cases hh:lo≤j∧j < lo+n
   ·rw[if_pos hh,if_pos ((e4 j).1 hh)]
   ·rw[if_neg hh,if_neg (fun h=>hh ((e4 j).2 h))]
  rw[hcc]
  have hend:ZX xs a w 1000=false:=by
   unfold ZX
   have h1:zbe a 1000=false:=by unfold zbe;simp;omega
   rw[h1]
   simp only[Bool.false_eq_true,if_false]
   rw[List.any_eq_false]
   intro b hb
   obtain⟨i,hi,rfl⟩:=List.getElem_of_mem hb
   have:=kY (Q5 hx hi)
   unfold zbe;simp;omega
  generalize ZX xs a w=is at hend
  have hrI:=zr1 is 1000 hend
  rw[←hrI]
  have fin:iter (Z7 (hb is) Za) FU (([]:List ze),(-1),0)=Za (rS is 1001).1:=by
   refine qS (fun i=>((rS is i).1,(rS is i).2,(i:Int))) _ 1001 (by omega) (fun kb i hi=> ?_) (fun kb=> ?_) (by simp[rS])
   ·have hle:=zkJ is i
    obtain⟨_,_,h3⟩:=zke is i
    unfold Z7 Z8 Zh Qc
    simp only[zkU is hi,Option.bind_some,qm i 1001 hi (by omega),rS]
    rw[if_pos (by omega)]
    generalize rS is i=S at hle h3
    obtain⟨out,fr⟩:=S
    simp only at hle h3
    cases is i with
    |true=>by_cases h0:fr < 0<;>simp[h0]
    |false=>
     by_cases h0:0≤fr
     ·simp[h0];omega
     ·simp[h0]
   ·unfold Z7
    rw[if_neg (by simp)]
  unfold Ql
  rw[fin]
  unfold Za
  split<;>rfl
 ·unfold Yn
  obtain⟨b,hb'⟩:=hb'
  simp only[hb',Option.bind_some,Int.toNat_natCast,qm j (lo+n) h2 (by omega)]
  rw[if_pos (by omega)]
 ·unfold Yn
  simp only
  rw[if_neg (by omega)]
theorem zih(xs:List ze)(a:ze)(w:Bool):(kK xs a w).1.length≤16:=by
 unfold kK
 split
 ·split
  ·simp
  ·simp only;omega
 ·simp
theorem zcJ(xs:List ze)(a:ze)(h:xs.length≤1048576):ZJ xs a=some (kK xs a false):=by
 simp only[ZJ,zi7 _ _ _ h,Option.bind_some]
theorem zcm(xs:List ze)(a:ze)(h:xs.length≤1048576):ZD xs a=some (kK xs a false):=by
 simp only[ZD,zjF _ _ _ h,Option.bind_some]
def zbS(xs:List ze)(a:ze):Bool:=xs.any fun b=>x9 a b
theorem ziu(xs:List ze)(a:ze)(h:xs.length≤1048576)(hx:qf xs=true)(ha:qa a=true):QT xs a=some (zbS xs a):=by
 unfold QT zbS
 rw[zfr xs (fun b=>x9 a b) (some true) (some false) (by omega) (fun kb i hi=> ?_) (fun kb=> ?_)]
 ·cases xs.any fun b=>x9 a b<;>rfl
 ·unfold YF
  simp only[zO hi,Option.bind_some,zdG,qm i _ hi (by omega),Q5 hx hi,ha,Bool.true_and,zi2 (Q5 hx hi) ha]
  rw[if_pos (by omega)]
  have hc:x9 xs[i] a=x9 a xs[i]:=by unfold x9;rw[Bool.and_comm]
  rw[hc]
  cases x9 a xs[i]<;>simp
 ·unfold YF
  rw[if_neg (by simp)]
  rfl
theorem zjM(xs:List ze)(a:ze)(h:xs.length≤1048576):JC xs a=some (zbS xs a):=by
 unfold JC qJ jf zbS
 rw[JV xs (fun b=>x9 a b) (by omega) (fun kb i hi=> ?_) (fun kb=> ?_)]
 ·simp only[Option.bind_some,ZC]
 ·unfold qW Yx
  simp only[zO hi,Option.bind_some,ziC,qm i _ hi (by omega)]
  rw[if_pos (by omega)]
 ·unfold qW
  rw[if_neg (by simp)]
  rfl
theorem zdF(s:zn)(h:zr s≤1048576):j7 s=some s:=by
 have hh:s.Helds.length≤1048576:=by unfold zr z8 at h;omega
 have hH:z8 s.Helds≤1048576:=by unfold zr at h;omega
 have hs:s.Own.length≤1048576∧s.Frozen.length≤1048576∧s.Cells.length≤1048576∧s.Locks.length≤1048576∧s.Wounded.length≤1048576∧s.Ended.length≤1048576:=by unfold zr at h;omega
 unfold j7
 simp only[zbE _ hs.1,zbE _ hs.2.1,zgz _ hs.2.2.1,zgD _ hs.2.2.2.1,zaN _ hs.2.2.2.2.1,zaN _ hs.2.2.2.2.2,Option.bind_some]
 refine qS (fun i=>((i:Int),s.Helds.take i)) _ s.Helds.length (by omega) (fun kb i hi=> ?_) (fun kb=> ?_) (by simp)
 ·unfold Qu
  simp only[zO hi,Option.bind_some,zft _ (KT hH hi),qm i _ hi (by omega),List.take_succ_eq_append_getElem hi]
  rw[if_pos (by omega),if_pos (by simp;omega)]
 ·unfold Qu QL
  rw[if_neg (by simp),List.take_length]
theorem zfV(s:zn)(h:zr s≤1048576):Qn s=some s:=by
 have hh:s.Helds.length≤1048576:=by unfold zr z8 at h;omega
 have hH:z8 s.Helds≤1048576:=by unfold zr at h;omega
 have hs:s.Own.length≤1048576∧s.Frozen.length≤1048576∧s.Cells.length≤1048576∧s.Locks.length≤1048576∧s.Wounded.length≤1048576∧s.Ended.length≤1048576:=by unfold zr at h;omega
 unfold Qn
 rw[if_pos (by omega),if_pos (by omega),if_pos (by omega),if_pos (by omega)]
 refine qS (fun i=>((i:Int),s.Helds.take i)) _ s.Helds.length (by omega) (fun kb i hi=> ?_) (fun kb=> ?_) (by simp)
 ·have hw:=KT hH hi
  unfold YP
  simp only[zO hi,Option.bind_some,qm i _ hi (by omega),List.take_succ_eq_append_getElem hi]
  rw[if_pos (by omega),if_pos (by omega),if_pos (by simp;omega)]
 ·unfold YP xB
  rw[if_neg (by simp),List.take_length,if_pos (by omega),if_pos (by omega)]
def KW(s:zn)(rank:Int)(a:ze):Int:=if K9 s&&qB rank 1 1000000&&qa a then(if rank < s.Rank then 2 else 0) else 1
theorem zjt(s:zn)(rank:Int)(a:ze)(h:zr s≤1048576):JO s rank a=some (KW s rank a):=by
 unfold JO Zz KW
 simp only[zdZ _ h,zdp,Zp,Option.bind_some]
 cases K9 s<;>cases qB rank 1 1000000<;>cases qa a<;>simp
 split<;>rfl
theorem zjp(s:zn)(rank:Int)(a:ze)(h:zr s≤1048576):JI s rank a=some (KW s rank a):=by
 unfold JI Zy KW
 simp only[zee _ h,za8,Yc,Option.bind_some]
 cases K9 s<;>cases qB rank 1 1000000<;>cases qa a<;>simp
 split<;>rfl
def zfW:zn:=⟨0,[],[],[],[],[],[],[],0⟩
def Kf(s:zn)(code:Int):zn:=if code=1 then zfW else s
theorem zgI(s:zn)(code:Int)(h:zr s≤1048576):ZG s code=some (Kf s code):=by
 unfold ZG Kf
 rw[zfV s h]
 split<;>rfl
theorem zjJ(s:zn)(code:Int)(h:zr s≤1048576):JD s code=some (Kf s code,code):=by
 unfold JD Kf
 rw[zdF s h]
 split
 ·rename_i e;rw[e];rfl
 ·rfl
theorem zgv(s:zn)(code:Int):zr (Kf s code)≤zr s:=by
 unfold Kf
 split
 ·simp[zfW,zr,z8,j3]
 ·exact Nat.le_refl _
theorem zgX{s:zn}{rank:Int}{a:ze}(h:KW s rank a=0):K9 s=true∧qa a=true:=by
 unfold KW at h
 split at h
 ·rename_i hc
  simp only[Bool.and_eq_true] at hc
  exact⟨hc.1.1,hc.2⟩
 ·cases h
theorem zaa{s:zn}(h:K9 s=true):qf s.Own=true∧qf s.Frozen=true∧jb s.Cells=true∧qF s.Locks=true:=by
 unfold K9 at h
 simp only[Bool.and_eq_true] at h
 exact⟨h.1.1.1.1.1.1.2,h.1.1.1.1.1.2,h.1.1.1.1.2,h.1.1.1.2⟩
theorem zd7{xs:List ze}{a:ze}(h:xs.length≤1048576)(hx:qf xs=true)(ha:qa a=true):jt xs a=some (yZ xs a):=by
 rw[XT _ _ h,hx,ha]
 rfl
theorem zi0{α:Type}(f:α→Nat)(b:Nat):∀(xs:List α),(∀x∈xs,f x≤b)→j3 f xs≤b * xs.length
 |[],_=>by simp[j3]
 |x::xs,H=>by
  have:=zi0 f b xs fun y hy=>H y (List.mem_cons_of_mem _ hy)
  have:=H x List.mem_cons_self
  simp only[j3,List.length_cons,Nat.mul_add,Nat.mul_one]
  omega
theorem zhI{s:zn}(h:K9 s=true):zr s≤5000:=by
 obtain⟨k1,k2,k3,k4⟩:=zaa h
 have l1:=Xq k1
 have l2:=Xq k2
 have l3:=zcU k3
 have l4:=zcX k4
 unfold K9 zgY at h
 simp only[Bool.and_eq_true,decide_eq_true_eq] at h
 have h1:=h.1.2.1.1.1.1
 have h2:=h.1.2.1.1.1.2
 have h3:=h.1.2.1.1.2
 have hh:=h.2.1.2
 have hw:∀x∈s.Helds,x.Writes.length≤60:=fun x hx=>by
  obtain⟨i,hi,rfl⟩:=List.getElem_of_mem hx
  rw[List.all_eq_true] at hh
  have:=hh i (List.mem_range.2 hi)
  rw[zdb s hi] at this
  unfold zbL at this
  simp only[Bool.and_eq_true] at this
  exact zfI this.1.2.1
 have hs:=zi0 (fun x:zL=>x.Writes.length) 60 s.Helds hw
 unfold zr
 rw[y4]
 omega
def JG(k:Int):zu:=⟨k,k+1⟩
def xW(k:Int)(n:Nat):List zu:=(List.range n).map fun(i:Nat)=>JG (k+2 * (i:Int))
theorem zaw(k:Int)(n:Nat):(xW k n).length=n:=by simp[xW]
theorem zgl(xs:List zu)(k:Int)(h:xs.length≤1048576)(hk:0≤k)(hk':k≤1000000000000):ZL xs k=some (k+2 * (xs.length:Int),xW k xs.length):=by
 unfold ZL
 refine qS (fun i=>(kL (fun(i:Nat)=>JG (k+2 * (i:Int))) xs i,k+2 * (i:Int),(i:Int))) _ xs.length (by omega) (fun kb i hi=> ?_) (fun kb=> ?_) (by simp[X0])
 ·unfold QA
  have hl:=Q2 (fun(i:Nat)=>JG (k+2 * (i:Int))) (Nat.le_of_lt hi)
  have w1:IntKind.wrap .i64 (k+2 * (i:Int)+1)=k+2 * (i:Int)+1:=w64 (by omega) (by omega)
  have w2:IntKind.wrap .i64 (k+2 * (i:Int)+1+1)=k+2 * (i:Int)+2:=by rw[w64 (by omega) (by omega)];omega
  have e:k+2 * ((i+1:Nat):Int)=k+2 * (i:Int)+2:=by omega
  have hs:=KM (fun(i:Nat)=>JG (k+2 * (i:Int))) hi
  have hx:=K3 (fun(i:Nat)=>JG (k+2 * (i:Int))) hi
  show _=kb (kL (fun(i:Nat)=>JG (k+2 * (i:Int))) xs (i+1),k+2 * ((i+1:Nat):Int),((i+1:Nat):Int))
  rw[←hs,e]
  generalize kL (fun(i:Nat)=>JG (k+2 * (i:Int))) xs i=row at hl hx
  have hii:i < row.length:=by rw[hl];exact hi
  simp only[hx,Option.bind_some,Int.toNat_natCast,YC hii,List.set_set,qm i _ hi (by omega),w1,w2,hl,JG]
  rw[if_pos (by omega)]
 ·unfold QA QM
  have hl:=Q2 (fun(i:Nat)=>JG (k+2 * (i:Int))) (Nat.le_refl xs.length)
  rw[if_neg (by simp only[hl];omega),if_pos hl,KO]
  rfl
theorem zgo(n:Nat)(k:Int)(h:n≤1048576)(hk:0≤k)(hk':k≤1000000000000):ZK (xW k n) k=some (k+2 * (n:Int)):=by
 unfold ZK
 refine qS (fun i=>(k+2 * (i:Int),(i:Int))) _ n (by omega) (fun kb i hi=> ?_) (fun kb=> ?_) (by simp)
 ·unfold QC
  have w1:IntKind.wrap .i64 (k+2 * (i:Int)+1)=k+2 * (i:Int)+1:=w64 (by omega) (by omega)
  have w2:IntKind.wrap .i64 (k+2 * (i:Int)+1+1)=k+2 * (i:Int)+2:=by rw[w64 (by omega) (by omega)];omega
  have e:k+2 * ((i+1:Nat):Int)=k+2 * (i:Int)+2:=by omega
  have hx:idx (xW k n) (i:Int)=some (JG (k+2 * (i:Int))):=X1 _ hi
  simp only[hx,Option.bind_some,qm i _ hi (by omega),w1,w2,JG,zaw,not_true,if_false,e]
  rw[if_pos (by omega)]
 ·unfold QC QN
  rw[if_neg (by simp only[zaw];omega)]
def Qs(x:zL):Nat:=1+2 * x.Writes.length
def zgs(x:zL)(k:Int):zL:=zL.mk k (xW (k+1) x.Writes.length)
def zaO(xs:List zL)(k:Int)(i:Nat):zL:=match xs[i]? with
 |some x=>zgs x (k+(j3 Qs (xs.take i):Nat))
 |none=>zL.mk 0 []
theorem zhM(xs:List zL)(k:Int){i:Nat}(hi:i < xs.length):zaO xs k i=zgs xs[i] (k+(j3 Qs (xs.take i):Nat)):=by
 unfold zaO
 rw[List.getElem?_eq_getElem hi]
def JH(xs:List zL)(k:Int):List zL:=(List.range xs.length).map (zaO xs k)
theorem kA(xs:List zL)(k:Int):(JH xs k).length=xs.length:=by simp[JH]
theorem zfK:∀(xs:List zL),j3 Qs xs=xs.length+2 * j3 (fun y:zL=>qP y) xs
 |[]=>rfl
 |x::xs=>by
  have ih:=zfK xs
  simp only[j3,List.length_cons,ih,Qs,qP]
  omega
theorem zbl{xs:List zL}(h:z8 xs≤1048576)(i:Nat):j3 Qs (xs.take i)≤4194304:=by
 have h1:=kX Qs xs i
 have h2:=zfK xs
 unfold z8 at h
 omega
theorem zg3(xs:List zL)(k:Int)(h:z8 xs≤1048576)(hk:0≤k)(hk':k≤100000000):Zb xs k=some (k+(j3 Qs xs:Nat),JH xs k):=by
 obtain⟨hl0,hs0⟩:=Kv h
 unfold Zb
 refine qS (fun i=>(kL (zaO xs k) xs i,k+(j3 Qs (xs.take i):Nat),(i:Int))) _ xs.length (by omega) (fun kb i hi=> ?_) (fun kb=> ?_) (by simp[X0,j3])
 ·unfold Jo
  have hl:=Q2 (zaO xs k) (Nat.le_of_lt hi)
  have hs:=KM (zaO xs k) hi
  have hx:=K3 (zaO xs k) hi
  have hb:=zbl h i
  have hsz:=hs0 i hi
  unfold qP at hsz
  have e:k+((j3 Qs (xs.take (i+1)):Nat):Int)=k+(j3 Qs (xs.take i):Nat)+1+2 * (xs[i].Writes.length:Int):=by
   rw[Xb Qs hi];unfold Qs;omega
  show _=kb (kL (zaO xs k) xs (i+1),k+((j3 Qs (xs.take (i+1)):Nat):Int),((i+1:Nat):Int))
  rw[←hs,e,zhM xs k hi]
  have hkk:0≤k+((j3 Qs (xs.take i):Nat):Int)∧k+((j3 Qs (xs.take i):Nat):Int)≤110000000:=by omega
  generalize k+((j3 Qs (xs.take i):Nat):Int)=kk at hkk ⊢
  generalize kL (zaO xs k) xs i=row at hl hx ⊢
  have hii:i < row.length:=by rw[hl];exact hi
  have w1:IntKind.wrap .i64 (kk+1)=kk+1:=w64 (by omega) (by omega)
  have hS:=zgl xs[i].Writes (kk+1) (by omega) (by omega) (by omega)
  simp only[hx,Option.bind_some,Int.toNat_natCast,YC hii,List.set_set,qm i _ hi (by omega),w1,hS,hl,zgs]
  rw[if_pos (by omega)]
 ·unfold Jo Je
  have hl:=Q2 (zaO xs k) (Nat.le_refl xs.length)
  rw[if_neg (by simp only[hl];omega),if_pos hl,KO,List.take_length]
  rfl
theorem zhN(xs:List zL)(k:Int)(h:z8 xs≤1048576)(hk:0≤k)(hk':k≤100000000):y8 (JH xs k) k=some (k+(j3 Qs xs:Nat)):=by
 obtain⟨hl0,hs0⟩:=Kv h
 unfold y8
 refine qS (fun i=>(k+(j3 Qs (xs.take i):Nat),(i:Int))) _ xs.length (by omega) (fun kb i hi=> ?_) (fun kb=> ?_) (by simp[j3])
 ·unfold Jr
  have hx:idx (JH xs k) (i:Int)=some (zaO xs k i):=X1 _ hi
  have hb:=zbl h i
  have hsz:=hs0 i hi
  unfold qP at hsz
  have e:k+((j3 Qs (xs.take (i+1)):Nat):Int)=k+(j3 Qs (xs.take i):Nat)+1+2 * (xs[i].Writes.length:Int):=by
   rw[Xb Qs hi];unfold Qs;omega
  rw[e]
  rw[zhM xs k hi] at hx
  have hkk:0≤k+((j3 Qs (xs.take i):Nat):Int)∧k+((j3 Qs (xs.take i):Nat):Int)≤110000000:=by omega
  generalize k+((j3 Qs (xs.take i):Nat):Int)=kk at hkk hx ⊢
  have w1:IntKind.wrap .i64 (kk+1)=kk+1:=w64 (by omega) (by omega)
  have hS:=zgo xs[i].Writes.length (kk+1) (by omega) (by omega) (by omega)
  simp only[hx,Option.bind_some,qm i _ hi (by omega),w1,hS,kA,zgs,not_true,if_false]
  rw[if_pos (by omega),if_neg (by omega)]
 ·unfold Jr Jh
  rw[if_neg (by simp only[kA];omega),List.take_length]
def Jz(k:Int):ze:=⟨k,k+1⟩
def yA(k:Int)(n:Nat):List ze:=(List.range n).map fun(i:Nat)=>Jz (k+2 * (i:Int))
theorem Q0(k:Int)(n:Nat):(yA k n).length=n:=by simp[yA]
theorem zcE(xs:List ze)(k:Int)(h:xs.length≤1048576)(hk:0≤k)(hk':k≤1000000000000):jR xs k=some (k+2 * (xs.length:Int),yA k xs.length):=by
 unfold jR
 refine qS (fun i=>(kL (fun(i:Nat)=>Jz (k+2 * (i:Int))) xs i,k+2 * (i:Int),(i:Int))) _ xs.length (by omega) (fun kb i hi=> ?_) (fun kb=> ?_) (by simp[X0])
 ·unfold Qz
  have hl:=Q2 (fun(i:Nat)=>Jz (k+2 * (i:Int))) (Nat.le_of_lt hi)
  have w1:IntKind.wrap .i64 (k+2 * (i:Int)+1)=k+2 * (i:Int)+1:=w64 (by omega) (by omega)
  have w2:IntKind.wrap .i64 (k+2 * (i:Int)+1+1)=k+2 * (i:Int)+2:=by rw[w64 (by omega) (by omega)];omega
  have e:k+2 * ((i+1:Nat):Int)=k+2 * (i:Int)+2:=by omega
  have hs:=KM (fun(i:Nat)=>Jz (k+2 * (i:Int))) hi
  have hx:=K3 (fun(i:Nat)=>Jz (k+2 * (i:Int))) hi
  show _=kb (kL (fun(i:Nat)=>Jz (k+2 * (i:Int))) xs (i+1),k+2 * ((i+1:Nat):Int),((i+1:Nat):Int))
  rw[←hs,e]
  generalize kL (fun(i:Nat)=>Jz (k+2 * (i:Int))) xs i=row at hl hx
  have hii:i < row.length:=by rw[hl];exact hi
  simp only[hx,Option.bind_some,Int.toNat_natCast,YC hii,List.set_set,qm i _ hi (by omega),w1,w2,hl,Jz]
  rw[if_pos (by omega)]
 ·unfold Qz QE
  have hl:=Q2 (fun(i:Nat)=>Jz (k+2 * (i:Int))) (Nat.le_refl xs.length)
  rw[if_neg (by simp only[hl];omega),if_pos hl,KO]
  rfl
theorem zcl(n:Nat)(k:Int)(h:n≤1048576)(hk:0≤k)(hk':k≤1000000000000):jQ (yA k n) k=some (k+2 * (n:Int)):=by
 unfold jQ
 refine qS (fun i=>(k+2 * (i:Int),(i:Int))) _ n (by omega) (fun kb i hi=> ?_) (fun kb=> ?_) (by simp)
 ·unfold Qw
  have w1:IntKind.wrap .i64 (k+2 * (i:Int)+1)=k+2 * (i:Int)+1:=w64 (by omega) (by omega)
  have w2:IntKind.wrap .i64 (k+2 * (i:Int)+1+1)=k+2 * (i:Int)+2:=by rw[w64 (by omega) (by omega)];omega
  have e:k+2 * ((i+1:Nat):Int)=k+2 * (i:Int)+2:=by omega
  have hx:idx (yA k n) (i:Int)=some (Jz (k+2 * (i:Int))):=X1 _ hi
  simp only[hx,Option.bind_some,qm i _ hi (by omega),w1,w2,Jz,Q0,not_true,if_false,e]
  rw[if_pos (by omega)]
 ·unfold Qw QJ
  rw[if_neg (by simp only[Q0];omega)]
def kG(k:Int):zu:=⟨k,k+1⟩
def JK(k:Int)(n:Nat):List zu:=(List.range n).map fun(i:Nat)=>kG (k+2 * (i:Int))
theorem ka(k:Int)(n:Nat):(JK k n).length=n:=by simp[JK]
theorem zhH(xs:List zu)(k:Int)(h:xs.length≤1048576)(hk:0≤k)(hk':k≤1000000000000):y6 xs k=some (k+2 * (xs.length:Int),JK k xs.length):=by
 unfold y6
 refine qS (fun i=>(kL (fun(i:Nat)=>kG (k+2 * (i:Int))) xs i,k+2 * (i:Int),(i:Int))) _ xs.length (by omega) (fun kb i hi=> ?_) (fun kb=> ?_) (by simp[X0])
 ·unfold Jk
  have hl:=Q2 (fun(i:Nat)=>kG (k+2 * (i:Int))) (Nat.le_of_lt hi)
  have w1:IntKind.wrap .i64 (k+2 * (i:Int)+1)=k+2 * (i:Int)+1:=w64 (by omega) (by omega)
  have w2:IntKind.wrap .i64 (k+2 * (i:Int)+1+1)=k+2 * (i:Int)+2:=by rw[w64 (by omega) (by omega)];omega
  have e:k+2 * ((i+1:Nat):Int)=k+2 * (i:Int)+2:=by omega
  have hs:=KM (fun(i:Nat)=>kG (k+2 * (i:Int))) hi
  have hx:=K3 (fun(i:Nat)=>kG (k+2 * (i:Int))) hi
  show _=kb (kL (fun(i:Nat)=>kG (k+2 * (i:Int))) xs (i+1),k+2 * ((i+1:Nat):Int),((i+1:Nat):Int))
  rw[←hs,e]
  generalize kL (fun(i:Nat)=>kG (k+2 * (i:Int))) xs i=row at hl hx
  have hii:i < row.length:=by rw[hl];exact hi
  simp only[hx,Option.bind_some,Int.toNat_natCast,YC hii,List.set_set,qm i _ hi (by omega),w1,w2,hl,kG]
  rw[if_pos (by omega)]
 ·unfold Jk Jm
  have hl:=Q2 (fun(i:Nat)=>kG (k+2 * (i:Int))) (Nat.le_refl xs.length)
  rw[if_neg (by simp only[hl];omega),if_pos hl,KO]
  rfl
theorem zhJ(n:Nat)(k:Int)(h:n≤1048576)(hk:0≤k)(hk':k≤1000000000000):Zo (JK k n) k=some (k+2 * (n:Int)):=by
 unfold Zo
 refine qS (fun i=>(k+2 * (i:Int),(i:Int))) _ n (by omega) (fun kb i hi=> ?_) (fun kb=> ?_) (by simp)
 ·unfold Jq
  have w1:IntKind.wrap .i64 (k+2 * (i:Int)+1)=k+2 * (i:Int)+1:=w64 (by omega) (by omega)
  have w2:IntKind.wrap .i64 (k+2 * (i:Int)+1+1)=k+2 * (i:Int)+2:=by rw[w64 (by omega) (by omega)];omega
  have e:k+2 * ((i+1:Nat):Int)=k+2 * (i:Int)+2:=by omega
  have hx:idx (JK k n) (i:Int)=some (kG (k+2 * (i:Int))):=X1 _ hi
  simp only[hx,Option.bind_some,qm i _ hi (by omega),w1,w2,kG,ka,not_true,if_false,e]
  rw[if_pos (by omega)]
 ·unfold Jq Jj
  rw[if_neg (by simp only[ka];omega)]
def kD(k:Int):zK:=⟨k,k+1,k+2,k+3⟩
def Ju(k:Int)(n:Nat):List zK:=(List.range n).map fun(i:Nat)=>kD (k+4 * (i:Int))
theorem kf(k:Int)(n:Nat):(Ju k n).length=n:=by simp[Ju]
theorem zhx(xs:List zK)(k:Int)(h:xs.length≤1048576)(hk:0≤k)(hk':k≤1000000000000):Zk xs k=some (k+4 * (xs.length:Int),Ju k xs.length):=by
 unfold Zk
 refine qS (fun i=>(kL (fun(i:Nat)=>kD (k+4 * (i:Int))) xs i,k+4 * (i:Int),(i:Int))) _ xs.length (by omega) (fun kb i hi=> ?_) (fun kb=> ?_) (by simp[X0])
 ·unfold Jg
  have hl:=Q2 (fun(i:Nat)=>kD (k+4 * (i:Int))) (Nat.le_of_lt hi)
  have w1:IntKind.wrap .i64 (k+4 * (i:Int)+1)=k+4 * (i:Int)+1:=w64 (by omega) (by omega)
  have w2:IntKind.wrap .i64 (k+4 * (i:Int)+1+1)=k+4 * (i:Int)+2:=by rw[w64 (by omega) (by omega)];omega
  have w3:IntKind.wrap .i64 (k+4 * (i:Int)+2+1)=k+4 * (i:Int)+3:=by rw[w64 (by omega) (by omega)];omega
  have w4:IntKind.wrap .i64 (k+4 * (i:Int)+3+1)=k+4 * (i:Int)+4:=by rw[w64 (by omega) (by omega)];omega
  have e:k+4 * ((i+1:Nat):Int)=k+4 * (i:Int)+4:=by omega
  have hs:=KM (fun(i:Nat)=>kD (k+4 * (i:Int))) hi
  have hx:=K3 (fun(i:Nat)=>kD (k+4 * (i:Int))) hi
  show _=kb (kL (fun(i:Nat)=>kD (k+4 * (i:Int))) xs (i+1),k+4 * ((i+1:Nat):Int),((i+1:Nat):Int))
  rw[←hs,e]
  generalize kL (fun(i:Nat)=>kD (k+4 * (i:Int))) xs i=row at hl hx
  have hii:i < row.length:=by rw[hl];exact hi
  simp only[hx,Option.bind_some,Int.toNat_natCast,YC hii,List.set_set,qm i _ hi (by omega),w1,w2,w3,w4,hl,kD]
  rw[if_pos (by omega)]
 ·unfold Jg Jd
  have hl:=Q2 (fun(i:Nat)=>kD (k+4 * (i:Int))) (Nat.le_refl xs.length)
  rw[if_neg (by simp only[hl];omega),if_pos hl,KO]
  rfl
theorem zhP(n:Nat)(k:Int)(h:n≤1048576)(hk:0≤k)(hk':k≤1000000000000):Zc (Ju k n) k=some (k+4 * (n:Int)):=by
 unfold Zc
 refine qS (fun i=>(k+4 * (i:Int),(i:Int))) _ n (by omega) (fun kb i hi=> ?_) (fun kb=> ?_) (by simp)
 ·unfold Jf
  have w1:IntKind.wrap .i64 (k+4 * (i:Int)+1)=k+4 * (i:Int)+1:=w64 (by omega) (by omega)
  have w2:IntKind.wrap .i64 (k+4 * (i:Int)+1+1)=k+4 * (i:Int)+2:=by rw[w64 (by omega) (by omega)];omega
  have w3:IntKind.wrap .i64 (k+4 * (i:Int)+2+1)=k+4 * (i:Int)+3:=by rw[w64 (by omega) (by omega)];omega
  have w4:IntKind.wrap .i64 (k+4 * (i:Int)+3+1)=k+4 * (i:Int)+4:=by rw[w64 (by omega) (by omega)];omega
  have e:k+4 * ((i+1:Nat):Int)=k+4 * (i:Int)+4:=by omega
  have hx:idx (Ju k n) (i:Int)=some (kD (k+4 * (i:Int))):=X1 _ hi
  simp only[hx,Option.bind_some,qm i _ hi (by omega),w1,w2,w3,w4,kD,kf,not_true,if_false,e]
  rw[if_pos (by omega)]
 ·unfold Jf Jn
  rw[if_neg (by simp only[kf];omega)]
def Kk(k:Int):Int:=k
def Qa(k:Int)(n:Nat):List Int:=(List.range n).map fun(i:Nat)=>Kk (k+1 * (i:Int))
theorem Y4(k:Int)(n:Nat):(Qa k n).length=n:=by simp[Qa]
theorem ze5(xs:List Int)(k:Int)(h:xs.length≤1048576)(hk:0≤k)(hk':k≤1000000000000):yl xs k=some (k+1 * (xs.length:Int),Qa k xs.length):=by
 unfold yl
 refine qS (fun i=>(kL (fun(i:Nat)=>Kk (k+1 * (i:Int))) xs i,k+1 * (i:Int),(i:Int))) _ xs.length (by omega) (fun kb i hi=> ?_) (fun kb=> ?_) (by simp[X0])
 ·unfold YG
  have hl:=Q2 (fun(i:Nat)=>Kk (k+1 * (i:Int))) (Nat.le_of_lt hi)
  have w1:IntKind.wrap .i64 (k+1 * (i:Int)+1)=k+1 * (i:Int)+1:=w64 (by omega) (by omega)
  have e:k+1 * ((i+1:Nat):Int)=k+1 * (i:Int)+1:=by omega
  have hs:=KM (fun(i:Nat)=>Kk (k+1 * (i:Int))) hi
  have hx:=K3 (fun(i:Nat)=>Kk (k+1 * (i:Int))) hi
  show _=kb (kL (fun(i:Nat)=>Kk (k+1 * (i:Int))) xs (i+1),k+1 * ((i+1:Nat):Int),((i+1:Nat):Int))
  rw[←hs,e]
  generalize kL (fun(i:Nat)=>Kk (k+1 * (i:Int))) xs i=row at hl hx
  have hii:i < row.length:=by rw[hl];exact hi
  simp only[hx,Option.bind_some,Int.toNat_natCast,YC hii,List.set_set,qm i _ hi (by omega),w1,hl,Kk]
  rw[if_pos (by omega)]
 ·unfold YG YV
  have hl:=Q2 (fun(i:Nat)=>Kk (k+1 * (i:Int))) (Nat.le_refl xs.length)
  rw[if_neg (by simp only[hl];omega),if_pos hl,KO]
  rfl
theorem zfa(n:Nat)(k:Int)(h:n≤1048576)(hk:0≤k)(hk':k≤1000000000000):yi (Qa k n) k=some (k+1 * (n:Int)):=by
 unfold yi
 refine qS (fun i=>(k+1 * (i:Int),(i:Int))) _ n (by omega) (fun kb i hi=> ?_) (fun kb=> ?_) (by simp)
 ·unfold Yv
  have w1:IntKind.wrap .i64 (k+1 * (i:Int)+1)=k+1 * (i:Int)+1:=w64 (by omega) (by omega)
  have e:k+1 * ((i+1:Nat):Int)=k+1 * (i:Int)+1:=by omega
  have hx:idx (Qa k n) (i:Int)=some (Kk (k+1 * (i:Int))):=X1 _ hi
  simp only[hx,Option.bind_some,qm i _ hi (by omega),w1,Kk,Y4,not_true,if_false,e]
  rw[if_pos (by omega)]
 ·unfold Yv Yq
  rw[if_neg (by simp only[Y4];omega)]
theorem zey(x:zn)(h:zr x≤1048576):∃r:Int×zn,y9 x 1=some r∧0≤r.1∧r.2.Own.length=x.Own.length∧r.2.Frozen.length=x.Frozen.length∧r.2.Cells.length=x.Cells.length∧r.2.Locks.length=x.Locks.length∧r.2.Helds.length=x.Helds.length∧r.2.Wounded.length=x.Wounded.length∧r.2.Ended.length=x.Ended.length∧
  ∀e f,Zg (zn.mk e r.2.Own r.2.Frozen r.2.Cells r.2.Locks r.2.Helds r.2.Wounded r.2.Ended f) 1=some r.1:=by
 have hh:=h
 unfold zr at hh
 have hH:z8 x.Helds≤1048576:=by omega
 have hb:=zbl hH x.Helds.length
 rw[List.take_length] at hb
 obtain⟨k1,e1⟩:∃k,k=1+2 * (x.Own.length:Int):=⟨_,rfl⟩
 obtain⟨k2,e2⟩:∃k,k=k1+2 * (x.Frozen.length:Int):=⟨_,rfl⟩
 obtain⟨k3,e3⟩:∃k,k=k2+2 * (x.Cells.length:Int):=⟨_,rfl⟩
 obtain⟨k4,e4⟩:∃k,k=k3+4 * (x.Locks.length:Int):=⟨_,rfl⟩
 obtain⟨k5,e5⟩:∃k,k=k4+((j3 Qs x.Helds:Nat):Int):=⟨_,rfl⟩
 obtain⟨k6,e6⟩:∃k,k=k5+1 * (x.Wounded.length:Int):=⟨_,rfl⟩
 obtain⟨k7,e7⟩:∃k,k=k6+1 * (x.Ended.length:Int):=⟨_,rfl⟩
 have a1:jR x.Own 1=some (k1,yA 1 x.Own.length):=by rw[e1];exact zcE x.Own 1 (by omega) (by omega) (by omega)
 have a2:jR x.Frozen k1=some (k2,yA k1 x.Frozen.length):=by rw[e2];exact zcE x.Frozen k1 (by omega) (by omega) (by omega)
 have a3:y6 x.Cells k2=some (k3,JK k2 x.Cells.length):=by rw[e3];exact zhH x.Cells k2 (by omega) (by omega) (by omega)
 have a4:Zk x.Locks k3=some (k4,Ju k3 x.Locks.length):=by rw[e4];exact zhx x.Locks k3 (by omega) (by omega) (by omega)
 have a5:Zb x.Helds k4=some (k5,JH x.Helds k4):=by rw[e5];exact zg3 x.Helds k4 hH (by omega) (by omega)
 have a6:yl x.Wounded k5=some (k6,Qa k5 x.Wounded.length):=by rw[e6];exact ze5 x.Wounded k5 (by omega) (by omega) (by omega)
 have a7:yl x.Ended k6=some (k7,Qa k6 x.Ended.length):=by rw[e7];exact ze5 x.Ended k6 (by omega) (by omega) (by omega)
 have b1:jQ (yA 1 x.Own.length) 1=some k1:=by rw[e1];exact zcl x.Own.length 1 (by omega) (by omega) (by omega)
 have b2:jQ (yA k1 x.Frozen.length) k1=some k2:=by rw[e2];exact zcl x.Frozen.length k1 (by omega) (by omega) (by omega)
 have b3:Zo (JK k2 x.Cells.length) k2=some k3:=by rw[e3];exact zhJ x.Cells.length k2 (by omega) (by omega) (by omega)
 have b4:Zc (Ju k3 x.Locks.length) k3=some k4:=by rw[e4];exact zhP x.Locks.length k3 (by omega) (by omega) (by omega)
 have b5:y8 (JH x.Helds k4) k4=some k5:=by rw[e5];exact zhN x.Helds k4 hH (by omega) (by omega)
 have b6:yi (Qa k5 x.Wounded.length) k5=some k6:=by rw[e6];exact zfa x.Wounded.length k5 (by omega) (by omega) (by omega)
 have b7:yi (Qa k6 x.Ended.length) k6=some k7:=by rw[e7];exact zfa x.Ended.length k6 (by omega) (by omega) (by omega)
 have n1:¬k1 < 0:=by omega
 have n2:¬k2 < 0:=by omega
 have n3:¬k3 < 0:=by omega
 have n4:¬k4 < 0:=by omega
 have n5:¬k5 < 0:=by omega
 have n6:¬k6 < 0:=by omega
 have n7:¬k7 < 0:=by omega
 refine⟨(k7,zn.mk x.Me (yA 1 x.Own.length) (yA k1 x.Frozen.length) (JK k2 x.Cells.length) (Ju k3 x.Locks.length) (JH x.Helds k4) (Qa k5 x.Wounded.length) (Qa k6 x.Ended.length) x.Rank),?_,by simp only;omega,by simp only[Q0],by simp only[Q0],by simp only[ka],by simp only[kf],by simp only[kA],by simp only[Y4],by simp only[Y4],fun e f=> ?_⟩
 ·unfold y9
  simp only[a1,a2,a3,a4,a5,a6,a7,Q0,ka,kf,kA,Y4,Option.bind_some,if_true]
 ·unfold Zg
  simp only[b1,b2,b3,b4,b5,b6,b7,n1,n2,n3,n4,n5,n6,n7,Option.bind_some,if_false]
def zbW(s:zn)(rank:Int)(a:ze):zn×Int:=
 if ¬KW s rank a=0 then(Kf s (KW s rank a),KW s rank a)
 else if decide (rank=s.Rank)&&!zbS s.Frozen a then(s,0)
 else if yZ s.Frozen a then(if (kK s.Frozen a false).2 then(⟨s.Me,s.Own,(kK s.Frozen a false).1,s.Cells,s.Locks,s.Helds,s.Wounded,s.Ended,rank⟩,0) else(s,6)) else(s,4)
theorem zdt(s:zn)(rank:Int)(a:ze)(h:zr s≤1048576):Qb s rank a=some (zbW s rank a):=by
 have hf:s.Frozen.length≤1048576:=by unfold zr at h;omega
 unfold Qb zbW Zq
 simp only[zjt _ _ _ h,zgI _ _ h,zfV _ h,zcJ _ _ hf,Option.bind_some]
 by_cases h0:KW s rank a=0
 ·obtain⟨g1,g2⟩:=zgX h0
  obtain⟨_,k2,_,_⟩:=zaa g1
  simp only[h0,not_true_eq_false,if_false,ziu _ _ hf k2 g2,zd7 hf k2 g2,Option.bind_some]
  by_cases hr:rank=s.Rank
  ·simp only[hr,if_true,decide_true,Bool.true_and]
   cases zbS s.Frozen a<;>simp
   cases yZ s.Frozen a<;>simp
   cases(kK s.Frozen a false).2<;>simp
  ·simp only[hr,if_false,decide_false,Bool.false_and,Bool.false_eq_true]
   cases yZ s.Frozen a<;>simp
   cases(kK s.Frozen a false).2<;>simp
 ·simp only[h0,not_false_eq_true,if_true]
theorem zdc(s:zn)(rank:Int)(a:ze)(h:zr s≤1048576):Ze s rank a=some (zbW s rank a):=by
 have hf:s.Frozen.length≤1048576:=by unfold zr at h;omega
 unfold Ze zbW ZM
 simp only[zjp _ _ _ h,zjJ _ _ h,zdF _ h,zcm _ _ hf,zjM _ _ hf,zbs _ _ hf,Option.bind_some]
 by_cases h0:KW s rank a=0
 ·simp only[h0,not_true_eq_false,if_false]
  by_cases hr:rank=s.Rank
  ·simp only[hr,if_true,decide_true,Bool.true_and]
   cases zbS s.Frozen a<;>simp
   cases yZ s.Frozen a<;>simp
   cases(kK s.Frozen a false).2<;>simp
  ·simp only[hr,if_false,decide_false,Bool.false_and,Bool.false_eq_true]
   cases yZ s.Frozen a<;>simp
   cases(kK s.Frozen a false).2<;>simp
 ·simp only[h0,not_false_eq_true,if_true]
theorem zg8(s:zn)(rank:Int)(a:ze)(h:zr s≤1048576):zr (zbW s rank a).1≤1048576:=by
 unfold zbW
 split
 ·have:=zgv s (KW s rank a);simp only;omega
 ·rename_i h0
  have h0:KW s rank a=0:=Classical.byContradiction h0
  split
  ·exact h
  ·split
   ·split
    ·obtain⟨g1,g2⟩:=zgX h0
     obtain⟨k1,k2,k3,k4⟩:=zaa g1
     have t:=zih s.Frozen a false
     have:=zhI g1
     unfold zr at h this ⊢
     simp only
     omega
    ·exact h
   ·exact h
theorem zbX(a1:zn)(a2:Int)(a3:ze)(h1:KS a1)(h2:inK .i64 a2)(h3:YH a3):yJ a1 a2 a3=some true:=by
 unfold yJ
 rw[zjK a1 h1 _ (by omega) (by omega)]
 simp only[Option.bind_some]
 split
 ·rfl
 ·rename_i hz
  have hl:zr a1≤1048576:=by omega
  have e1:=zdt a1 a2 a3 hl
  have e2:=zdc a1 a2 a3 hl
  have hr:=zg8 a1 a2 a3 hl
  generalize zbW a1 a2 a3=r at e1 e2 hr
  obtain⟨m,g1,g2,g3,g4,g5,g6,g7,g8,g9,g10⟩:=zey r.1 hr
  obtain⟨n,f1,f2,f3,f4,f5,f6,f7,f8,f9,f10⟩:=zey a1 hl
  have q1:¬m.1 < 0:=by omega
  have q2:¬n.1 < 0:=by omega
  simp[zjb _ hl,yC,e1,e2,zfS _ _ hr,zfS _ _ hl,f1,f3,f4,f5,f6,f7,f8,f9,g1,g3,g4,g5,g6,g7,g8,g9,g10,q1,q2,jJ,jj,jI]
end Go.AW
